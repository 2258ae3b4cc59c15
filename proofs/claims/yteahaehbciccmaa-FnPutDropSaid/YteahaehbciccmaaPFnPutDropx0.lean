-- by a program of this session's, over the kit's words
import Derived.Test.YteahaehbciccmaaProg
import Derived.Below
import Derived.Deep.Draws
import Derived.Deep.AppendLies
import Derived.Maps.AppendAt
import Derived.OwnWalk
import Derived.Laws.BytesArg
import Derived.Laws.MakeOwn
import Derived.Laws.OwnMore
import Derived.Deep.OwnRows
import Derived.Tactics
import Derived.Lib.ConvBytes
import Derived.Laws.Slices
import Derived.WalkKit
import Derived.KernelRfl
import Derived.RowKit3
import Derived.Deep.LoopGhost
import Derived.Deep.QuietTactic
import Derived.BigQuiet
import Derived.WideLaws
import Derived.Deep.DeepCutAuto
import Derived.Deep.CutBlock
import Derived.Deep.RegionHeld3
import Derived.Laws.Rows
import Derived.Lib.AppendStr
import Derived.ArgAppend
import Derived.Laws.IdiomCopy
import Derived.OrdersHeld
import Derived.Laws.BitsLemmas
import Derived.RowKit
import Derived.Test.YteahaehbciccmaaVWords
import Derived.Test.YteahaehbciccmaaVOpen
import Derived.Test.YteahaehbciccmaaVMap
import Derived.Test.YteahaehbciccmaaWWords
import Derived.Test.YteahaehbciccmaaWLast
import Derived.Test.YteahaehbciccmaaWTab
import Derived.Test.YteahaehbciccmaaWFour
import Derived.Test.YteahaehbciccmaaWQPut
import Derived.Test.YteahaehbciccmaaWApart
import Derived.Test.YteahaehbciccmaaWArr
import Derived.Test.YteahaehbciccmaaWZeros
import Derived.Test.YteahaehbciccmaaWFoot
import Derived.Test.YteahaehbciccmaaWKept
import Derived.Test.YteahaehbciccmaaWShare
import Derived.Test.YteahaehbciccmaaWN
import Derived.Test.YteahaehbciccmaaWFootNe
import Derived.Test.YteahaehbciccmaaWAt
import Derived.Test.YteahaehbciccmaaWEqStruct
import Derived.Test.YteahaehbciccmaaWRepsOne
import Derived.Test.YteahaehbciccmaaWInv
import Derived.Test.YteahaehbciccmaaWInvWords
import Derived.Test.YteahaehbciccmaaWGuard
import Derived.Test.YteahaehbciccmaaWNEv
import Derived.Test.YteahaehbciccmaaWMore
namespace Go.Proofs.Yteahaehbciccmaa.PFnPutDrop
open Go.RowKit Go.Proofs.YteahaehbciccmaaW.PrintWords Go.Proofs.YteahaehbciccmaaW.PrintLast Go.Proofs.YteahaehbciccmaaW.PrintMore Go.Proofs.YteahaehbciccmaaV
open Go.Value renaming int → I, slice → Y
open Go.IntKind renaming i64 → L
open Aside0 renaming mk → D
open Option renaming bind_eq_some_iff → bs_
attribute [local go_sem] qad_ qab_ qak_ qaj_ q4_ q3_ qac_ qaa_
set_option linter.unusedVariables false
set_option linter.unusedSimpArgs false
def errW:Option Int→Value
 | none=>.nilIface
 | some c=>.iface 0 (I L c)
theorem qag_:errW none=.nilIface:=rfl
theorem qaf_ (c:Int):errW (some c)=.iface 0 (I L c):=rfl
theorem info3:(Try.prog.info? 3).map (fun i=>(i.zero,i.size,i.bytes))=some (some (I L 0),1,8):=by kernel_rfl
theorem info5:(Try.prog.info? 5).map (fun i=>(i.zero,i.size,i.bytes))=some (some (.int .u8 0),1,1):=by kernel_rfl
theorem info22:(Try.prog.info? 22).map (fun i=>(i.zero,i.size,i.bytes))=some (some (Y none 0 0),1,24):=by kernel_rfl
theorem info52:(Try.prog.info? 52).map (fun i=>(i.zero,i.size,i.bytes))=some (some (.agg #[(.bool false),(I L 0),(I L 0),(I L 0),(I L 0),(I L 0),(I L 0),(I L 0),(I L 0),(I L 0),(I L 0),(I L 0),(I L 0),(I L 0),(I L 0),(I L 0)]),16,128):=by kernel_rfl
structure S28 where
 f0:Int
 f1:Int
 f2:Int
 f3:Int
 f4:Int
def z28:S28:=⟨(0:Int),(0:Int),(0:Int),(0:Int),(0:Int)⟩
def k28:Kd S28:=Kd.iso (Kd.pair (Kd.int .i64) (Kd.pair (Kd.int .i64) (Kd.pair (Kd.int .i64) (Kd.pair (Kd.int .i64) (Kd.int .i64))))) (fun x:S28=>(x.f0,x.f1,x.f2,x.f3,x.f4))
theorem k28_open {w:World} {x:S28} {cs:List Value} (h:k28.K w x cs):cs=[I L x.f0,I L x.f1,I L x.f2,I L x.f3,I L x.f4]:=by
 obtain ⟨_,_,rfl,rfl,⟨_,_,rfl,rfl,⟨_,_,rfl,rfl,⟨_,_,rfl,rfl,rfl⟩⟩⟩⟩:=h
 exact rfl
theorem k28_openM {w:World} {base:Nat} {ok:Nat→Prop} {x:S28} {cs:List Value} (h:k28.M w base ok x cs):cs=[I L x.f0,I L x.f1,I L x.f2,I L x.f3,I L x.f4]:=by
 obtain ⟨_,_,rfl,rfl,⟨_,_,rfl,rfl,⟨_,_,rfl,rfl,⟨_,_,rfl,rfl,rfl⟩⟩⟩⟩:=h
 exact rfl
theorem k28_mk (w:World) (x:S28) :k28.K w x [I L x.f0,I L x.f1,I L x.f2,I L x.f3,I L x.f4]:=⟨[I L x.f0],[I L x.f1,I L x.f2,I L x.f3,I L x.f4],rfl,rfl,⟨[I L x.f1],[I L x.f2,I L x.f3,I L x.f4],rfl,rfl,⟨[I L x.f2],[I L x.f3,I L x.f4],rfl,rfl,⟨[I L x.f3],[I L x.f4],rfl,rfl,rfl⟩⟩⟩⟩
theorem k28_mkM (w:World) (base:Nat) (ok:Nat→Prop) (x:S28) :k28.M w base ok x [I L x.f0,I L x.f1,I L x.f2,I L x.f3,I L x.f4]:=⟨[I L x.f0],[I L x.f1,I L x.f2,I L x.f3,I L x.f4],rfl,rfl,⟨[I L x.f1],[I L x.f2,I L x.f3,I L x.f4],rfl,rfl,⟨[I L x.f2],[I L x.f3,I L x.f4],rfl,rfl,⟨[I L x.f3],[I L x.f4],rfl,rfl,rfl⟩⟩⟩⟩
theorem k28_mkF (W:World) (ok:Nat→Prop) (x:S28):Kd.FK k28 W ok x [I L x.f0,I L x.f1,I L x.f2,I L x.f3,I L x.f4]:=fun W2 _=>k28_mk W2 x
def rd_T28 (xs:List S28) (i:Int):S28:=xs.getD i.toNat z28
theorem at_T28 {w:World} {A:Option Addr} {n:Nat} {xs:List S28} (h:Kd.C k28 w A n xs) (i:Int) (h0:0≤i) (h1:i < n):∃ ad ,A=some ad∧w.cell? (ad.add (i.toNat * 5))=some (I L (rd_T28 xs i).f0)∧w.cell? ⟨(ad.add (i.toNat * 5)).block,(ad.add (i.toNat * 5)).off+1,none⟩=some (I L (rd_T28 xs i).f1)∧w.cell? ⟨(ad.add (i.toNat * 5)).block,(ad.add (i.toNat * 5)).off+2,none⟩=some (I L (rd_T28 xs i).f2)∧w.cell? ⟨(ad.add (i.toNat * 5)).block,(ad.add (i.toNat * 5)).off+3,none⟩=some (I L (rd_T28 xs i).f3)∧w.cell? ⟨(ad.add (i.toNat * 5)).block,(ad.add (i.toNat * 5)).off+4,none⟩=some (I L (rd_T28 xs i).f4):=by
 obtain ⟨ad,c,e,_,hK,a⟩:=Kd.C_get h z28 i h0 h1
 have hc:∀ j u,c[j]?=some u→w.cell? (ad.add (i.toNat * 5+j))=some u:=a
 obtain rfl:=k28_open hK
 exact ⟨ad,e,hc 0 _ rfl,by rw [← qs_ _ _ 1 (by omega)];exact hc 1 _ rfl,by rw [← qs_ _ _ 2 (by omega)];exact hc 2 _ rfl,by rw [← qs_ _ _ 3 (by omega)];exact hc 3 _ rfl,by rw [← qs_ _ _ 4 (by omega)];exact hc 4 _ rfl⟩
structure S30 where
 f0:S28
 f1:S28
 f2:Int
 f3:Int
 f4:Int
def z30:S30:=⟨z28,z28,(0:Int),(0:Int),(0:Int)⟩
def k30:Kd S30:=Kd.iso (Kd.pair k28 (Kd.pair k28 (Kd.pair (Kd.int .i64) (Kd.pair (Kd.int .i64) (Kd.int .i64))))) (fun x:S30=>(x.f0,x.f1,x.f2,x.f3,x.f4))
theorem k30_open {w:World} {x:S30} {cs:List Value} (h:k30.K w x cs):cs=[I L x.f0.f0,I L x.f0.f1,I L x.f0.f2,I L x.f0.f3,I L x.f0.f4,I L x.f1.f0,I L x.f1.f1,I L x.f1.f2,I L x.f1.f3,I L x.f1.f4,I L x.f2,I L x.f3,I L x.f4]:=by
 obtain ⟨_,_,rfl,s0,⟨_,_,rfl,s5,⟨_,_,rfl,rfl,⟨_,_,rfl,rfl,rfl⟩⟩⟩⟩:=h
 obtain rfl:=k28_open s0
 obtain rfl:=k28_open s5
 exact rfl
theorem k30_openM {w:World} {base:Nat} {ok:Nat→Prop} {x:S30} {cs:List Value} (h:k30.M w base ok x cs):cs=[I L x.f0.f0,I L x.f0.f1,I L x.f0.f2,I L x.f0.f3,I L x.f0.f4,I L x.f1.f0,I L x.f1.f1,I L x.f1.f2,I L x.f1.f3,I L x.f1.f4,I L x.f2,I L x.f3,I L x.f4]:=by
 obtain ⟨_,_,rfl,s0,⟨_,_,rfl,s5,⟨_,_,rfl,rfl,⟨_,_,rfl,rfl,rfl⟩⟩⟩⟩:=h
 obtain rfl:=k28_openM s0
 obtain rfl:=k28_openM s5
 exact rfl
theorem k30_mk (w:World) (x:S30) :k30.K w x [I L x.f0.f0,I L x.f0.f1,I L x.f0.f2,I L x.f0.f3,I L x.f0.f4,I L x.f1.f0,I L x.f1.f1,I L x.f1.f2,I L x.f1.f3,I L x.f1.f4,I L x.f2,I L x.f3,I L x.f4]:=⟨[I L x.f0.f0,I L x.f0.f1,I L x.f0.f2,I L x.f0.f3,I L x.f0.f4],[I L x.f1.f0,I L x.f1.f1,I L x.f1.f2,I L x.f1.f3,I L x.f1.f4,I L x.f2,I L x.f3,I L x.f4],rfl,(k28_mk w x.f0 ),⟨[I L x.f1.f0,I L x.f1.f1,I L x.f1.f2,I L x.f1.f3,I L x.f1.f4],[I L x.f2,I L x.f3,I L x.f4],rfl,(k28_mk w x.f1 ),⟨[I L x.f2],[I L x.f3,I L x.f4],rfl,rfl,⟨[I L x.f3],[I L x.f4],rfl,rfl,rfl⟩⟩⟩⟩
theorem k30_mkM (w:World) (base:Nat) (ok:Nat→Prop) (x:S30) :k30.M w base ok x [I L x.f0.f0,I L x.f0.f1,I L x.f0.f2,I L x.f0.f3,I L x.f0.f4,I L x.f1.f0,I L x.f1.f1,I L x.f1.f2,I L x.f1.f3,I L x.f1.f4,I L x.f2,I L x.f3,I L x.f4]:=⟨[I L x.f0.f0,I L x.f0.f1,I L x.f0.f2,I L x.f0.f3,I L x.f0.f4],[I L x.f1.f0,I L x.f1.f1,I L x.f1.f2,I L x.f1.f3,I L x.f1.f4,I L x.f2,I L x.f3,I L x.f4],rfl,(k28_mkM w base ok x.f0 ),⟨[I L x.f1.f0,I L x.f1.f1,I L x.f1.f2,I L x.f1.f3,I L x.f1.f4],[I L x.f2,I L x.f3,I L x.f4],rfl,(k28_mkM w base ok x.f1 ),⟨[I L x.f2],[I L x.f3,I L x.f4],rfl,rfl,⟨[I L x.f3],[I L x.f4],rfl,rfl,rfl⟩⟩⟩⟩
theorem k30_mkF (W:World) (ok:Nat→Prop) (x:S30):Kd.FK k30 W ok x [I L x.f0.f0,I L x.f0.f1,I L x.f0.f2,I L x.f0.f3,I L x.f0.f4,I L x.f1.f0,I L x.f1.f1,I L x.f1.f2,I L x.f1.f3,I L x.f1.f4,I L x.f2,I L x.f3,I L x.f4]:=fun W2 _=>k30_mk W2 x
def rd_T30 (xs:List S30) (i:Int):S30:=xs.getD i.toNat z30
theorem at_T30 {w:World} {A:Option Addr} {n:Nat} {xs:List S30} (h:Kd.C k30 w A n xs) (i:Int) (h0:0≤i) (h1:i < n):∃ ad ,A=some ad∧w.cell? (ad.add (i.toNat * 13))=some (I L (rd_T30 xs i).f0.f0)∧w.cell? ⟨(ad.add (i.toNat * 13)).block,(ad.add (i.toNat * 13)).off+1,none⟩=some (I L (rd_T30 xs i).f0.f1)∧w.cell? ⟨(ad.add (i.toNat * 13)).block,(ad.add (i.toNat * 13)).off+2,none⟩=some (I L (rd_T30 xs i).f0.f2)∧w.cell? ⟨(ad.add (i.toNat * 13)).block,(ad.add (i.toNat * 13)).off+3,none⟩=some (I L (rd_T30 xs i).f0.f3)∧w.cell? ⟨(ad.add (i.toNat * 13)).block,(ad.add (i.toNat * 13)).off+4,none⟩=some (I L (rd_T30 xs i).f0.f4)∧w.cell? ⟨(ad.add (i.toNat * 13)).block,(ad.add (i.toNat * 13)).off+5,none⟩=some (I L (rd_T30 xs i).f1.f0)∧w.cell? ⟨(ad.add (i.toNat * 13)).block,(ad.add (i.toNat * 13)).off+6,none⟩=some (I L (rd_T30 xs i).f1.f1)∧w.cell? ⟨(ad.add (i.toNat * 13)).block,(ad.add (i.toNat * 13)).off+7,none⟩=some (I L (rd_T30 xs i).f1.f2)∧w.cell? ⟨(ad.add (i.toNat * 13)).block,(ad.add (i.toNat * 13)).off+8,none⟩=some (I L (rd_T30 xs i).f1.f3)∧w.cell? ⟨(ad.add (i.toNat * 13)).block,(ad.add (i.toNat * 13)).off+9,none⟩=some (I L (rd_T30 xs i).f1.f4)∧w.cell? ⟨(ad.add (i.toNat * 13)).block,(ad.add (i.toNat * 13)).off+10,none⟩=some (I L (rd_T30 xs i).f2)∧w.cell? ⟨(ad.add (i.toNat * 13)).block,(ad.add (i.toNat * 13)).off+11,none⟩=some (I L (rd_T30 xs i).f3)∧w.cell? ⟨(ad.add (i.toNat * 13)).block,(ad.add (i.toNat * 13)).off+12,none⟩=some (I L (rd_T30 xs i).f4):=by
 obtain ⟨ad,c,e,_,hK,a⟩:=Kd.C_get h z30 i h0 h1
 have hc:∀ j u,c[j]?=some u→w.cell? (ad.add (i.toNat * 13+j))=some u:=a
 obtain rfl:=k30_open hK
 exact ⟨ad,e,hc 0 _ rfl,by rw [← qs_ _ _ 1 (by omega)];exact hc 1 _ rfl,by rw [← qs_ _ _ 2 (by omega)];exact hc 2 _ rfl,by rw [← qs_ _ _ 3 (by omega)];exact hc 3 _ rfl,by rw [← qs_ _ _ 4 (by omega)];exact hc 4 _ rfl,by rw [← qs_ _ _ 5 (by omega)];exact hc 5 _ rfl,by rw [← qs_ _ _ 6 (by omega)];exact hc 6 _ rfl,by rw [← qs_ _ _ 7 (by omega)];exact hc 7 _ rfl,by rw [← qs_ _ _ 8 (by omega)];exact hc 8 _ rfl,by rw [← qs_ _ _ 9 (by omega)];exact hc 9 _ rfl,by rw [← qs_ _ _ 10 (by omega)];exact hc 10 _ rfl,by rw [← qs_ _ _ 11 (by omega)];exact hc 11 _ rfl,by rw [← qs_ _ _ 12 (by omega)];exact hc 12 _ rfl⟩
structure S32 where
 f0:Int
 f1:S30
def z32:S32:=⟨(0:Int),z30⟩
def k32:Kd S32:=Kd.iso (Kd.pair (Kd.int .i64) k30) (fun x:S32=>(x.f0,x.f1))
theorem k32_open {w:World} {x:S32} {cs:List Value} (h:k32.K w x cs):cs=[I L x.f0,I L x.f1.f0.f0,I L x.f1.f0.f1,I L x.f1.f0.f2,I L x.f1.f0.f3,I L x.f1.f0.f4,I L x.f1.f1.f0,I L x.f1.f1.f1,I L x.f1.f1.f2,I L x.f1.f1.f3,I L x.f1.f1.f4,I L x.f1.f2,I L x.f1.f3,I L x.f1.f4]:=by
 obtain ⟨_,_,rfl,rfl,s1⟩:=h
 obtain rfl:=k30_open s1
 exact rfl
theorem k32_openM {w:World} {base:Nat} {ok:Nat→Prop} {x:S32} {cs:List Value} (h:k32.M w base ok x cs):cs=[I L x.f0,I L x.f1.f0.f0,I L x.f1.f0.f1,I L x.f1.f0.f2,I L x.f1.f0.f3,I L x.f1.f0.f4,I L x.f1.f1.f0,I L x.f1.f1.f1,I L x.f1.f1.f2,I L x.f1.f1.f3,I L x.f1.f1.f4,I L x.f1.f2,I L x.f1.f3,I L x.f1.f4]:=by
 obtain ⟨_,_,rfl,rfl,s1⟩:=h
 obtain rfl:=k30_openM s1
 exact rfl
theorem k32_mk (w:World) (x:S32) :k32.K w x [I L x.f0,I L x.f1.f0.f0,I L x.f1.f0.f1,I L x.f1.f0.f2,I L x.f1.f0.f3,I L x.f1.f0.f4,I L x.f1.f1.f0,I L x.f1.f1.f1,I L x.f1.f1.f2,I L x.f1.f1.f3,I L x.f1.f1.f4,I L x.f1.f2,I L x.f1.f3,I L x.f1.f4]:=⟨[I L x.f0],[I L x.f1.f0.f0,I L x.f1.f0.f1,I L x.f1.f0.f2,I L x.f1.f0.f3,I L x.f1.f0.f4,I L x.f1.f1.f0,I L x.f1.f1.f1,I L x.f1.f1.f2,I L x.f1.f1.f3,I L x.f1.f1.f4,I L x.f1.f2,I L x.f1.f3,I L x.f1.f4],rfl,rfl,(k30_mk w x.f1 )⟩
theorem k32_mkM (w:World) (base:Nat) (ok:Nat→Prop) (x:S32) :k32.M w base ok x [I L x.f0,I L x.f1.f0.f0,I L x.f1.f0.f1,I L x.f1.f0.f2,I L x.f1.f0.f3,I L x.f1.f0.f4,I L x.f1.f1.f0,I L x.f1.f1.f1,I L x.f1.f1.f2,I L x.f1.f1.f3,I L x.f1.f1.f4,I L x.f1.f2,I L x.f1.f3,I L x.f1.f4]:=⟨[I L x.f0],[I L x.f1.f0.f0,I L x.f1.f0.f1,I L x.f1.f0.f2,I L x.f1.f0.f3,I L x.f1.f0.f4,I L x.f1.f1.f0,I L x.f1.f1.f1,I L x.f1.f1.f2,I L x.f1.f1.f3,I L x.f1.f1.f4,I L x.f1.f2,I L x.f1.f3,I L x.f1.f4],rfl,rfl,(k30_mkM w base ok x.f1 )⟩
theorem k32_mkF (W:World) (ok:Nat→Prop) (x:S32):Kd.FK k32 W ok x [I L x.f0,I L x.f1.f0.f0,I L x.f1.f0.f1,I L x.f1.f0.f2,I L x.f1.f0.f3,I L x.f1.f0.f4,I L x.f1.f1.f0,I L x.f1.f1.f1,I L x.f1.f1.f2,I L x.f1.f1.f3,I L x.f1.f1.f4,I L x.f1.f2,I L x.f1.f3,I L x.f1.f4]:=fun W2 _=>k32_mk W2 x
def rd_T32 (xs:List S32) (i:Int):S32:=xs.getD i.toNat z32
theorem at_T32 {w:World} {A:Option Addr} {n:Nat} {xs:List S32} (h:Kd.C k32 w A n xs) (i:Int) (h0:0≤i) (h1:i < n):∃ ad ,A=some ad∧w.cell? (ad.add (i.toNat * 14))=some (I L (rd_T32 xs i).f0)∧w.cell? ⟨(ad.add (i.toNat * 14)).block,(ad.add (i.toNat * 14)).off+1,none⟩=some (I L (rd_T32 xs i).f1.f0.f0)∧w.cell? ⟨(ad.add (i.toNat * 14)).block,(ad.add (i.toNat * 14)).off+2,none⟩=some (I L (rd_T32 xs i).f1.f0.f1)∧w.cell? ⟨(ad.add (i.toNat * 14)).block,(ad.add (i.toNat * 14)).off+3,none⟩=some (I L (rd_T32 xs i).f1.f0.f2)∧w.cell? ⟨(ad.add (i.toNat * 14)).block,(ad.add (i.toNat * 14)).off+4,none⟩=some (I L (rd_T32 xs i).f1.f0.f3)∧w.cell? ⟨(ad.add (i.toNat * 14)).block,(ad.add (i.toNat * 14)).off+5,none⟩=some (I L (rd_T32 xs i).f1.f0.f4)∧w.cell? ⟨(ad.add (i.toNat * 14)).block,(ad.add (i.toNat * 14)).off+6,none⟩=some (I L (rd_T32 xs i).f1.f1.f0)∧w.cell? ⟨(ad.add (i.toNat * 14)).block,(ad.add (i.toNat * 14)).off+7,none⟩=some (I L (rd_T32 xs i).f1.f1.f1)∧w.cell? ⟨(ad.add (i.toNat * 14)).block,(ad.add (i.toNat * 14)).off+8,none⟩=some (I L (rd_T32 xs i).f1.f1.f2)∧w.cell? ⟨(ad.add (i.toNat * 14)).block,(ad.add (i.toNat * 14)).off+9,none⟩=some (I L (rd_T32 xs i).f1.f1.f3)∧w.cell? ⟨(ad.add (i.toNat * 14)).block,(ad.add (i.toNat * 14)).off+10,none⟩=some (I L (rd_T32 xs i).f1.f1.f4)∧w.cell? ⟨(ad.add (i.toNat * 14)).block,(ad.add (i.toNat * 14)).off+11,none⟩=some (I L (rd_T32 xs i).f1.f2)∧w.cell? ⟨(ad.add (i.toNat * 14)).block,(ad.add (i.toNat * 14)).off+12,none⟩=some (I L (rd_T32 xs i).f1.f3)∧w.cell? ⟨(ad.add (i.toNat * 14)).block,(ad.add (i.toNat * 14)).off+13,none⟩=some (I L (rd_T32 xs i).f1.f4):=by
 obtain ⟨ad,c,e,_,hK,a⟩:=Kd.C_get h z32 i h0 h1
 have hc:∀ j u,c[j]?=some u→w.cell? (ad.add (i.toNat * 14+j))=some u:=a
 obtain rfl:=k32_open hK
 exact ⟨ad,e,hc 0 _ rfl,by rw [← qs_ _ _ 1 (by omega)];exact hc 1 _ rfl,by rw [← qs_ _ _ 2 (by omega)];exact hc 2 _ rfl,by rw [← qs_ _ _ 3 (by omega)];exact hc 3 _ rfl,by rw [← qs_ _ _ 4 (by omega)];exact hc 4 _ rfl,by rw [← qs_ _ _ 5 (by omega)];exact hc 5 _ rfl,by rw [← qs_ _ _ 6 (by omega)];exact hc 6 _ rfl,by rw [← qs_ _ _ 7 (by omega)];exact hc 7 _ rfl,by rw [← qs_ _ _ 8 (by omega)];exact hc 8 _ rfl,by rw [← qs_ _ _ 9 (by omega)];exact hc 9 _ rfl,by rw [← qs_ _ _ 10 (by omega)];exact hc 10 _ rfl,by rw [← qs_ _ _ 11 (by omega)];exact hc 11 _ rfl,by rw [← qs_ _ _ 12 (by omega)];exact hc 12 _ rfl,by rw [← qs_ _ _ 13 (by omega)];exact hc 13 _ rfl⟩
structure S52 where
 f0:Bool
 f1:S32
 f2:Int
def z52:S52:=⟨false,z32,(0:Int)⟩
def k52:Kd S52:=Kd.iso (Kd.pair Kd.bool (Kd.pair k32 (Kd.int .i64))) (fun x:S52=>(x.f0,x.f1,x.f2))
theorem k52_open {w:World} {x:S52} {cs:List Value} (h:k52.K w x cs):cs=[.bool x.f0,I L x.f1.f0,I L x.f1.f1.f0.f0,I L x.f1.f1.f0.f1,I L x.f1.f1.f0.f2,I L x.f1.f1.f0.f3,I L x.f1.f1.f0.f4,I L x.f1.f1.f1.f0,I L x.f1.f1.f1.f1,I L x.f1.f1.f1.f2,I L x.f1.f1.f1.f3,I L x.f1.f1.f1.f4,I L x.f1.f1.f2,I L x.f1.f1.f3,I L x.f1.f1.f4,I L x.f2]:=by
 obtain ⟨_,_,rfl,rfl,⟨_,_,rfl,s1,rfl⟩⟩:=h
 obtain rfl:=k32_open s1
 exact rfl
theorem q7_ {w:World} {base:Nat} {ok:Nat→Prop} {x:S52} {cs:List Value} (h:k52.M w base ok x cs):cs=[.bool x.f0,I L x.f1.f0,I L x.f1.f1.f0.f0,I L x.f1.f1.f0.f1,I L x.f1.f1.f0.f2,I L x.f1.f1.f0.f3,I L x.f1.f1.f0.f4,I L x.f1.f1.f1.f0,I L x.f1.f1.f1.f1,I L x.f1.f1.f1.f2,I L x.f1.f1.f1.f3,I L x.f1.f1.f1.f4,I L x.f1.f1.f2,I L x.f1.f1.f3,I L x.f1.f1.f4,I L x.f2]:=by
 obtain ⟨_,_,rfl,rfl,⟨_,_,rfl,s1,rfl⟩⟩:=h
 obtain rfl:=k32_openM s1
 exact rfl
theorem k52_mk (w:World) (x:S52) :k52.K w x [.bool x.f0,I L x.f1.f0,I L x.f1.f1.f0.f0,I L x.f1.f1.f0.f1,I L x.f1.f1.f0.f2,I L x.f1.f1.f0.f3,I L x.f1.f1.f0.f4,I L x.f1.f1.f1.f0,I L x.f1.f1.f1.f1,I L x.f1.f1.f1.f2,I L x.f1.f1.f1.f3,I L x.f1.f1.f1.f4,I L x.f1.f1.f2,I L x.f1.f1.f3,I L x.f1.f1.f4,I L x.f2]:=⟨[.bool x.f0],[I L x.f1.f0,I L x.f1.f1.f0.f0,I L x.f1.f1.f0.f1,I L x.f1.f1.f0.f2,I L x.f1.f1.f0.f3,I L x.f1.f1.f0.f4,I L x.f1.f1.f1.f0,I L x.f1.f1.f1.f1,I L x.f1.f1.f1.f2,I L x.f1.f1.f1.f3,I L x.f1.f1.f1.f4,I L x.f1.f1.f2,I L x.f1.f1.f3,I L x.f1.f1.f4,I L x.f2],rfl,rfl,⟨[I L x.f1.f0,I L x.f1.f1.f0.f0,I L x.f1.f1.f0.f1,I L x.f1.f1.f0.f2,I L x.f1.f1.f0.f3,I L x.f1.f1.f0.f4,I L x.f1.f1.f1.f0,I L x.f1.f1.f1.f1,I L x.f1.f1.f1.f2,I L x.f1.f1.f1.f3,I L x.f1.f1.f1.f4,I L x.f1.f1.f2,I L x.f1.f1.f3,I L x.f1.f1.f4],[I L x.f2],rfl,(k32_mk w x.f1 ),rfl⟩⟩
theorem k52_mkM (w:World) (base:Nat) (ok:Nat→Prop) (x:S52) :k52.M w base ok x [.bool x.f0,I L x.f1.f0,I L x.f1.f1.f0.f0,I L x.f1.f1.f0.f1,I L x.f1.f1.f0.f2,I L x.f1.f1.f0.f3,I L x.f1.f1.f0.f4,I L x.f1.f1.f1.f0,I L x.f1.f1.f1.f1,I L x.f1.f1.f1.f2,I L x.f1.f1.f1.f3,I L x.f1.f1.f1.f4,I L x.f1.f1.f2,I L x.f1.f1.f3,I L x.f1.f1.f4,I L x.f2]:=⟨[.bool x.f0],[I L x.f1.f0,I L x.f1.f1.f0.f0,I L x.f1.f1.f0.f1,I L x.f1.f1.f0.f2,I L x.f1.f1.f0.f3,I L x.f1.f1.f0.f4,I L x.f1.f1.f1.f0,I L x.f1.f1.f1.f1,I L x.f1.f1.f1.f2,I L x.f1.f1.f1.f3,I L x.f1.f1.f1.f4,I L x.f1.f1.f2,I L x.f1.f1.f3,I L x.f1.f1.f4,I L x.f2],rfl,rfl,⟨[I L x.f1.f0,I L x.f1.f1.f0.f0,I L x.f1.f1.f0.f1,I L x.f1.f1.f0.f2,I L x.f1.f1.f0.f3,I L x.f1.f1.f0.f4,I L x.f1.f1.f1.f0,I L x.f1.f1.f1.f1,I L x.f1.f1.f1.f2,I L x.f1.f1.f1.f3,I L x.f1.f1.f1.f4,I L x.f1.f1.f2,I L x.f1.f1.f3,I L x.f1.f1.f4],[I L x.f2],rfl,(k32_mkM w base ok x.f1 ),rfl⟩⟩
theorem k52_mkF (W:World) (ok:Nat→Prop) (x:S52):Kd.FK k52 W ok x [.bool x.f0,I L x.f1.f0,I L x.f1.f1.f0.f0,I L x.f1.f1.f0.f1,I L x.f1.f1.f0.f2,I L x.f1.f1.f0.f3,I L x.f1.f1.f0.f4,I L x.f1.f1.f1.f0,I L x.f1.f1.f1.f1,I L x.f1.f1.f1.f2,I L x.f1.f1.f1.f3,I L x.f1.f1.f1.f4,I L x.f1.f1.f2,I L x.f1.f1.f3,I L x.f1.f1.f4,I L x.f2]:=fun W2 _=>k52_mk W2 x
def qa_ (xs:List S52) (i:Int):S52:=xs.getD i.toNat z52
theorem at_T52 {w:World} {A:Option Addr} {n:Nat} {xs:List S52} (h:Kd.C k52 w A n xs) (i:Int) (h0:0≤i) (h1:i < n):∃ ad ,A=some ad∧w.cell? (ad.add (i.toNat * 16))=some (.bool (qa_ xs i).f0)∧w.cell? ⟨(ad.add (i.toNat * 16)).block,(ad.add (i.toNat * 16)).off+1,none⟩=some (I L (qa_ xs i).f1.f0)∧w.cell? ⟨(ad.add (i.toNat * 16)).block,(ad.add (i.toNat * 16)).off+2,none⟩=some (I L (qa_ xs i).f1.f1.f0.f0)∧w.cell? ⟨(ad.add (i.toNat * 16)).block,(ad.add (i.toNat * 16)).off+3,none⟩=some (I L (qa_ xs i).f1.f1.f0.f1)∧w.cell? ⟨(ad.add (i.toNat * 16)).block,(ad.add (i.toNat * 16)).off+4,none⟩=some (I L (qa_ xs i).f1.f1.f0.f2)∧w.cell? ⟨(ad.add (i.toNat * 16)).block,(ad.add (i.toNat * 16)).off+5,none⟩=some (I L (qa_ xs i).f1.f1.f0.f3)∧w.cell? ⟨(ad.add (i.toNat * 16)).block,(ad.add (i.toNat * 16)).off+6,none⟩=some (I L (qa_ xs i).f1.f1.f0.f4)∧w.cell? ⟨(ad.add (i.toNat * 16)).block,(ad.add (i.toNat * 16)).off+7,none⟩=some (I L (qa_ xs i).f1.f1.f1.f0)∧w.cell? ⟨(ad.add (i.toNat * 16)).block,(ad.add (i.toNat * 16)).off+8,none⟩=some (I L (qa_ xs i).f1.f1.f1.f1)∧w.cell? ⟨(ad.add (i.toNat * 16)).block,(ad.add (i.toNat * 16)).off+9,none⟩=some (I L (qa_ xs i).f1.f1.f1.f2)∧w.cell? ⟨(ad.add (i.toNat * 16)).block,(ad.add (i.toNat * 16)).off+10,none⟩=some (I L (qa_ xs i).f1.f1.f1.f3)∧w.cell? ⟨(ad.add (i.toNat * 16)).block,(ad.add (i.toNat * 16)).off+11,none⟩=some (I L (qa_ xs i).f1.f1.f1.f4)∧w.cell? ⟨(ad.add (i.toNat * 16)).block,(ad.add (i.toNat * 16)).off+12,none⟩=some (I L (qa_ xs i).f1.f1.f2)∧w.cell? ⟨(ad.add (i.toNat * 16)).block,(ad.add (i.toNat * 16)).off+13,none⟩=some (I L (qa_ xs i).f1.f1.f3)∧w.cell? ⟨(ad.add (i.toNat * 16)).block,(ad.add (i.toNat * 16)).off+14,none⟩=some (I L (qa_ xs i).f1.f1.f4)∧w.cell? ⟨(ad.add (i.toNat * 16)).block,(ad.add (i.toNat * 16)).off+15,none⟩=some (I L (qa_ xs i).f2):=by
 obtain ⟨ad,c,e,_,hK,a⟩:=Kd.C_get h z52 i h0 h1
 have hc:∀ j u,c[j]?=some u→w.cell? (ad.add (i.toNat * 16+j))=some u:=a
 obtain rfl:=k52_open hK
 exact ⟨ad,e,hc 0 _ rfl,by rw [← qs_ _ _ 1 (by omega)];exact hc 1 _ rfl,by rw [← qs_ _ _ 2 (by omega)];exact hc 2 _ rfl,by rw [← qs_ _ _ 3 (by omega)];exact hc 3 _ rfl,by rw [← qs_ _ _ 4 (by omega)];exact hc 4 _ rfl,by rw [← qs_ _ _ 5 (by omega)];exact hc 5 _ rfl,by rw [← qs_ _ _ 6 (by omega)];exact hc 6 _ rfl,by rw [← qs_ _ _ 7 (by omega)];exact hc 7 _ rfl,by rw [← qs_ _ _ 8 (by omega)];exact hc 8 _ rfl,by rw [← qs_ _ _ 9 (by omega)];exact hc 9 _ rfl,by rw [← qs_ _ _ 10 (by omega)];exact hc 10 _ rfl,by rw [← qs_ _ _ 11 (by omega)];exact hc 11 _ rfl,by rw [← qs_ _ _ 12 (by omega)];exact hc 12 _ rfl,by rw [← qs_ _ _ 13 (by omega)];exact hc 13 _ rfl,by rw [← qs_ _ _ 14 (by omega)];exact hc 14 _ rfl,by rw [← qs_ _ _ 15 (by omega)];exact hc 15 _ rfl⟩
def rd_L7 (xs:List (List Int)) (i:Int):(List Int):=xs.getD i.toNat ([]:List Int)
theorem at_L7 {w:World} {A:Option Addr} {n:Nat} {xs:List (List Int)} (h:Kd.C (Kd.slice 5 (Kd.int .u8)) w A n xs) (i:Int) (h0:0≤i) (h1:i < n):∃ ad a b,A=some ad∧w.cell? (ad.add i.toNat)=some (Y a (rd_L7 xs i).length b)∧(rd_L7 xs i).length≤b∧(Kd.int .u8).C w a (rd_L7 xs i).length (rd_L7 xs i):=by
 obtain ⟨ad,c,e,_,hK,d⟩:=Kd.C_get h ([]:List Int) i h0 h1
 have hc:∀ j u,c[j]?=some u→w.cell? (ad.add (i.toNat * 1+j))=some u:=d
 obtain ⟨a,b,rfl,l0,g⟩:=hK
 exact ⟨ad,a,b,e,by have hq:=hc 0 _ rfl;rwa [Nat.mul_one,Nat.add_zero] at hq,l0,g⟩
theorem es52_ {W:World} {g m:Nat} {x:S52} (h:∀ j u,([.bool x.f0,I L x.f1.f0,I L x.f1.f1.f0.f0,I L x.f1.f1.f0.f1,I L x.f1.f1.f0.f2,I L x.f1.f1.f0.f3,I L x.f1.f1.f0.f4,I L x.f1.f1.f1.f0,I L x.f1.f1.f1.f1,I L x.f1.f1.f1.f2,I L x.f1.f1.f1.f3,I L x.f1.f1.f1.f4,I L x.f1.f1.f2,I L x.f1.f1.f3,I L x.f1.f1.f4,I L x.f2]:List Value)[j]?=some u→W.cell? ⟨g,m+j,none⟩=some u) (f:∀ j,W.frozen? ⟨g,m+j,none⟩=false):W.cell? ⟨g,m,none⟩=some (.bool x.f0)∧W.cell? ⟨g,m+1,none⟩=some (I L x.f1.f0)∧W.cell? ⟨g,m+2,none⟩=some (I L x.f1.f1.f0.f0)∧W.cell? ⟨g,m+3,none⟩=some (I L x.f1.f1.f0.f1)∧W.cell? ⟨g,m+4,none⟩=some (I L x.f1.f1.f0.f2)∧W.cell? ⟨g,m+5,none⟩=some (I L x.f1.f1.f0.f3)∧W.cell? ⟨g,m+6,none⟩=some (I L x.f1.f1.f0.f4)∧W.cell? ⟨g,m+7,none⟩=some (I L x.f1.f1.f1.f0)∧W.cell? ⟨g,m+8,none⟩=some (I L x.f1.f1.f1.f1)∧W.cell? ⟨g,m+9,none⟩=some (I L x.f1.f1.f1.f2)∧W.cell? ⟨g,m+10,none⟩=some (I L x.f1.f1.f1.f3)∧W.cell? ⟨g,m+11,none⟩=some (I L x.f1.f1.f1.f4)∧W.cell? ⟨g,m+12,none⟩=some (I L x.f1.f1.f2)∧W.cell? ⟨g,m+13,none⟩=some (I L x.f1.f1.f3)∧W.cell? ⟨g,m+14,none⟩=some (I L x.f1.f1.f4)∧W.cell? ⟨g,m+15,none⟩=some (I L x.f2)∧W.frozen? ⟨g,m,none⟩=false∧W.frozen? ⟨g,m+1,none⟩=false∧W.frozen? ⟨g,m+2,none⟩=false∧W.frozen? ⟨g,m+3,none⟩=false∧W.frozen? ⟨g,m+4,none⟩=false∧W.frozen? ⟨g,m+5,none⟩=false∧W.frozen? ⟨g,m+6,none⟩=false∧W.frozen? ⟨g,m+7,none⟩=false∧W.frozen? ⟨g,m+8,none⟩=false∧W.frozen? ⟨g,m+9,none⟩=false∧W.frozen? ⟨g,m+10,none⟩=false∧W.frozen? ⟨g,m+11,none⟩=false∧W.frozen? ⟨g,m+12,none⟩=false∧W.frozen? ⟨g,m+13,none⟩=false∧W.frozen? ⟨g,m+14,none⟩=false∧W.frozen? ⟨g,m+15,none⟩=false:=⟨h 0 _ rfl,h 1 _ rfl,h 2 _ rfl,h 3 _ rfl,h 4 _ rfl,h 5 _ rfl,h 6 _ rfl,h 7 _ rfl,h 8 _ rfl,h 9 _ rfl,h 10 _ rfl,h 11 _ rfl,h 12 _ rfl,h 13 _ rfl,h 14 _ rfl,h 15 _ rfl,f 0,f 1,f 2,f 3,f 4,f 5,f 6,f 7,f 8,f 9,f 10,f 11,f 12,f 13,f 14,f 15⟩
end Go.Proofs.Yteahaehbciccmaa.PFnPutDrop
