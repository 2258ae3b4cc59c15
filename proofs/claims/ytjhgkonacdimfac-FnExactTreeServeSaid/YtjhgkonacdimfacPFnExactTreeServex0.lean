-- by a program of this session's, over the kit's words
import Derived.Test.YtjhgkonacdimfacProg
import Derived.Below
import Derived.Deep.Draws
import Derived.Deep.AppendLies
import Derived.Maps.AppendAt
import Derived.OwnWalk
import Derived.Laws.BytesArg
import Derived.Laws.MakeOwn
import Derived.Laws.OwnMore
import Derived.Deep.OwnRows
import Derived.Tactics
import Derived.Lib.ConvBytes
import Derived.Laws.Slices
import Derived.WalkKit
import Derived.KernelRfl
import Derived.RowKit3
import Derived.Deep.LoopGhost
import Derived.Deep.QuietTactic
import Derived.BigQuiet
import Derived.WideLaws
import Derived.Deep.DeepCutAuto
import Derived.Deep.CutBlock
import Derived.Deep.RegionHeld3
import Derived.Laws.Rows
import Derived.Lib.AppendStr
import Derived.ArgAppend
import Derived.Laws.IdiomCopy
import Derived.OrdersHeld
import Derived.Laws.BitsLemmas
import Derived.RowKit
import Derived.Test.YtjhgkonacdimfacVWords
import Derived.Test.YtjhgkonacdimfacVOpen
import Derived.Test.YtjhgkonacdimfacVMap
import Derived.Test.YtjhgkonacdimfacWWords
import Derived.Test.YtjhgkonacdimfacWLast
import Derived.Test.YtjhgkonacdimfacWTab
import Derived.Test.YtjhgkonacdimfacWFour
import Derived.Test.YtjhgkonacdimfacWQPut
import Derived.Test.YtjhgkonacdimfacWApart
import Derived.Test.YtjhgkonacdimfacWArr
import Derived.Test.YtjhgkonacdimfacWZeros
import Derived.Test.YtjhgkonacdimfacWFoot
import Derived.Test.YtjhgkonacdimfacWKept
import Derived.Test.YtjhgkonacdimfacWShare
import Derived.Test.YtjhgkonacdimfacWN
import Derived.Test.YtjhgkonacdimfacWFootNe
import Derived.Test.YtjhgkonacdimfacWAt
import Derived.Test.YtjhgkonacdimfacWEqStruct
import Derived.Test.YtjhgkonacdimfacWRepsOne
import Derived.Test.YtjhgkonacdimfacWInv
import Derived.Test.YtjhgkonacdimfacWInvWords
import Derived.Test.YtjhgkonacdimfacWGuard
import Derived.Test.YtjhgkonacdimfacWNEv
import Derived.Test.YtjhgkonacdimfacWMore
namespace Go.Proofs.Ytjhgkonacdimfac.PFnExactTreeServe
open Go.RowKit Go.Proofs.YtjhgkonacdimfacW.PrintWords Go.Proofs.YtjhgkonacdimfacW.PrintLast Go.Proofs.YtjhgkonacdimfacW.PrintMore Go.Proofs.YtjhgkonacdimfacV
open Go.Value renaming int → I, slice → Y
open Go.IntKind renaming i64 → L
open Aside0 renaming mk → D
open Option renaming bind_eq_some_iff → bs_
attribute [local go_sem] qam_ qak_ qaw_ qav_ qae_ qad_ qal_ qaj_
set_option linter.unusedVariables false
set_option linter.unusedSimpArgs false
def errW:Option Int→Value
 | none=>.nilIface
 | some c=>.iface 0 (I L c)
theorem qaa_:errW none=.nilIface:=rfl
theorem q9_ (c:Int):errW (some c)=.iface 0 (I L c):=rfl
theorem info3:(Try.prog.info? 3).map (fun i=>(i.zero,i.size,i.bytes))=some (some (I L 0),1,8):=by kernel_rfl
theorem info54:(Try.prog.info? 54).map (fun i=>(i.zero,i.size,i.bytes))=some (some (.agg #[(I L 0),(I L 0),(I L 0),(I L 0),(I L 0),(Y none 0 0)]),6,64):=by kernel_rfl
theorem info75:(Try.prog.info? 75).map (fun i=>(i.zero,i.size,i.bytes))=some (some (.agg #[(I L 0),(I L 0),(.bool false),(I L 0),(I L 0),(I L 0)]),6,48):=by kernel_rfl
structure S23 where
 f0:Int
 f1:Int
 f2:Int
def z23:S23:=⟨(0:Int),(0:Int),(0:Int)⟩
def k23:Kd S23:=Kd.iso (Kd.pair (Kd.int .i64) (Kd.pair (Kd.int .i64) (Kd.int .i64))) (fun x:S23=>(x.f0,x.f1,x.f2))
theorem k23_open {w:World} {x:S23} {cs:List Value} (h:k23.K w x cs):cs=[I L x.f0,I L x.f1,I L x.f2]:=by
 obtain ⟨_,_,rfl,rfl,⟨_,_,rfl,rfl,rfl⟩⟩:=h
 exact rfl
theorem k23_openM {w:World} {base:Nat} {ok:Nat→Prop} {x:S23} {cs:List Value} (h:k23.M w base ok x cs):cs=[I L x.f0,I L x.f1,I L x.f2]:=by
 obtain ⟨_,_,rfl,rfl,⟨_,_,rfl,rfl,rfl⟩⟩:=h
 exact rfl
theorem k23_mk (w:World) (x:S23) :k23.K w x [I L x.f0,I L x.f1,I L x.f2]:=⟨[I L x.f0],[I L x.f1,I L x.f2],rfl,rfl,⟨[I L x.f1],[I L x.f2],rfl,rfl,rfl⟩⟩
theorem k23_mkM (w:World) (base:Nat) (ok:Nat→Prop) (x:S23) :k23.M w base ok x [I L x.f0,I L x.f1,I L x.f2]:=⟨[I L x.f0],[I L x.f1,I L x.f2],rfl,rfl,⟨[I L x.f1],[I L x.f2],rfl,rfl,rfl⟩⟩
def rd_T23 (xs:List S23) (i:Int):S23:=xs.getD i.toNat z23
theorem at_T23 {w:World} {A:Option Addr} {n:Nat} {xs:List S23} (h:Kd.C k23 w A n xs) (i:Int) (a:0≤i) (b:i < n):∃ ad ,A=some ad∧w.cell? (ad.add (i.toNat * 3))=some (I L (rd_T23 xs i).f0)∧w.cell? ⟨(ad.add (i.toNat * 3)).block,(ad.add (i.toNat * 3)).off+1,none⟩=some (I L (rd_T23 xs i).f1)∧w.cell? ⟨(ad.add (i.toNat * 3)).block,(ad.add (i.toNat * 3)).off+2,none⟩=some (I L (rd_T23 xs i).f2):=by
 obtain ⟨ad,c,e,_,hK,d⟩:=Kd.C_get h z23 i a b
 have hc:∀ j u,c[j]?=some u→w.cell? (ad.add (i.toNat * 3+j))=some u:=d
 obtain rfl:=k23_open hK
 exact ⟨ad,e,hc 0 _ rfl,by rw [← qu_ _ _ 1 (by omega)];exact hc 1 _ rfl,by rw [← qu_ _ _ 2 (by omega)];exact hc 2 _ rfl⟩
structure S100 where
 f0:Int
 f1:Int
 f2:Bool
 f3:S23
def z100:S100:=⟨(0:Int),(0:Int),false,z23⟩
def k100:Kd S100:=Kd.iso (Kd.pair (Kd.int .i64) (Kd.pair (Kd.int .i64) (Kd.pair Kd.bool k23))) (fun x:S100=>(x.f0,x.f1,x.f2,x.f3))
theorem k100_open {w:World} {x:S100} {cs:List Value} (h:k100.K w x cs):cs=[I L x.f0,I L x.f1,.bool x.f2,I L x.f3.f0,I L x.f3.f1,I L x.f3.f2]:=by
 obtain ⟨_,_,rfl,rfl,⟨_,_,rfl,rfl,⟨_,_,rfl,rfl,s3⟩⟩⟩:=h
 obtain rfl:=k23_open s3
 exact rfl
theorem k100_openM {w:World} {base:Nat} {ok:Nat→Prop} {x:S100} {cs:List Value} (h:k100.M w base ok x cs):cs=[I L x.f0,I L x.f1,.bool x.f2,I L x.f3.f0,I L x.f3.f1,I L x.f3.f2]:=by
 obtain ⟨_,_,rfl,rfl,⟨_,_,rfl,rfl,⟨_,_,rfl,rfl,s3⟩⟩⟩:=h
 obtain rfl:=k23_openM s3
 exact rfl
theorem k100_mk (w:World) (x:S100) :k100.K w x [I L x.f0,I L x.f1,.bool x.f2,I L x.f3.f0,I L x.f3.f1,I L x.f3.f2]:=⟨[I L x.f0],[I L x.f1,.bool x.f2,I L x.f3.f0,I L x.f3.f1,I L x.f3.f2],rfl,rfl,⟨[I L x.f1],[.bool x.f2,I L x.f3.f0,I L x.f3.f1,I L x.f3.f2],rfl,rfl,⟨[.bool x.f2],[I L x.f3.f0,I L x.f3.f1,I L x.f3.f2],rfl,rfl,(k23_mk w x.f3 )⟩⟩⟩
theorem k100_mkM (w:World) (base:Nat) (ok:Nat→Prop) (x:S100) :k100.M w base ok x [I L x.f0,I L x.f1,.bool x.f2,I L x.f3.f0,I L x.f3.f1,I L x.f3.f2]:=⟨[I L x.f0],[I L x.f1,.bool x.f2,I L x.f3.f0,I L x.f3.f1,I L x.f3.f2],rfl,rfl,⟨[I L x.f1],[.bool x.f2,I L x.f3.f0,I L x.f3.f1,I L x.f3.f2],rfl,rfl,⟨[.bool x.f2],[I L x.f3.f0,I L x.f3.f1,I L x.f3.f2],rfl,rfl,(k23_mkM w base ok x.f3 )⟩⟩⟩
def qan_ (xs:List S100) (i:Int):S100:=xs.getD i.toNat z100
theorem at_T100 {w:World} {A:Option Addr} {n:Nat} {xs:List S100} (h:Kd.C k100 w A n xs) (i:Int) (a:0≤i) (b:i < n):∃ ad ,A=some ad∧w.cell? (ad.add (i.toNat * 6))=some (I L (qan_ xs i).f0)∧w.cell? ⟨(ad.add (i.toNat * 6)).block,(ad.add (i.toNat * 6)).off+1,none⟩=some (I L (qan_ xs i).f1)∧w.cell? ⟨(ad.add (i.toNat * 6)).block,(ad.add (i.toNat * 6)).off+2,none⟩=some (.bool (qan_ xs i).f2)∧w.cell? ⟨(ad.add (i.toNat * 6)).block,(ad.add (i.toNat * 6)).off+3,none⟩=some (I L (qan_ xs i).f3.f0)∧w.cell? ⟨(ad.add (i.toNat * 6)).block,(ad.add (i.toNat * 6)).off+4,none⟩=some (I L (qan_ xs i).f3.f1)∧w.cell? ⟨(ad.add (i.toNat * 6)).block,(ad.add (i.toNat * 6)).off+5,none⟩=some (I L (qan_ xs i).f3.f2):=by
 obtain ⟨ad,c,e,_,hK,d⟩:=Kd.C_get h z100 i a b
 have hc:∀ j u,c[j]?=some u→w.cell? (ad.add (i.toNat * 6+j))=some u:=d
 obtain rfl:=k100_open hK
 exact ⟨ad,e,hc 0 _ rfl,by rw [← qu_ _ _ 1 (by omega)];exact hc 1 _ rfl,by rw [← qu_ _ _ 2 (by omega)];exact hc 2 _ rfl,by rw [← qu_ _ _ 3 (by omega)];exact hc 3 _ rfl,by rw [← qu_ _ _ 4 (by omega)];exact hc 4 _ rfl,by rw [← qu_ _ _ 5 (by omega)];exact hc 5 _ rfl⟩
def rd_L4 (xs:List (List S100)) (i:Int):(List S100):=xs.getD i.toNat ([]:List S100)
theorem at_L4 {w:World} {A:Option Addr} {n:Nat} {xs:List (List S100)} (h:Kd.C (Kd.slice 100 k100) w A n xs) (i:Int) (d:0≤i) (g:i < n):∃ ad a b,A=some ad∧w.cell? (ad.add i.toNat)=some (Y a (rd_L4 xs i).length b)∧(rd_L4 xs i).length≤b∧k100.C w a (rd_L4 xs i).length (rd_L4 xs i):=by
 obtain ⟨ad,c,e,_,hK,k⟩:=Kd.C_get h ([]:List S100) i d g
 have hc:∀ j u,c[j]?=some u→w.cell? (ad.add (i.toNat * 1+j))=some u:=k
 obtain ⟨a,b,rfl,l0,l⟩:=hK
 exact ⟨ad,a,b,e,by have hq:=hc 0 _ rfl;rwa [Nat.mul_one,Nat.add_zero] at hq,l0,l⟩
structure S26 where
 f0:Int
 f1:S23
 f2:(List S100)
def z26:S26:=⟨(0:Int),z23,([]:List S100)⟩
def k26:Kd S26:=Kd.iso (Kd.pair (Kd.int .i64) (Kd.pair k23 (Kd.slice 100 k100))) (fun x:S26=>(x.f0,x.f1,x.f2))
theorem k26_open {w:World} {x:S26} {cs:List Value} (h:k26.K w x cs):∃ a c4,cs=[I L x.f0,I L x.f1.f0,I L x.f1.f1,I L x.f1.f2,Y a x.f2.length c4]∧x.f2.length≤c4∧k100.C w a x.f2.length x.f2:=by
 obtain ⟨_,_,rfl,rfl,⟨_,_,rfl,s1,⟨a,c4,rfl,b,c⟩⟩⟩:=h
 obtain rfl:=k23_open s1
 exact ⟨a,c4,rfl,b,c⟩
theorem k26_openM {w:World} {base:Nat} {ok:Nat→Prop} {x:S26} {cs:List Value} (h:k26.M w base ok x cs):∃ a,cs=[I L x.f0,I L x.f1.f0,I L x.f1.f1,I L x.f1.f2,a]∧k100.R 100 w base ok a x.f2:=by
 obtain ⟨_,_,rfl,rfl,⟨_,_,rfl,s1,⟨a,rfl,b⟩⟩⟩:=h
 obtain rfl:=k23_openM s1
 exact ⟨a,rfl,b⟩
theorem k26_mk (w:World) (x:S26) {a:Option Addr} {c4:Nat} (b:x.f2.length≤c4) (c:k100.C w a x.f2.length x.f2):k26.K w x [I L x.f0,I L x.f1.f0,I L x.f1.f1,I L x.f1.f2,Y a x.f2.length c4]:=⟨[I L x.f0],[I L x.f1.f0,I L x.f1.f1,I L x.f1.f2,Y a x.f2.length c4],rfl,rfl,⟨[I L x.f1.f0,I L x.f1.f1,I L x.f1.f2],[Y a x.f2.length c4],rfl,(k23_mk w x.f1 ),⟨a,c4,rfl,b,c⟩⟩⟩
theorem k26_mkM (w:World) (base:Nat) (ok:Nat→Prop) (x:S26) {a:Value} (b:k100.R 100 w base ok a x.f2):k26.M w base ok x [I L x.f0,I L x.f1.f0,I L x.f1.f1,I L x.f1.f2,a]:=⟨[I L x.f0],[I L x.f1.f0,I L x.f1.f1,I L x.f1.f2,a],rfl,rfl,⟨[I L x.f1.f0,I L x.f1.f1,I L x.f1.f2],[a],rfl,(k23_mkM w base ok x.f1 ),⟨a,rfl,b⟩⟩⟩
def rd_T26 (xs:List S26) (i:Int):S26:=xs.getD i.toNat z26
theorem at_T26 {w:World} {A:Option Addr} {n:Nat} {xs:List S26} (h:Kd.C k26 w A n xs) (i:Int) (b:0≤i) (d:i < n):∃ ad a c4,A=some ad∧w.cell? (ad.add (i.toNat * 5))=some (I L (rd_T26 xs i).f0)∧w.cell? ⟨(ad.add (i.toNat * 5)).block,(ad.add (i.toNat * 5)).off+1,none⟩=some (I L (rd_T26 xs i).f1.f0)∧w.cell? ⟨(ad.add (i.toNat * 5)).block,(ad.add (i.toNat * 5)).off+2,none⟩=some (I L (rd_T26 xs i).f1.f1)∧w.cell? ⟨(ad.add (i.toNat * 5)).block,(ad.add (i.toNat * 5)).off+3,none⟩=some (I L (rd_T26 xs i).f1.f2)∧w.cell? ⟨(ad.add (i.toNat * 5)).block,(ad.add (i.toNat * 5)).off+4,none⟩=some (Y a (rd_T26 xs i).f2.length c4)∧(rd_T26 xs i).f2.length≤c4∧k100.C w a (rd_T26 xs i).f2.length (rd_T26 xs i).f2:=by
 obtain ⟨ad,c,e,_,hK,g⟩:=Kd.C_get h z26 i b d
 have hc:∀ j u,c[j]?=some u→w.cell? (ad.add (i.toNat * 5+j))=some u:=g
 obtain ⟨a,c4,rfl,k,l⟩:=k26_open hK
 exact ⟨ad,a,c4,e,hc 0 _ rfl,by rw [← qu_ _ _ 1 (by omega)];exact hc 1 _ rfl,by rw [← qu_ _ _ 2 (by omega)];exact hc 2 _ rfl,by rw [← qu_ _ _ 3 (by omega)];exact hc 3 _ rfl,by rw [← qu_ _ _ 4 (by omega)];exact hc 4 _ rfl,k,l⟩
structure S72 where
 f0:Int
 f1:S26
def z72:S72:=⟨(0:Int),z26⟩
def k72:Kd S72:=Kd.iso (Kd.pair (Kd.int .i64) k26) (fun x:S72=>(x.f0,x.f1))
theorem k72_open {w:World} {x:S72} {cs:List Value} (h:k72.K w x cs):∃ a c5,cs=[I L x.f0,I L x.f1.f0,I L x.f1.f1.f0,I L x.f1.f1.f1,I L x.f1.f1.f2,Y a x.f1.f2.length c5]∧x.f1.f2.length≤c5∧k100.C w a x.f1.f2.length x.f1.f2:=by
 obtain ⟨_,_,rfl,rfl,s1⟩:=h
 obtain ⟨a,c5,rfl,b,c⟩:=k26_open s1
 exact ⟨a,c5,rfl,b,c⟩
theorem k72_openM {w:World} {base:Nat} {ok:Nat→Prop} {x:S72} {cs:List Value} (h:k72.M w base ok x cs):∃ a,cs=[I L x.f0,I L x.f1.f0,I L x.f1.f1.f0,I L x.f1.f1.f1,I L x.f1.f1.f2,a]∧k100.R 100 w base ok a x.f1.f2:=by
 obtain ⟨_,_,rfl,rfl,s1⟩:=h
 obtain ⟨a,rfl,b⟩:=k26_openM s1
 exact ⟨a,rfl,b⟩
theorem k72_mk (w:World) (x:S72) {a:Option Addr} {c5:Nat} (b:x.f1.f2.length≤c5) (c:k100.C w a x.f1.f2.length x.f1.f2):k72.K w x [I L x.f0,I L x.f1.f0,I L x.f1.f1.f0,I L x.f1.f1.f1,I L x.f1.f1.f2,Y a x.f1.f2.length c5]:=⟨[I L x.f0],[I L x.f1.f0,I L x.f1.f1.f0,I L x.f1.f1.f1,I L x.f1.f1.f2,Y a x.f1.f2.length c5],rfl,rfl,(k26_mk w x.f1 b c)⟩
theorem k72_mkM (w:World) (base:Nat) (ok:Nat→Prop) (x:S72) {a:Value} (b:k100.R 100 w base ok a x.f1.f2):k72.M w base ok x [I L x.f0,I L x.f1.f0,I L x.f1.f1.f0,I L x.f1.f1.f1,I L x.f1.f1.f2,a]:=⟨[I L x.f0],[I L x.f1.f0,I L x.f1.f1.f0,I L x.f1.f1.f1,I L x.f1.f1.f2,a],rfl,rfl,(k26_mkM w base ok x.f1 b)⟩
def q8_ (xs:List S72) (i:Int):S72:=xs.getD i.toNat z72
theorem at_T72 {w:World} {A:Option Addr} {n:Nat} {xs:List S72} (h:Kd.C k72 w A n xs) (i:Int) (b:0≤i) (d:i < n):∃ ad a c5,A=some ad∧w.cell? (ad.add (i.toNat * 6))=some (I L (q8_ xs i).f0)∧w.cell? ⟨(ad.add (i.toNat * 6)).block,(ad.add (i.toNat * 6)).off+1,none⟩=some (I L (q8_ xs i).f1.f0)∧w.cell? ⟨(ad.add (i.toNat * 6)).block,(ad.add (i.toNat * 6)).off+2,none⟩=some (I L (q8_ xs i).f1.f1.f0)∧w.cell? ⟨(ad.add (i.toNat * 6)).block,(ad.add (i.toNat * 6)).off+3,none⟩=some (I L (q8_ xs i).f1.f1.f1)∧w.cell? ⟨(ad.add (i.toNat * 6)).block,(ad.add (i.toNat * 6)).off+4,none⟩=some (I L (q8_ xs i).f1.f1.f2)∧w.cell? ⟨(ad.add (i.toNat * 6)).block,(ad.add (i.toNat * 6)).off+5,none⟩=some (Y a (q8_ xs i).f1.f2.length c5)∧(q8_ xs i).f1.f2.length≤c5∧k100.C w a (q8_ xs i).f1.f2.length (q8_ xs i).f1.f2:=by
 obtain ⟨ad,c,e,_,hK,g⟩:=Kd.C_get h z72 i b d
 have hc:∀ j u,c[j]?=some u→w.cell? (ad.add (i.toNat * 6+j))=some u:=g
 obtain ⟨a,c5,rfl,k,l⟩:=k72_open hK
 exact ⟨ad,a,c5,e,hc 0 _ rfl,by rw [← qu_ _ _ 1 (by omega)];exact hc 1 _ rfl,by rw [← qu_ _ _ 2 (by omega)];exact hc 2 _ rfl,by rw [← qu_ _ _ 3 (by omega)];exact hc 3 _ rfl,by rw [← qu_ _ _ 4 (by omega)];exact hc 4 _ rfl,by rw [← qu_ _ _ 5 (by omega)];exact hc 5 _ rfl,k,l⟩
structure S31 where
 f0:Int
 f1:Int
 f2:Int
def z31:S31:=⟨(0:Int),(0:Int),(0:Int)⟩
def k31:Kd S31:=Kd.iso (Kd.pair (Kd.int .i64) (Kd.pair (Kd.int .i64) (Kd.int .i64))) (fun x:S31=>(x.f0,x.f1,x.f2))
theorem k31_open {w:World} {x:S31} {cs:List Value} (h:k31.K w x cs):cs=[I L x.f0,I L x.f1,I L x.f2]:=by
 obtain ⟨_,_,rfl,rfl,⟨_,_,rfl,rfl,rfl⟩⟩:=h
 exact rfl
theorem k31_openM {w:World} {base:Nat} {ok:Nat→Prop} {x:S31} {cs:List Value} (h:k31.M w base ok x cs):cs=[I L x.f0,I L x.f1,I L x.f2]:=by
 obtain ⟨_,_,rfl,rfl,⟨_,_,rfl,rfl,rfl⟩⟩:=h
 exact rfl
theorem k31_mk (w:World) (x:S31) :k31.K w x [I L x.f0,I L x.f1,I L x.f2]:=⟨[I L x.f0],[I L x.f1,I L x.f2],rfl,rfl,⟨[I L x.f1],[I L x.f2],rfl,rfl,rfl⟩⟩
theorem k31_mkM (w:World) (base:Nat) (ok:Nat→Prop) (x:S31) :k31.M w base ok x [I L x.f0,I L x.f1,I L x.f2]:=⟨[I L x.f0],[I L x.f1,I L x.f2],rfl,rfl,⟨[I L x.f1],[I L x.f2],rfl,rfl,rfl⟩⟩
def rd_T31 (xs:List S31) (i:Int):S31:=xs.getD i.toNat z31
theorem at_T31 {w:World} {A:Option Addr} {n:Nat} {xs:List S31} (h:Kd.C k31 w A n xs) (i:Int) (a:0≤i) (b:i < n):∃ ad ,A=some ad∧w.cell? (ad.add (i.toNat * 3))=some (I L (rd_T31 xs i).f0)∧w.cell? ⟨(ad.add (i.toNat * 3)).block,(ad.add (i.toNat * 3)).off+1,none⟩=some (I L (rd_T31 xs i).f1)∧w.cell? ⟨(ad.add (i.toNat * 3)).block,(ad.add (i.toNat * 3)).off+2,none⟩=some (I L (rd_T31 xs i).f2):=by
 obtain ⟨ad,c,e,_,hK,d⟩:=Kd.C_get h z31 i a b
 have hc:∀ j u,c[j]?=some u→w.cell? (ad.add (i.toNat * 3+j))=some u:=d
 obtain rfl:=k31_open hK
 exact ⟨ad,e,hc 0 _ rfl,by rw [← qu_ _ _ 1 (by omega)];exact hc 1 _ rfl,by rw [← qu_ _ _ 2 (by omega)];exact hc 2 _ rfl⟩
structure S75 where
 f0:Int
 f1:Int
 f2:Bool
 f3:S31
def z75:S75:=⟨(0:Int),(0:Int),false,z31⟩
def k75:Kd S75:=Kd.iso (Kd.pair (Kd.int .i64) (Kd.pair (Kd.int .i64) (Kd.pair Kd.bool k31))) (fun x:S75=>(x.f0,x.f1,x.f2,x.f3))
theorem k75_open {w:World} {x:S75} {cs:List Value} (h:k75.K w x cs):cs=[I L x.f0,I L x.f1,.bool x.f2,I L x.f3.f0,I L x.f3.f1,I L x.f3.f2]:=by
 obtain ⟨_,_,rfl,rfl,⟨_,_,rfl,rfl,⟨_,_,rfl,rfl,s3⟩⟩⟩:=h
 obtain rfl:=k31_open s3
 exact rfl
theorem qaf_ {w:World} {base:Nat} {ok:Nat→Prop} {x:S75} {cs:List Value} (h:k75.M w base ok x cs):cs=[I L x.f0,I L x.f1,.bool x.f2,I L x.f3.f0,I L x.f3.f1,I L x.f3.f2]:=by
 obtain ⟨_,_,rfl,rfl,⟨_,_,rfl,rfl,⟨_,_,rfl,rfl,s3⟩⟩⟩:=h
 obtain rfl:=k31_openM s3
 exact rfl
theorem k75_mk (w:World) (x:S75) :k75.K w x [I L x.f0,I L x.f1,.bool x.f2,I L x.f3.f0,I L x.f3.f1,I L x.f3.f2]:=⟨[I L x.f0],[I L x.f1,.bool x.f2,I L x.f3.f0,I L x.f3.f1,I L x.f3.f2],rfl,rfl,⟨[I L x.f1],[.bool x.f2,I L x.f3.f0,I L x.f3.f1,I L x.f3.f2],rfl,rfl,⟨[.bool x.f2],[I L x.f3.f0,I L x.f3.f1,I L x.f3.f2],rfl,rfl,(k31_mk w x.f3 )⟩⟩⟩
theorem qbh_ (w:World) (base:Nat) (ok:Nat→Prop) (x:S75) :k75.M w base ok x [I L x.f0,I L x.f1,.bool x.f2,I L x.f3.f0,I L x.f3.f1,I L x.f3.f2]:=⟨[I L x.f0],[I L x.f1,.bool x.f2,I L x.f3.f0,I L x.f3.f1,I L x.f3.f2],rfl,rfl,⟨[I L x.f1],[.bool x.f2,I L x.f3.f0,I L x.f3.f1,I L x.f3.f2],rfl,rfl,⟨[.bool x.f2],[I L x.f3.f0,I L x.f3.f1,I L x.f3.f2],rfl,rfl,(k31_mkM w base ok x.f3 )⟩⟩⟩
def qb_ (xs:List S75) (i:Int):S75:=xs.getD i.toNat z75
theorem qac_ {w:World} {A:Option Addr} {n:Nat} {xs:List S75} (h:Kd.C k75 w A n xs) (i:Int) (a:0≤i) (b:i < n):∃ ad ,A=some ad∧w.cell? (ad.add (i.toNat * 6))=some (I L (qb_ xs i).f0)∧w.cell? ⟨(ad.add (i.toNat * 6)).block,(ad.add (i.toNat * 6)).off+1,none⟩=some (I L (qb_ xs i).f1)∧w.cell? ⟨(ad.add (i.toNat * 6)).block,(ad.add (i.toNat * 6)).off+2,none⟩=some (.bool (qb_ xs i).f2)∧w.cell? ⟨(ad.add (i.toNat * 6)).block,(ad.add (i.toNat * 6)).off+3,none⟩=some (I L (qb_ xs i).f3.f0)∧w.cell? ⟨(ad.add (i.toNat * 6)).block,(ad.add (i.toNat * 6)).off+4,none⟩=some (I L (qb_ xs i).f3.f1)∧w.cell? ⟨(ad.add (i.toNat * 6)).block,(ad.add (i.toNat * 6)).off+5,none⟩=some (I L (qb_ xs i).f3.f2):=by
 obtain ⟨ad,c,e,_,hK,d⟩:=Kd.C_get h z75 i a b
 have hc:∀ j u,c[j]?=some u→w.cell? (ad.add (i.toNat * 6+j))=some u:=d
 obtain rfl:=k75_open hK
 exact ⟨ad,e,hc 0 _ rfl,by rw [← qu_ _ _ 1 (by omega)];exact hc 1 _ rfl,by rw [← qu_ _ _ 2 (by omega)];exact hc 2 _ rfl,by rw [← qu_ _ _ 3 (by omega)];exact hc 3 _ rfl,by rw [← qu_ _ _ 4 (by omega)];exact hc 4 _ rfl,by rw [← qu_ _ _ 5 (by omega)];exact hc 5 _ rfl⟩
def rd_L9 (xs:List (List S75)) (i:Int):(List S75):=xs.getD i.toNat ([]:List S75)
theorem at_L9 {w:World} {A:Option Addr} {n:Nat} {xs:List (List S75)} (h:Kd.C (Kd.slice 75 k75) w A n xs) (i:Int) (d:0≤i) (g:i < n):∃ ad a b,A=some ad∧w.cell? (ad.add i.toNat)=some (Y a (rd_L9 xs i).length b)∧(rd_L9 xs i).length≤b∧k75.C w a (rd_L9 xs i).length (rd_L9 xs i):=by
 obtain ⟨ad,c,e,_,hK,k⟩:=Kd.C_get h ([]:List S75) i d g
 have hc:∀ j u,c[j]?=some u→w.cell? (ad.add (i.toNat * 1+j))=some u:=k
 obtain ⟨a,b,rfl,l0,l⟩:=hK
 exact ⟨ad,a,b,e,by have hq:=hc 0 _ rfl;rwa [Nat.mul_one,Nat.add_zero] at hq,l0,l⟩
structure S34 where
 f0:Int
 f1:S31
 f2:(List S75)
def z34:S34:=⟨(0:Int),z31,([]:List S75)⟩
def k34:Kd S34:=Kd.iso (Kd.pair (Kd.int .i64) (Kd.pair k31 (Kd.slice 75 k75))) (fun x:S34=>(x.f0,x.f1,x.f2))
theorem k34_open {w:World} {x:S34} {cs:List Value} (h:k34.K w x cs):∃ a c4,cs=[I L x.f0,I L x.f1.f0,I L x.f1.f1,I L x.f1.f2,Y a x.f2.length c4]∧x.f2.length≤c4∧k75.C w a x.f2.length x.f2:=by
 obtain ⟨_,_,rfl,rfl,⟨_,_,rfl,s1,⟨a,c4,rfl,b,c⟩⟩⟩:=h
 obtain rfl:=k31_open s1
 exact ⟨a,c4,rfl,b,c⟩
theorem k34_openM {w:World} {base:Nat} {ok:Nat→Prop} {x:S34} {cs:List Value} (h:k34.M w base ok x cs):∃ a,cs=[I L x.f0,I L x.f1.f0,I L x.f1.f1,I L x.f1.f2,a]∧k75.R 75 w base ok a x.f2:=by
 obtain ⟨_,_,rfl,rfl,⟨_,_,rfl,s1,⟨a,rfl,b⟩⟩⟩:=h
 obtain rfl:=k31_openM s1
 exact ⟨a,rfl,b⟩
theorem k34_mk (w:World) (x:S34) {a:Option Addr} {c4:Nat} (b:x.f2.length≤c4) (c:k75.C w a x.f2.length x.f2):k34.K w x [I L x.f0,I L x.f1.f0,I L x.f1.f1,I L x.f1.f2,Y a x.f2.length c4]:=⟨[I L x.f0],[I L x.f1.f0,I L x.f1.f1,I L x.f1.f2,Y a x.f2.length c4],rfl,rfl,⟨[I L x.f1.f0,I L x.f1.f1,I L x.f1.f2],[Y a x.f2.length c4],rfl,(k31_mk w x.f1 ),⟨a,c4,rfl,b,c⟩⟩⟩
theorem k34_mkM (w:World) (base:Nat) (ok:Nat→Prop) (x:S34) {a:Value} (b:k75.R 75 w base ok a x.f2):k34.M w base ok x [I L x.f0,I L x.f1.f0,I L x.f1.f1,I L x.f1.f2,a]:=⟨[I L x.f0],[I L x.f1.f0,I L x.f1.f1,I L x.f1.f2,a],rfl,rfl,⟨[I L x.f1.f0,I L x.f1.f1,I L x.f1.f2],[a],rfl,(k31_mkM w base ok x.f1 ),⟨a,rfl,b⟩⟩⟩
def rd_T34 (xs:List S34) (i:Int):S34:=xs.getD i.toNat z34
theorem at_T34 {w:World} {A:Option Addr} {n:Nat} {xs:List S34} (h:Kd.C k34 w A n xs) (i:Int) (b:0≤i) (d:i < n):∃ ad a c4,A=some ad∧w.cell? (ad.add (i.toNat * 5))=some (I L (rd_T34 xs i).f0)∧w.cell? ⟨(ad.add (i.toNat * 5)).block,(ad.add (i.toNat * 5)).off+1,none⟩=some (I L (rd_T34 xs i).f1.f0)∧w.cell? ⟨(ad.add (i.toNat * 5)).block,(ad.add (i.toNat * 5)).off+2,none⟩=some (I L (rd_T34 xs i).f1.f1)∧w.cell? ⟨(ad.add (i.toNat * 5)).block,(ad.add (i.toNat * 5)).off+3,none⟩=some (I L (rd_T34 xs i).f1.f2)∧w.cell? ⟨(ad.add (i.toNat * 5)).block,(ad.add (i.toNat * 5)).off+4,none⟩=some (Y a (rd_T34 xs i).f2.length c4)∧(rd_T34 xs i).f2.length≤c4∧k75.C w a (rd_T34 xs i).f2.length (rd_T34 xs i).f2:=by
 obtain ⟨ad,c,e,_,hK,g⟩:=Kd.C_get h z34 i b d
 have hc:∀ j u,c[j]?=some u→w.cell? (ad.add (i.toNat * 5+j))=some u:=g
 obtain ⟨a,c4,rfl,k,l⟩:=k34_open hK
 exact ⟨ad,a,c4,e,hc 0 _ rfl,by rw [← qu_ _ _ 1 (by omega)];exact hc 1 _ rfl,by rw [← qu_ _ _ 2 (by omega)];exact hc 2 _ rfl,by rw [← qu_ _ _ 3 (by omega)];exact hc 3 _ rfl,by rw [← qu_ _ _ 4 (by omega)];exact hc 4 _ rfl,k,l⟩
structure S54 where
 f0:Int
 f1:S34
def z54:S54:=⟨(0:Int),z34⟩
def k54:Kd S54:=Kd.iso (Kd.pair (Kd.int .i64) k34) (fun x:S54=>(x.f0,x.f1))
theorem k54_open {w:World} {x:S54} {cs:List Value} (h:k54.K w x cs):∃ a c5,cs=[I L x.f0,I L x.f1.f0,I L x.f1.f1.f0,I L x.f1.f1.f1,I L x.f1.f1.f2,Y a x.f1.f2.length c5]∧x.f1.f2.length≤c5∧k75.C w a x.f1.f2.length x.f1.f2:=by
 obtain ⟨_,_,rfl,rfl,s1⟩:=h
 obtain ⟨a,c5,rfl,b,c⟩:=k34_open s1
 exact ⟨a,c5,rfl,b,c⟩
theorem qao_ {w:World} {base:Nat} {ok:Nat→Prop} {x:S54} {cs:List Value} (h:k54.M w base ok x cs):∃ a,cs=[I L x.f0,I L x.f1.f0,I L x.f1.f1.f0,I L x.f1.f1.f1,I L x.f1.f1.f2,a]∧k75.R 75 w base ok a x.f1.f2:=by
 obtain ⟨_,_,rfl,rfl,s1⟩:=h
 obtain ⟨a,rfl,b⟩:=k34_openM s1
 exact ⟨a,rfl,b⟩
theorem k54_mk (w:World) (x:S54) {a:Option Addr} {c5:Nat} (b:x.f1.f2.length≤c5) (c:k75.C w a x.f1.f2.length x.f1.f2):k54.K w x [I L x.f0,I L x.f1.f0,I L x.f1.f1.f0,I L x.f1.f1.f1,I L x.f1.f1.f2,Y a x.f1.f2.length c5]:=⟨[I L x.f0],[I L x.f1.f0,I L x.f1.f1.f0,I L x.f1.f1.f1,I L x.f1.f1.f2,Y a x.f1.f2.length c5],rfl,rfl,(k34_mk w x.f1 b c)⟩
theorem k54_mkM (w:World) (base:Nat) (ok:Nat→Prop) (x:S54) {a:Value} (b:k75.R 75 w base ok a x.f1.f2):k54.M w base ok x [I L x.f0,I L x.f1.f0,I L x.f1.f1.f0,I L x.f1.f1.f1,I L x.f1.f1.f2,a]:=⟨[I L x.f0],[I L x.f1.f0,I L x.f1.f1.f0,I L x.f1.f1.f1,I L x.f1.f1.f2,a],rfl,rfl,(k34_mkM w base ok x.f1 b)⟩
def qc_ (xs:List S54) (i:Int):S54:=xs.getD i.toNat z54
theorem qaz_ {w:World} {A:Option Addr} {n:Nat} {xs:List S54} (h:Kd.C k54 w A n xs) (i:Int) (b:0≤i) (d:i < n):∃ ad a c5,A=some ad∧w.cell? (ad.add (i.toNat * 6))=some (I L (qc_ xs i).f0)∧w.cell? ⟨(ad.add (i.toNat * 6)).block,(ad.add (i.toNat * 6)).off+1,none⟩=some (I L (qc_ xs i).f1.f0)∧w.cell? ⟨(ad.add (i.toNat * 6)).block,(ad.add (i.toNat * 6)).off+2,none⟩=some (I L (qc_ xs i).f1.f1.f0)∧w.cell? ⟨(ad.add (i.toNat * 6)).block,(ad.add (i.toNat * 6)).off+3,none⟩=some (I L (qc_ xs i).f1.f1.f1)∧w.cell? ⟨(ad.add (i.toNat * 6)).block,(ad.add (i.toNat * 6)).off+4,none⟩=some (I L (qc_ xs i).f1.f1.f2)∧w.cell? ⟨(ad.add (i.toNat * 6)).block,(ad.add (i.toNat * 6)).off+5,none⟩=some (Y a (qc_ xs i).f1.f2.length c5)∧(qc_ xs i).f1.f2.length≤c5∧k75.C w a (qc_ xs i).f1.f2.length (qc_ xs i).f1.f2:=by
 obtain ⟨ad,c,e,_,hK,g⟩:=Kd.C_get h z54 i b d
 have hc:∀ j u,c[j]?=some u→w.cell? (ad.add (i.toNat * 6+j))=some u:=g
 obtain ⟨a,c5,rfl,k,l⟩:=k54_open hK
 exact ⟨ad,a,c5,e,hc 0 _ rfl,by rw [← qu_ _ _ 1 (by omega)];exact hc 1 _ rfl,by rw [← qu_ _ _ 2 (by omega)];exact hc 2 _ rfl,by rw [← qu_ _ _ 3 (by omega)];exact hc 3 _ rfl,by rw [← qu_ _ _ 4 (by omega)];exact hc 4 _ rfl,by rw [← qu_ _ _ 5 (by omega)];exact hc 5 _ rfl,k,l⟩
def rd_L12 (xs:List (List S72)) (i:Int):(List S72):=xs.getD i.toNat ([]:List S72)
theorem at_L12 {w:World} {A:Option Addr} {n:Nat} {xs:List (List S72)} (h:Kd.C (Kd.slice 72 k72) w A n xs) (i:Int) (d:0≤i) (g:i < n):∃ ad a b,A=some ad∧w.cell? (ad.add i.toNat)=some (Y a (rd_L12 xs i).length b)∧(rd_L12 xs i).length≤b∧k72.C w a (rd_L12 xs i).length (rd_L12 xs i):=by
 obtain ⟨ad,c,e,_,hK,k⟩:=Kd.C_get h ([]:List S72) i d g
 have hc:∀ j u,c[j]?=some u→w.cell? (ad.add (i.toNat * 1+j))=some u:=k
 obtain ⟨a,b,rfl,l0,l⟩:=hK
 exact ⟨ad,a,b,e,by have hq:=hc 0 _ rfl;rwa [Nat.mul_one,Nat.add_zero] at hq,l0,l⟩
structure S29 where
 f0:S26
 f1:(List S72)
def z29:S29:=⟨z26,([]:List S72)⟩
def k29:Kd S29:=Kd.iso (Kd.pair k26 (Kd.slice 72 k72)) (fun x:S29=>(x.f0,x.f1))
theorem k29_open {w:World} {x:S29} {cs:List Value} (h:k29.K w x cs):∃ a c4 b c5,cs=[I L x.f0.f0,I L x.f0.f1.f0,I L x.f0.f1.f1,I L x.f0.f1.f2,Y a x.f0.f2.length c4,Y b x.f1.length c5]∧x.f0.f2.length≤c4∧k100.C w a x.f0.f2.length x.f0.f2∧x.f1.length≤c5∧k72.C w b x.f1.length x.f1:=by
 obtain ⟨_,_,rfl,s0,⟨b,c5,rfl,c,d⟩⟩:=h
 obtain ⟨a,c4,rfl,e,g⟩:=k26_open s0
 exact ⟨a,c4,b,c5,rfl,e,g,c,d⟩
theorem k29_openM {w:World} {base:Nat} {ok:Nat→Prop} {x:S29} {cs:List Value} (h:k29.M w base ok x cs):∃ a b,cs=[I L x.f0.f0,I L x.f0.f1.f0,I L x.f0.f1.f1,I L x.f0.f1.f2,a,b]∧k100.R 100 w base ok a x.f0.f2∧k72.R 72 w base ok b x.f1:=by
 obtain ⟨_,_,rfl,s0,⟨b,rfl,c⟩⟩:=h
 obtain ⟨a,rfl,d⟩:=k26_openM s0
 exact ⟨a,b,rfl,d,c⟩
theorem k29_mk (w:World) (x:S29) {b:Option Addr} {c4:Nat} (c:x.f0.f2.length≤c4) (d:k100.C w b x.f0.f2.length x.f0.f2) {a:Option Addr} {c5:Nat} (e:x.f1.length≤c5) (g:k72.C w a x.f1.length x.f1):k29.K w x [I L x.f0.f0,I L x.f0.f1.f0,I L x.f0.f1.f1,I L x.f0.f1.f2,Y b x.f0.f2.length c4,Y a x.f1.length c5]:=⟨[I L x.f0.f0,I L x.f0.f1.f0,I L x.f0.f1.f1,I L x.f0.f1.f2,Y b x.f0.f2.length c4],[Y a x.f1.length c5],rfl,(k26_mk w x.f0 c d),⟨a,c5,rfl,e,g⟩⟩
theorem k29_mkM (w:World) (base:Nat) (ok:Nat→Prop) (x:S29) {b:Value} (c:k100.R 100 w base ok b x.f0.f2) {a:Value} (d:k72.R 72 w base ok a x.f1):k29.M w base ok x [I L x.f0.f0,I L x.f0.f1.f0,I L x.f0.f1.f1,I L x.f0.f1.f2,b,a]:=⟨[I L x.f0.f0,I L x.f0.f1.f0,I L x.f0.f1.f1,I L x.f0.f1.f2,b],[a],rfl,(k26_mkM w base ok x.f0 c),⟨a,rfl,d⟩⟩
def rd_T29 (xs:List S29) (i:Int):S29:=xs.getD i.toNat z29
theorem at_T29 {w:World} {A:Option Addr} {n:Nat} {xs:List S29} (h:Kd.C k29 w A n xs) (i:Int) (d:0≤i) (g:i < n):∃ ad a c4 b c5,A=some ad∧w.cell? (ad.add (i.toNat * 6))=some (I L (rd_T29 xs i).f0.f0)∧w.cell? ⟨(ad.add (i.toNat * 6)).block,(ad.add (i.toNat * 6)).off+1,none⟩=some (I L (rd_T29 xs i).f0.f1.f0)∧w.cell? ⟨(ad.add (i.toNat * 6)).block,(ad.add (i.toNat * 6)).off+2,none⟩=some (I L (rd_T29 xs i).f0.f1.f1)∧w.cell? ⟨(ad.add (i.toNat * 6)).block,(ad.add (i.toNat * 6)).off+3,none⟩=some (I L (rd_T29 xs i).f0.f1.f2)∧w.cell? ⟨(ad.add (i.toNat * 6)).block,(ad.add (i.toNat * 6)).off+4,none⟩=some (Y a (rd_T29 xs i).f0.f2.length c4)∧w.cell? ⟨(ad.add (i.toNat * 6)).block,(ad.add (i.toNat * 6)).off+5,none⟩=some (Y b (rd_T29 xs i).f1.length c5)∧(rd_T29 xs i).f0.f2.length≤c4∧k100.C w a (rd_T29 xs i).f0.f2.length (rd_T29 xs i).f0.f2∧(rd_T29 xs i).f1.length≤c5∧k72.C w b (rd_T29 xs i).f1.length (rd_T29 xs i).f1:=by
 obtain ⟨ad,c,e,_,hK,k⟩:=Kd.C_get h z29 i d g
 have hc:∀ j u,c[j]?=some u→w.cell? (ad.add (i.toNat * 6+j))=some u:=k
 obtain ⟨a,c4,b,c5,rfl,l,m,o,p⟩:=k29_open hK
 exact ⟨ad,a,c4,b,c5,e,hc 0 _ rfl,by rw [← qu_ _ _ 1 (by omega)];exact hc 1 _ rfl,by rw [← qu_ _ _ 2 (by omega)];exact hc 2 _ rfl,by rw [← qu_ _ _ 3 (by omega)];exact hc 3 _ rfl,by rw [← qu_ _ _ 4 (by omega)];exact hc 4 _ rfl,by rw [← qu_ _ _ 5 (by omega)];exact hc 5 _ rfl,l,m,o,p⟩
end Go.Proofs.Ytjhgkonacdimfac.PFnExactTreeServe
