-- by a program of this session's: scripts that stand several times in the printed texts
import Derived.Test.YtjhgkonacdimfacProg
import Derived.Below
import Derived.Deep.Draws
import Derived.Deep.AppendLies
import Derived.Maps.AppendAt
import Derived.OwnWalk
import Derived.Laws.BytesArg
import Derived.Laws.MakeOwn
import Derived.Laws.OwnMore
import Derived.Deep.OwnRows
import Derived.Tactics
import Derived.Lib.ConvBytes
import Derived.Laws.Slices
import Derived.WalkKit
import Derived.KernelRfl
import Derived.RowKit3
import Derived.Deep.LoopGhost
import Derived.Deep.QuietTactic
import Derived.BigQuiet
import Derived.WideLaws
import Derived.Deep.DeepCutAuto
import Derived.Deep.CutBlock
import Derived.Deep.RegionHeld3
import Derived.Laws.Rows
import Derived.Lib.AppendStr
import Derived.ArgAppend
import Derived.Laws.IdiomCopy
import Derived.OrdersHeld
import Derived.Laws.BitsLemmas
import Derived.RowKit
import Derived.Test.YtjhgkonacdimfacVWords
import Derived.Test.YtjhgkonacdimfacVOpen
import Derived.Test.YtjhgkonacdimfacVMap
import Derived.Test.YtjhgkonacdimfacWWords
import Derived.Test.YtjhgkonacdimfacWLast
import Derived.Test.YtjhgkonacdimfacWTab
import Derived.Test.YtjhgkonacdimfacWFour
import Derived.Test.YtjhgkonacdimfacWQPut
import Derived.Test.YtjhgkonacdimfacWApart
import Derived.Test.YtjhgkonacdimfacWArr
import Derived.Test.YtjhgkonacdimfacWZeros
import Derived.Test.YtjhgkonacdimfacWFoot
import Derived.Test.YtjhgkonacdimfacWKept
import Derived.Test.YtjhgkonacdimfacWShare
import Derived.Test.YtjhgkonacdimfacWN
import Derived.Test.YtjhgkonacdimfacWFootNe
import Derived.Test.YtjhgkonacdimfacWAt
import Derived.Test.YtjhgkonacdimfacWEqStruct
import Derived.Test.YtjhgkonacdimfacWRepsOne
import Derived.Test.YtjhgkonacdimfacWInv
import Derived.Test.YtjhgkonacdimfacWInvWords
import Derived.Test.YtjhgkonacdimfacWGuard
import Derived.Test.YtjhgkonacdimfacWNEv
import Derived.Test.YtjhgkonacdimfacWMore
namespace Go.Proofs.Ytjhgkonacdimfac.ZFnExactTreeServe
open Go.RowKit Go.Proofs.YtjhgkonacdimfacW.PrintWords Go.Proofs.YtjhgkonacdimfacW.PrintLast Go.Proofs.YtjhgkonacdimfacW.PrintMore Go.Proofs.YtjhgkonacdimfacV
theorem Z0 {P:Prop} (h:P:=by refine pk_ ?_;refine qy_ (cs:=#[.int .i64 ((qc_ l0_5 Ja).f0),.int .i64 ((qc_ l0_5 Ja).f1.f0),.int .i64 ((qc_ l0_5 Ja).f1.f1.f0),.int .i64 ((qc_ l0_5 Ja).f1.f1.f1),.int .i64 ((qc_ l0_5 Ja).f1.f1.f2),.slice none 0 0]) ?_ 5 _ rfl;refine pk_ ?_;refine qy_ (cs:=#[.int .i64 ((qc_ l0_5 Ja).f0),.int .i64 ((qc_ l0_5 Ja).f1.f0),.int .i64 ((qc_ l0_5 Ja).f1.f1.f0),.int .i64 ((qc_ l0_5 Ja).f1.f1.f1),.int .i64 0,.slice none 0 0]) ?_ 4 _ rfl;refine pk_ ?_;refine qy_ (cs:=#[.int .i64 ((qc_ l0_5 Ja).f0),.int .i64 ((qc_ l0_5 Ja).f1.f0),.int .i64 ((qc_ l0_5 Ja).f1.f1.f0),.int .i64 0,.int .i64 0,.slice none 0 0]) ?_ 3 _ rfl;refine pk_ ?_;refine qy_ (cs:=#[.int .i64 ((qc_ l0_5 Ja).f0),.int .i64 ((qc_ l0_5 Ja).f1.f0),.int .i64 0,.int .i64 0,.int .i64 0,.slice none 0 0]) ?_ 2 _ rfl;refine pk_ ?_;refine qy_ (cs:=#[.int .i64 ((qc_ l0_5 Ja).f0),.int .i64 0,.int .i64 0,.int .i64 0,.int .i64 0,.slice none 0 0]) ?_ 1 _ rfl;refine pk_ ?_;refine qy_ (cs:=#[.int .i64 0,.int .i64 0,.int .i64 0,.int .i64 0,.int .i64 0,.slice none 0 0]) ?_ 0 _ rfl;refine pk_ ?_;exact Ua.out):P:=h
theorem Z1 {P:Prop} (h:P:=by refine pk_ ?_;refine qy_ (cs:=#[.int .i64 Og,.int .i64 Jh,.int .i64 Oh,.int .i64 Xh,.slice Xd Ub.length Od,.slice none 0 0]) ?_ 5 _ rfl;refine pk_ ?_;refine qy_ (cs:=#[.int .i64 Og,.int .i64 Jh,.int .i64 Oh,.int .i64 Xh,.slice none 0 0,.slice none 0 0]) ?_ 4 _ rfl;refine pk_ ?_;refine qy_ (cs:=#[.int .i64 Og,.int .i64 Jh,.int .i64 Oh,.int .i64 0,.slice none 0 0,.slice none 0 0]) ?_ 3 _ rfl;refine pk_ ?_;refine qy_ (cs:=#[.int .i64 Og,.int .i64 Jh,.int .i64 0,.int .i64 0,.slice none 0 0,.slice none 0 0]) ?_ 2 _ rfl;refine pk_ ?_;refine qy_ (cs:=#[.int .i64 Og,.int .i64 0,.int .i64 0,.int .i64 0,.slice none 0 0,.slice none 0 0]) ?_ 1 _ rfl;refine pk_ ?_;refine qy_ (cs:=#[.int .i64 0,.int .i64 0,.int .i64 0,.int .i64 0,.slice none 0 0,.slice none 0 0]) ?_ 0 _ rfl;refine pk_ ?_;exact Jb.out):P:=h
theorem Z2 {P:Prop} (h:P:=by refine pk_ ?_;refine qy_ (cs:=#[.int .i64 Oi,.int .i64 Kj,.int .i64 Jk,.int .i64 Uk,.slice Om Mj.length Mm,.slice none 0 0]) ?_ 5 _ rfl;refine pk_ ?_;refine qy_ (cs:=#[.int .i64 Oi,.int .i64 Kj,.int .i64 Jk,.int .i64 Uk,.slice none 0 0,.slice none 0 0]) ?_ 4 _ rfl;refine pk_ ?_;refine qy_ (cs:=#[.int .i64 Oi,.int .i64 Kj,.int .i64 Jk,.int .i64 0,.slice none 0 0,.slice none 0 0]) ?_ 3 _ rfl;refine pk_ ?_;refine qy_ (cs:=#[.int .i64 Oi,.int .i64 Kj,.int .i64 0,.int .i64 0,.slice none 0 0,.slice none 0 0]) ?_ 2 _ rfl;refine pk_ ?_;refine qy_ (cs:=#[.int .i64 Oi,.int .i64 0,.int .i64 0,.int .i64 0,.slice none 0 0,.slice none 0 0]) ?_ 1 _ rfl;refine pk_ ?_;refine qy_ (cs:=#[.int .i64 0,.int .i64 0,.int .i64 0,.int .i64 0,.slice none 0 0,.slice none 0 0]) ?_ 0 _ rfl;refine pk_ ?_;exact Kf.out):P:=h
theorem Z3 {P:Prop} (h:P:=by refine pk_ ?_;refine qy_ (cs:=#[.int .i64 0,.int .i64 0,.int .i64 0,.int .i64 0,.slice none 0 0,.slice none 0 0]) ?_ 5 _ rfl;refine pk_ ?_;refine qy_ (cs:=#[.int .i64 0,.int .i64 0,.int .i64 0,.int .i64 0,.slice none 0 0,.slice none 0 0]) ?_ 4 _ rfl;refine pk_ ?_;refine qy_ (cs:=#[.int .i64 0,.int .i64 0,.int .i64 0,.int .i64 0,.slice none 0 0,.slice none 0 0]) ?_ 3 _ rfl;refine pk_ ?_;refine qy_ (cs:=#[.int .i64 0,.int .i64 0,.int .i64 0,.int .i64 0,.slice none 0 0,.slice none 0 0]) ?_ 2 _ rfl;refine pk_ ?_;refine qy_ (cs:=#[.int .i64 0,.int .i64 0,.int .i64 0,.int .i64 0,.slice none 0 0,.slice none 0 0]) ?_ 1 _ rfl;refine pk_ ?_;refine qy_ (cs:=#[.int .i64 0,.int .i64 0,.int .i64 0,.int .i64 0,.slice none 0 0,.slice none 0 0]) ?_ 0 _ rfl;refine pk_ ?_;exact Ua.out):P:=h
theorem Z4 {P:Prop} (h:P:=by refine pk_ ?_;refine qy_ (cs:=#[.int .i64 0,.int .i64 0,.int .i64 0,.int .i64 0,.slice none 0 0,.slice none 0 0]) ?_ 5 _ rfl;refine pk_ ?_;refine qy_ (cs:=#[.int .i64 0,.int .i64 0,.int .i64 0,.int .i64 0,.slice none 0 0,.slice none 0 0]) ?_ 4 _ rfl;refine pk_ ?_;refine qy_ (cs:=#[.int .i64 0,.int .i64 0,.int .i64 0,.int .i64 0,.slice none 0 0,.slice none 0 0]) ?_ 3 _ rfl;refine pk_ ?_;refine qy_ (cs:=#[.int .i64 0,.int .i64 0,.int .i64 0,.int .i64 0,.slice none 0 0,.slice none 0 0]) ?_ 2 _ rfl;refine pk_ ?_;refine qy_ (cs:=#[.int .i64 0,.int .i64 0,.int .i64 0,.int .i64 0,.slice none 0 0,.slice none 0 0]) ?_ 1 _ rfl;refine pk_ ?_;refine qy_ (cs:=#[.int .i64 0,.int .i64 0,.int .i64 0,.int .i64 0,.slice none 0 0,.slice none 0 0]) ?_ 0 _ rfl;refine pk_ ?_;exact Ka.out):P:=h
theorem Z5 {P:Prop} (h:P:=by refine pk_ ?_;refine qy_ (cs:=#[.int .i64 0,.int .i64 0,.int .i64 0,.int .i64 0,.slice none 0 0,.slice none 0 0]) ?_ 5 _ rfl;refine pk_ ?_;refine qy_ (cs:=#[.int .i64 0,.int .i64 0,.int .i64 0,.int .i64 0,.slice none 0 0,.slice none 0 0]) ?_ 4 _ rfl;refine pk_ ?_;refine qy_ (cs:=#[.int .i64 0,.int .i64 0,.int .i64 0,.int .i64 0,.slice none 0 0,.slice none 0 0]) ?_ 3 _ rfl;refine pk_ ?_;refine qy_ (cs:=#[.int .i64 0,.int .i64 0,.int .i64 0,.int .i64 0,.slice none 0 0,.slice none 0 0]) ?_ 2 _ rfl;refine pk_ ?_;refine qy_ (cs:=#[.int .i64 0,.int .i64 0,.int .i64 0,.int .i64 0,.slice none 0 0,.slice none 0 0]) ?_ 1 _ rfl;refine pk_ ?_;refine qy_ (cs:=#[.int .i64 0,.int .i64 0,.int .i64 0,.int .i64 0,.slice none 0 0,.slice none 0 0]) ?_ 0 _ rfl;refine pk_ ?_;exact Oa.out):P:=h
theorem Z6 {P:Prop} (h:P:=by refine pk_ ?_;refine qy_ (cs:=#[.int .i64 0,.int .i64 0,.int .i64 0,.int .i64 0,.slice none 0 0]) ?_ 4 _ rfl;refine pk_ ?_;refine qy_ (cs:=#[.int .i64 0,.int .i64 0,.int .i64 0,.int .i64 0,.slice none 0 0]) ?_ 3 _ rfl;refine pk_ ?_;refine qy_ (cs:=#[.int .i64 0,.int .i64 0,.int .i64 0,.int .i64 0,.slice none 0 0]) ?_ 2 _ rfl;refine pk_ ?_;refine qy_ (cs:=#[.int .i64 0,.int .i64 0,.int .i64 0,.int .i64 0,.slice none 0 0]) ?_ 1 _ rfl;refine pk_ ?_;refine qy_ (cs:=#[.int .i64 0,.int .i64 0,.int .i64 0,.int .i64 0,.slice none 0 0]) ?_ 0 _ rfl;refine pk_ ?_;exact Xa.out):P:=h
theorem Z7 {P:Prop} (h:P:=by refine pk_ ?_;refine qy_ (cs:=#[.int .i64 0,.int .i64 0,.int .i64 0,.int .i64 0,.slice none 0 0]) ?_ 4 _ rfl;refine pk_ ?_;refine qy_ (cs:=#[.int .i64 0,.int .i64 0,.int .i64 0,.int .i64 0,.slice none 0 0]) ?_ 3 _ rfl;refine pk_ ?_;refine qy_ (cs:=#[.int .i64 0,.int .i64 0,.int .i64 0,.int .i64 0,.slice none 0 0]) ?_ 2 _ rfl;refine pk_ ?_;refine qy_ (cs:=#[.int .i64 0,.int .i64 0,.int .i64 0,.int .i64 0,.slice none 0 0]) ?_ 1 _ rfl;refine pk_ ?_;refine qy_ (cs:=#[.int .i64 0,.int .i64 0,.int .i64 0,.int .i64 0,.slice none 0 0]) ?_ 0 _ rfl;refine pk_ ?_;exact Mb.out):P:=h
theorem Z8 {P:Prop} (h:P:=by refine pk_ ?_;refine qy_ (cs:=#[.int .i64 0,.int .i64 0,.int .i64 0]) ?_ 2 _ rfl;refine pk_ ?_;refine qy_ (cs:=#[.int .i64 0,.int .i64 0,.int .i64 0]) ?_ 1 _ rfl;refine pk_ ?_;refine qy_ (cs:=#[.int .i64 0,.int .i64 0,.int .i64 0]) ?_ 0 _ rfl;refine pk_ ?_;exact BK547.out):P:=h
theorem Z9 {P:Prop} (h:P:=by refine pk_ ?_;refine qy_ (cs:=#[.int .i64 0,.int .i64 0,.int .i64 0]) ?_ 2 _ rfl;refine pk_ ?_;refine qy_ (cs:=#[.int .i64 0,.int .i64 0,.int .i64 0]) ?_ 1 _ rfl;refine pk_ ?_;refine qy_ (cs:=#[.int .i64 0,.int .i64 0,.int .i64 0]) ?_ 0 _ rfl;refine pk_ ?_;exact Ma.out):P:=h
theorem Z10 {P:Prop} (h:P:=by refine pk_ ?_;refine qy_ (cs:=#[.int .i64 0,.int .i64 0,.int .i64 0]) ?_ 2 _ rfl;refine pk_ ?_;refine qy_ (cs:=#[.int .i64 0,.int .i64 0,.int .i64 0]) ?_ 1 _ rfl;refine pk_ ?_;refine qy_ (cs:=#[.int .i64 0,.int .i64 0,.int .i64 0]) ?_ 0 _ rfl;refine pk_ ?_;exact Oa.out):P:=h
theorem Z11 {P:Prop} (h:P:=by refine pk_ ?_;refine qq_ ?_ Jb.out _;refine pk_ ?_;refine qq_ ?_ Jb.out _;refine pk_ ?_;refine qq_ ?_ Jb.out _;refine pk_ ?_;refine qq_ ?_ Jb.out _;refine pk_ ?_;refine qq_ ?_ Jb.out _;refine pk_ ?_;refine qq_ ?_ Jb.out _;refine pk_ ?_;exact Oa.out):P:=h
theorem Z12 {P:Prop} (h:P:=by refine pk_ ?_;refine qq_ ?_ On.out _;refine pk_ ?_;refine qq_ ?_ On.out _;refine pk_ ?_;refine qq_ ?_ On.out _;refine pk_ ?_;refine qq_ ?_ On.out _;refine pk_ ?_;refine qq_ ?_ On.out _;refine pk_ ?_;refine qq_ ?_ On.out _;refine pk_ ?_;exact Ja.out):P:=h
theorem Z13 {P:Prop} (h:P:=by refine pk_ ?_;refine qq_ ?_ Jj.out _;refine pk_ ?_;refine qq_ ?_ Jj.out _;refine pk_ ?_;refine qq_ ?_ Jj.out _;refine pk_ ?_;refine qq_ ?_ Jj.out _;refine pk_ ?_;refine qq_ ?_ Jj.out _;refine pk_ ?_;refine qq_ ?_ Jj.out _;refine pk_ ?_;exact Ka.out):P:=h
theorem Z14 {P:Prop} (h:P:=by refine pk_ ?_;refine qq_ ?_ Kn.out _;refine pk_ ?_;refine qq_ ?_ Kn.out _;refine pk_ ?_;refine qq_ ?_ Kn.out _;refine pk_ ?_;refine qq_ ?_ Kn.out _;refine pk_ ?_;refine qq_ ?_ Kn.out _;refine pk_ ?_;refine qq_ ?_ Kn.out _;refine pk_ ?_;exact Oa.out):P:=h
theorem Z15 {P:Prop} (h:P:=by refine pk_ ?_;refine qq_ ?_ Uf.out _;refine pk_ ?_;refine qq_ ?_ Uf.out _;refine pk_ ?_;refine qq_ ?_ Uf.out _;refine pk_ ?_;refine qq_ ?_ Uf.out _;refine pk_ ?_;refine qq_ ?_ Uf.out _;refine pk_ ?_;refine qq_ ?_ Uf.out _;refine pk_ ?_;exact Ma.out):P:=h
theorem Z16 {P:Prop} (h:P:=by refine pk_ ?_;refine qq_ ?_ Ug.out _;refine pk_ ?_;refine qq_ ?_ Ug.out _;refine pk_ ?_;refine qq_ ?_ Ug.out _;refine pk_ ?_;refine qq_ ?_ Ug.out _;refine pk_ ?_;refine qq_ ?_ Ug.out _;refine pk_ ?_;refine qq_ ?_ Ug.out _;refine pk_ ?_;exact Ja.out):P:=h
theorem Z17 {P:Prop} (h:P:=by refine pk_ ?_;refine qq_ ?_ Uj.out _;refine pk_ ?_;refine qq_ ?_ Uj.out _;refine pk_ ?_;refine qq_ ?_ Uj.out _;refine pk_ ?_;refine qq_ ?_ Uj.out _;refine pk_ ?_;refine qq_ ?_ Uj.out _;refine pk_ ?_;refine qq_ ?_ Uj.out _;refine pk_ ?_;exact Ka.out):P:=h
theorem Z18 {P:Prop} (h:P:=by refine pk_ ?_;refine qq_ ?_ Un.out _;refine pk_ ?_;refine qq_ ?_ Un.out _;refine pk_ ?_;refine qq_ ?_ Un.out _;refine pk_ ?_;refine qq_ ?_ Un.out _;refine pk_ ?_;refine qq_ ?_ Un.out _;refine pk_ ?_;refine qq_ ?_ Un.out _;refine pk_ ?_;exact Oa.out):P:=h
theorem Z19 {P:Prop} (h:P:=by refine pk_ ?_;refine qq_ ?_ Xn.out _;refine pk_ ?_;refine qq_ ?_ Xn.out _;refine pk_ ?_;refine qq_ ?_ Xn.out _;refine pk_ ?_;refine qq_ ?_ Xn.out _;refine pk_ ?_;refine qq_ ?_ Xn.out _;refine pk_ ?_;refine qq_ ?_ Xn.out _;refine pk_ ?_;exact Ma.out):P:=h
theorem Z20 {P:Prop} (h:P:=by refine pk_ ?_;refine qq_ ?_ Jo.out _;refine pk_ ?_;refine qq_ ?_ Jo.out _;refine pk_ ?_;refine qq_ ?_ Jo.out _;refine pk_ ?_;refine qq_ ?_ Jo.out _;refine pk_ ?_;refine qq_ ?_ Jo.out _;refine pk_ ?_;refine qq_ ?_ Jo.out _;refine pk_ ?_;exact Jb.out):P:=h
theorem Z21 {P:Prop} (h:P:=by repeat (first | (with_reducible exact HR617_5.out) | (with_reducible refine Kd.C_alloc ?_ _) | (with_reducible refine Kd.C_drewN ?_ _) | (with_reducible refine Kd.C_drew ?_) | exact HR617_5.out)):P:=h
theorem Z22 {P:Prop} (h:P:=by repeat (first | (with_reducible first | exact HK.out | apply Kept.alloc | apply Kept.drewN | apply Kept.drew | refine Kept.setCell ?_ (.inr GW666.out) _) | exact HK.out)):P:=h
theorem Z23 {P:Prop} (h:P:=by rintro w' ⟨s0,s1,s2,s3,s4,s5,s6,s7,s8,s9,s10,s11,s12,s13,s14,s15,s16,s17,s18,s19,s20,s21,s22⟩;go_simp;with_reducible rfl):P:=h
theorem Z24 {P:Prop} (h:P:=by (try simp only [List.map_toArray,List.map_cons,List.map_nil]);first | done | rfl | (simp only [List.length_drop,List.length_take];rfl) | (simp only [dgt_];rfl)):P:=h
theorem Z25 {P:Prop} (h:P:=by rintro w' ⟨s0,s1,s2,s3,s4,s5,s6,s7,s8,s9,s10,s11,s12,s13,s14,s15,s16,s17,s18,s19⟩;go_simp;with_reducible rfl):P:=h
theorem Z26 {P:Prop} (h:P:=by repeat (first | (with_reducible first | exact HK.out | apply Kept.alloc | apply Kept.drewN | apply Kept.drew) | exact HK.out)):P:=h
theorem Z27 {P:Prop} (h:P:=by first | (rw [qg_];exact hn443_0) | (show (Addr.add _ _).block≠_;rw [qg_];exact hn443_0) | exact hn443_0):P:=h
theorem Z28 {P:Prop} (h:P:=by first | (rw [qg_];exact hn443_1) | (show (Addr.add _ _).block≠_;rw [qg_];exact hn443_1) | exact hn443_1):P:=h
theorem Z29 {P:Prop} (h:P:=by first | (rw [qg_];exact hn443_2) | (show (Addr.add _ _).block≠_;rw [qg_];exact hn443_2) | exact hn443_2):P:=h
theorem Z30 {P:Prop} (h:P:=by first | (rw [qg_];exact hn443_3) | (show (Addr.add _ _).block≠_;rw [qg_];exact hn443_3) | exact hn443_3):P:=h
theorem Z31 {P:Prop} (h:P:=by first | (rw [qg_];exact hn443_4) | (show (Addr.add _ _).block≠_;rw [qg_];exact hn443_4) | exact hn443_4):P:=h
theorem Z32 {P:Prop} (h:P:=by first | (rw [qg_];exact hn443_5) | (show (Addr.add _ _).block≠_;rw [qg_];exact hn443_5) | exact hn443_5):P:=h
theorem Z33 {P:Prop} (h:P:=by first | (rw [qg_];exact hn567_0) | (show (Addr.add _ _).block≠_;rw [qg_];exact hn567_0) | exact hn567_0):P:=h
theorem Z34 {P:Prop} (h:P:=by first | (rw [qg_];exact hn567_1) | (show (Addr.add _ _).block≠_;rw [qg_];exact hn567_1) | exact hn567_1):P:=h
theorem Z35 {P:Prop} (h:P:=by first | (rw [qg_];exact hn567_2) | (show (Addr.add _ _).block≠_;rw [qg_];exact hn567_2) | exact hn567_2):P:=h
theorem Z36 {P:Prop} (h:P:=by first | (rw [qg_];exact hn567_3) | (show (Addr.add _ _).block≠_;rw [qg_];exact hn567_3) | exact hn567_3):P:=h
theorem Z37 {P:Prop} (h:P:=by first | (rw [qg_];exact hn567_4) | (show (Addr.add _ _).block≠_;rw [qg_];exact hn567_4) | exact hn567_4):P:=h
theorem Z38 {P:Prop} (h:P:=by rintro w' ⟨s0,s1,s2,s3,s4,s5,s6,s7,s8,s9,s10,s11,s12,s13,s14,s15,s16,s17⟩;go_simp;with_reducible rfl):P:=h
theorem Z39 {P:Prop} (h:P:=by rintro w' ⟨s0,s1,s2,s3,s4,s5,s6,s7,s8,s9,s10,s11,s12,s13,s14,s15,s16⟩;go_simp;with_reducible rfl):P:=h
theorem Z40 {P:Prop} (h:P:=by rintro w' ⟨s0,s1,s2,s3,s4,s5,s6,s7,s8,s9,s10,s11,s12,s13,s14⟩;go_simp;with_reducible rfl):P:=h
theorem Z41 {P:Prop} (h:P:=by rintro w' ⟨s0,s1,s2,s3,s4,s5,s6,s7,s8,s9,s10,s11,s12,s13⟩;go_simp;with_reducible rfl):P:=h
theorem Z42 {P:Prop} (h:P:=by first | (simp only [putAll,Act.put,List.setIfInBounds_toArray,List.set_cons_zero,List.set_cons_succ];done) | (simp only [dgt_,putAll,Act.put,List.setIfInBounds_toArray,List.set_cons_zero,List.set_cons_succ];done)):P:=h
theorem Z43 {P:Prop} (h:P:=by rintro w' ⟨s0,s1,s2,s3,s4,s5,s6,s7,s8,s9,s10,s11,s12⟩;go_simp;with_reducible rfl):P:=h
theorem Z44 {P:Prop} (h:P:=by rintro w' ⟨s0,s1,s2,s3,s4,s5,s6,s7,s8,s9,s10,s11⟩;go_simp;with_reducible rfl):P:=h
theorem Z45 {P:Prop} (h:P:=by have:=World.block_lt_of_cell? _ _ hw189_0;first | rwa [qg_] at this | exact this):P:=h
theorem Z46 {P:Prop} (h:P:=by have:=World.block_lt_of_cell? _ _ hw190_0;first | rwa [qg_] at this | exact this):P:=h
theorem Z47 {P:Prop} (h:P:=by have:=World.block_lt_of_cell? _ _ hw191_0;first | rwa [qg_] at this | exact this):P:=h
theorem Z48 {P:Prop} (h:P:=by have:=World.block_lt_of_cell? _ _ hw243_0;first | rwa [qg_] at this | exact this):P:=h
theorem Z49 {P:Prop} (h:P:=by have:=World.block_lt_of_cell? _ _ hw243_1;first | rwa [qg_] at this | exact this):P:=h
theorem Z50 {P:Prop} (h:P:=by have:=World.block_lt_of_cell? _ _ hw243_2;first | rwa [qg_] at this | exact this):P:=h
theorem Z51 {P:Prop} (h:P:=by have:=World.block_lt_of_cell? _ _ hw243_3;first | rwa [qg_] at this | exact this):P:=h
theorem Z52 {P:Prop} (h:P:=by have:=World.block_lt_of_cell? _ _ hw243_4;first | rwa [qg_] at this | exact this):P:=h
theorem Z53 {P:Prop} (h:P:=by have:=World.block_lt_of_cell? _ _ hw243_5;first | rwa [qg_] at this | exact this):P:=h
theorem Z54 {P:Prop} (h:P:=by have:=World.block_lt_of_cell? _ _ hw248_0;first | rwa [qg_] at this | exact this):P:=h
theorem Z55 {P:Prop} (h:P:=by have:=World.block_lt_of_cell? _ _ hw248_1;first | rwa [qg_] at this | exact this):P:=h
theorem Z56 {P:Prop} (h:P:=by have:=World.block_lt_of_cell? _ _ hw248_2;first | rwa [qg_] at this | exact this):P:=h
theorem Z57 {P:Prop} (h:P:=by have:=World.block_lt_of_cell? _ _ hw248_3;first | rwa [qg_] at this | exact this):P:=h
theorem Z58 {P:Prop} (h:P:=by have:=World.block_lt_of_cell? _ _ hw248_4;first | rwa [qg_] at this | exact this):P:=h
theorem Z59 {P:Prop} (h:P:=by have:=World.block_lt_of_cell? _ _ hw248_5;first | rwa [qg_] at this | exact this):P:=h
theorem Z60 {P:Prop} (h:P:=by have:=World.block_lt_of_cell? _ _ hw249_0;first | rwa [qg_] at this | exact this):P:=h
theorem Z61 {P:Prop} (h:P:=by have:=World.block_lt_of_cell? _ _ hw249_1;first | rwa [qg_] at this | exact this):P:=h
theorem Z62 {P:Prop} (h:P:=by have:=World.block_lt_of_cell? _ _ hw249_2;first | rwa [qg_] at this | exact this):P:=h
theorem Z63 {P:Prop} (h:P:=by have:=World.block_lt_of_cell? _ _ hw249_3;first | rwa [qg_] at this | exact this):P:=h
theorem Z64 {P:Prop} (h:P:=by have:=World.block_lt_of_cell? _ _ hw249_4;first | rwa [qg_] at this | exact this):P:=h
theorem Z65 {P:Prop} (h:P:=by have:=World.block_lt_of_cell? _ _ hw249_5;first | rwa [qg_] at this | exact this):P:=h
theorem Z66 {P:Prop} (h:P:=by have:=World.block_lt_of_cell? _ _ hw272_0;first | rwa [qg_] at this | exact this):P:=h
theorem Z67 {P:Prop} (h:P:=by have:=World.block_lt_of_cell? _ _ hw272_1;first | rwa [qg_] at this | exact this):P:=h
theorem Z68 {P:Prop} (h:P:=by have:=World.block_lt_of_cell? _ _ hw272_2;first | rwa [qg_] at this | exact this):P:=h
theorem Z69 {P:Prop} (h:P:=by have:=World.block_lt_of_cell? _ _ hw272_3;first | rwa [qg_] at this | exact this):P:=h
theorem Z70 {P:Prop} (h:P:=by have:=World.block_lt_of_cell? _ _ hw272_4;first | rwa [qg_] at this | exact this):P:=h
theorem Z71 {P:Prop} (h:P:=by have:=World.block_lt_of_cell? _ _ hw272_5;first | rwa [qg_] at this | exact this):P:=h
theorem Z72 {P:Prop} (h:P:=by have:=World.block_lt_of_cell? _ _ hw273_0;first | rwa [qg_] at this | exact this):P:=h
theorem Z73 {P:Prop} (h:P:=by have:=World.block_lt_of_cell? _ _ hw273_1;first | rwa [qg_] at this | exact this):P:=h
theorem Z74 {P:Prop} (h:P:=by have:=World.block_lt_of_cell? _ _ hw273_2;first | rwa [qg_] at this | exact this):P:=h
theorem Z75 {P:Prop} (h:P:=by have:=World.block_lt_of_cell? _ _ hw273_3;first | rwa [qg_] at this | exact this):P:=h
theorem Z76 {P:Prop} (h:P:=by have:=World.block_lt_of_cell? _ _ hw273_4;first | rwa [qg_] at this | exact this):P:=h
theorem Z77 {P:Prop} (h:P:=by have:=World.block_lt_of_cell? _ _ hw273_5;first | rwa [qg_] at this | exact this):P:=h
theorem Z78 {P:Prop} (h:P:=by have:=World.block_lt_of_cell? _ _ hw303_0;first | rwa [qg_] at this | exact this):P:=h
theorem Z79 {P:Prop} (h:P:=by have:=World.block_lt_of_cell? _ _ hw303_1;first | rwa [qg_] at this | exact this):P:=h
theorem Z80 {P:Prop} (h:P:=by have:=World.block_lt_of_cell? _ _ hw303_2;first | rwa [qg_] at this | exact this):P:=h
theorem Z81 {P:Prop} (h:P:=by have:=World.block_lt_of_cell? _ _ hw303_3;first | rwa [qg_] at this | exact this):P:=h
theorem Z82 {P:Prop} (h:P:=by have:=World.block_lt_of_cell? _ _ hw303_4;first | rwa [qg_] at this | exact this):P:=h
theorem Z83 {P:Prop} (h:P:=by have:=World.block_lt_of_cell? _ _ hw303_5;first | rwa [qg_] at this | exact this):P:=h
theorem Z84 {P:Prop} (h:P:=by have:=World.block_lt_of_cell? _ _ hx443_0;first | rwa [qg_] at this | exact this):P:=h
theorem Z85 {P:Prop} (h:P:=by rintro w' ⟨s0,s1,s2,s3,s4,s5,s6,s7,s8,s9,s10⟩;go_simp;with_reducible rfl):P:=h
theorem Z86 {P:Prop} (h:P:=by rintro w' ⟨s0,s1,s2,s3,s4,s5,s6,s7,s8⟩;go_simp;with_reducible rfl):P:=h
theorem Z87 {P:Prop} (h:P:=by rintro w' ⟨s0,s1,s2,s3,s4,s5⟩;go_simp;with_reducible rfl):P:=h
theorem Z88 {P:Prop} (h:P:=by rintro w' ⟨s0,s1,s2,s3,s4⟩;go_simp;with_reducible rfl):P:=h
theorem Z89 {P:Prop} (h:P:=by rintro w' ⟨s0,s1,s2,s3⟩;go_simp;with_reducible rfl):P:=h
theorem Z90 {P:Prop} (h:P:=by rintro w' ⟨s0,s1,s2⟩;go_simp;with_reducible rfl):P:=h
theorem Z91 {P:Prop} (h:P:=by first | (with_reducible assumption) | assumption):P:=h
theorem Z92 {P:Prop} (h:P:=by first | rfl | (simp;done) | (simp [*];done)):P:=h
theorem Z93 {P:Prop} (h:P:=by first | rfl | (go_simp;done) | simp):P:=h
theorem Z94 {P:Prop} (h:P:=by rw [hw];exact HP12.2):P:=h
theorem Z95 {P:Prop} (h:P:=by rw [hr_.out];decide):P:=h
theorem Z96 {P:Prop} (h:P:=by first | exact Nat.ne_of_lt (Nat.lt_of_lt_of_le Z45 GW188.out) | (rw [qg_];exact Nat.ne_of_lt (Nat.lt_of_lt_of_le Z45 GW188.out)) | (show (Addr.add _ _).block≠_;rw [qg_];exact Nat.ne_of_lt (Nat.lt_of_lt_of_le Z45 GW188.out)) | (dsimp only;exact Nat.ne_of_lt (Nat.lt_of_lt_of_le Z45 GW188.out))):P:=h
theorem Z97 {P:Prop} (h:P:=by first | exact Nat.ne_of_lt (Nat.lt_of_lt_of_le Z46 GW188.out) | (rw [qg_];exact Nat.ne_of_lt (Nat.lt_of_lt_of_le Z46 GW188.out)) | (show (Addr.add _ _).block≠_;rw [qg_];exact Nat.ne_of_lt (Nat.lt_of_lt_of_le Z46 GW188.out)) | (dsimp only;exact Nat.ne_of_lt (Nat.lt_of_lt_of_le Z46 GW188.out))):P:=h
theorem Z98 {P:Prop} (h:P:=by first | exact Nat.ne_of_lt (Nat.lt_of_lt_of_le Z47 GW188.out) | (rw [qg_];exact Nat.ne_of_lt (Nat.lt_of_lt_of_le Z47 GW188.out)) | (show (Addr.add _ _).block≠_;rw [qg_];exact Nat.ne_of_lt (Nat.lt_of_lt_of_le Z47 GW188.out)) | (dsimp only;exact Nat.ne_of_lt (Nat.lt_of_lt_of_le Z47 GW188.out))):P:=h
theorem Z99 {P:Prop} (h:P:=by first | exact Nat.ne_of_lt (Nat.lt_of_lt_of_le Z48 Ob.out) | (rw [qg_];exact Nat.ne_of_lt (Nat.lt_of_lt_of_le Z48 Ob.out)) | (show (Addr.add _ _).block≠_;rw [qg_];exact Nat.ne_of_lt (Nat.lt_of_lt_of_le Z48 Ob.out)) | (dsimp only;exact Nat.ne_of_lt (Nat.lt_of_lt_of_le Z48 Ob.out))):P:=h
theorem Z100 {P:Prop} (h:P:=by first | exact Nat.ne_of_lt (Nat.lt_of_lt_of_le Z49 Ob.out) | (rw [qg_];exact Nat.ne_of_lt (Nat.lt_of_lt_of_le Z49 Ob.out)) | (show (Addr.add _ _).block≠_;rw [qg_];exact Nat.ne_of_lt (Nat.lt_of_lt_of_le Z49 Ob.out)) | (dsimp only;exact Nat.ne_of_lt (Nat.lt_of_lt_of_le Z49 Ob.out))):P:=h
theorem Z101 {P:Prop} (h:P:=by first | exact Nat.ne_of_lt (Nat.lt_of_lt_of_le Z50 Ob.out) | (rw [qg_];exact Nat.ne_of_lt (Nat.lt_of_lt_of_le Z50 Ob.out)) | (show (Addr.add _ _).block≠_;rw [qg_];exact Nat.ne_of_lt (Nat.lt_of_lt_of_le Z50 Ob.out)) | (dsimp only;exact Nat.ne_of_lt (Nat.lt_of_lt_of_le Z50 Ob.out))):P:=h
theorem Z102 {P:Prop} (h:P:=by first | exact Nat.ne_of_lt (Nat.lt_of_lt_of_le Z51 Ob.out) | (rw [qg_];exact Nat.ne_of_lt (Nat.lt_of_lt_of_le Z51 Ob.out)) | (show (Addr.add _ _).block≠_;rw [qg_];exact Nat.ne_of_lt (Nat.lt_of_lt_of_le Z51 Ob.out)) | (dsimp only;exact Nat.ne_of_lt (Nat.lt_of_lt_of_le Z51 Ob.out))):P:=h
theorem Z103 {P:Prop} (h:P:=by first | exact Nat.ne_of_lt (Nat.lt_of_lt_of_le Z52 Ob.out) | (rw [qg_];exact Nat.ne_of_lt (Nat.lt_of_lt_of_le Z52 Ob.out)) | (show (Addr.add _ _).block≠_;rw [qg_];exact Nat.ne_of_lt (Nat.lt_of_lt_of_le Z52 Ob.out)) | (dsimp only;exact Nat.ne_of_lt (Nat.lt_of_lt_of_le Z52 Ob.out))):P:=h
theorem Z104 {P:Prop} (h:P:=by first | exact Nat.ne_of_lt (Nat.lt_of_lt_of_le Z53 Ob.out) | (rw [qg_];exact Nat.ne_of_lt (Nat.lt_of_lt_of_le Z53 Ob.out)) | (show (Addr.add _ _).block≠_;rw [qg_];exact Nat.ne_of_lt (Nat.lt_of_lt_of_le Z53 Ob.out)) | (dsimp only;exact Nat.ne_of_lt (Nat.lt_of_lt_of_le Z53 Ob.out))):P:=h
theorem Z105 {P:Prop} (h:P:=by first | exact Nat.ne_of_lt (Nat.lt_of_lt_of_le Z54 Ma.out) | (rw [qg_];exact Nat.ne_of_lt (Nat.lt_of_lt_of_le Z54 Ma.out)) | (show (Addr.add _ _).block≠_;rw [qg_];exact Nat.ne_of_lt (Nat.lt_of_lt_of_le Z54 Ma.out)) | (dsimp only;exact Nat.ne_of_lt (Nat.lt_of_lt_of_le Z54 Ma.out))):P:=h
theorem Z106 {P:Prop} (h:P:=by first | exact Nat.ne_of_lt (Nat.lt_of_lt_of_le Z55 Ma.out) | (rw [qg_];exact Nat.ne_of_lt (Nat.lt_of_lt_of_le Z55 Ma.out)) | (show (Addr.add _ _).block≠_;rw [qg_];exact Nat.ne_of_lt (Nat.lt_of_lt_of_le Z55 Ma.out)) | (dsimp only;exact Nat.ne_of_lt (Nat.lt_of_lt_of_le Z55 Ma.out))):P:=h
theorem Z107 {P:Prop} (h:P:=by first | exact Nat.ne_of_lt (Nat.lt_of_lt_of_le Z56 Ma.out) | (rw [qg_];exact Nat.ne_of_lt (Nat.lt_of_lt_of_le Z56 Ma.out)) | (show (Addr.add _ _).block≠_;rw [qg_];exact Nat.ne_of_lt (Nat.lt_of_lt_of_le Z56 Ma.out)) | (dsimp only;exact Nat.ne_of_lt (Nat.lt_of_lt_of_le Z56 Ma.out))):P:=h
theorem Z108 {P:Prop} (h:P:=by first | exact Nat.ne_of_lt (Nat.lt_of_lt_of_le Z57 Ma.out) | (rw [qg_];exact Nat.ne_of_lt (Nat.lt_of_lt_of_le Z57 Ma.out)) | (show (Addr.add _ _).block≠_;rw [qg_];exact Nat.ne_of_lt (Nat.lt_of_lt_of_le Z57 Ma.out)) | (dsimp only;exact Nat.ne_of_lt (Nat.lt_of_lt_of_le Z57 Ma.out))):P:=h
theorem Z109 {P:Prop} (h:P:=by first | exact Nat.ne_of_lt (Nat.lt_of_lt_of_le Z58 Ma.out) | (rw [qg_];exact Nat.ne_of_lt (Nat.lt_of_lt_of_le Z58 Ma.out)) | (show (Addr.add _ _).block≠_;rw [qg_];exact Nat.ne_of_lt (Nat.lt_of_lt_of_le Z58 Ma.out)) | (dsimp only;exact Nat.ne_of_lt (Nat.lt_of_lt_of_le Z58 Ma.out))):P:=h
theorem Z110 {P:Prop} (h:P:=by first | exact Nat.ne_of_lt (Nat.lt_of_lt_of_le Z59 Ma.out) | (rw [qg_];exact Nat.ne_of_lt (Nat.lt_of_lt_of_le Z59 Ma.out)) | (show (Addr.add _ _).block≠_;rw [qg_];exact Nat.ne_of_lt (Nat.lt_of_lt_of_le Z59 Ma.out)) | (dsimp only;exact Nat.ne_of_lt (Nat.lt_of_lt_of_le Z59 Ma.out))):P:=h
theorem Z111 {P:Prop} (h:P:=by first | exact Nat.ne_of_lt (Nat.lt_of_lt_of_le Z60 Ma.out) | (rw [qg_];exact Nat.ne_of_lt (Nat.lt_of_lt_of_le Z60 Ma.out)) | (show (Addr.add _ _).block≠_;rw [qg_];exact Nat.ne_of_lt (Nat.lt_of_lt_of_le Z60 Ma.out)) | (dsimp only;exact Nat.ne_of_lt (Nat.lt_of_lt_of_le Z60 Ma.out))):P:=h
theorem Z112 {P:Prop} (h:P:=by first | exact Nat.ne_of_lt (Nat.lt_of_lt_of_le Z61 Ma.out) | (rw [qg_];exact Nat.ne_of_lt (Nat.lt_of_lt_of_le Z61 Ma.out)) | (show (Addr.add _ _).block≠_;rw [qg_];exact Nat.ne_of_lt (Nat.lt_of_lt_of_le Z61 Ma.out)) | (dsimp only;exact Nat.ne_of_lt (Nat.lt_of_lt_of_le Z61 Ma.out))):P:=h
theorem Z113 {P:Prop} (h:P:=by first | exact Nat.ne_of_lt (Nat.lt_of_lt_of_le Z62 Ma.out) | (rw [qg_];exact Nat.ne_of_lt (Nat.lt_of_lt_of_le Z62 Ma.out)) | (show (Addr.add _ _).block≠_;rw [qg_];exact Nat.ne_of_lt (Nat.lt_of_lt_of_le Z62 Ma.out)) | (dsimp only;exact Nat.ne_of_lt (Nat.lt_of_lt_of_le Z62 Ma.out))):P:=h
theorem Z114 {P:Prop} (h:P:=by first | exact Nat.ne_of_lt (Nat.lt_of_lt_of_le Z63 Ma.out) | (rw [qg_];exact Nat.ne_of_lt (Nat.lt_of_lt_of_le Z63 Ma.out)) | (show (Addr.add _ _).block≠_;rw [qg_];exact Nat.ne_of_lt (Nat.lt_of_lt_of_le Z63 Ma.out)) | (dsimp only;exact Nat.ne_of_lt (Nat.lt_of_lt_of_le Z63 Ma.out))):P:=h
theorem Z115 {P:Prop} (h:P:=by first | exact Nat.ne_of_lt (Nat.lt_of_lt_of_le Z64 Ma.out) | (rw [qg_];exact Nat.ne_of_lt (Nat.lt_of_lt_of_le Z64 Ma.out)) | (show (Addr.add _ _).block≠_;rw [qg_];exact Nat.ne_of_lt (Nat.lt_of_lt_of_le Z64 Ma.out)) | (dsimp only;exact Nat.ne_of_lt (Nat.lt_of_lt_of_le Z64 Ma.out))):P:=h
theorem Z116 {P:Prop} (h:P:=by first | exact Nat.ne_of_lt (Nat.lt_of_lt_of_le Z65 Ma.out) | (rw [qg_];exact Nat.ne_of_lt (Nat.lt_of_lt_of_le Z65 Ma.out)) | (show (Addr.add _ _).block≠_;rw [qg_];exact Nat.ne_of_lt (Nat.lt_of_lt_of_le Z65 Ma.out)) | (dsimp only;exact Nat.ne_of_lt (Nat.lt_of_lt_of_le Z65 Ma.out))):P:=h
theorem Z117 {P:Prop} (h:P:=by first | exact Nat.ne_of_lt (Nat.lt_of_lt_of_le Z66 Ja.out) | (rw [qg_];exact Nat.ne_of_lt (Nat.lt_of_lt_of_le Z66 Ja.out)) | (show (Addr.add _ _).block≠_;rw [qg_];exact Nat.ne_of_lt (Nat.lt_of_lt_of_le Z66 Ja.out)) | (dsimp only;exact Nat.ne_of_lt (Nat.lt_of_lt_of_le Z66 Ja.out))):P:=h
theorem Z118 {P:Prop} (h:P:=by first | exact Nat.ne_of_lt (Nat.lt_of_lt_of_le Z67 Ja.out) | (rw [qg_];exact Nat.ne_of_lt (Nat.lt_of_lt_of_le Z67 Ja.out)) | (show (Addr.add _ _).block≠_;rw [qg_];exact Nat.ne_of_lt (Nat.lt_of_lt_of_le Z67 Ja.out)) | (dsimp only;exact Nat.ne_of_lt (Nat.lt_of_lt_of_le Z67 Ja.out))):P:=h
theorem Z119 {P:Prop} (h:P:=by first | exact Nat.ne_of_lt (Nat.lt_of_lt_of_le Z68 Ja.out) | (rw [qg_];exact Nat.ne_of_lt (Nat.lt_of_lt_of_le Z68 Ja.out)) | (show (Addr.add _ _).block≠_;rw [qg_];exact Nat.ne_of_lt (Nat.lt_of_lt_of_le Z68 Ja.out)) | (dsimp only;exact Nat.ne_of_lt (Nat.lt_of_lt_of_le Z68 Ja.out))):P:=h
theorem Z120 {P:Prop} (h:P:=by first | exact Nat.ne_of_lt (Nat.lt_of_lt_of_le Z69 Ja.out) | (rw [qg_];exact Nat.ne_of_lt (Nat.lt_of_lt_of_le Z69 Ja.out)) | (show (Addr.add _ _).block≠_;rw [qg_];exact Nat.ne_of_lt (Nat.lt_of_lt_of_le Z69 Ja.out)) | (dsimp only;exact Nat.ne_of_lt (Nat.lt_of_lt_of_le Z69 Ja.out))):P:=h
theorem Z121 {P:Prop} (h:P:=by first | exact Nat.ne_of_lt (Nat.lt_of_lt_of_le Z70 Ja.out) | (rw [qg_];exact Nat.ne_of_lt (Nat.lt_of_lt_of_le Z70 Ja.out)) | (show (Addr.add _ _).block≠_;rw [qg_];exact Nat.ne_of_lt (Nat.lt_of_lt_of_le Z70 Ja.out)) | (dsimp only;exact Nat.ne_of_lt (Nat.lt_of_lt_of_le Z70 Ja.out))):P:=h
theorem Z122 {P:Prop} (h:P:=by first | exact Nat.ne_of_lt (Nat.lt_of_lt_of_le Z71 Ja.out) | (rw [qg_];exact Nat.ne_of_lt (Nat.lt_of_lt_of_le Z71 Ja.out)) | (show (Addr.add _ _).block≠_;rw [qg_];exact Nat.ne_of_lt (Nat.lt_of_lt_of_le Z71 Ja.out)) | (dsimp only;exact Nat.ne_of_lt (Nat.lt_of_lt_of_le Z71 Ja.out))):P:=h
theorem Z123 {P:Prop} (h:P:=by first | exact Nat.ne_of_lt (Nat.lt_of_lt_of_le Z72 Ja.out) | (rw [qg_];exact Nat.ne_of_lt (Nat.lt_of_lt_of_le Z72 Ja.out)) | (show (Addr.add _ _).block≠_;rw [qg_];exact Nat.ne_of_lt (Nat.lt_of_lt_of_le Z72 Ja.out)) | (dsimp only;exact Nat.ne_of_lt (Nat.lt_of_lt_of_le Z72 Ja.out))):P:=h
theorem Z124 {P:Prop} (h:P:=by first | exact Nat.ne_of_lt (Nat.lt_of_lt_of_le Z73 Ja.out) | (rw [qg_];exact Nat.ne_of_lt (Nat.lt_of_lt_of_le Z73 Ja.out)) | (show (Addr.add _ _).block≠_;rw [qg_];exact Nat.ne_of_lt (Nat.lt_of_lt_of_le Z73 Ja.out)) | (dsimp only;exact Nat.ne_of_lt (Nat.lt_of_lt_of_le Z73 Ja.out))):P:=h
theorem Z125 {P:Prop} (h:P:=by first | exact Nat.ne_of_lt (Nat.lt_of_lt_of_le Z74 Ja.out) | (rw [qg_];exact Nat.ne_of_lt (Nat.lt_of_lt_of_le Z74 Ja.out)) | (show (Addr.add _ _).block≠_;rw [qg_];exact Nat.ne_of_lt (Nat.lt_of_lt_of_le Z74 Ja.out)) | (dsimp only;exact Nat.ne_of_lt (Nat.lt_of_lt_of_le Z74 Ja.out))):P:=h
theorem Z126 {P:Prop} (h:P:=by first | exact Nat.ne_of_lt (Nat.lt_of_lt_of_le Z75 Ja.out) | (rw [qg_];exact Nat.ne_of_lt (Nat.lt_of_lt_of_le Z75 Ja.out)) | (show (Addr.add _ _).block≠_;rw [qg_];exact Nat.ne_of_lt (Nat.lt_of_lt_of_le Z75 Ja.out)) | (dsimp only;exact Nat.ne_of_lt (Nat.lt_of_lt_of_le Z75 Ja.out))):P:=h
theorem Z127 {P:Prop} (h:P:=by first | exact Nat.ne_of_lt (Nat.lt_of_lt_of_le Z76 Ja.out) | (rw [qg_];exact Nat.ne_of_lt (Nat.lt_of_lt_of_le Z76 Ja.out)) | (show (Addr.add _ _).block≠_;rw [qg_];exact Nat.ne_of_lt (Nat.lt_of_lt_of_le Z76 Ja.out)) | (dsimp only;exact Nat.ne_of_lt (Nat.lt_of_lt_of_le Z76 Ja.out))):P:=h
theorem Z128 {P:Prop} (h:P:=by first | exact Nat.ne_of_lt (Nat.lt_of_lt_of_le Z77 Ja.out) | (rw [qg_];exact Nat.ne_of_lt (Nat.lt_of_lt_of_le Z77 Ja.out)) | (show (Addr.add _ _).block≠_;rw [qg_];exact Nat.ne_of_lt (Nat.lt_of_lt_of_le Z77 Ja.out)) | (dsimp only;exact Nat.ne_of_lt (Nat.lt_of_lt_of_le Z77 Ja.out))):P:=h
theorem Z129 {P:Prop} (h:P:=by first | exact Nat.ne_of_lt (Nat.lt_of_lt_of_le Z78 Oa.out) | (rw [qg_];exact Nat.ne_of_lt (Nat.lt_of_lt_of_le Z78 Oa.out)) | (show (Addr.add _ _).block≠_;rw [qg_];exact Nat.ne_of_lt (Nat.lt_of_lt_of_le Z78 Oa.out)) | (dsimp only;exact Nat.ne_of_lt (Nat.lt_of_lt_of_le Z78 Oa.out))):P:=h
theorem Z130 {P:Prop} (h:P:=by first | exact Nat.ne_of_lt (Nat.lt_of_lt_of_le Z79 Oa.out) | (rw [qg_];exact Nat.ne_of_lt (Nat.lt_of_lt_of_le Z79 Oa.out)) | (show (Addr.add _ _).block≠_;rw [qg_];exact Nat.ne_of_lt (Nat.lt_of_lt_of_le Z79 Oa.out)) | (dsimp only;exact Nat.ne_of_lt (Nat.lt_of_lt_of_le Z79 Oa.out))):P:=h
theorem Z131 {P:Prop} (h:P:=by first | exact Nat.ne_of_lt (Nat.lt_of_lt_of_le Z80 Oa.out) | (rw [qg_];exact Nat.ne_of_lt (Nat.lt_of_lt_of_le Z80 Oa.out)) | (show (Addr.add _ _).block≠_;rw [qg_];exact Nat.ne_of_lt (Nat.lt_of_lt_of_le Z80 Oa.out)) | (dsimp only;exact Nat.ne_of_lt (Nat.lt_of_lt_of_le Z80 Oa.out))):P:=h
theorem Z132 {P:Prop} (h:P:=by first | exact Nat.ne_of_lt (Nat.lt_of_lt_of_le Z81 Oa.out) | (rw [qg_];exact Nat.ne_of_lt (Nat.lt_of_lt_of_le Z81 Oa.out)) | (show (Addr.add _ _).block≠_;rw [qg_];exact Nat.ne_of_lt (Nat.lt_of_lt_of_le Z81 Oa.out)) | (dsimp only;exact Nat.ne_of_lt (Nat.lt_of_lt_of_le Z81 Oa.out))):P:=h
theorem Z133 {P:Prop} (h:P:=by first | exact Nat.ne_of_lt (Nat.lt_of_lt_of_le Z82 Oa.out) | (rw [qg_];exact Nat.ne_of_lt (Nat.lt_of_lt_of_le Z82 Oa.out)) | (show (Addr.add _ _).block≠_;rw [qg_];exact Nat.ne_of_lt (Nat.lt_of_lt_of_le Z82 Oa.out)) | (dsimp only;exact Nat.ne_of_lt (Nat.lt_of_lt_of_le Z82 Oa.out))):P:=h
theorem Z134 {P:Prop} (h:P:=by first | exact Nat.ne_of_lt (Nat.lt_of_lt_of_le Z83 Oa.out) | (rw [qg_];exact Nat.ne_of_lt (Nat.lt_of_lt_of_le Z83 Oa.out)) | (show (Addr.add _ _).block≠_;rw [qg_];exact Nat.ne_of_lt (Nat.lt_of_lt_of_le Z83 Oa.out)) | (dsimp only;exact Nat.ne_of_lt (Nat.lt_of_lt_of_le Z83 Oa.out))):P:=h
theorem Z135 {P:Prop} (h:P:=by first | exact Kd.own_blk (Kd.R_ne Ja.out Oa.out (by decide)) | (rw [qg_];exact Kd.own_blk (Kd.R_ne Ja.out Oa.out (by decide))) | (show (Addr.add _ _).block≠_;rw [qg_];exact Kd.own_blk (Kd.R_ne Ja.out Oa.out (by decide))) | (dsimp only;exact Kd.own_blk (Kd.R_ne Ja.out Oa.out (by decide)))):P:=h
theorem Z136 {P:Prop} (h:P:=by first | exact Kd.own_blk (Kd.R_ne Ja.out Ma.out (by decide)) | (rw [qg_];exact Kd.own_blk (Kd.R_ne Ja.out Ma.out (by decide))) | (show (Addr.add _ _).block≠_;rw [qg_];exact Kd.own_blk (Kd.R_ne Ja.out Ma.out (by decide))) | (dsimp only;exact Kd.own_blk (Kd.R_ne Ja.out Ma.out (by decide)))):P:=h
theorem Z137 {P:Prop} (h:P:=by have h_:=Kd.R_ne Mb.out Ka.out (by decide);intro e_;exact h_ (by rw [e_];rfl)):P:=h
theorem Z138 {P:Prop} (h:P:=by have h_:=Kd.R_ne Mb.out Ua.out (by decide);intro e_;exact h_ (by rw [e_];rfl)):P:=h
theorem Z139 {P:Prop} (h:P:=by have h_:=Kd.R_ne Mb.out Xa.out (by decide);intro e_;exact h_ (by rw [e_];rfl)):P:=h
theorem Z140 {P:Prop} (h:P:=by have h_:=Kd.R_ne Mb.out Kb.out (by decide);intro e_;exact h_ (by rw [e_];rfl)):P:=h
theorem Z141 {P:Prop} (h:P:=by have h_:=Kd.R_ne Mb.out Jc.out (by decide);intro e_;exact h_ (by rw [e_];rfl)):P:=h
end Go.Proofs.Ytjhgkonacdimfac.ZFnExactTreeServe
