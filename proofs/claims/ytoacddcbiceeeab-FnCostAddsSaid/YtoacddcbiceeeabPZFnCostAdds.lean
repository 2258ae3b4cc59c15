-- by a program of this session's: scripts that stand several times in the printed texts
import Derived.Test.YtoacddcbiceeeabProg
import Derived.Below
import Derived.Deep.Draws
import Derived.Deep.AppendLies
import Derived.Maps.AppendAt
import Derived.OwnWalk
import Derived.Laws.BytesArg
import Derived.Laws.MakeOwn
import Derived.Laws.OwnMore
import Derived.Deep.OwnRows
import Derived.Tactics
import Derived.Lib.ConvBytes
import Derived.Laws.Slices
import Derived.WalkKit
import Derived.KernelRfl
import Derived.RowKit3
import Derived.Deep.LoopGhost
import Derived.Deep.QuietTactic
import Derived.BigQuiet
import Derived.WideLaws
import Derived.Deep.DeepCutAuto
import Derived.Deep.CutBlock
import Derived.Deep.RegionHeld3
import Derived.Laws.Rows
import Derived.Lib.AppendStr
import Derived.ArgAppend
import Derived.Laws.IdiomCopy
import Derived.OrdersHeld
import Derived.Laws.BitsLemmas
import Derived.RowKit
import Derived.Test.YtoacddcbiceeeabVWords
import Derived.Test.YtoacddcbiceeeabVOpen
import Derived.Test.YtoacddcbiceeeabVMap
import Derived.Test.YtoacddcbiceeeabWWords
import Derived.Test.YtoacddcbiceeeabWLast
import Derived.Test.YtoacddcbiceeeabWTab
import Derived.Test.YtoacddcbiceeeabWFour
import Derived.Test.YtoacddcbiceeeabWQPut
import Derived.Test.YtoacddcbiceeeabWApart
import Derived.Test.YtoacddcbiceeeabWArr
import Derived.Test.YtoacddcbiceeeabWZeros
import Derived.Test.YtoacddcbiceeeabWFoot
import Derived.Test.YtoacddcbiceeeabWKept
import Derived.Test.YtoacddcbiceeeabWShare
import Derived.Test.YtoacddcbiceeeabWN
import Derived.Test.YtoacddcbiceeeabWFootNe
import Derived.Test.YtoacddcbiceeeabWAt
import Derived.Test.YtoacddcbiceeeabWEqStruct
import Derived.Test.YtoacddcbiceeeabWRepsOne
import Derived.Test.YtoacddcbiceeeabWInv
import Derived.Test.YtoacddcbiceeeabWInvWords
import Derived.Test.YtoacddcbiceeeabWGuard
import Derived.Test.YtoacddcbiceeeabWNEv
import Derived.Test.YtoacddcbiceeeabWMore
namespace Go.Proofs.Ytoacddcbiceeeab.ZFnCostAdds
open Go.RowKit Go.Proofs.YtoacddcbiceeeabW.PrintWords Go.Proofs.YtoacddcbiceeeabW.PrintLast Go.Proofs.YtoacddcbiceeeabW.PrintMore Go.Proofs.YtoacddcbiceeeabV
theorem Z0 {P : Prop} (h : P := by refine pk_ ?_; refine blk_put (cs := #[.int .i64 (wrap64 (1 + Oa)), .int .i64 0, .int .i64 0, .int .i64 0, .int .i64 0, .int .i64 0, .int .i64 0, .int .i64 0, .int .i64 0, .int .i64 0, .int .i64 0, .int .i64 0, .int .i64 0, .int .i64 0, .int .i64 0, .int .i64 0, .int .i64 0]) ?_ 16 _ rfl; refine pk_ ?_; refine blk_put (cs := #[.int .i64 (wrap64 (1 + Oa)), .int .i64 0, .int .i64 0, .int .i64 0, .int .i64 0, .int .i64 0, .int .i64 0, .int .i64 0, .int .i64 0, .int .i64 0, .int .i64 0, .int .i64 0, .int .i64 0, .int .i64 0, .int .i64 0, .int .i64 0, .int .i64 0]) ?_ 15 _ rfl; refine pk_ ?_; refine blk_put (cs := #[.int .i64 (wrap64 (1 + Oa)), .int .i64 0, .int .i64 0, .int .i64 0, .int .i64 0, .int .i64 0, .int .i64 0, .int .i64 0, .int .i64 0, .int .i64 0, .int .i64 0, .int .i64 0, .int .i64 0, .int .i64 0, .int .i64 0, .int .i64 0, .int .i64 0]) ?_ 14 _ rfl; refine pk_ ?_; refine blk_put (cs := #[.int .i64 (wrap64 (1 + Oa)), .int .i64 0, .int .i64 0, .int .i64 0, .int .i64 0, .int .i64 0, .int .i64 0, .int .i64 0, .int .i64 0, .int .i64 0, .int .i64 0, .int .i64 0, .int .i64 0, .int .i64 0, .int .i64 0, .int .i64 0, .int .i64 0]) ?_ 13 _ rfl; refine pk_ ?_; refine blk_put (cs := #[.int .i64 (wrap64 (1 + Oa)), .int .i64 0, .int .i64 0, .int .i64 0, .int .i64 0, .int .i64 0, .int .i64 0, .int .i64 0, .int .i64 0, .int .i64 0, .int .i64 0, .int .i64 0, .int .i64 0, .int .i64 0, .int .i64 0, .int .i64 0, .int .i64 0]) ?_ 12 _ rfl; refine pk_ ?_; refine blk_put (cs := #[.int .i64 (wrap64 (1 + Oa)), .int .i64 0, .int .i64 0, .int .i64 0, .int .i64 0, .int .i64 0, .int .i64 0, .int .i64 0, .int .i64 0, .int .i64 0, .int .i64 0, .int .i64 0, .int .i64 0, .int .i64 0, .int .i64 0, .int .i64 0, .int .i64 0]) ?_ 11 _ rfl; refine pk_ ?_; refine blk_put (cs := #[.int .i64 (wrap64 (1 + Oa)), .int .i64 0, .int .i64 0, .int .i64 0, .int .i64 0, .int .i64 0, .int .i64 0, .int .i64 0, .int .i64 0, .int .i64 0, .int .i64 0, .int .i64 0, .int .i64 0, .int .i64 0, .int .i64 0, .int .i64 0, .int .i64 0]) ?_ 10 _ rfl; refine pk_ ?_; refine blk_put (cs := #[.int .i64 (wrap64 (1 + Oa)), .int .i64 0, .int .i64 0, .int .i64 0, .int .i64 0, .int .i64 0, .int .i64 0, .int .i64 0, .int .i64 0, .int .i64 0, .int .i64 0, .int .i64 0, .int .i64 0, .int .i64 0, .int .i64 0, .int .i64 0, .int .i64 0]) ?_ 9 _ rfl; refine pk_ ?_; refine blk_put (cs := #[.int .i64 (wrap64 (1 + Oa)), .int .i64 0, .int .i64 0, .int .i64 0, .int .i64 0, .int .i64 0, .int .i64 0, .int .i64 0, .int .i64 0, .int .i64 0, .int .i64 0, .int .i64 0, .int .i64 0, .int .i64 0, .int .i64 0, .int .i64 0, .int .i64 0]) ?_ 8 _ rfl; refine pk_ ?_; refine blk_put (cs := #[.int .i64 (wrap64 (1 + Oa)), .int .i64 0, .int .i64 0, .int .i64 0, .int .i64 0, .int .i64 0, .int .i64 0, .int .i64 0, .int .i64 0, .int .i64 0, .int .i64 0, .int .i64 0, .int .i64 0, .int .i64 0, .int .i64 0, .int .i64 0, .int .i64 0]) ?_ 7 _ rfl; refine pk_ ?_; refine blk_put (cs := #[.int .i64 (wrap64 (1 + Oa)), .int .i64 0, .int .i64 0, .int .i64 0, .int .i64 0, .int .i64 0, .int .i64 0, .int .i64 0, .int .i64 0, .int .i64 0, .int .i64 0, .int .i64 0, .int .i64 0, .int .i64 0, .int .i64 0, .int .i64 0, .int .i64 0]) ?_ 6 _ rfl; refine pk_ ?_; refine blk_put (cs := #[.int .i64 (wrap64 (1 + Oa)), .int .i64 0, .int .i64 0, .int .i64 0, .int .i64 0, .int .i64 0, .int .i64 0, .int .i64 0, .int .i64 0, .int .i64 0, .int .i64 0, .int .i64 0, .int .i64 0, .int .i64 0, .int .i64 0, .int .i64 0, .int .i64 0]) ?_ 5 _ rfl; refine pk_ ?_; refine blk_put (cs := #[.int .i64 (wrap64 (1 + Oa)), .int .i64 0, .int .i64 0, .int .i64 0, .int .i64 0, .int .i64 0, .int .i64 0, .int .i64 0, .int .i64 0, .int .i64 0, .int .i64 0, .int .i64 0, .int .i64 0, .int .i64 0, .int .i64 0, .int .i64 0, .int .i64 0]) ?_ 4 _ rfl; refine pk_ ?_; refine blk_put (cs := #[.int .i64 (wrap64 (1 + Oa)), .int .i64 0, .int .i64 0, .int .i64 0, .int .i64 0, .int .i64 0, .int .i64 0, .int .i64 0, .int .i64 0, .int .i64 0, .int .i64 0, .int .i64 0, .int .i64 0, .int .i64 0, .int .i64 0, .int .i64 0, .int .i64 0]) ?_ 3 _ rfl; refine pk_ ?_; refine blk_put (cs := #[.int .i64 (wrap64 (1 + Oa)), .int .i64 0, .int .i64 0, .int .i64 0, .int .i64 0, .int .i64 0, .int .i64 0, .int .i64 0, .int .i64 0, .int .i64 0, .int .i64 0, .int .i64 0, .int .i64 0, .int .i64 0, .int .i64 0, .int .i64 0, .int .i64 0]) ?_ 2 _ rfl; refine pk_ ?_; refine blk_put (cs := #[.int .i64 (wrap64 (1 + Oa)), .int .i64 0, .int .i64 0, .int .i64 0, .int .i64 0, .int .i64 0, .int .i64 0, .int .i64 0, .int .i64 0, .int .i64 0, .int .i64 0, .int .i64 0, .int .i64 0, .int .i64 0, .int .i64 0, .int .i64 0, .int .i64 0]) ?_ 1 _ rfl; refine pk_ ?_; refine blk_put (cs := #[.int .i64 0, .int .i64 0, .int .i64 0, .int .i64 0, .int .i64 0, .int .i64 0, .int .i64 0, .int .i64 0, .int .i64 0, .int .i64 0, .int .i64 0, .int .i64 0, .int .i64 0, .int .i64 0, .int .i64 0, .int .i64 0, .int .i64 0]) ?_ 0 _ rfl; refine pk_ ?_; refine blk_far ?_ Xa.out _; refine pk_ ?_; exact Ma.out) : P := h
theorem Z1 {P : Prop} (h : P := by refine pk_ ?_; refine blk_put (cs := #[.int .i64 4, .int .i64 0, .int .i64 0, .int .i64 0, .int .i64 0, .int .i64 0, .int .i64 0, .int .i64 0, .int .i64 0, .int .i64 0, .int .i64 0, .int .i64 0, .int .i64 0, .int .i64 0, .int .i64 0, .int .i64 0, .int .i64 Jd]) ?_ 16 _ rfl; refine pk_ ?_; refine blk_put (cs := #[.int .i64 4, .int .i64 0, .int .i64 0, .int .i64 0, .int .i64 0, .int .i64 0, .int .i64 0, .int .i64 0, .int .i64 0, .int .i64 0, .int .i64 0, .int .i64 0, .int .i64 0, .int .i64 0, .int .i64 0, .int .i64 Xc, .int .i64 Jd]) ?_ 15 _ rfl; refine pk_ ?_; refine blk_put (cs := #[.int .i64 4, .int .i64 0, .int .i64 0, .int .i64 0, .int .i64 0, .int .i64 0, .int .i64 0, .int .i64 0, .int .i64 0, .int .i64 0, .int .i64 0, .int .i64 0, .int .i64 0, .int .i64 0, .int .i64 Uc, .int .i64 Xc, .int .i64 Jd]) ?_ 14 _ rfl; refine pk_ ?_; refine blk_put (cs := #[.int .i64 4, .int .i64 0, .int .i64 0, .int .i64 0, .int .i64 0, .int .i64 0, .int .i64 0, .int .i64 0, .int .i64 0, .int .i64 0, .int .i64 0, .int .i64 0, .int .i64 0, .int .i64 Oc, .int .i64 Uc, .int .i64 Xc, .int .i64 Jd]) ?_ 13 _ rfl; refine pk_ ?_; refine blk_put (cs := #[.int .i64 4, .int .i64 0, .int .i64 0, .int .i64 0, .int .i64 0, .int .i64 0, .int .i64 0, .int .i64 0, .int .i64 0, .int .i64 0, .int .i64 0, .int .i64 0, .int .i64 Mc, .int .i64 Oc, .int .i64 Uc, .int .i64 Xc, .int .i64 Jd]) ?_ 12 _ rfl; refine pk_ ?_; refine blk_put (cs := #[.int .i64 4, .int .i64 0, .int .i64 0, .int .i64 0, .int .i64 0, .int .i64 0, .int .i64 0, .int .i64 0, .int .i64 0, .int .i64 0, .int .i64 0, .int .i64 Kc, .int .i64 Mc, .int .i64 Oc, .int .i64 Uc, .int .i64 Xc, .int .i64 Jd]) ?_ 11 _ rfl; refine pk_ ?_; refine blk_put (cs := #[.int .i64 4, .int .i64 0, .int .i64 0, .int .i64 0, .int .i64 0, .int .i64 0, .int .i64 0, .int .i64 0, .int .i64 0, .int .i64 0, .int .i64 Jc, .int .i64 Kc, .int .i64 Mc, .int .i64 Oc, .int .i64 Uc, .int .i64 Xc, .int .i64 Jd]) ?_ 10 _ rfl; refine pk_ ?_; refine blk_put (cs := #[.int .i64 4, .int .i64 0, .int .i64 0, .int .i64 0, .int .i64 0, .int .i64 0, .int .i64 0, .int .i64 0, .int .i64 0, .int .i64 Xb, .int .i64 Jc, .int .i64 Kc, .int .i64 Mc, .int .i64 Oc, .int .i64 Uc, .int .i64 Xc, .int .i64 Jd]) ?_ 9 _ rfl; refine pk_ ?_; refine blk_put (cs := #[.int .i64 4, .int .i64 0, .int .i64 0, .int .i64 0, .int .i64 0, .int .i64 0, .int .i64 0, .int .i64 0, .int .i64 Ub, .int .i64 Xb, .int .i64 Jc, .int .i64 Kc, .int .i64 Mc, .int .i64 Oc, .int .i64 Uc, .int .i64 Xc, .int .i64 Jd]) ?_ 8 _ rfl; refine pk_ ?_; refine blk_put (cs := #[.int .i64 4, .int .i64 0, .int .i64 0, .int .i64 0, .int .i64 0, .int .i64 0, .int .i64 0, .int .i64 Mb, .int .i64 Ub, .int .i64 Xb, .int .i64 Jc, .int .i64 Kc, .int .i64 Mc, .int .i64 Oc, .int .i64 Uc, .int .i64 Xc, .int .i64 Jd]) ?_ 7 _ rfl; refine pk_ ?_; refine blk_put (cs := #[.int .i64 4, .int .i64 0, .int .i64 0, .int .i64 0, .int .i64 0, .int .i64 0, .int .i64 Kb, .int .i64 Mb, .int .i64 Ub, .int .i64 Xb, .int .i64 Jc, .int .i64 Kc, .int .i64 Mc, .int .i64 Oc, .int .i64 Uc, .int .i64 Xc, .int .i64 Jd]) ?_ 6 _ rfl; refine pk_ ?_; refine blk_put (cs := #[.int .i64 4, .int .i64 0, .int .i64 0, .int .i64 0, .int .i64 0, .int .i64 Jb, .int .i64 Kb, .int .i64 Mb, .int .i64 Ub, .int .i64 Xb, .int .i64 Jc, .int .i64 Kc, .int .i64 Mc, .int .i64 Oc, .int .i64 Uc, .int .i64 Xc, .int .i64 Jd]) ?_ 5 _ rfl; refine pk_ ?_; refine blk_put (cs := #[.int .i64 4, .int .i64 0, .int .i64 0, .int .i64 0, .int .i64 Xa, .int .i64 Jb, .int .i64 Kb, .int .i64 Mb, .int .i64 Ub, .int .i64 Xb, .int .i64 Jc, .int .i64 Kc, .int .i64 Mc, .int .i64 Oc, .int .i64 Uc, .int .i64 Xc, .int .i64 Jd]) ?_ 4 _ rfl; refine pk_ ?_; refine blk_put (cs := #[.int .i64 4, .int .i64 0, .int .i64 0, .int .i64 Ua, .int .i64 Xa, .int .i64 Jb, .int .i64 Kb, .int .i64 Mb, .int .i64 Ub, .int .i64 Xb, .int .i64 Jc, .int .i64 Kc, .int .i64 Mc, .int .i64 Oc, .int .i64 Uc, .int .i64 Xc, .int .i64 Jd]) ?_ 3 _ rfl; refine pk_ ?_; refine blk_put (cs := #[.int .i64 4, .int .i64 0, .int .i64 Oa, .int .i64 Ua, .int .i64 Xa, .int .i64 Jb, .int .i64 Kb, .int .i64 Mb, .int .i64 Ub, .int .i64 Xb, .int .i64 Jc, .int .i64 Kc, .int .i64 Mc, .int .i64 Oc, .int .i64 Uc, .int .i64 Xc, .int .i64 Jd]) ?_ 2 _ rfl; refine pk_ ?_; refine blk_put (cs := #[.int .i64 4, .int .i64 Ma, .int .i64 Oa, .int .i64 Ua, .int .i64 Xa, .int .i64 Jb, .int .i64 Kb, .int .i64 Mb, .int .i64 Ub, .int .i64 Xb, .int .i64 Jc, .int .i64 Kc, .int .i64 Mc, .int .i64 Oc, .int .i64 Uc, .int .i64 Xc, .int .i64 Jd]) ?_ 1 _ rfl; refine pk_ ?_; refine blk_put (cs := #[.int .i64 Ka, .int .i64 Ma, .int .i64 Oa, .int .i64 Ua, .int .i64 Xa, .int .i64 Jb, .int .i64 Kb, .int .i64 Mb, .int .i64 Ub, .int .i64 Xb, .int .i64 Jc, .int .i64 Kc, .int .i64 Mc, .int .i64 Oc, .int .i64 Uc, .int .i64 Xc, .int .i64 Jd]) ?_ 0 _ rfl; refine pk_ ?_; exact Ja.out) : P := h
theorem Z2 {P : Prop} (h : P := by refine pk_ ?_; refine blk_put (cs := #[.int .i64 Ka, .int .i64 Ma, .int .i64 Oa, .int .i64 Ua, .int .i64 Xa, .int .i64 Jb, .int .i64 Kb, .int .i64 Mb, .int .i64 Ub, .int .i64 Xb, .int .i64 Jc, .int .i64 Kc, .int .i64 Mc, .int .i64 Oc, .int .i64 Uc, .int .i64 Xc, .int .i64 0]) ?_ 16 _ rfl; refine pk_ ?_; refine blk_put (cs := #[.int .i64 Ka, .int .i64 Ma, .int .i64 Oa, .int .i64 Ua, .int .i64 Xa, .int .i64 Jb, .int .i64 Kb, .int .i64 Mb, .int .i64 Ub, .int .i64 Xb, .int .i64 Jc, .int .i64 Kc, .int .i64 Mc, .int .i64 Oc, .int .i64 Uc, .int .i64 0, .int .i64 0]) ?_ 15 _ rfl; refine pk_ ?_; refine blk_put (cs := #[.int .i64 Ka, .int .i64 Ma, .int .i64 Oa, .int .i64 Ua, .int .i64 Xa, .int .i64 Jb, .int .i64 Kb, .int .i64 Mb, .int .i64 Ub, .int .i64 Xb, .int .i64 Jc, .int .i64 Kc, .int .i64 Mc, .int .i64 Oc, .int .i64 0, .int .i64 0, .int .i64 0]) ?_ 14 _ rfl; refine pk_ ?_; refine blk_put (cs := #[.int .i64 Ka, .int .i64 Ma, .int .i64 Oa, .int .i64 Ua, .int .i64 Xa, .int .i64 Jb, .int .i64 Kb, .int .i64 Mb, .int .i64 Ub, .int .i64 Xb, .int .i64 Jc, .int .i64 Kc, .int .i64 Mc, .int .i64 0, .int .i64 0, .int .i64 0, .int .i64 0]) ?_ 13 _ rfl; refine pk_ ?_; refine blk_put (cs := #[.int .i64 Ka, .int .i64 Ma, .int .i64 Oa, .int .i64 Ua, .int .i64 Xa, .int .i64 Jb, .int .i64 Kb, .int .i64 Mb, .int .i64 Ub, .int .i64 Xb, .int .i64 Jc, .int .i64 Kc, .int .i64 0, .int .i64 0, .int .i64 0, .int .i64 0, .int .i64 0]) ?_ 12 _ rfl; refine pk_ ?_; refine blk_put (cs := #[.int .i64 Ka, .int .i64 Ma, .int .i64 Oa, .int .i64 Ua, .int .i64 Xa, .int .i64 Jb, .int .i64 Kb, .int .i64 Mb, .int .i64 Ub, .int .i64 Xb, .int .i64 Jc, .int .i64 0, .int .i64 0, .int .i64 0, .int .i64 0, .int .i64 0, .int .i64 0]) ?_ 11 _ rfl; refine pk_ ?_; refine blk_put (cs := #[.int .i64 Ka, .int .i64 Ma, .int .i64 Oa, .int .i64 Ua, .int .i64 Xa, .int .i64 Jb, .int .i64 Kb, .int .i64 Mb, .int .i64 Ub, .int .i64 Xb, .int .i64 0, .int .i64 0, .int .i64 0, .int .i64 0, .int .i64 0, .int .i64 0, .int .i64 0]) ?_ 10 _ rfl; refine pk_ ?_; refine blk_put (cs := #[.int .i64 Ka, .int .i64 Ma, .int .i64 Oa, .int .i64 Ua, .int .i64 Xa, .int .i64 Jb, .int .i64 Kb, .int .i64 Mb, .int .i64 Ub, .int .i64 0, .int .i64 0, .int .i64 0, .int .i64 0, .int .i64 0, .int .i64 0, .int .i64 0, .int .i64 0]) ?_ 9 _ rfl; refine pk_ ?_; refine blk_put (cs := #[.int .i64 Ka, .int .i64 Ma, .int .i64 Oa, .int .i64 Ua, .int .i64 Xa, .int .i64 Jb, .int .i64 Kb, .int .i64 Mb, .int .i64 0, .int .i64 0, .int .i64 0, .int .i64 0, .int .i64 0, .int .i64 0, .int .i64 0, .int .i64 0, .int .i64 0]) ?_ 8 _ rfl; refine pk_ ?_; refine blk_put (cs := #[.int .i64 Ka, .int .i64 Ma, .int .i64 Oa, .int .i64 Ua, .int .i64 Xa, .int .i64 Jb, .int .i64 Kb, .int .i64 0, .int .i64 0, .int .i64 0, .int .i64 0, .int .i64 0, .int .i64 0, .int .i64 0, .int .i64 0, .int .i64 0, .int .i64 0]) ?_ 7 _ rfl; refine pk_ ?_; refine blk_put (cs := #[.int .i64 Ka, .int .i64 Ma, .int .i64 Oa, .int .i64 Ua, .int .i64 Xa, .int .i64 Jb, .int .i64 0, .int .i64 0, .int .i64 0, .int .i64 0, .int .i64 0, .int .i64 0, .int .i64 0, .int .i64 0, .int .i64 0, .int .i64 0, .int .i64 0]) ?_ 6 _ rfl; refine pk_ ?_; refine blk_put (cs := #[.int .i64 Ka, .int .i64 Ma, .int .i64 Oa, .int .i64 Ua, .int .i64 Xa, .int .i64 0, .int .i64 0, .int .i64 0, .int .i64 0, .int .i64 0, .int .i64 0, .int .i64 0, .int .i64 0, .int .i64 0, .int .i64 0, .int .i64 0, .int .i64 0]) ?_ 5 _ rfl; refine pk_ ?_; refine blk_put (cs := #[.int .i64 Ka, .int .i64 Ma, .int .i64 Oa, .int .i64 Ua, .int .i64 0, .int .i64 0, .int .i64 0, .int .i64 0, .int .i64 0, .int .i64 0, .int .i64 0, .int .i64 0, .int .i64 0, .int .i64 0, .int .i64 0, .int .i64 0, .int .i64 0]) ?_ 4 _ rfl; refine pk_ ?_; refine blk_put (cs := #[.int .i64 Ka, .int .i64 Ma, .int .i64 Oa, .int .i64 0, .int .i64 0, .int .i64 0, .int .i64 0, .int .i64 0, .int .i64 0, .int .i64 0, .int .i64 0, .int .i64 0, .int .i64 0, .int .i64 0, .int .i64 0, .int .i64 0, .int .i64 0]) ?_ 3 _ rfl; refine pk_ ?_; refine blk_put (cs := #[.int .i64 Ka, .int .i64 Ma, .int .i64 0, .int .i64 0, .int .i64 0, .int .i64 0, .int .i64 0, .int .i64 0, .int .i64 0, .int .i64 0, .int .i64 0, .int .i64 0, .int .i64 0, .int .i64 0, .int .i64 0, .int .i64 0, .int .i64 0]) ?_ 2 _ rfl; refine pk_ ?_; refine blk_put (cs := #[.int .i64 Ka, .int .i64 0, .int .i64 0, .int .i64 0, .int .i64 0, .int .i64 0, .int .i64 0, .int .i64 0, .int .i64 0, .int .i64 0, .int .i64 0, .int .i64 0, .int .i64 0, .int .i64 0, .int .i64 0, .int .i64 0, .int .i64 0]) ?_ 1 _ rfl; refine pk_ ?_; refine blk_put (cs := #[.int .i64 0, .int .i64 0, .int .i64 0, .int .i64 0, .int .i64 0, .int .i64 0, .int .i64 0, .int .i64 0, .int .i64 0, .int .i64 0, .int .i64 0, .int .i64 0, .int .i64 0, .int .i64 0, .int .i64 0, .int .i64 0, .int .i64 0]) ?_ 0 _ rfl; refine pk_ ?_; exact Ja.out) : P := h
theorem Z3 {P : Prop} (h : P := by refine pk_ ?_; refine blk_put (cs := #[.int .i64 a0_0, .int .i64 0, .int .i64 0, .int .i64 0, .int .i64 0, .int .i64 0, .int .i64 0, .int .i64 0, .int .i64 0, .int .i64 0, .int .i64 0, .int .i64 0, .int .i64 a0_12, .int .i64 a0_13, .int .i64 a0_14, .int .i64 a0_15, .int .i64 a0_16]) ?_ 12 _ rfl; refine pk_ ?_; refine blk_put (cs := #[.int .i64 a0_0, .int .i64 0, .int .i64 0, .int .i64 0, .int .i64 0, .int .i64 0, .int .i64 0, .int .i64 0, .int .i64 0, .int .i64 0, .int .i64 0, .int .i64 a0_11, .int .i64 a0_12, .int .i64 a0_13, .int .i64 a0_14, .int .i64 a0_15, .int .i64 a0_16]) ?_ 11 _ rfl; refine pk_ ?_; refine blk_put (cs := #[.int .i64 a0_0, .int .i64 0, .int .i64 0, .int .i64 0, .int .i64 0, .int .i64 0, .int .i64 0, .int .i64 0, .int .i64 0, .int .i64 0, .int .i64 a0_10, .int .i64 a0_11, .int .i64 a0_12, .int .i64 a0_13, .int .i64 a0_14, .int .i64 a0_15, .int .i64 a0_16]) ?_ 10 _ rfl; refine pk_ ?_; refine blk_put (cs := #[.int .i64 a0_0, .int .i64 0, .int .i64 0, .int .i64 0, .int .i64 0, .int .i64 0, .int .i64 0, .int .i64 0, .int .i64 0, .int .i64 a0_9, .int .i64 a0_10, .int .i64 a0_11, .int .i64 a0_12, .int .i64 a0_13, .int .i64 a0_14, .int .i64 a0_15, .int .i64 a0_16]) ?_ 9 _ rfl; refine pk_ ?_; refine blk_put (cs := #[.int .i64 a0_0, .int .i64 0, .int .i64 0, .int .i64 0, .int .i64 0, .int .i64 0, .int .i64 0, .int .i64 0, .int .i64 a0_8, .int .i64 a0_9, .int .i64 a0_10, .int .i64 a0_11, .int .i64 a0_12, .int .i64 a0_13, .int .i64 a0_14, .int .i64 a0_15, .int .i64 a0_16]) ?_ 8 _ rfl; refine pk_ ?_; refine blk_put (cs := #[.int .i64 a0_0, .int .i64 0, .int .i64 0, .int .i64 0, .int .i64 0, .int .i64 0, .int .i64 0, .int .i64 a0_7, .int .i64 a0_8, .int .i64 a0_9, .int .i64 a0_10, .int .i64 a0_11, .int .i64 a0_12, .int .i64 a0_13, .int .i64 a0_14, .int .i64 a0_15, .int .i64 a0_16]) ?_ 7 _ rfl; refine pk_ ?_; refine blk_put (cs := #[.int .i64 a0_0, .int .i64 0, .int .i64 0, .int .i64 0, .int .i64 0, .int .i64 0, .int .i64 a0_6, .int .i64 a0_7, .int .i64 a0_8, .int .i64 a0_9, .int .i64 a0_10, .int .i64 a0_11, .int .i64 a0_12, .int .i64 a0_13, .int .i64 a0_14, .int .i64 a0_15, .int .i64 a0_16]) ?_ 6 _ rfl; refine pk_ ?_; refine blk_put (cs := #[.int .i64 a0_0, .int .i64 0, .int .i64 0, .int .i64 0, .int .i64 0, .int .i64 a0_5, .int .i64 a0_6, .int .i64 a0_7, .int .i64 a0_8, .int .i64 a0_9, .int .i64 a0_10, .int .i64 a0_11, .int .i64 a0_12, .int .i64 a0_13, .int .i64 a0_14, .int .i64 a0_15, .int .i64 a0_16]) ?_ 5 _ rfl; refine pk_ ?_; refine blk_put (cs := #[.int .i64 a0_0, .int .i64 0, .int .i64 0, .int .i64 0, .int .i64 a0_4, .int .i64 a0_5, .int .i64 a0_6, .int .i64 a0_7, .int .i64 a0_8, .int .i64 a0_9, .int .i64 a0_10, .int .i64 a0_11, .int .i64 a0_12, .int .i64 a0_13, .int .i64 a0_14, .int .i64 a0_15, .int .i64 a0_16]) ?_ 4 _ rfl; refine pk_ ?_; refine blk_put (cs := #[.int .i64 a0_0, .int .i64 0, .int .i64 0, .int .i64 a0_3, .int .i64 a0_4, .int .i64 a0_5, .int .i64 a0_6, .int .i64 a0_7, .int .i64 a0_8, .int .i64 a0_9, .int .i64 a0_10, .int .i64 a0_11, .int .i64 a0_12, .int .i64 a0_13, .int .i64 a0_14, .int .i64 a0_15, .int .i64 a0_16]) ?_ 3 _ rfl; refine pk_ ?_; refine blk_put (cs := #[.int .i64 a0_0, .int .i64 0, .int .i64 a0_2, .int .i64 a0_3, .int .i64 a0_4, .int .i64 a0_5, .int .i64 a0_6, .int .i64 a0_7, .int .i64 a0_8, .int .i64 a0_9, .int .i64 a0_10, .int .i64 a0_11, .int .i64 a0_12, .int .i64 a0_13, .int .i64 a0_14, .int .i64 a0_15, .int .i64 a0_16]) ?_ 2 _ rfl; refine pk_ ?_; refine blk_put (cs := #[.int .i64 a0_0, .int .i64 a0_1, .int .i64 a0_2, .int .i64 a0_3, .int .i64 a0_4, .int .i64 a0_5, .int .i64 a0_6, .int .i64 a0_7, .int .i64 a0_8, .int .i64 a0_9, .int .i64 a0_10, .int .i64 a0_11, .int .i64 a0_12, .int .i64 a0_13, .int .i64 a0_14, .int .i64 a0_15, .int .i64 a0_16]) ?_ 1 _ rfl; refine pk_ ?_; exact Ma.out) : P := h
theorem Z4 {P : Prop} (h : P := by refine pk_ ?_; refine blk_put (cs := #[.int .i64 0, .int .i64 0, .int .i64 0, .int .i64 0, .int .i64 0]) ?_ 4 _ rfl; refine pk_ ?_; refine blk_put (cs := #[.int .i64 0, .int .i64 0, .int .i64 0, .int .i64 0, .int .i64 0]) ?_ 3 _ rfl; refine pk_ ?_; refine blk_put (cs := #[.int .i64 0, .int .i64 0, .int .i64 0, .int .i64 0, .int .i64 0]) ?_ 2 _ rfl; refine pk_ ?_; refine blk_put (cs := #[.int .i64 0, .int .i64 0, .int .i64 0, .int .i64 0, .int .i64 0]) ?_ 1 _ rfl; refine pk_ ?_; refine blk_put (cs := #[.int .i64 0, .int .i64 0, .int .i64 0, .int .i64 0, .int .i64 0]) ?_ 0 _ rfl; refine pk_ ?_; exact Ka.out) : P := h
theorem Z5 {P : Prop} (h : P := by refine pk_ ?_; refine blk_far ?_ Oa.out _; refine pk_ ?_; refine blk_far ?_ Oa.out _; refine pk_ ?_; refine blk_far ?_ Oa.out _; refine pk_ ?_; refine blk_far ?_ Oa.out _; refine pk_ ?_; refine blk_far ?_ Oa.out _; refine pk_ ?_; refine blk_far ?_ Oa.out _; refine pk_ ?_; refine blk_far ?_ Oa.out _; refine pk_ ?_; refine blk_far ?_ Oa.out _; refine pk_ ?_; refine blk_far ?_ Oa.out _; refine pk_ ?_; refine blk_far ?_ Oa.out _; refine pk_ ?_; refine blk_far ?_ Oa.out _; refine pk_ ?_; refine blk_far ?_ Oa.out _; refine pk_ ?_; exact Ja.out) : P := h
theorem Z6 {P : Prop} (h : P := by refine pk_ ?_; refine blk_put (cs := #[.int .i64 0, .int .i64 0, .int .i64 0]) ?_ 2 _ rfl; refine pk_ ?_; refine blk_put (cs := #[.int .i64 0, .int .i64 0, .int .i64 0]) ?_ 1 _ rfl; refine pk_ ?_; refine blk_put (cs := #[.int .i64 0, .int .i64 0, .int .i64 0]) ?_ 0 _ rfl; refine pk_ ?_; exact BK538.out) : P := h
theorem Z7 {P : Prop} (h : P := by refine pk_ ?_; refine blk_put (cs := #[.int .i64 0, .int .i64 0, .int .i64 0]) ?_ 2 _ rfl; refine pk_ ?_; refine blk_put (cs := #[.int .i64 0, .int .i64 0, .int .i64 0]) ?_ 1 _ rfl; refine pk_ ?_; refine blk_put (cs := #[.int .i64 0, .int .i64 0, .int .i64 0]) ?_ 0 _ rfl; refine pk_ ?_; exact BK695.out) : P := h
theorem Z8 {P : Prop} (h : P := by refine pk_ ?_; refine blk_far ?_ Xa.out _; refine pk_ ?_; refine blk_far ?_ Xa.out _; refine pk_ ?_; refine blk_far ?_ Xa.out _; refine pk_ ?_; refine blk_far ?_ Xa.out _; refine pk_ ?_; refine blk_far ?_ Xa.out _; refine pk_ ?_; refine blk_far ?_ Xa.out _; refine pk_ ?_; exact Ma.out) : P := h
theorem Z9 {P : Prop} (h : P := by first | (simp only [List.map_toArray, List.map_cons, List.map_nil, Act.eval, Array.getD_eq_getD_getElem?, Option.getD_some, e32]; done) | (simp only [List.map_toArray, List.map_cons, List.map_nil, Act.eval, Array.getD_eq_getD_getElem?, Option.getD_some, e32]; rfl)) : P := h
theorem Z10 {P : Prop} (h : P := by first | (simp only [List.map_toArray, List.map_cons, List.map_nil, Act.eval, Array.getD_eq_getD_getElem?, Option.getD_some, e39]; done) | (simp only [List.map_toArray, List.map_cons, List.map_nil, Act.eval, Array.getD_eq_getD_getElem?, Option.getD_some, e39]; rfl)) : P := h
theorem Z11 {P : Prop} (h : P := by repeat (first | (with_reducible first | exact (Q_HI0_e18 h0_ h1_) | apply IsS55.alloc | apply IsS55.drewN | apply IsS55.drew | apply IsS55.set_1 | apply IsS55.set_2 | refine IsS55.far ?_ Xb.out _) | exact (Q_HI0_e18 h0_ h1_))) : P := h
theorem Z12 {P : Prop} (h : P := by repeat (first | (with_reducible first | exact (Q_HI0_e22 h0_) | apply IsS55.alloc | apply IsS55.drewN | apply IsS55.drew | apply IsS55.set_1 | apply IsS55.set_2 | refine IsS55.far ?_ Xb.out _) | exact (Q_HI0_e22 h0_))) : P := h
theorem Z13 {P : Prop} (h : P := by (try simp only [List.map_toArray, List.map_cons, List.map_nil]); first | done | (simp only [hji8]; rfl) | rfl | (simp only [List.length_drop, List.length_take]; rfl)) : P := h
theorem Z14 {P : Prop} (h : P := by rintro w' ⟨s0, s1, s2, s3, s4, s5, s6, s7, s8, s9, s10, s11, s12, s13, s14, s15, s16, s17, s18, s19, s20, s21, s22, s23, s24, s25⟩; go_simp; with_reducible rfl) : P := h
theorem Z15 {P : Prop} (h : P := by (try simp only [List.map_toArray, List.map_cons, List.map_nil]); first | done | rfl | (simp only [List.length_drop, List.length_take]; rfl)) : P := h
theorem Z16 {P : Prop} (h : P := by repeat (first | (with_reducible first | exact HBW.out | apply below_alloc | apply pw_below_drewN | apply below_drew1) | exact HBW.out)) : P := h
theorem Z17 {P : Prop} (h : P := by simp only [putAll, Act.put, List.setIfInBounds_toArray, List.set_cons_zero, List.set_cons_succ]) : P := h
theorem Z18 {P : Prop} (h : P := by rintro w' ⟨s0, s1, s2, s3, s4, s5⟩; go_simp; with_reducible rfl) : P := h
theorem Z19 {P : Prop} (h : P := by rintro w' ⟨s0, s1, s2, s3, s4⟩; go_simp; with_reducible rfl) : P := h
theorem Z20 {P : Prop} (h : P := by rintro w' ⟨s0, s1, s2⟩; go_simp; with_reducible rfl) : P := h
theorem Z21 {P : Prop} (h : P := by first | (with_reducible assumption) | assumption) : P := h
theorem Z22 {P : Prop} (h : P := by first | rfl | (simp; done) | (simp [*]; done)) : P := h
theorem Z23 {P : Prop} (h : P := by first | rfl | (go_simp; done) | simp) : P := h
set_option maxRecDepth 100000 in
theorem st36_ {e : Operand → Value} {o : Oper} {p v : Operand} {W : World} {g n : Nat} {x0 : Int} {x1 : Int} {x2 : Int} {x3 : Int} {x4 : Int} {x5 : Int} {x6 : Int} {x7 : Int} {x8 : Int} {x9 : Int} {x10 : Int} {x11 : Int} {x12 : Int} {x13 : Int} {x14 : Int} {x15 : Int} {x16 : Int} (ho : o.op = .store 36 p v) (hp : e p = .pointer (some ⟨g,0,none⟩)) (hv : e v = .agg #[.int .i64 x0,.int .i64 x1,.int .i64 x2,.int .i64 x3,.int .i64 x4,.int .i64 x5,.int .i64 x6,.int .i64 x7,.int .i64 x8,.int .i64 x9,.int .i64 x10,.int .i64 x11,.int .i64 x12,.int .i64 x13,.int .i64 x14,.int .i64 x15,.int .i64 x16]) (hb : Blk W g n) (hn : 17 ≤ n) : (execOp e o).run Try.prog W = .ok .skip (((((((((((((((((W.setCell ⟨g,0,none⟩ (.int .i64 x0)).setCell ⟨g,1,none⟩ (.int .i64 x1)).setCell ⟨g,2,none⟩ (.int .i64 x2)).setCell ⟨g,3,none⟩ (.int .i64 x3)).setCell ⟨g,4,none⟩ (.int .i64 x4)).setCell ⟨g,5,none⟩ (.int .i64 x5)).setCell ⟨g,6,none⟩ (.int .i64 x6)).setCell ⟨g,7,none⟩ (.int .i64 x7)).setCell ⟨g,8,none⟩ (.int .i64 x8)).setCell ⟨g,9,none⟩ (.int .i64 x9)).setCell ⟨g,10,none⟩ (.int .i64 x10)).setCell ⟨g,11,none⟩ (.int .i64 x11)).setCell ⟨g,12,none⟩ (.int .i64 x12)).setCell ⟨g,13,none⟩ (.int .i64 x13)).setCell ⟨g,14,none⟩ (.int .i64 x14)).setCell ⟨g,15,none⟩ (.int .i64 x15)).setCell ⟨g,16,none⟩ (.int .i64 x16)) := by
  have hu := Try.underlying36
  obtain ⟨o1, o2, o3, o4, o5, o6⟩ := o
  dsimp only at ho
  subst ho
  go_simp
  change Result.andThen ((stored Try.prog W ⟨g,0,none⟩ (.int .i64 x0) .plain).andThen fun _ w => (stored Try.prog w ⟨g,1,none⟩ (.int .i64 x1) .plain).andThen fun _ w => (stored Try.prog w ⟨g,2,none⟩ (.int .i64 x2) .plain).andThen fun _ w => (stored Try.prog w ⟨g,3,none⟩ (.int .i64 x3) .plain).andThen fun _ w => (stored Try.prog w ⟨g,4,none⟩ (.int .i64 x4) .plain).andThen fun _ w => (stored Try.prog w ⟨g,5,none⟩ (.int .i64 x5) .plain).andThen fun _ w => (stored Try.prog w ⟨g,6,none⟩ (.int .i64 x6) .plain).andThen fun _ w => (stored Try.prog w ⟨g,7,none⟩ (.int .i64 x7) .plain).andThen fun _ w => (stored Try.prog w ⟨g,8,none⟩ (.int .i64 x8) .plain).andThen fun _ w => (stored Try.prog w ⟨g,9,none⟩ (.int .i64 x9) .plain).andThen fun _ w => (stored Try.prog w ⟨g,10,none⟩ (.int .i64 x10) .plain).andThen fun _ w => (stored Try.prog w ⟨g,11,none⟩ (.int .i64 x11) .plain).andThen fun _ w => (stored Try.prog w ⟨g,12,none⟩ (.int .i64 x12) .plain).andThen fun _ w => (stored Try.prog w ⟨g,13,none⟩ (.int .i64 x13) .plain).andThen fun _ w => (stored Try.prog w ⟨g,14,none⟩ (.int .i64 x14) .plain).andThen fun _ w => (stored Try.prog w ⟨g,15,none⟩ (.int .i64 x15) .plain).andThen fun _ w => stored Try.prog w ⟨g,16,none⟩ (.int .i64 x16) .plain) (fun _ w => Result.ok Next.skip w) = _
  refine ao_ (a := ()) (w := (((((((((((((((((W.setCell ⟨g,0,none⟩ (.int .i64 x0)).setCell ⟨g,1,none⟩ (.int .i64 x1)).setCell ⟨g,2,none⟩ (.int .i64 x2)).setCell ⟨g,3,none⟩ (.int .i64 x3)).setCell ⟨g,4,none⟩ (.int .i64 x4)).setCell ⟨g,5,none⟩ (.int .i64 x5)).setCell ⟨g,6,none⟩ (.int .i64 x6)).setCell ⟨g,7,none⟩ (.int .i64 x7)).setCell ⟨g,8,none⟩ (.int .i64 x8)).setCell ⟨g,9,none⟩ (.int .i64 x9)).setCell ⟨g,10,none⟩ (.int .i64 x10)).setCell ⟨g,11,none⟩ (.int .i64 x11)).setCell ⟨g,12,none⟩ (.int .i64 x12)).setCell ⟨g,13,none⟩ (.int .i64 x13)).setCell ⟨g,14,none⟩ (.int .i64 x14)).setCell ⟨g,15,none⟩ (.int .i64 x15)).setCell ⟨g,16,none⟩ (.int .i64 x16))) ?_ rfl
  have h := hb
  refine (lf_ h (show 0 < n by omega)).trans ?_
  replace h := h.put (b := g) (i := 0) (v := .int .i64 x0)
  refine (lf_ h (show 1 < n by omega)).trans ?_
  replace h := h.put (b := g) (i := 1) (v := .int .i64 x1)
  refine (lf_ h (show 2 < n by omega)).trans ?_
  replace h := h.put (b := g) (i := 2) (v := .int .i64 x2)
  refine (lf_ h (show 3 < n by omega)).trans ?_
  replace h := h.put (b := g) (i := 3) (v := .int .i64 x3)
  refine (lf_ h (show 4 < n by omega)).trans ?_
  replace h := h.put (b := g) (i := 4) (v := .int .i64 x4)
  refine (lf_ h (show 5 < n by omega)).trans ?_
  replace h := h.put (b := g) (i := 5) (v := .int .i64 x5)
  refine (lf_ h (show 6 < n by omega)).trans ?_
  replace h := h.put (b := g) (i := 6) (v := .int .i64 x6)
  refine (lf_ h (show 7 < n by omega)).trans ?_
  replace h := h.put (b := g) (i := 7) (v := .int .i64 x7)
  refine (lf_ h (show 8 < n by omega)).trans ?_
  replace h := h.put (b := g) (i := 8) (v := .int .i64 x8)
  refine (lf_ h (show 9 < n by omega)).trans ?_
  replace h := h.put (b := g) (i := 9) (v := .int .i64 x9)
  refine (lf_ h (show 10 < n by omega)).trans ?_
  replace h := h.put (b := g) (i := 10) (v := .int .i64 x10)
  refine (lf_ h (show 11 < n by omega)).trans ?_
  replace h := h.put (b := g) (i := 11) (v := .int .i64 x11)
  refine (lf_ h (show 12 < n by omega)).trans ?_
  replace h := h.put (b := g) (i := 12) (v := .int .i64 x12)
  refine (lf_ h (show 13 < n by omega)).trans ?_
  replace h := h.put (b := g) (i := 13) (v := .int .i64 x13)
  refine (lf_ h (show 14 < n by omega)).trans ?_
  replace h := h.put (b := g) (i := 14) (v := .int .i64 x14)
  refine (lf_ h (show 15 < n by omega)).trans ?_
  replace h := h.put (b := g) (i := 15) (v := .int .i64 x15)
  exact lf0_ h (show 16 < n by omega)
set_option maxRecDepth 100000 in
theorem ld36_ {e : Operand → Value} {o : Oper} {p : Operand} {W : World} {g : Nat} {tt : TypeId} {v0 v1 v2 v3 v4 v5 v6 v7 v8 v9 v10 v11 v12 v13 v14 v15 v16 : Value} (ho : o.op = .load 36 p) (hp : e p = .pointer (some ⟨g,0,none⟩)) (hb : W.heap[g]? = some (.cells #[v0,v1,v2,v3,v4,v5,v6,v7,v8,v9,v10,v11,v12,v13,v14,v15,v16] tt (0,0))) : (execOp e o).run Try.prog W = .ok (.value (.agg #[v0,v1,v2,v3,v4,v5,v6,v7,v8,v9,v10,v11,v12,v13,v14,v15,v16])) W := by
  have hu := Try.underlying36
  obtain ⟨o1, o2, o3, o4, o5, o6⟩ := o
  dsimp only at ho
  subst ho
  have hc := fun i => blk_cell hb i
  clear hb
  revert hc
  go_simp
  intro hc
  change Result.andThen (Result.andThen ((ldd Try.prog W ⟨g,0,none⟩ .plain).andThen fun a0 w => (ldd Try.prog w ⟨g,1,none⟩ .plain).andThen fun a1 w => (ldd Try.prog w ⟨g,2,none⟩ .plain).andThen fun a2 w => (ldd Try.prog w ⟨g,3,none⟩ .plain).andThen fun a3 w => (ldd Try.prog w ⟨g,4,none⟩ .plain).andThen fun a4 w => (ldd Try.prog w ⟨g,5,none⟩ .plain).andThen fun a5 w => (ldd Try.prog w ⟨g,6,none⟩ .plain).andThen fun a6 w => (ldd Try.prog w ⟨g,7,none⟩ .plain).andThen fun a7 w => (ldd Try.prog w ⟨g,8,none⟩ .plain).andThen fun a8 w => (ldd Try.prog w ⟨g,9,none⟩ .plain).andThen fun a9 w => (ldd Try.prog w ⟨g,10,none⟩ .plain).andThen fun a10 w => (ldd Try.prog w ⟨g,11,none⟩ .plain).andThen fun a11 w => (ldd Try.prog w ⟨g,12,none⟩ .plain).andThen fun a12 w => (ldd Try.prog w ⟨g,13,none⟩ .plain).andThen fun a13 w => (ldd Try.prog w ⟨g,14,none⟩ .plain).andThen fun a14 w => (ldd Try.prog w ⟨g,15,none⟩ .plain).andThen fun a15 w => (ldd Try.prog w ⟨g,16,none⟩ .plain).andThen fun a16 w => Result.ok #[a0,a1,a2,a3,a4,a5,a6,a7,a8,a9,a10,a11,a12,a13,a14,a15,a16] w) (fun a w => Result.ok (Value.agg a) w)) (fun a w => Result.ok (Next.value a) w) = _
  refine ao_ (a := Value.agg #[v0,v1,v2,v3,v4,v5,v6,v7,v8,v9,v10,v11,v12,v13,v14,v15,v16]) (w := W) (ao_ (a := #[v0,v1,v2,v3,v4,v5,v6,v7,v8,v9,v10,v11,v12,v13,v14,v15,v16]) (w := W) ?_ rfl) rfl
  refine (lg_ (v := v0) (hc 0)).trans ?_
  refine (lg_ (v := v1) (hc 1)).trans ?_
  refine (lg_ (v := v2) (hc 2)).trans ?_
  refine (lg_ (v := v3) (hc 3)).trans ?_
  refine (lg_ (v := v4) (hc 4)).trans ?_
  refine (lg_ (v := v5) (hc 5)).trans ?_
  refine (lg_ (v := v6) (hc 6)).trans ?_
  refine (lg_ (v := v7) (hc 7)).trans ?_
  refine (lg_ (v := v8) (hc 8)).trans ?_
  refine (lg_ (v := v9) (hc 9)).trans ?_
  refine (lg_ (v := v10) (hc 10)).trans ?_
  refine (lg_ (v := v11) (hc 11)).trans ?_
  refine (lg_ (v := v12) (hc 12)).trans ?_
  refine (lg_ (v := v13) (hc 13)).trans ?_
  refine (lg_ (v := v14) (hc 14)).trans ?_
  refine (lg_ (v := v15) (hc 15)).trans ?_
  refine (lg_ (v := v16) (hc 16)).trans ?_
  rfl
set_option maxRecDepth 100000 in
theorem sa36_ {ops : Array Oper} {rest : List Oper} {o : Oper} {a : Act} {Q : Exit → Act → World → Prop} {W w1 : World} {p : Tmp} {v : Operand} (h : wpList Try.prog ops Q rest a w1) (_ho : o.op = .store 36 (.tmp p) v := by with_reducible rfl) (hgd : Region.wanted o (yielded ops a.tmps) = true := by rfl) (hN : o.dst = none := by rfl) (hrun : (execOp a.eval o).run Try.prog W = .ok .skip w1 := by first | exact st36_ rfl rfl rfl (bB_ (Aside0.out (by assumption))) (of_decide_eq_true (by kernel_rfl))) : wpList Try.prog ops Q (o :: rest) a W := stw_ hgd hN hrun h
set_option maxRecDepth 100000 in
theorem la36_ {ops : Array Oper} {rest : List Oper} {o : Oper} {a : Act} {Q : Exit → Act → World → Prop} {W : World} {p : Tmp} {x : Value} (h : wpList Try.prog ops Q rest (a.put o.dst x) W) (_ho : o.op = .load 36 (.tmp p) := by with_reducible rfl) (hgd : Region.wanted o (yielded ops a.tmps) = true := by rfl) (hrun : (execOp a.eval o).run Try.prog W = .ok (.value x) W := by first | exact ld36_ rfl rfl (pL_ (Aside0.out (by assumption)))) : wpList Try.prog ops Q (o :: rest) a W := ldw_ hgd hrun h
set_option linter.unusedVariables false
set_option maxRecDepth 100000 in
theorem ld34o1_ {e : Operand → Value} {o : Oper} {p : Operand} {W : World} {g : Nat} {tt : TypeId} {cs : Array Value} {v0 v1 v2 v3 v4 v5 : Value} (ho : o.op = .load 34 p) (hp : e p = .pointer (some ⟨g,1,none⟩)) (hb : W.heap[g]? = some (.cells cs tt (0,0))) (e0 : cs[1]? = some v0) (e1 : cs[2]? = some v1) (e2 : cs[3]? = some v2) (e3 : cs[4]? = some v3) (e4 : cs[5]? = some v4) (e5 : cs[6]? = some v5) : (execOp e o).run Try.prog W = .ok (.value (.agg #[v0,v1,v2,v3,v4,v5])) W := by
  have hu := Try.underlying34
  obtain ⟨o1, o2, o3, o4, o5, o6⟩ := o
  dsimp only at ho
  subst ho
  have h0 := (blk_cell hb 1).trans e0
  have h1 := (blk_cell hb 2).trans e1
  have h2 := (blk_cell hb 3).trans e2
  have h3 := (blk_cell hb 4).trans e3
  have h4 := (blk_cell hb 5).trans e4
  have h5 := (blk_cell hb 6).trans e5
  go_simp
set_option maxRecDepth 100000 in
theorem st34o1_ {e : Operand → Value} {o : Oper} {p v : Operand} {W : World} {g n : Nat} {x0 : Int} {x1 : Int} {x2 : Int} {x3 : Int} {x4 : Int} {x5 : Int} (ho : o.op = .store 34 p v) (hp : e p = .pointer (some ⟨g,1,none⟩)) (hv : e v = .agg #[.int .i64 x0,.int .i64 x1,.int .i64 x2,.int .i64 x3,.int .i64 x4,.int .i64 x5]) (hb : Blk W g n) (hn : 7 ≤ n) : (execOp e o).run Try.prog W = .ok .skip ((((((W.setCell ⟨g,1,none⟩ (.int .i64 x0)).setCell ⟨g,2,none⟩ (.int .i64 x1)).setCell ⟨g,3,none⟩ (.int .i64 x2)).setCell ⟨g,4,none⟩ (.int .i64 x3)).setCell ⟨g,5,none⟩ (.int .i64 x4)).setCell ⟨g,6,none⟩ (.int .i64 x5)) := by
  have hu := Try.underlying34
  obtain ⟨o1, o2, o3, o4, o5, o6⟩ := o
  dsimp only at ho
  subst ho
  go_simp
  change Result.andThen ((stored Try.prog W ⟨g,1,none⟩ (.int .i64 x0) .plain).andThen fun _ w => (stored Try.prog w ⟨g,2,none⟩ (.int .i64 x1) .plain).andThen fun _ w => (stored Try.prog w ⟨g,3,none⟩ (.int .i64 x2) .plain).andThen fun _ w => (stored Try.prog w ⟨g,4,none⟩ (.int .i64 x3) .plain).andThen fun _ w => (stored Try.prog w ⟨g,5,none⟩ (.int .i64 x4) .plain).andThen fun _ w => stored Try.prog w ⟨g,6,none⟩ (.int .i64 x5) .plain) (fun _ w => Result.ok Next.skip w) = _
  refine ao_ (a := ()) (w := ((((((W.setCell ⟨g,1,none⟩ (.int .i64 x0)).setCell ⟨g,2,none⟩ (.int .i64 x1)).setCell ⟨g,3,none⟩ (.int .i64 x2)).setCell ⟨g,4,none⟩ (.int .i64 x3)).setCell ⟨g,5,none⟩ (.int .i64 x4)).setCell ⟨g,6,none⟩ (.int .i64 x5))) ?_ rfl
  have h := hb
  refine (lf_ h (show 1 < n by omega)).trans ?_
  replace h := h.put (b := g) (i := 1) (v := .int .i64 x0)
  refine (lf_ h (show 2 < n by omega)).trans ?_
  replace h := h.put (b := g) (i := 2) (v := .int .i64 x1)
  refine (lf_ h (show 3 < n by omega)).trans ?_
  replace h := h.put (b := g) (i := 3) (v := .int .i64 x2)
  refine (lf_ h (show 4 < n by omega)).trans ?_
  replace h := h.put (b := g) (i := 4) (v := .int .i64 x3)
  refine (lf_ h (show 5 < n by omega)).trans ?_
  replace h := h.put (b := g) (i := 5) (v := .int .i64 x4)
  exact lf0_ h (show 6 < n by omega)
theorem sa34o1_ {ops : Array Oper} {rest : List Oper} {o : Oper} {a : Act} {Q : Exit → Act → World → Prop} {W w1 : World} {p : Tmp} {v : Operand} (h : wpList Try.prog ops Q rest a w1) (_ho : o.op = .store 34 (.tmp p) v := by with_reducible rfl) (hgd : Region.wanted o (yielded ops a.tmps) = true := by rfl) (hN : o.dst = none := by rfl) (hrun : (execOp a.eval o).run Try.prog W = .ok .skip w1 := by exact st34o1_ rfl rfl rfl (bB_ (Aside0.out (by assumption))) (of_decide_eq_true (by kernel_rfl))) : wpList Try.prog ops Q (o :: rest) a W := stw_ hgd hN hrun h
theorem la34o1_ {ops : Array Oper} {rest : List Oper} {o : Oper} {a : Act} {Q : Exit → Act → World → Prop} {W : World} {p : Tmp} {x : Value} (h : wpList Try.prog ops Q rest (a.put o.dst x) W) (_ho : o.op = .load 34 (.tmp p) := by with_reducible rfl) (hgd : Region.wanted o (yielded ops a.tmps) = true := by rfl) (hrun : (execOp a.eval o).run Try.prog W = .ok (.value x) W := by exact ld34o1_ rfl rfl (pL_ (Aside0.out (by assumption))) (by rfl) (by rfl) (by rfl) (by rfl) (by rfl) (by rfl)) : wpList Try.prog ops Q (o :: rest) a W := ldw_ hgd hrun h
set_option maxRecDepth 100000 in
theorem ld34o7_ {e : Operand → Value} {o : Oper} {p : Operand} {W : World} {g : Nat} {tt : TypeId} {cs : Array Value} {v0 v1 v2 v3 v4 v5 : Value} (ho : o.op = .load 34 p) (hp : e p = .pointer (some ⟨g,7,none⟩)) (hb : W.heap[g]? = some (.cells cs tt (0,0))) (e0 : cs[7]? = some v0) (e1 : cs[8]? = some v1) (e2 : cs[9]? = some v2) (e3 : cs[10]? = some v3) (e4 : cs[11]? = some v4) (e5 : cs[12]? = some v5) : (execOp e o).run Try.prog W = .ok (.value (.agg #[v0,v1,v2,v3,v4,v5])) W := by
  have hu := Try.underlying34
  obtain ⟨o1, o2, o3, o4, o5, o6⟩ := o
  dsimp only at ho
  subst ho
  have h0 := (blk_cell hb 7).trans e0
  have h1 := (blk_cell hb 8).trans e1
  have h2 := (blk_cell hb 9).trans e2
  have h3 := (blk_cell hb 10).trans e3
  have h4 := (blk_cell hb 11).trans e4
  have h5 := (blk_cell hb 12).trans e5
  go_simp
set_option maxRecDepth 100000 in
theorem st34o7_ {e : Operand → Value} {o : Oper} {p v : Operand} {W : World} {g n : Nat} {x0 : Int} {x1 : Int} {x2 : Int} {x3 : Int} {x4 : Int} {x5 : Int} (ho : o.op = .store 34 p v) (hp : e p = .pointer (some ⟨g,7,none⟩)) (hv : e v = .agg #[.int .i64 x0,.int .i64 x1,.int .i64 x2,.int .i64 x3,.int .i64 x4,.int .i64 x5]) (hb : Blk W g n) (hn : 13 ≤ n) : (execOp e o).run Try.prog W = .ok .skip ((((((W.setCell ⟨g,7,none⟩ (.int .i64 x0)).setCell ⟨g,8,none⟩ (.int .i64 x1)).setCell ⟨g,9,none⟩ (.int .i64 x2)).setCell ⟨g,10,none⟩ (.int .i64 x3)).setCell ⟨g,11,none⟩ (.int .i64 x4)).setCell ⟨g,12,none⟩ (.int .i64 x5)) := by
  have hu := Try.underlying34
  obtain ⟨o1, o2, o3, o4, o5, o6⟩ := o
  dsimp only at ho
  subst ho
  go_simp
  change Result.andThen ((stored Try.prog W ⟨g,7,none⟩ (.int .i64 x0) .plain).andThen fun _ w => (stored Try.prog w ⟨g,8,none⟩ (.int .i64 x1) .plain).andThen fun _ w => (stored Try.prog w ⟨g,9,none⟩ (.int .i64 x2) .plain).andThen fun _ w => (stored Try.prog w ⟨g,10,none⟩ (.int .i64 x3) .plain).andThen fun _ w => (stored Try.prog w ⟨g,11,none⟩ (.int .i64 x4) .plain).andThen fun _ w => stored Try.prog w ⟨g,12,none⟩ (.int .i64 x5) .plain) (fun _ w => Result.ok Next.skip w) = _
  refine ao_ (a := ()) (w := ((((((W.setCell ⟨g,7,none⟩ (.int .i64 x0)).setCell ⟨g,8,none⟩ (.int .i64 x1)).setCell ⟨g,9,none⟩ (.int .i64 x2)).setCell ⟨g,10,none⟩ (.int .i64 x3)).setCell ⟨g,11,none⟩ (.int .i64 x4)).setCell ⟨g,12,none⟩ (.int .i64 x5))) ?_ rfl
  have h := hb
  refine (lf_ h (show 7 < n by omega)).trans ?_
  replace h := h.put (b := g) (i := 7) (v := .int .i64 x0)
  refine (lf_ h (show 8 < n by omega)).trans ?_
  replace h := h.put (b := g) (i := 8) (v := .int .i64 x1)
  refine (lf_ h (show 9 < n by omega)).trans ?_
  replace h := h.put (b := g) (i := 9) (v := .int .i64 x2)
  refine (lf_ h (show 10 < n by omega)).trans ?_
  replace h := h.put (b := g) (i := 10) (v := .int .i64 x3)
  refine (lf_ h (show 11 < n by omega)).trans ?_
  replace h := h.put (b := g) (i := 11) (v := .int .i64 x4)
  exact lf0_ h (show 12 < n by omega)
theorem sa34o7_ {ops : Array Oper} {rest : List Oper} {o : Oper} {a : Act} {Q : Exit → Act → World → Prop} {W w1 : World} {p : Tmp} {v : Operand} (h : wpList Try.prog ops Q rest a w1) (_ho : o.op = .store 34 (.tmp p) v := by with_reducible rfl) (hgd : Region.wanted o (yielded ops a.tmps) = true := by rfl) (hN : o.dst = none := by rfl) (hrun : (execOp a.eval o).run Try.prog W = .ok .skip w1 := by exact st34o7_ rfl rfl rfl (bB_ (Aside0.out (by assumption))) (of_decide_eq_true (by kernel_rfl))) : wpList Try.prog ops Q (o :: rest) a W := stw_ hgd hN hrun h
theorem la34o7_ {ops : Array Oper} {rest : List Oper} {o : Oper} {a : Act} {Q : Exit → Act → World → Prop} {W : World} {p : Tmp} {x : Value} (h : wpList Try.prog ops Q rest (a.put o.dst x) W) (_ho : o.op = .load 34 (.tmp p) := by with_reducible rfl) (hgd : Region.wanted o (yielded ops a.tmps) = true := by rfl) (hrun : (execOp a.eval o).run Try.prog W = .ok (.value x) W := by exact ld34o7_ rfl rfl (pL_ (Aside0.out (by assumption))) (by rfl) (by rfl) (by rfl) (by rfl) (by rfl) (by rfl)) : wpList Try.prog ops Q (o :: rest) a W := ldw_ hgd hrun h
theorem lr3_ {e : Operand → Value} {o : Oper} {p : Operand} {W : World} {g i : Nat} {tt : TypeId} {cs : Array Value} {v : Value} (ho : o.op = .load 3 p) (hp : e p = .pointer (some ⟨g,i,none⟩)) (hb : W.heap[g]? = some (.cells cs tt (0,0))) (hv : cs[i]? = some v) : (execOp e o).run Try.prog W = .ok (.value v) W := by
  have hu := Try.underlying3
  obtain ⟨o1, o2, o3, o4, o5, o6⟩ := o
  dsimp only at ho
  subst ho
  have hc := (blk_cell hb i).trans hv
  go_simp
theorem sr3_ {e : Operand → Value} {o : Oper} {p v : Operand} {W : World} {g i n : Nat} {x : Int} (ho : o.op = .store 3 p v) (hp : e p = .pointer (some ⟨g,i,none⟩)) (hv : e v = .int .i64 x) (hb : Blk W g n) (hn : i < n) : (execOp e o).run Try.prog W = .ok .skip (W.setCell ⟨g,i,none⟩ (.int .i64 x)) := by
  have hu := Try.underlying3
  obtain ⟨o1, o2, o3, o4, o5, o6⟩ := o
  dsimp only at ho
  subst ho
  go_simp
  change Result.andThen (stored Try.prog W ⟨g,i,none⟩ (.int .i64 x) .plain) (fun _ w => Result.ok Next.skip w) = _
  exact ao_ (lf0_ hb hn) rfl
theorem lc3_ {ops : Array Oper} {rest : List Oper} {o : Oper} {a : Act} {Q : Exit → Act → World → Prop} {W : World} {p : Tmp} {x : Value} (h : wpList Try.prog ops Q rest (a.put o.dst x) W) (_ho : o.op = .load 3 (.tmp p) := by with_reducible rfl) (hgd : Region.wanted o (yielded ops a.tmps) = true := by rfl) (hrun : (execOp a.eval o).run Try.prog W = .ok (.value x) W := by exact lr3_ rfl rfl (pL_ (Aside0.out (by assumption))) (by rfl)) : wpList Try.prog ops Q (o :: rest) a W := ldw_ hgd hrun h
theorem sc3_ {ops : Array Oper} {rest : List Oper} {o : Oper} {a : Act} {Q : Exit → Act → World → Prop} {W w1 : World} {p : Tmp} {v : Operand} (h : wpList Try.prog ops Q rest a w1) (_ho : o.op = .store 3 (.tmp p) v := by with_reducible rfl) (hgd : Region.wanted o (yielded ops a.tmps) = true := by rfl) (hN : o.dst = none := by rfl) (hrun : (execOp a.eval o).run Try.prog W = .ok .skip w1 := by exact sr3_ rfl rfl rfl (bB_ (Aside0.out (by assumption))) (of_decide_eq_true (by kernel_rfl))) : wpList Try.prog ops Q (o :: rest) a W := stw_ hgd hN hrun h
set_option maxRecDepth 100000 in
theorem bw25_ {e : Operand → Value} {o : Oper} {p : Operand} {W : World} {x0 : Int} {x1 : Int} {x2 : Int} {x3 : Int} {x4 : Int} {x5 : Int} {x6 : Int} {x7 : Int} {x8 : Int} {x9 : Int} {x10 : Int} {x11 : Int} {x12 : Int} {x13 : Int} {x14 : Int} {x15 : Int} {x16 : Int} (ho : o.op = .buildSlice 25 1 #[(0, p)]) (hp : e p = .agg #[.int .i64 x0,.int .i64 x1,.int .i64 x2,.int .i64 x3,.int .i64 x4,.int .i64 x5,.int .i64 x6,.int .i64 x7,.int .i64 x8,.int .i64 x9,.int .i64 x10,.int .i64 x11,.int .i64 x12,.int .i64 x13,.int .i64 x14,.int .i64 x15,.int .i64 x16]) : (execOp e o).run Try.prog W = .ok (.value (.slice (some ⟨W.heap.size, 0, none⟩) 1 1)) (W.alloc (.cells #[.int .i64 x0,.int .i64 x1,.int .i64 x2,.int .i64 x3,.int .i64 x4,.int .i64 x5,.int .i64 x6,.int .i64 x7,.int .i64 x8,.int .i64 x9,.int .i64 x10,.int .i64 x11,.int .i64 x12,.int .i64 x13,.int .i64 x14,.int .i64 x15,.int .i64 x16] 36)) := by
  obtain ⟨o1, o2, o3, o4, o5, o6⟩ := o
  dsimp only at ho
  subst ho
  simp only [execOp, List.map_toArray, List.map_cons, List.map_nil, hp]
  kernel_rfl
theorem bs25_ {ops : Array Oper} {rest : List Oper} {o : Oper} {a : Act} {Q : Exit → Act → World → Prop} {W w1 : World} {p : Tmp} {x : Value} (h : wpList Try.prog ops Q rest (a.put o.dst x) w1) (_ho : o.op = .buildSlice 25 1 #[(0, .tmp p)] := by with_reducible rfl) (hgd : Region.wanted o (yielded ops a.tmps) = true := by rfl) (hrun : (execOp a.eval o).run Try.prog W = .ok (.value x) w1 := by exact bw25_ rfl rfl) : wpList Try.prog ops Q (o :: rest) a W := evw_ hgd hrun h
set_option maxRecDepth 100000 in
theorem bd36_0 {e : Operand → Value} {o : Oper} {W : World}  (ho : o.op = .build 36 #[(0,.const (.int .i64 4))]) (h0 : e (.const (.int .i64 4)) = .int .i64 4) : (execOp e o).run Try.prog W = .ok (.value (.agg #[.int .i64 4,.int .i64 0,.int .i64 0,.int .i64 0,.int .i64 0,.int .i64 0,.int .i64 0,.int .i64 0,.int .i64 0,.int .i64 0,.int .i64 0,.int .i64 0,.int .i64 0,.int .i64 0,.int .i64 0,.int .i64 0,.int .i64 0])) W := by
  obtain ⟨o1, o2, o3, o4, o5, o6⟩ := o
  dsimp only at ho
  subst ho
  simp only [execOp, List.map_toArray, List.map_cons, List.map_nil, h0]
  kernel_rfl
theorem ba36_0 {ops : Array Oper} {rest : List Oper} {o : Oper} {a : Act} {Q : Exit → Act → World → Prop} {W : World} {x : Value} (h : wpList Try.prog ops Q rest (a.put o.dst x) W) (_ho : o.op = .build 36 #[(0,.const (.int .i64 4))] := by with_reducible rfl) (hgd : Region.wanted o (yielded ops a.tmps) = true := by rfl) (hrun : (execOp a.eval o).run Try.prog W = .ok (.value x) W := by exact bd36_0 rfl rfl) : wpList Try.prog ops Q (o :: rest) a W := ldw_ hgd hrun h
set_option maxRecDepth 100000 in
theorem bd36_1 {e : Operand → Value} {o : Oper} {W : World} {x0 : Int} (ho : o.op = .build 36 #[(0,.tmp 49)]) (h0 : e (.tmp 49) = .int .i64 x0) : (execOp e o).run Try.prog W = .ok (.value (.agg #[.int .i64 x0,.int .i64 0,.int .i64 0,.int .i64 0,.int .i64 0,.int .i64 0,.int .i64 0,.int .i64 0,.int .i64 0,.int .i64 0,.int .i64 0,.int .i64 0,.int .i64 0,.int .i64 0,.int .i64 0,.int .i64 0,.int .i64 0])) W := by
  obtain ⟨o1, o2, o3, o4, o5, o6⟩ := o
  dsimp only at ho
  subst ho
  simp only [execOp, List.map_toArray, List.map_cons, List.map_nil, h0]
  kernel_rfl
theorem ba36_1 {ops : Array Oper} {rest : List Oper} {o : Oper} {a : Act} {Q : Exit → Act → World → Prop} {W : World} {x : Value} (h : wpList Try.prog ops Q rest (a.put o.dst x) W) (_ho : o.op = .build 36 #[(0,.tmp 49)] := by with_reducible rfl) (hgd : Region.wanted o (yielded ops a.tmps) = true := by rfl) (hrun : (execOp a.eval o).run Try.prog W = .ok (.value x) W := by exact bd36_1 rfl rfl) : wpList Try.prog ops Q (o :: rest) a W := ldw_ hgd hrun h
set_option maxRecDepth 100000 in
theorem bd36_2 {e : Operand → Value} {o : Oper} {W : World} {x0 : Int} (ho : o.op = .build 36 #[(0,.tmp 62)]) (h0 : e (.tmp 62) = .int .i64 x0) : (execOp e o).run Try.prog W = .ok (.value (.agg #[.int .i64 x0,.int .i64 0,.int .i64 0,.int .i64 0,.int .i64 0,.int .i64 0,.int .i64 0,.int .i64 0,.int .i64 0,.int .i64 0,.int .i64 0,.int .i64 0,.int .i64 0,.int .i64 0,.int .i64 0,.int .i64 0,.int .i64 0])) W := by
  obtain ⟨o1, o2, o3, o4, o5, o6⟩ := o
  dsimp only at ho
  subst ho
  simp only [execOp, List.map_toArray, List.map_cons, List.map_nil, h0]
  kernel_rfl
theorem ba36_2 {ops : Array Oper} {rest : List Oper} {o : Oper} {a : Act} {Q : Exit → Act → World → Prop} {W : World} {x : Value} (h : wpList Try.prog ops Q rest (a.put o.dst x) W) (_ho : o.op = .build 36 #[(0,.tmp 62)] := by with_reducible rfl) (hgd : Region.wanted o (yielded ops a.tmps) = true := by rfl) (hrun : (execOp a.eval o).run Try.prog W = .ok (.value x) W := by exact bd36_2 rfl rfl) : wpList Try.prog ops Q (o :: rest) a W := ldw_ hgd hrun h
set_option maxRecDepth 100000 in
theorem bd36_3 {e : Operand → Value} {o : Oper} {W : World} {x0 : Int} (ho : o.op = .build 36 #[(0,.tmp 75)]) (h0 : e (.tmp 75) = .int .i64 x0) : (execOp e o).run Try.prog W = .ok (.value (.agg #[.int .i64 x0,.int .i64 0,.int .i64 0,.int .i64 0,.int .i64 0,.int .i64 0,.int .i64 0,.int .i64 0,.int .i64 0,.int .i64 0,.int .i64 0,.int .i64 0,.int .i64 0,.int .i64 0,.int .i64 0,.int .i64 0,.int .i64 0])) W := by
  obtain ⟨o1, o2, o3, o4, o5, o6⟩ := o
  dsimp only at ho
  subst ho
  simp only [execOp, List.map_toArray, List.map_cons, List.map_nil, h0]
  kernel_rfl
theorem ba36_3 {ops : Array Oper} {rest : List Oper} {o : Oper} {a : Act} {Q : Exit → Act → World → Prop} {W : World} {x : Value} (h : wpList Try.prog ops Q rest (a.put o.dst x) W) (_ho : o.op = .build 36 #[(0,.tmp 75)] := by with_reducible rfl) (hgd : Region.wanted o (yielded ops a.tmps) = true := by rfl) (hrun : (execOp a.eval o).run Try.prog W = .ok (.value x) W := by exact bd36_3 rfl rfl) : wpList Try.prog ops Q (o :: rest) a W := ldw_ hgd hrun h
set_option maxRecDepth 100000 in
theorem bd36_4 {e : Operand → Value} {o : Oper} {W : World} {x0 : Int} (ho : o.op = .build 36 #[(0,.tmp 84)]) (h0 : e (.tmp 84) = .int .i64 x0) : (execOp e o).run Try.prog W = .ok (.value (.agg #[.int .i64 x0,.int .i64 0,.int .i64 0,.int .i64 0,.int .i64 0,.int .i64 0,.int .i64 0,.int .i64 0,.int .i64 0,.int .i64 0,.int .i64 0,.int .i64 0,.int .i64 0,.int .i64 0,.int .i64 0,.int .i64 0,.int .i64 0])) W := by
  obtain ⟨o1, o2, o3, o4, o5, o6⟩ := o
  dsimp only at ho
  subst ho
  simp only [execOp, List.map_toArray, List.map_cons, List.map_nil, h0]
  kernel_rfl
theorem ba36_4 {ops : Array Oper} {rest : List Oper} {o : Oper} {a : Act} {Q : Exit → Act → World → Prop} {W : World} {x : Value} (h : wpList Try.prog ops Q rest (a.put o.dst x) W) (_ho : o.op = .build 36 #[(0,.tmp 84)] := by with_reducible rfl) (hgd : Region.wanted o (yielded ops a.tmps) = true := by rfl) (hrun : (execOp a.eval o).run Try.prog W = .ok (.value x) W := by exact bd36_4 rfl rfl) : wpList Try.prog ops Q (o :: rest) a W := ldw_ hgd hrun h
set_option maxRecDepth 100000 in
theorem bd36_5 {e : Operand → Value} {o : Oper} {W : World} {x0 : Int} (ho : o.op = .build 36 #[(0,.tmp 9)]) (h0 : e (.tmp 9) = .int .i64 x0) : (execOp e o).run Try.prog W = .ok (.value (.agg #[.int .i64 x0,.int .i64 0,.int .i64 0,.int .i64 0,.int .i64 0,.int .i64 0,.int .i64 0,.int .i64 0,.int .i64 0,.int .i64 0,.int .i64 0,.int .i64 0,.int .i64 0,.int .i64 0,.int .i64 0,.int .i64 0,.int .i64 0])) W := by
  obtain ⟨o1, o2, o3, o4, o5, o6⟩ := o
  dsimp only at ho
  subst ho
  simp only [execOp, List.map_toArray, List.map_cons, List.map_nil, h0]
  kernel_rfl
theorem ba36_5 {ops : Array Oper} {rest : List Oper} {o : Oper} {a : Act} {Q : Exit → Act → World → Prop} {W : World} {x : Value} (h : wpList Try.prog ops Q rest (a.put o.dst x) W) (_ho : o.op = .build 36 #[(0,.tmp 9)] := by with_reducible rfl) (hgd : Region.wanted o (yielded ops a.tmps) = true := by rfl) (hrun : (execOp a.eval o).run Try.prog W = .ok (.value x) W := by exact bd36_5 rfl rfl) : wpList Try.prog ops Q (o :: rest) a W := ldw_ hgd hrun h
end Go.Proofs.Ytoacddcbiceeeab.ZFnCostAdds
