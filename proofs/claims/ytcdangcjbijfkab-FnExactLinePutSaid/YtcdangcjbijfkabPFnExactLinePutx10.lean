-- by a program of this session's, over the kit's words
import Derived.Test.YtcdangcjbijfkabPZFnExactLinePut
import Derived.Test.YtcdangcjbijfkabPFnExactLinePutx0
import Derived.Test.YtcdangcjbijfkabPFnExactLinePutx1
import Derived.Test.YtcdangcjbijfkabPFnExactLinePutx5
import Derived.Test.YtcdangcjbijfkabPFnExactLinePutx8
import Derived.Test.YtcdangcjbijfkabPFnExactLinePutx9
namespace Go.Proofs.Ytcdangcjbijfkab.PFnExactLinePut
open Go.RowKit Go.Proofs.YtcdangcjbijfkabW.PrintWords Go.Proofs.YtcdangcjbijfkabW.PrintLast Go.Proofs.YtcdangcjbijfkabW.PrintMore Go.Proofs.YtcdangcjbijfkabV Go.Proofs.Ytcdangcjbijfkab.ZFnExactLinePut
attribute [local go_sem] max2_int min2_int max_two min_two max_three min_three max_four min_four   -- for this text's walks alone
set_option linter.unusedVariables false
set_option linter.unusedSimpArgs false

/-! ### laws_FnExactLinePut: function 3 -/
mutual
def laws_FnExactLinePut.j0 : Nat → Int → Int → Bool → Int → List (S28) → List (S28) → List (S28) → Int → Int → Int → Int → Int → List (S38) → List (S38) → List (S38) → Int → List (S38) → List (S38) → List (S38) → Int → List (S38) → List (S38) → List (S38) → Option (Bool)
 | 0, _, _, _, _, _, _, _, _, _, _, _, _, _, _, _, _, _, _, _, _, _, _, _ => none
 | k + 1,x7,x10,x46,x331000,x331001,x331002,x331003,x332000,x332001,x332002,x332003,x359000,x359001,x359002,x359003,x370000,x370001,x370002,x370003,x386000,x386001,x386002,x386003=>if x46=true then (some false) else ((laws_toLine.f k x331000 x331001 x331002 x331003).bind fun bt387=>((laws_eqLine.f k x370000 x370001 x370002 x370003 bt387.1 bt387.2.1 bt387.2.2.1 bt387.2.2.2).bind fun t397=>(if t397=true then ((laws_markLine.f k x370000 x370001 x370002 x370003 1).bind fun bt398=>(if bt398.1 < 0 then (laws_FnExactLinePut.j1 k x7 true x331000 x331001 x331002 x331003 x332000 x332001 x332002 x332003 x359000 x359001 x359002 x359003 x386000 x386001 x386002 x386003) else ((laws_eqLine.f k x386000 x386001 x386002 x386003 x359000 x359001 x359002 x359003).bind fun t402=>(if t402=true then (laws_FnExactLinePut.j1 k x7 (x10 != x7) x331000 x331001 x331002 x331003 x332000 x332001 x332002 x332003 x359000 x359001 x359002 x359003 x386000 x386001 x386002 x386003) else (laws_FnExactLinePut.j1 k x7 true x331000 x331001 x331002 x331003 x332000 x332001 x332002 x332003 x359000 x359001 x359002 x359003 x386000 x386001 x386002 x386003))))) else (some false))))
def laws_FnExactLinePut.j1 : Nat → Int → Bool → Int → List (S28) → List (S28) → List (S28) → Int → Int → Int → Int → Int → List (S38) → List (S38) → List (S38) → Int → List (S38) → List (S38) → List (S38) → Option (Bool)
 | 0, _, _, _, _, _, _, _, _, _, _, _, _, _, _, _, _, _, _ => none
 | k + 1,x7,x67,x331000,x331001,x331002,x331003,x332000,x332001,x332002,x332003,x359000,x359001,x359002,x359003,x386000,x386001,x386002,x386003=>if x67=true then (some false) else ((laws_markLine.f k x386000 x386001 x386002 x386003 1).bind fun bt403=>((laws_heldLine.f k x386000 bt403.2.1 bt403.2.2.1 bt403.2.2.2 1).bind fun t407=>(if t407 < 0 then (some false) else (if t407=bt403.1 then ((laws_toLine.f k x331000 x331001 x331002 x331003).bind fun bt408=>((laws_toJob.f x332000 x332001 x332002 x332003).bind fun bt418=>((impl_LinePut.f k bt408.1 bt408.2.1 bt408.2.2.1 bt408.2.2.2 bt418.1 bt418.2.1 bt418.2.2.1 bt418.2.2.2).bind fun bt422=>((laws_eqLine.f k bt422.1 bt422.2.1 bt422.2.2.1 bt422.2.2.2.1 x359000 x359001 x359002 x359003).bind fun t434=>(if t434=true then (laws_FnExactLinePut.j2 k bt403.1 (bt422.2.2.2.2 != x7) x386000 bt403.2.1 bt403.2.2.1 bt403.2.2.2) else (laws_FnExactLinePut.j2 k bt403.1 true x386000 bt403.2.1 bt403.2.2.1 bt403.2.2.2)))))) else (some false)))))
def laws_FnExactLinePut.j2 : Nat → Int → Bool → Int → List (S38) → List (S38) → List (S38) → Option (Bool)
 | 0, _, _, _, _, _, _ => none
 | k + 1,x12,x95,x386000,x386001,x386002,x386003=>if x95=true then (some false) else ((laws_heldLine.f k x386000 x386001 x386002 x386003 1).bind fun t435=>(if t435 < 0 then (some false) else (if t435=x12 then (some true) else (some false))))
end
def laws_FnExactLinePut.f (k : Nat) (a0_0 : Int) (l0_1 : List (S28)) (l0_2 : List (S28)) (l0_3 : List (S28)) (a1_0 : Int) (a1_1 : Int) (a1_2 : Int) (a1_3 : Int) : Option (Bool) := (laws_szLine.f a0_0 l0_1 l0_2 l0_3 1048576).bind fun t332 => (if t332 < 0 then (some true) else ((laws_toLine.f k a0_0 l0_1 l0_2 l0_3).bind fun bt333 => ((laws_toJob.f a1_0 a1_1 a1_2 a1_3).bind fun bt343 => ((spec_LinePut.f k bt333.1 bt333.2.1 bt333.2.2.1 bt333.2.2.2 bt343.1 bt343.2.1 bt343.2.2.1 bt343.2.2.2).bind fun bt347 => ((laws_toLine.f k a0_0 l0_1 l0_2 l0_3).bind fun bt359 => ((laws_toJob.f a1_0 a1_1 a1_2 a1_3).bind fun bt370 => ((impl_LinePut.f k bt359.1 bt359.2.1 bt359.2.2.1 bt359.2.2.2 bt370.1 bt370.2.1 bt370.2.2.1 bt370.2.2.2).bind fun bt374 => ((laws_eqLine.f k bt374.1 bt374.2.1 bt374.2.2.1 bt374.2.2.2.1 bt347.1 bt347.2.1 bt347.2.2.1 bt347.2.2.2.1).bind fun t386 => (if t386 = true then (laws_FnExactLinePut.j0 k bt347.2.2.2.2 bt374.2.2.2.2 (bt374.2.2.2.2 != bt347.2.2.2.2) a0_0 l0_1 l0_2 l0_3 a1_0 a1_1 a1_2 a1_3 bt347.1 bt347.2.1 bt347.2.2.1 bt347.2.2.2.1 bt359.1 bt359.2.1 bt359.2.2.1 bt359.2.2.2 bt374.1 bt374.2.1 bt374.2.2.1 bt374.2.2.2.1) else (laws_FnExactLinePut.j0 k bt347.2.2.2.2 bt374.2.2.2.2 true a0_0 l0_1 l0_2 l0_3 a1_0 a1_1 a1_2 a1_3 bt347.1 bt347.2.1 bt347.2.2.1 bt347.2.2.2.1 bt359.1 bt359.2.1 bt359.2.2.1 bt359.2.2.2 bt374.1 bt374.2.1 bt374.2.2.1 bt374.2.2.2.1))))))))))
def laws_FnExactLinePut.T5 : Bool × List (List Nat × List Nat) := (true, [([], []), ([0], [0]), ([], []), ([2, 1], [2]), ([1, 3, 3], [1, 3]), ([4], [4]), ([5], [5]), ([5], [5]), ([], []), ([8, 6, 4, 0, 1, 2, 3, 4, 5, 6, 8], [6, 8]), ([7, 9, 0, 1, 2, 3, 4, 5, 6, 7, 8, 9], [7])])
def laws_FnExactLinePut.B5 : List Nat := [0, 1, 0, 7, 15, 31, 63, 63, 0, 383, 1023]
theorem laws_FnExactLinePut.tab5 : rtab .any (opsOf Try.f3 5) = laws_FnExactLinePut.T5 := by kernel_rfl
theorem laws_FnExactLinePut.bits5 : waitsOk laws_FnExactLinePut.T5.2 laws_FnExactLinePut.B5 = true := by kernel_rfl
def laws_FnExactLinePut.T7 : Bool × List (List Nat × List Nat) := (true, [([], []), ([], []), ([1], [1]), ([0, 2, 2], [0, 2]), ([3], [3]), ([4], [4]), ([4], [4]), ([], []), ([7, 5, 3, 0, 1, 2, 3, 4, 5, 7], [5, 7]), ([6, 8, 0, 1, 2, 3, 4, 5, 6, 7, 8], [6])])
def laws_FnExactLinePut.B7 : List Nat := [0, 0, 2, 7, 15, 31, 31, 0, 191, 511]
theorem laws_FnExactLinePut.tab7 : rtab .any (opsOf Try.f3 7) = laws_FnExactLinePut.T7 := by kernel_rfl
theorem laws_FnExactLinePut.bits7 : waitsOk laws_FnExactLinePut.T7.2 laws_FnExactLinePut.B7 = true := by kernel_rfl
def laws_FnExactLinePut.T24 : Bool × List (List Nat × List Nat) := (true, [([], []), ([0], [0]), ([], []), ([2, 1], [2]), ([1, 3, 3], [1, 3]), ([4], [4]), ([5], [5]), ([5], [5]), ([], []), ([8, 6, 4, 0, 1, 2, 3, 4, 5, 6, 8], [6, 8]), ([7, 9, 0, 1, 2, 3, 4, 5, 6, 7, 8, 9], [7])])
def laws_FnExactLinePut.B24 : List Nat := [0, 1, 0, 7, 15, 31, 63, 63, 0, 383, 1023]
theorem laws_FnExactLinePut.tab24 : rtab .any (opsOf Try.f3 24) = laws_FnExactLinePut.T24 := by kernel_rfl
theorem laws_FnExactLinePut.bits24 : waitsOk laws_FnExactLinePut.T24.2 laws_FnExactLinePut.B24 = true := by kernel_rfl
end Go.Proofs.Ytcdangcjbijfkab.PFnExactLinePut
