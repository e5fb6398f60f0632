-- Made by the session's wip/pp.py, a changed call of the kit's printer; Lean checks it.
import Derived.Test.YtgkpgigoonhgdaaPFnMostCutx0
import Derived.Test.YtgkpgigoonhgdaaPFnMostCutx9
namespace Go.Proofs.Ytgkpgigoonhgdaa.PFnMostCut
open Go.RowKit Go.Proofs.YtgkpgigoonhgdaaW.PrintWords Go.Proofs.YtgkpgigoonhgdaaW.PrintLast Go.Proofs.YtgkpgigoonhgdaaW.PrintMore
attribute [local go_sem] max2_int min2_int max_two min_two max_three min_three max_four min_four   -- for this text's walks alone
set_option linter.unusedVariables false
set_option linter.unusedSimpArgs false

abbrev fl10_0_ : Array Bool:=#[false,false,false,false,false,false,false,false,false,false,false,false,false,false,false]
abbrev fl10_1_ : Array Bool:=#[true,false,false,false,false,false,false,false,false,false,false,false,false,false,false]
abbrev fl10_2_ : Array Bool:=#[true,true,false,false,false,false,false,false,false,false,false,false,false,false,false]
abbrev fl10_3_ : Array Bool:=#[true,true,false,false,true,false,false,false,false,false,false,false,false,false,false]
abbrev fl10_4_ : Array Bool:=#[true,true,false,false,true,true,false,false,false,false,false,false,false,false,false]
abbrev fl10_5_ : Array Bool:=#[true,true,false,false,true,true,false,false,true,false,false,false,false,false,false]
abbrev fl10_6_ : Array Bool:=#[true,true,false,false,true,true,false,false,true,false,true,false,false,false,false]
abbrev fl10_7_ : Array Bool:=#[true,true,true,false,true,true,false,false,true,false,true,false,false,false,false]
abbrev fl10_8_ : Array Bool:=#[true,true,true,false,true,true,true,false,true,false,true,false,false,false,false]
abbrev fl10_9_ : Array Bool:=#[true,true,true,true,true,true,true,true,true,true,true,true,true,true,false]
abbrev fl10_10_ : Array Bool:=#[true,true,true,true,true,true,true,true,true,true,true,true,true,false,false]
abbrev fl10_11_ : Array Bool:=#[true,true,true,true,true,true,true,true,true,true,true,false,false,true,false]
abbrev fl10_12_ : Array Bool:=#[true,true,true,true,true,true,true,true,true,true,true,false,false,false,false]
abbrev fl10_13_ : Array Bool:=#[true,true,true,true,true,true,true,true,true,false,true,false,false,true,false]
abbrev fl10_14_ : Array Bool:=#[true,true,true,true,true,true,true,true,true,false,true,false,false,false,false]
abbrev fl10_15_ : Array Bool:=#[true,true,true,true,true,true,true,false,true,false,true,false,false,true,false]
abbrev fl10_16_ : Array Bool:=#[true,true,true,true,true,true,true,false,true,false,true,false,false,false,false]
abbrev fl10_17_ : Array Bool:=#[true,true,true,false,true,true,true,false,true,false,true,false,false,true,false]
abbrev fl10_18_ : Array Bool:=#[true,true,true,true,true,true,true,true,true,true,true,true,false,false,false]
abbrev fl10_19_ : Array Bool:=#[true,true,true,true,true,true,true,true,true,true,true,true,false,true,false]
abbrev fl10_20_ : Array Bool:=#[true,true,true,true,true,true,true,true,true,true,true,true,true,true,true]
/-! ### spec_l06Right: function 60 -/
def spec_l06Right.l0 : Nat → Int → List Int → Int → Int → Int → List (S67) → Option (Int × (List (S67)) × Int × Int)
 | 0, _, _, _, _, _, _ => none
 | k + 1, x4, x1000, x1001, x1002, x332000, x332001 => (spec_l01Below.f x1000 x1001 x1002 14).bind fun bt332 => (if x4 < (wrap64 (4 + bt332.1)) then ((spec_l01Below.f x1000 bt332.2.1 bt332.2.2 x332000).bind fun bt335 => ((spec_l01Below.f x1000 bt335.2.1 bt335.2.2 x332000).bind fun bt338 => ((spec_l01Below.f x1000 bt338.2.1 bt338.2.2 5).bind fun bt341 => ((spec_l01Below.f x1000 bt341.2.1 bt341.2.2 10).bind fun bt344 => ((spec_l01Below.f x1000 bt344.2.1 bt344.2.2 5).bind fun bt348 => (if bt348.1 = 0 then (if 0 = bt338.1 then (spec_l06Right.l0 k (wrap64 (x4 + 1)) x1000 bt348.2.1 bt348.2.2 x332000 x332001) else (if x332001.length < 4398046511104 then (spec_l06Right.l0 k (wrap64 (x4 + 1)) x1000 bt348.2.1 bt348.2.2 x332000 (x332001 ++ [(⟨0, bt338.1, bt341.1, bt344.1⟩ : S67)])) else (none))) else (if bt348.1 = 1 then (if bt335.1 = 1 then (spec_l06Right.l0 k (wrap64 (x4 + 1)) x1000 bt348.2.1 bt348.2.2 x332000 x332001) else (if x332001.length < 4398046511104 then (spec_l06Right.l0 k (wrap64 (x4 + 1)) x1000 bt348.2.1 bt348.2.2 x332000 (x332001 ++ [(⟨bt335.1, 1, bt341.1, bt344.1⟩ : S67)])) else (none))) else (if bt335.1 = bt338.1 then (spec_l06Right.l0 k (wrap64 (x4 + 1)) x1000 bt348.2.1 bt348.2.2 x332000 x332001) else (if x332001.length < 4398046511104 then (spec_l06Right.l0 k (wrap64 (x4 + 1)) x1000 bt348.2.1 bt348.2.2 x332000 (x332001 ++ [(⟨bt335.1, bt338.1, bt341.1, bt344.1⟩ : S67)])) else (none)))))))))) else (some (x332000, x332001, bt332.2.1, bt332.2.2)))
def spec_l06Right.f (k : Nat) (s0_0 : List Int) (s0_1 : Int) (s0_2 : Int) : Option (Int × (List (S67)) × Int × Int):=(spec_l01Below.f s0_0 s0_1 s0_2 6).bind fun bt328=>(spec_l06Right.l0 k 0 s0_0 bt328.2.1 bt328.2.2 (wrap64 (3 + bt328.1)) ([] : List (S67)))
theorem spec_l06Right.mono_l : ∀ k,(∀ y0 y1 y2 y3 y4 y5,LeO (spec_l06Right.l0 k y0 y1 y2 y3 y4 y5) (spec_l06Right.l0 (k + 1) y0 y1 y2 y3 y4 y5))
 | 0 => fun _ _ _ _ _ _ r h => by simp [spec_l06Right.l0] at h
 | k + 1 => by
  have ih0:=spec_l06Right.mono_l k
  ·intro y0 y1 y2 y3 y4 y5
   unfold spec_l06Right.l0
   repeat' first
   | (with_reducible exact ih0 _ _ _ _ _ _)
   | (with_reducible exact LeO.refl _)
   | (with_reducible refine LeO.ite ?_ ?_)
   | (with_reducible refine LeO.bind ?_ (fun _ => ?_))
theorem spec_l06Right.mono : ∀ a0 a1 a2 k,LeO (spec_l06Right.f k a0 a1 a2) (spec_l06Right.f (k + 1) a0 a1 a2):=by
 intro a0 a1 a2 k
 have ih0:=spec_l06Right.mono_l k
 unfold spec_l06Right.f
 repeat' first
   | (with_reducible exact ih0 _ _ _ _ _ _)
   | (with_reducible exact LeO.refl _)
   | (with_reducible refine LeO.bind ?_ (fun _ => ?_))
def spec_l06Right.T5 : Bool × List (List Nat × List Nat):=(true,[([],[]),([],[]),([1],[1]),([0,2],[0,2]),([],[]),([],[]),([5],[5]),([4,6,3],[4,6]),([],[]),([8,7],[8]),([],[]),([10,9],[10]),([3,7,9,11],[3,7,9,11]),([],[]),([13,12,11,0,1,2,3,4,5,6,7,8,9,10,11,12,13],[12,13])])
def spec_l06Right.B5 : List Nat:=[0,0,2,7,0,0,32,127,0,511,0,2047,4095,0,16383]
theorem spec_l06Right.tab5 : rtab .any (opsOf Try.f60 5) = spec_l06Right.T5:=by kernel_rfl
theorem spec_l06Right.bits5 : waitsOk spec_l06Right.T5.2 spec_l06Right.B5 = true:=by kernel_rfl
end Go.Proofs.Ytgkpgigoonhgdaa.PFnMostCut
