-- Made by the session's wip/pp.py, a changed call of the kit's printer; Lean checks it.
import Derived.Test.YtgkpgigoonhgdaaPFnFlowsx0
import Derived.Test.YtgkpgigoonhgdaaPFnFlowsx5
import Derived.Test.YtgkpgigoonhgdaaPFnFlowsx8
import Derived.Test.YtgkpgigoonhgdaaPFnFlowsx9
import Derived.Test.YtgkpgigoonhgdaaPFnFlowsx11
import Derived.Test.YtgkpgigoonhgdaaPFnFlowsx15
namespace Go.Proofs.Ytgkpgigoonhgdaa.PFnFlows
open Go.RowKit Go.Proofs.YtgkpgigoonhgdaaW.PrintWords Go.Proofs.YtgkpgigoonhgdaaW.PrintLast Go.Proofs.YtgkpgigoonhgdaaW.PrintMore
attribute [local go_sem] max2_int min2_int max_two min_two max_three min_three max_four min_four   -- for this text's walks alone
set_option linter.unusedVariables false
set_option linter.unusedSimpArgs false

abbrev fl16_0_ : Array Bool:=#[true,true,true,true,true,true,false,false,false]
abbrev fl16_1_ : Array Bool:=#[true,true,true,false,true,true,false,false,false]
abbrev fl16_2_ : Array Bool:=#[true,true,true,true,true,true,true,true,true,true,true,true,true,true,true,true,true,false,false,false,false,false,false]
abbrev fl16_3_ : Array Bool:=#[true,true,true,true,true,true,true,true,true,true,true,true,false,false,true,true,true,false,false,false,false,false,false]
abbrev fl16_4_ : Array Bool:=#[true,true,true,true,true,true,true,true,true,true,true,true,true,false,true,true,true,false,false,false,false,false,false]
/-! ### laws_FnFlows: function 7 -/
mutual
def laws_FnFlows.j0 : Nat → List Int → List Int → Bool → Int → List (S67) → Option (Bool)
 | 0, _, _, _, _, _ => none
 | k + 1, x4, x6, x33, x411000, x411001 => if x33 = true then (some false) else ((some (([] : List Int) : List Int)).bind fun y427 => (if y427.length + x4.length < 17592186044416 then ((impl_FlowSize.f k x411000 x411001 (y427 ++ x4)).bind fun t433 => ((some (([] : List Int) : List Int)).bind fun y434 => (if y434.length + x4.length < 17592186044416 then ((some (([] : List Int) : List Int)).bind fun y440 => (if y440.length + x6.length < 17592186044416 then ((impl_FlowMore.f k x411000 x411001 (y434 ++ x4) (y440 ++ x6)).bind fun t446 => ((some (([] : List Int) : List Int)).bind fun y449 => (if y449.length + x4.length < 17592186044416 then ((impl_ReachedBy.f k x411000 x411001 (y449 ++ x4)).bind fun t455 => ((spec_FlowSize.f k x411000 x411001 x4).bind fun t458 => (if t433 = t458 then (if t433 < 0 then (laws_FnFlows.j1 k x4 x6 t433 t446 true x411000 x411001) else (if (t455.length : Int) = x411000 then (if 0 < (t455.length : Int) then (laws_FnFlows.j1 k x4 x6 t433 t446 (!(rdOf false t455 0)) x411000 x411001) else (none)) else (laws_FnFlows.j1 k x4 x6 t433 t446 true x411000 x411001))) else (laws_FnFlows.j1 k x4 x6 t433 t446 true x411000 x411001)))) else (none)))) else (none))) else (none)))) else (none)))
def laws_FnFlows.j1 : Nat → List Int → List Int → Int → List Int → Bool → Int → List (S67) → Option (Bool)
 | 0, _, _, _, _, _, _, _ => none
 | k + 1, x4, x6, x7, x8, x73, x411000, x411001 => if x73 = true then (some false) else (if (x8.length : Int) = (x4.length : Int) then (laws_FnFlows.j2 k x4 x6 x7 x8 ((x4.length : Int) == 0) x411000 x411001) else (laws_FnFlows.j2 k x4 x6 x7 x8 true x411000 x411001))
def laws_FnFlows.j2 : Nat → List Int → List Int → Int → List Int → Bool → Int → List (S67) → Option (Bool)
 | 0, _, _, _, _, _, _, _ => none
 | k + 1, x4, x6, x7, x8, x83, x411000, x411001 => if x83 = true then (if (x8.length : Int) = 0 then ((spec_FlowMore.f k x411000 x411001 x4 x6).bind fun t460 => (some ((t460.length : Int) == 0))) else (some false)) else ((some (([] : List Int) : List Int)).bind fun y463 => (if y463.length + x8.length < 17592186044416 then ((impl_FlowSize.f k x411000 x411001 (y463 ++ x8)).bind fun t469 => (if t469 = (wrap64 (2 * x7)) then ((some (([] : List Int) : List Int)).bind fun y470 => (if y470.length + x8.length < 17592186044416 then ((impl_FlowCost.f k x411000 x411001 (y470 ++ x8)).bind fun t476 => ((some (([] : List Int) : List Int)).bind fun y477 => (if y477.length + x4.length < 17592186044416 then ((impl_FlowCost.f k x411000 x411001 (y477 ++ x4)).bind fun t483 => (some (t476 == (wrap64 (2 * t483))))) else (none)))) else (none))) else (some false))) else (none)))
end
def laws_FnFlows.f (k : Nat) (l0 : List Int) : Option (Bool):=(laws_big.f l0).bind fun t402=>(if t402 = true then (some true) else ((spec_DrawPushed.f k l0).bind fun bt403=>((spec_DrawPushed.f k l0).bind fun bt411=>((some (([] : List Int) : List Int)).bind fun y419=>(if y419.length + bt403.2.2.length < 17592186044416 then ((impl_FlowOk.f k bt403.1 bt403.2.1 (y419 ++ bt403.2.2)).bind fun t425=>(if t425 = true then ((laws_sameNet.f k bt403.1 bt403.2.1 bt411.1 bt411.2.1).bind fun t426=>(laws_FnFlows.j0 k bt403.2.2 bt411.2.2 (!t426) bt403.1 bt403.2.1)) else (laws_FnFlows.j0 k bt403.2.2 bt411.2.2 true bt403.1 bt403.2.1))) else (none))))))
theorem laws_FnFlows.mono_l : ∀ k,(∀ y0 y1 y2 y3 y4,LeO (laws_FnFlows.j0 k y0 y1 y2 y3 y4) (laws_FnFlows.j0 (k + 1) y0 y1 y2 y3 y4)) ∧ (∀ y0 y1 y2 y3 y4 y5 y6,LeO (laws_FnFlows.j1 k y0 y1 y2 y3 y4 y5 y6) (laws_FnFlows.j1 (k + 1) y0 y1 y2 y3 y4 y5 y6)) ∧ (∀ y0 y1 y2 y3 y4 y5 y6,LeO (laws_FnFlows.j2 k y0 y1 y2 y3 y4 y5 y6) (laws_FnFlows.j2 (k + 1) y0 y1 y2 y3 y4 y5 y6))
 | 0 => ⟨fun _ _ _ _ _ r h => by simp [laws_FnFlows.j0] at h, fun _ _ _ _ _ _ _ r h => by simp [laws_FnFlows.j1] at h, fun _ _ _ _ _ _ _ r h => by simp [laws_FnFlows.j2] at h⟩
 | k + 1 => by
  obtain ⟨ih0,ih1,ih2⟩:=laws_FnFlows.mono_l k
  refine ⟨?_,?_,?_⟩
  ·intro y0 y1 y2 y3 y4
   unfold laws_FnFlows.j0
   repeat' first
   | (with_reducible exact ih1 _ _ _ _ _ _ _)
   | (with_reducible exact impl_FlowMore.mono _ _ _ _ _)
   | (with_reducible exact impl_FlowSize.mono _ _ _ _)
   | (with_reducible exact impl_ReachedBy.mono _ _ _ _)
   | (with_reducible exact spec_FlowSize.mono _ _ _ _)
   | (with_reducible exact LeO.refl _)
   | (with_reducible refine LeO.ite ?_ ?_)
   | (with_reducible refine LeO.bind ?_ (fun _ => ?_))
  ·intro y0 y1 y2 y3 y4 y5 y6
   unfold laws_FnFlows.j1
   repeat' first
   | (with_reducible exact ih2 _ _ _ _ _ _ _)
   | (with_reducible exact LeO.refl _)
   | (with_reducible refine LeO.ite ?_ ?_)
  ·intro y0 y1 y2 y3 y4 y5 y6
   unfold laws_FnFlows.j2
   repeat' first
   | (with_reducible exact impl_FlowCost.mono _ _ _ _)
   | (with_reducible exact impl_FlowSize.mono _ _ _ _)
   | (with_reducible exact spec_FlowMore.mono _ _ _ _ _)
   | (with_reducible exact LeO.refl _)
   | (with_reducible refine LeO.ite ?_ ?_)
   | (with_reducible refine LeO.bind ?_ (fun _ => ?_))
theorem laws_FnFlows.mono : ∀ a0 k,LeO (laws_FnFlows.f k a0) (laws_FnFlows.f (k + 1) a0):=by
 intro a0 k
 obtain ⟨ih0,ih1,ih2⟩:=laws_FnFlows.mono_l k
 unfold laws_FnFlows.f
 repeat' first
   | (with_reducible exact ih0 _ _ _ _ _)
   | (with_reducible exact impl_FlowOk.mono _ _ _ _)
   | (with_reducible exact laws_sameNet.mono _ _ _ _ _)
   | (with_reducible exact spec_DrawPushed.mono _ _)
   | (with_reducible exact LeO.refl _)
   | (with_reducible refine LeO.ite ?_ ?_)
   | (with_reducible refine LeO.bind ?_ (fun _ => ?_))
def laws_FnFlows.T5 : Bool × List (List Nat × List Nat):=(true,[([],[]),([],[]),([],[]),([1,2],[1,2]),([0,3,3],[0,3]),([4],[4]),([5,4],[5]),([6],[6]),([6],[6]),([7,8,6,6],[6,7,8]),([9,6],[6,9]),([6,10],[6,10])])
def laws_FnFlows.B5 : List Nat:=[0,0,0,6,15,31,63,127,127,511,1023,2047]
theorem laws_FnFlows.tab5 : rtab .any (opsOf Try.f7 5) = laws_FnFlows.T5:=by kernel_rfl
theorem laws_FnFlows.bits5 : waitsOk laws_FnFlows.T5.2 laws_FnFlows.B5 = true:=by kernel_rfl
def laws_FnFlows.T8 : Bool × List (List Nat × List Nat):=(true,[([],[]),([],[]),([],[]),([1,2],[1,2]),([],[]),([],[]),([4,5,3],[4,5]),([0,3,6,6],[0,3,6]),([7,7,0,1,2,3,4,5,6,7],[7])])
def laws_FnFlows.B8 : List Nat:=[0,0,0,6,0,0,62,127,255]
theorem laws_FnFlows.tab8 : rtab .any (opsOf Try.f7 8) = laws_FnFlows.T8:=by kernel_rfl
theorem laws_FnFlows.bits8 : waitsOk laws_FnFlows.T8.2 laws_FnFlows.B8 = true:=by kernel_rfl
def laws_FnFlows.T14 : Bool × List (List Nat × List Nat):=(true,[([],[]),([],[]),([],[]),([1,2],[1,2]),([0,3,3],[0,3]),([],[]),([5],[5]),([4,6],[4,6]),([7,4],[7]),([8],[8]),([8],[8]),([8],[8]),([10,11,8,8],[8,10,11]),([9,12,12,8],[8,9,12]),([8],[8]),([8],[8]),([8],[8]),([15,16,13,8],[8,15,16]),([14,17,17,8],[8,14,17]),([18,8],[8,18]),([13,19,8],[8,13,19]),([8,20],[8,20]),([21,18,0,1,2,3,4,5,6,7,8,9,10,11,12,13,14,15,16,17,18,19,20,21],[21])])
def laws_FnFlows.B14 : List Nat:=[0,0,0,6,15,0,32,127,255,511,511,511,3583,8191,511,511,511,114687,262143,524287,1048575,2097151,4194303]
theorem laws_FnFlows.tab14 : rtab .any (opsOf Try.f7 14) = laws_FnFlows.T14:=by kernel_rfl
theorem laws_FnFlows.bits14 : waitsOk laws_FnFlows.T14.2 laws_FnFlows.B14 = true:=by kernel_rfl

end Go.Proofs.Ytgkpgigoonhgdaa.PFnFlows
