-- Made by the session's wip/pp.py, a changed call of the kit's printer; Lean checks it.
import Derived.Test.YtabepbkolmimlaaPFnStepsx0
import Derived.Test.YtabepbkolmimlaaPFnStepsx4
import Derived.Test.YtabepbkolmimlaaPFnStepsx5
import Derived.Test.YtabepbkolmimlaaPFnStepsx8
namespace Go.Proofs.Ytabepbkolmimlaa.PFnSteps
open Go.RowKit Go.Proofs.YtabepbkolmimlaaW.PrintWords Go.Proofs.YtabepbkolmimlaaW.PrintLast Go.Proofs.YtabepbkolmimlaaW.PrintMore
attribute [local go_sem] max2_int min2_int max_two min_two max_three min_three max_four min_four   -- for this text's walks alone
set_option linter.unusedVariables false
set_option linter.unusedSimpArgs false

abbrev fl9_0_ : Array Bool := #[false, false, false, false, false, false, false, false, false, false, false, false, false, false, false, false, false, false, false, false, false, false, false, false, false, false, false, false, false, false, false, false, false, false, false, false, false, false, false, false, false]
abbrev fl9_1_ : Array Bool := #[true, false, false, false, false, false, false, false, false, false, false, false, false, false, false, false, false, false, false, false, false, false, false, false, false, false, false, false, false, false, false, false, false, false, false, false, false, false, false, false, false]
abbrev fl9_2_ : Array Bool := #[true, true, false, false, false, false, false, false, false, false, false, false, false, false, false, false, false, false, false, false, false, false, false, false, false, false, false, false, false, false, false, false, false, false, false, false, false, false, false, false, false]
abbrev fl9_3_ : Array Bool := #[true, true, true, false, false, false, false, false, false, false, false, false, false, false, false, false, false, false, false, false, false, false, false, false, false, false, false, false, false, false, false, false, false, false, false, false, false, false, false, false, false]
abbrev fl9_4_ : Array Bool := #[true, true, true, true, false, false, false, false, false, false, false, false, false, false, false, false, false, false, false, false, false, false, false, false, false, false, false, false, false, false, false, false, false, false, false, false, false, false, false, false, false]
abbrev fl9_5_ : Array Bool := #[true, true, true, true, true, false, false, false, false, false, false, false, false, false, false, false, false, false, false, false, false, false, false, false, false, false, false, false, false, false, false, false, false, false, false, false, false, false, false, false, false]
abbrev fl9_6_ : Array Bool := #[true, true, true, true, true, true, false, false, false, false, false, false, false, false, false, false, false, false, false, false, false, false, false, false, false, false, false, false, false, false, false, false, false, false, false, false, false, false, false, false, false]
abbrev fl9_7_ : Array Bool := #[true, true, true, true, true, true, false, true, false, false, false, false, false, false, false, false, false, false, false, false, false, false, false, false, false, false, false, false, false, false, false, false, false, false, false, false, false, false, false, false, false]
abbrev fl9_8_ : Array Bool := #[true, true, true, true, true, true, true, true, false, false, false, false, false, false, false, false, false, false, false, false, false, false, false, false, false, false, false, false, false, false, false, false, false, false, false, false, false, false, false, false, false]
abbrev fl9_9_ : Array Bool := #[true, true, true, true, true, true, true, true, true, false, false, false, false, false, false, false, false, false, false, false, false, false, false, false, false, false, false, false, false, false, false, false, false, false, false, false, false, false, false, false, false]
abbrev fl9_10_ : Array Bool := #[true, true, true, true, true, true, true, true, true, true, false, false, false, false, false, false, false, false, false, false, false, false, false, false, false, false, false, false, false, false, false, false, false, false, false, false, false, false, false, false, false]
abbrev fl9_11_ : Array Bool := #[true, true, true, true, true, true, true, true, true, true, true, false, false, false, false, false, false, false, false, false, false, false, false, false, false, false, false, false, false, false, false, false, false, false, false, false, false, false, false, false, false]
abbrev fl9_12_ : Array Bool := #[true, true, true, true, true, true, true, true, true, true, true, true, false, false, false, false, false, false, false, false, false, false, false, false, false, false, false, false, false, false, false, false, false, false, false, false, false, false, false, false, false]
abbrev fl9_13_ : Array Bool := #[true, true, true, true, true, true, true, true, true, true, true, true, true, false, false, false, false, false, false, false, false, false, false, false, false, false, false, false, false, false, false, false, false, false, false, false, false, false, false, false, false]
abbrev fl9_14_ : Array Bool := #[true, true, true, true, true, true, true, true, true, true, true, true, true, true, false, false, false, false, false, false, false, false, false, false, false, false, false, false, false, false, false, false, false, false, false, false, false, false, false, false, false]
abbrev fl9_15_ : Array Bool := #[true, true, true, true, true, true, true, true, true, true, true, true, true, true, true, false, false, false, false, false, false, false, false, false, false, false, false, false, false, false, false, false, false, false, false, false, false, false, false, false, false]
abbrev fl9_16_ : Array Bool := #[true, true, true, true, true, true, true, true, true, true, true, true, true, true, true, true, false, false, false, false, false, false, false, false, false, false, false, false, false, false, false, false, false, false, false, false, false, false, false, false, false]
abbrev fl9_17_ : Array Bool := #[true, true, true, true, true, true, true, true, true, true, true, true, true, true, true, true, true, false, false, false, false, false, false, false, false, false, false, false, false, false, false, false, false, false, false, false, false, false, false, false, false]
abbrev fl9_18_ : Array Bool := #[true, true, true, true, true, true, true, true, true, true, true, true, true, true, true, true, true, true, false, false, false, false, false, false, false, false, false, false, false, false, false, false, false, false, false, false, false, false, false, false, false]
abbrev fl9_19_ : Array Bool := #[true, true, true, true, true, true, true, true, true, true, true, true, true, true, true, true, true, true, false, true, false, false, false, false, false, false, false, false, false, false, false, false, false, false, false, false, false, false, false, false, false]
abbrev fl9_20_ : Array Bool := #[true, true, true, true, true, true, true, true, true, true, true, true, true, true, true, true, true, true, true, true, false, false, false, false, false, false, false, false, false, false, false, false, false, false, false, false, false, false, false, false, false]
abbrev fl9_21_ : Array Bool := #[true, true, true, true, true, true, true, true, true, true, true, true, true, true, true, true, true, true, true, true, true, false, false, false, false, false, false, false, false, false, false, false, false, false, false, false, false, false, false, false, false]
abbrev fl9_22_ : Array Bool := #[true, true, true, true, true, true, true, true, true, true, true, true, true, true, true, true, true, true, true, true, true, true, false, false, false, false, false, false, false, false, false, false, false, false, false, false, false, false, false, false, false]
abbrev fl9_23_ : Array Bool := #[true, true, true, true, true, true, true, true, true, true, true, true, true, true, true, true, true, true, true, true, true, true, true, false, false, false, false, false, false, false, false, false, false, false, false, false, false, false, false, false, false]
abbrev fl9_24_ : Array Bool := #[true, true, true, true, true, true, true, true, true, true, true, true, true, true, true, true, true, true, true, true, true, true, true, true, false, false, false, false, false, false, false, false, false, false, false, false, false, false, false, false, false]
abbrev fl9_25_ : Array Bool := #[true, true, true, true, true, true, true, true, true, true, true, true, true, true, true, true, true, true, true, true, true, true, true, true, true, false, false, false, false, false, false, false, false, false, false, false, false, false, false, false, false]
abbrev fl9_26_ : Array Bool := #[true, true, true, true, true, true, true, true, true, true, true, true, true, true, true, true, true, true, true, true, true, true, true, true, true, true, false, false, false, false, false, false, false, false, false, false, false, false, false, false, false]
abbrev fl9_27_ : Array Bool := #[true, true, true, true, true, true, true, true, true, true, true, true, true, true, true, true, true, true, true, true, true, true, true, true, true, true, true, false, false, false, false, false, false, false, false, false, false, false, false, false, false]
abbrev fl9_28_ : Array Bool := #[true, true, true, true, true, true, true, true, true, true, true, true, true, true, true, true, true, true, true, true, true, true, true, true, true, true, true, true, false, false, false, false, false, false, false, false, false, false, false, false, false]
abbrev fl9_29_ : Array Bool := #[true, true, true, true, true, true, true, true, true, true, true, true, true, true, true, true, true, true, true, true, true, true, true, true, true, true, true, true, true, false, false, false, false, false, false, false, false, false, false, false, false]
abbrev fl9_30_ : Array Bool := #[true, true, true, true, true, true, true, true, true, true, true, true, true, true, true, true, true, true, true, true, true, true, true, true, true, true, true, true, true, true, false, false, false, false, false, false, false, false, false, false, false]
abbrev fl9_31_ : Array Bool := #[true, true, true, true, true, true, true, true, true, true, true, true, true, true, true, true, true, true, true, true, true, true, true, true, true, true, true, true, true, true, true, false, false, false, false, false, false, false, false, false, false]
abbrev fl9_32_ : Array Bool := #[true, true, true, true, true, true, true, true, true, true, true, true, true, true, true, true, true, true, true, true, true, true, true, true, true, true, true, true, true, true, true, true, false, false, false, false, false, false, false, false, false]
abbrev fl9_33_ : Array Bool := #[true, true, true, true, true, true, true, true, true, true, true, true, true, true, true, true, true, true, true, true, true, true, true, true, true, true, true, true, true, true, true, true, true, false, false, false, false, false, false, false, false]
abbrev fl9_34_ : Array Bool := #[true, true, true, true, true, true, true, true, true, true, true, true, true, true, true, true, true, true, true, true, true, true, true, true, true, true, true, true, true, true, true, true, true, true, false, false, false, false, false, false, false]
abbrev fl9_35_ : Array Bool := #[true, true, true, true, true, true, true, true, true, true, true, true, true, true, true, true, true, true, true, true, true, true, true, true, true, true, true, true, true, true, true, true, true, true, true, false, false, false, false, false, false]
abbrev fl9_36_ : Array Bool := #[true, true, true, true, true, true, true, true, true, true, true, true, true, true, true, true, true, true, true, true, true, true, true, true, true, true, true, true, true, true, true, true, true, true, true, true, false, false, false, false, false]
abbrev fl9_37_ : Array Bool := #[true, true, true, true, true, true, true, true, true, true, true, true, true, true, true, true, true, true, true, true, true, true, true, true, true, true, true, true, true, true, true, true, true, true, true, true, true, false, false, false, false]
abbrev fl9_38_ : Array Bool := #[true, true, true, true, true, true, true, true, true, true, true, true, true, true, true, true, true, true, true, true, true, true, true, true, true, true, true, true, true, true, true, true, true, true, true, true, true, true, false, false, false]
abbrev fl9_39_ : Array Bool := #[true, true, true, true, true, true, true, true, true, true, true, true, true, true, true, true, true, true, true, true, true, true, true, true, true, true, true, true, true, true, true, true, true, true, true, true, true, true, true, false, false]
abbrev fl9_40_ : Array Bool := #[true, true, true, true, true, true, true, true, true, true, true, true, true, true, true, true, true, true, true, true, true, true, true, true, true, true, true, true, true, true, true, true, true, true, true, true, true, true, true, true, false]
abbrev fl9_41_ : Array Bool := #[true, true, true, true, true, true, true, true, true, true, true, true, true, true, true, true, true, true, true, true, true, true, true, true, true, true, true, true, true, true, true, true, true, true, true, true, true, true, true, true, true]
abbrev fl9_42_ : Array Bool := #[true, true, true, true, true, true, true, true, true, true, true, true, true, true, true, true, true, true, true, false, false, false, false, false, false, false, false, false, false, false, false, false, false, false, false, false, false, false, false, false, false]
abbrev fl9_43_ : Array Bool := #[true, true, true, true, true, true, true, false, false, false, false, false, false, false, false, false, false, false, false, false, false, false, false, false, false, false, false, false, false, false, false, false, false, false, false, false, false, false, false, false, false]
abbrev fl9_44_ : Array Bool := #[true, true, true, true, true, true, true, true, true, true, true, true, true, true, true, true, true, true, true, true, true, true, true, true, true, true, true, false, true, false, false, false, false, false, false, false, false, false, false, false, false]
abbrev fl9_45_ : Array Bool := #[true, true, true, true, true, true, true, true, true, true, true, true, true, true, true, true, true, true, true, true, true, true, true, true, true, true, true, false, true, true, false, false, false, false, false, false, false, false, false, false, false]
abbrev fl9_46_ : Array Bool := #[true, true, true, true, true, true, true, true, true, true, true, true, true, true, true, true, true, true, true, true, true, true, true, true, true, true, true, false, true, true, true, false, false, false, false, false, false, false, false, false, false]
abbrev fl9_47_ : Array Bool := #[true, true, true, true, true, true, true, true, true, true, true, true, true, true, true, true, true, true, true, true, true, true, true, true, true, true, true, false, true, true, true, true, false, false, false, false, false, false, false, false, false]
abbrev fl9_48_ : Array Bool := #[true, true, true, true, true, true, true, true, true, true, true, true, true, true, true, true, true, true, true, true, true, true, true, true, true, true, true, false, true, true, true, true, false, true, false, false, false, false, false, false, false]
abbrev fl9_49_ : Array Bool := #[true, true, true, true, true, true, true, true, true, true, true, true, true, true, true, true, true, true, true, true, true, true, true, true, true, true, true, false, true, true, true, true, false, true, true, false, false, false, false, false, false]
abbrev fl9_50_ : Array Bool := #[true, true, true, true, true, true, true, true, true, true, true, true, true, true, true, true, true, true, true, true, true, true, true, true, true, true, true, false, true, true, true, true, false, true, true, true, false, false, false, false, false]
abbrev fl9_51_ : Array Bool := #[true, true, true, true, true, true, true, true, true, true, true, true, true, true, true, true, true, true, true, true, true, true, true, true, true, true, true, true, true, true, true, true, false, true, true, true, false, false, false, false, false]
/-! ### laws_FnSteps: function 6 -/
mutual
def laws_FnSteps.j0 : Nat → Int → Int → Int → Int → Int → List Int → Bool → Int → Int → ByteArray → Option (Bool)
 | 0, _, _, _, _, _, _, _, _, _, _ => none
 | k + 1, x6, x7, x8, x9, x11, x12, x110, x347000, x347001, x347002 => if x110 = true then (some false) else (laws_FnSteps.l0 k x6 x7 x8 x9 x11 x12 0 x347000 x347001 x347002)
def laws_FnSteps.l0 : Nat → Int → Int → Int → Int → Int → List Int → Int → Int → Int → ByteArray → Option (Bool)
 | 0, _, _, _, _, _, _, _, _, _, _ => none
 | k + 1, x6, x7, x8, x9, x11, x12, x13, x347000, x347001, x347002 => if x13 < (x12.length : Int) then (if x13 = 0 then (if 0 ≤ x13 then (if (rd x12 x13) = x6 then (if x13 = x9 then (if (rd x12 x13) = x7 then (if x13 > 0 then (if 0 ≤ (wrap64 (x13 - 1)) then (if (wrap64 (x13 - 1)) < (x12.length : Int) then ((impl_Beside.f k x347000 x347001 x347002 (rd x12 (wrap64 (x13 - 1))) (rd x12 x13)).bind fun t367 => (if t367 = true then (laws_FnSteps.l0 k x6 x7 x8 x9 x11 x12 (wrap64 (x13 + 1)) x347000 x347001 x347002) else (some false))) else (none)) else (none)) else (laws_FnSteps.l0 k x6 x7 x8 x9 x11 x12 (wrap64 (x13 + 1)) x347000 x347001 x347002)) else (some false)) else (if x13 > 0 then (if 0 ≤ (wrap64 (x13 - 1)) then (if (wrap64 (x13 - 1)) < (x12.length : Int) then ((impl_Beside.f k x347000 x347001 x347002 (rd x12 (wrap64 (x13 - 1))) (rd x12 x13)).bind fun t370 => (if t370 = true then (laws_FnSteps.l0 k x6 x7 x8 x9 x11 x12 (wrap64 (x13 + 1)) x347000 x347001 x347002) else (some false))) else (none)) else (none)) else (laws_FnSteps.l0 k x6 x7 x8 x9 x11 x12 (wrap64 (x13 + 1)) x347000 x347001 x347002))) else (some false)) else (none)) else (if x13 = x9 then (if 0 ≤ x13 then (if (rd x12 x13) = x7 then (if x13 > 0 then (if 0 ≤ (wrap64 (x13 - 1)) then (if (wrap64 (x13 - 1)) < (x12.length : Int) then ((impl_Beside.f k x347000 x347001 x347002 (rd x12 (wrap64 (x13 - 1))) (rd x12 x13)).bind fun t374 => (if t374 = true then (laws_FnSteps.l0 k x6 x7 x8 x9 x11 x12 (wrap64 (x13 + 1)) x347000 x347001 x347002) else (some false))) else (none)) else (none)) else (laws_FnSteps.l0 k x6 x7 x8 x9 x11 x12 (wrap64 (x13 + 1)) x347000 x347001 x347002)) else (some false)) else (none)) else (if x13 > 0 then (if 0 ≤ (wrap64 (x13 - 1)) then (if (wrap64 (x13 - 1)) < (x12.length : Int) then (if 0 ≤ x13 then ((impl_Beside.f k x347000 x347001 x347002 (rd x12 (wrap64 (x13 - 1))) (rd x12 x13)).bind fun t377 => (if t377 = true then (laws_FnSteps.l0 k x6 x7 x8 x9 x11 x12 (wrap64 (x13 + 1)) x347000 x347001 x347002) else (some false))) else (none)) else (none)) else (none)) else (laws_FnSteps.l0 k x6 x7 x8 x9 x11 x12 (wrap64 (x13 + 1)) x347000 x347001 x347002)))) else ((impl_StepsFrom.f k x347000 x347001 x347002 (([x6, x8] : List Int))).bind fun t381 => (if x11 ≥ 0 then (if x9 < 0 then (if (t381.length : Int) = (x347002.size : Int) then (if 0 ≤ x7 then (if x7 < (t381.length : Int) then (some ((rd t381 x7) == x11)) else (none)) else (none)) else (some false)) else (if x11 < x9 then (if (t381.length : Int) = (x347002.size : Int) then (if 0 ≤ x7 then (if x7 < (t381.length : Int) then (some ((rd t381 x7) == x11)) else (none)) else (none)) else (some false)) else (if (t381.length : Int) = (x347002.size : Int) then (if 0 ≤ x7 then (if x7 < (t381.length : Int) then (some ((rd t381 x7) == x9)) else (none)) else (none)) else (some false)))) else (if (t381.length : Int) = (x347002.size : Int) then (if 0 ≤ x7 then (if x7 < (t381.length : Int) then (some ((rd t381 x7) == x9)) else (none)) else (none)) else (some false))))
end
def laws_FnSteps.f (k : Nat) (l0 : List Int) : Option (Bool) := (laws_big.f l0).bind fun t339 => (if t339 = true then (some true) else ((spec_DrawSome.f k l0).bind fun bt340 => (if (bt340.2.2.2.length : Int) < 3 then (some true) else ((spec_DrawPlaces.f k l0).bind fun t347 => (if 0 < (t347.length : Int) then (if (bt340.2.2.2.length : Int) = 0 then (none) else (if 0 ≤ (Int.tmod (rd t347 0) (bt340.2.2.2.length : Int)) then (if (Int.tmod (rd t347 0) (bt340.2.2.2.length : Int)) < (bt340.2.2.2.length : Int) then (if 1 < (t347.length : Int) then (if 0 ≤ (Int.tmod (rd t347 1) (bt340.2.2.2.length : Int)) then (if (Int.tmod (rd t347 1) (bt340.2.2.2.length : Int)) < (bt340.2.2.2.length : Int) then (if 2 < (t347.length : Int) then (if 0 ≤ (Int.tmod (rd t347 2) (bt340.2.2.2.length : Int)) then (if (Int.tmod (rd t347 2) (bt340.2.2.2.length : Int)) < (bt340.2.2.2.length : Int) then ((impl_StepsTo.f k bt340.1 bt340.2.1 bt340.2.2.1 (rd bt340.2.2.2 (Int.tmod (rd t347 0) (bt340.2.2.2.length : Int))) (rd bt340.2.2.2 (Int.tmod (rd t347 1) (bt340.2.2.2.length : Int)))).bind fun t356 => ((impl_StepsTo.f k bt340.1 bt340.2.1 bt340.2.2.1 (rd bt340.2.2.2 (Int.tmod (rd t347 0) (bt340.2.2.2.length : Int))) (rd bt340.2.2.2 (Int.tmod (rd t347 2) (bt340.2.2.2.length : Int)))).bind fun t357 => ((impl_StepsTo.f k bt340.1 bt340.2.1 bt340.2.2.1 (rd bt340.2.2.2 (Int.tmod (rd t347 2) (bt340.2.2.2.length : Int))) (rd bt340.2.2.2 (Int.tmod (rd t347 1) (bt340.2.2.2.length : Int)))).bind fun t358 => ((impl_WayTo.f k bt340.1 bt340.2.1 bt340.2.2.1 (rd bt340.2.2.2 (Int.tmod (rd t347 0) (bt340.2.2.2.length : Int))) (rd bt340.2.2.2 (Int.tmod (rd t347 1) (bt340.2.2.2.length : Int)))).bind fun t359 => ((impl_StepsTo.f k bt340.1 bt340.2.1 bt340.2.2.1 (rd bt340.2.2.2 (Int.tmod (rd t347 1) (bt340.2.2.2.length : Int))) (rd bt340.2.2.2 (Int.tmod (rd t347 0) (bt340.2.2.2.length : Int)))).bind fun t362 => (if t356 = t362 then (if t357 ≥ 0 then (if t358 ≥ 0 then (if t356 < 0 then (laws_FnSteps.j0 k (rd bt340.2.2.2 (Int.tmod (rd t347 0) (bt340.2.2.2.length : Int))) (rd bt340.2.2.2 (Int.tmod (rd t347 1) (bt340.2.2.2.length : Int))) (rd bt340.2.2.2 (Int.tmod (rd t347 2) (bt340.2.2.2.length : Int))) t356 t358 t359 true bt340.1 bt340.2.1 bt340.2.2.1) else (if t356 > (wrap64 (t357 + t358)) then (laws_FnSteps.j0 k (rd bt340.2.2.2 (Int.tmod (rd t347 0) (bt340.2.2.2.length : Int))) (rd bt340.2.2.2 (Int.tmod (rd t347 1) (bt340.2.2.2.length : Int))) (rd bt340.2.2.2 (Int.tmod (rd t347 2) (bt340.2.2.2.length : Int))) t356 t358 t359 true bt340.1 bt340.2.1 bt340.2.2.1) else (if (t359.length : Int) = (wrap64 (t356 + 1)) then (laws_FnSteps.j0 k (rd bt340.2.2.2 (Int.tmod (rd t347 0) (bt340.2.2.2.length : Int))) (rd bt340.2.2.2 (Int.tmod (rd t347 1) (bt340.2.2.2.length : Int))) (rd bt340.2.2.2 (Int.tmod (rd t347 2) (bt340.2.2.2.length : Int))) t356 t358 t359 (((rd bt340.2.2.2 (Int.tmod (rd t347 0) (bt340.2.2.2.length : Int))) == (rd bt340.2.2.2 (Int.tmod (rd t347 1) (bt340.2.2.2.length : Int)))) != (t356 == 0)) bt340.1 bt340.2.1 bt340.2.2.1) else (laws_FnSteps.j0 k (rd bt340.2.2.2 (Int.tmod (rd t347 0) (bt340.2.2.2.length : Int))) (rd bt340.2.2.2 (Int.tmod (rd t347 1) (bt340.2.2.2.length : Int))) (rd bt340.2.2.2 (Int.tmod (rd t347 2) (bt340.2.2.2.length : Int))) t356 t358 t359 true bt340.1 bt340.2.1 bt340.2.2.1)))) else (if (t359.length : Int) = (wrap64 (t356 + 1)) then (laws_FnSteps.j0 k (rd bt340.2.2.2 (Int.tmod (rd t347 0) (bt340.2.2.2.length : Int))) (rd bt340.2.2.2 (Int.tmod (rd t347 1) (bt340.2.2.2.length : Int))) (rd bt340.2.2.2 (Int.tmod (rd t347 2) (bt340.2.2.2.length : Int))) t356 t358 t359 (((rd bt340.2.2.2 (Int.tmod (rd t347 0) (bt340.2.2.2.length : Int))) == (rd bt340.2.2.2 (Int.tmod (rd t347 1) (bt340.2.2.2.length : Int)))) != (t356 == 0)) bt340.1 bt340.2.1 bt340.2.2.1) else (laws_FnSteps.j0 k (rd bt340.2.2.2 (Int.tmod (rd t347 0) (bt340.2.2.2.length : Int))) (rd bt340.2.2.2 (Int.tmod (rd t347 1) (bt340.2.2.2.length : Int))) (rd bt340.2.2.2 (Int.tmod (rd t347 2) (bt340.2.2.2.length : Int))) t356 t358 t359 true bt340.1 bt340.2.1 bt340.2.2.1))) else (if (t359.length : Int) = (wrap64 (t356 + 1)) then (laws_FnSteps.j0 k (rd bt340.2.2.2 (Int.tmod (rd t347 0) (bt340.2.2.2.length : Int))) (rd bt340.2.2.2 (Int.tmod (rd t347 1) (bt340.2.2.2.length : Int))) (rd bt340.2.2.2 (Int.tmod (rd t347 2) (bt340.2.2.2.length : Int))) t356 t358 t359 (((rd bt340.2.2.2 (Int.tmod (rd t347 0) (bt340.2.2.2.length : Int))) == (rd bt340.2.2.2 (Int.tmod (rd t347 1) (bt340.2.2.2.length : Int)))) != (t356 == 0)) bt340.1 bt340.2.1 bt340.2.2.1) else (laws_FnSteps.j0 k (rd bt340.2.2.2 (Int.tmod (rd t347 0) (bt340.2.2.2.length : Int))) (rd bt340.2.2.2 (Int.tmod (rd t347 1) (bt340.2.2.2.length : Int))) (rd bt340.2.2.2 (Int.tmod (rd t347 2) (bt340.2.2.2.length : Int))) t356 t358 t359 true bt340.1 bt340.2.1 bt340.2.2.1))) else (laws_FnSteps.j0 k (rd bt340.2.2.2 (Int.tmod (rd t347 0) (bt340.2.2.2.length : Int))) (rd bt340.2.2.2 (Int.tmod (rd t347 1) (bt340.2.2.2.length : Int))) (rd bt340.2.2.2 (Int.tmod (rd t347 2) (bt340.2.2.2.length : Int))) t356 t358 t359 true bt340.1 bt340.2.1 bt340.2.2.1))))))) else (none)) else (none)) else (none)) else (none)) else (none)) else (none)) else (none)) else (none))) else (none))))))
theorem laws_FnSteps.mono_l : ∀ k, (∀ y0 y1 y2 y3 y4 y5 y6 y7 y8 y9, LeO (laws_FnSteps.j0 k y0 y1 y2 y3 y4 y5 y6 y7 y8 y9) (laws_FnSteps.j0 (k + 1) y0 y1 y2 y3 y4 y5 y6 y7 y8 y9)) ∧ (∀ y0 y1 y2 y3 y4 y5 y6 y7 y8 y9, LeO (laws_FnSteps.l0 k y0 y1 y2 y3 y4 y5 y6 y7 y8 y9) (laws_FnSteps.l0 (k + 1) y0 y1 y2 y3 y4 y5 y6 y7 y8 y9))
 | 0 => ⟨fun _ _ _ _ _ _ _ _ _ _ r h => by simp [laws_FnSteps.j0] at h, fun _ _ _ _ _ _ _ _ _ _ r h => by simp [laws_FnSteps.l0] at h⟩
 | k + 1 => by
  obtain ⟨ih0, ih1⟩ := laws_FnSteps.mono_l k
  refine ⟨?_, ?_⟩
  ·intro y0 y1 y2 y3 y4 y5 y6 y7 y8 y9
   unfold laws_FnSteps.j0
   repeat' first
   | (with_reducible exact ih0 _ _ _ _ _ _ _ _ _ _)
   | (with_reducible exact ih1 _ _ _ _ _ _ _ _ _ _)
   | (with_reducible exact impl_Beside.mono _ _ _ _ _ _)
   | (with_reducible exact impl_StepsFrom.mono _ _ _ _ _)
   | (with_reducible exact impl_StepsTo.mono _ _ _ _ _ _)
   | (with_reducible exact impl_WayTo.mono _ _ _ _ _ _)
   | (with_reducible exact spec_DrawPlaces.mono _ _)
   | (with_reducible exact spec_DrawSome.mono _ _)
   | (with_reducible exact LeO.refl _)
   | (with_reducible exact LeO.none _)
   | (with_reducible refine LeO.ite ?_ ?_)
   | (with_reducible refine LeO.bind ?_ (fun _ => ?_))
   | exact ih0 _ _ _ _ _ _ _ _ _ _
   | exact ih1 _ _ _ _ _ _ _ _ _ _
   | exact impl_Beside.mono _ _ _ _ _ _
   | exact impl_StepsFrom.mono _ _ _ _ _
   | exact impl_StepsTo.mono _ _ _ _ _ _
   | exact impl_WayTo.mono _ _ _ _ _ _
   | exact spec_DrawPlaces.mono _ _
   | exact spec_DrawSome.mono _ _
   | exact LeO.none _
   | refine LeO.ite ?_ ?_
   | refine LeO.bind ?_ (fun _ => ?_)
  ·intro y0 y1 y2 y3 y4 y5 y6 y7 y8 y9
   unfold laws_FnSteps.l0
   repeat' first
   | (with_reducible exact ih0 _ _ _ _ _ _ _ _ _ _)
   | (with_reducible exact ih1 _ _ _ _ _ _ _ _ _ _)
   | (with_reducible exact impl_Beside.mono _ _ _ _ _ _)
   | (with_reducible exact impl_StepsFrom.mono _ _ _ _ _)
   | (with_reducible exact impl_StepsTo.mono _ _ _ _ _ _)
   | (with_reducible exact impl_WayTo.mono _ _ _ _ _ _)
   | (with_reducible exact spec_DrawPlaces.mono _ _)
   | (with_reducible exact spec_DrawSome.mono _ _)
   | (with_reducible exact LeO.refl _)
   | (with_reducible exact LeO.none _)
   | (with_reducible refine LeO.ite ?_ ?_)
   | (with_reducible refine LeO.bind ?_ (fun _ => ?_))
   | exact ih0 _ _ _ _ _ _ _ _ _ _
   | exact ih1 _ _ _ _ _ _ _ _ _ _
   | exact impl_Beside.mono _ _ _ _ _ _
   | exact impl_StepsFrom.mono _ _ _ _ _
   | exact impl_StepsTo.mono _ _ _ _ _ _
   | exact impl_WayTo.mono _ _ _ _ _ _
   | exact spec_DrawPlaces.mono _ _
   | exact spec_DrawSome.mono _ _
   | exact LeO.none _
   | refine LeO.ite ?_ ?_
   | refine LeO.bind ?_ (fun _ => ?_)
theorem laws_FnSteps.mono : ∀ a0 k, LeO (laws_FnSteps.f k a0) (laws_FnSteps.f (k + 1) a0) := by
 intro a0 k
 obtain ⟨ih0, ih1⟩ := laws_FnSteps.mono_l k
 unfold laws_FnSteps.f
 repeat' first
   | (with_reducible exact ih0 _ _ _ _ _ _ _ _ _ _)
   | (with_reducible exact ih1 _ _ _ _ _ _ _ _ _ _)
   | (with_reducible exact impl_Beside.mono _ _ _ _ _ _)
   | (with_reducible exact impl_StepsFrom.mono _ _ _ _ _)
   | (with_reducible exact impl_StepsTo.mono _ _ _ _ _ _)
   | (with_reducible exact impl_WayTo.mono _ _ _ _ _ _)
   | (with_reducible exact spec_DrawPlaces.mono _ _)
   | (with_reducible exact spec_DrawSome.mono _ _)
   | (with_reducible exact LeO.refl _)
   | (with_reducible exact LeO.none _)
   | (with_reducible refine LeO.ite ?_ ?_)
   | (with_reducible refine LeO.bind ?_ (fun _ => ?_))
   | exact ih0 _ _ _ _ _ _ _ _ _ _
   | exact ih1 _ _ _ _ _ _ _ _ _ _
   | exact impl_Beside.mono _ _ _ _ _ _
   | exact impl_StepsFrom.mono _ _ _ _ _
   | exact impl_StepsTo.mono _ _ _ _ _ _
   | exact impl_WayTo.mono _ _ _ _ _ _
   | exact spec_DrawPlaces.mono _ _
   | exact spec_DrawSome.mono _ _
   | exact LeO.none _
   | refine LeO.ite ?_ ?_
   | refine LeO.bind ?_ (fun _ => ?_)
def laws_FnSteps.T19 : Bool × List (List Nat × List Nat) := (true, [([], []), ([0], [0]), ([1], [1]), ([2], [2]), ([2], [2]), ([3, 4, 2], [2, 3, 4]), ([5, 2], [2, 5]), ([2], [2]), ([6, 7, 2], [2, 6, 7]), ([2, 8], [2, 8]), ([9, 2], [9]), ([10], [10]), ([10], [10]), ([11, 12, 10], [10, 11, 12]), ([13, 10, 10], [10, 13]), ([14], [14]), ([14], [14]), ([15, 16, 14], [14, 15, 16]), ([17, 14], [14, 17]), ([14], [14]), ([18, 19, 14], [14, 18, 19]), ([14, 20, 10], [10, 14, 20]), ([10, 21], [10, 21]), ([22, 14], [22]), ([23], [23]), ([24, 23], [23, 24]), ([25, 23, 23], [23, 25]), ([26], [26]), ([26], [26]), ([26], [26]), ([29, 26], [26, 29]), ([28, 30, 26], [26, 28, 30]), ([31, 26], [26, 31]), ([26], [26]), ([26], [26]), ([33, 34, 26], [26, 33, 34]), ([35, 26], [26, 35]), ([27, 32, 36, 26, 26], [26, 27, 32, 36]), ([37, 26], [26, 37]), ([26, 38, 23], [23, 26, 38]), ([23, 39], [23, 39])])
def laws_FnSteps.B19 : List Nat := [0, 1, 3, 7, 7, 31, 63, 7, 255, 511, 1023, 2047, 2047, 8191, 16383, 32767, 32767, 131071, 262143, 32767, 1048575, 2097151, 4194303, 8388607, 16777215, 33554431, 67108863, 134217727, 134217727, 134217727, 671088639, 2013265919, 4160749567, 134217727, 134217727, 25904021503, 60263759871, 137438953471, 274877906943, 549755813887, 1099511627775]
theorem laws_FnSteps.tab19 : rtab .any (opsOf Try.f6 19) = laws_FnSteps.T19 := by kernel_rfl
theorem laws_FnSteps.bits19 : waitsOk laws_FnSteps.T19.2 laws_FnSteps.B19 = true := by kernel_rfl
set_option maxHeartbeats 8000000 in
set_option maxRecDepth 100000 in
theorem laws_FnSteps.calls (k : Nat) (A0 : Option Addr) (c0 : Nat) (l0 : List Int) (r : Bool) (w : World) (hr0 : Kd.C (Kd.int .u8) w A0 l0.length l0) (hc0 : l0.length ≤ c0) (h : laws_FnSteps.f k l0 = some r) (ht_ : Aside0 (r = true)) :
  Calls Try.prog 6 #[.slice A0 l0.length c0] w fun e w' => e = .returned (.bool r) ∧ Below w.heap.size w w' := by
 have hu27 := Try.underlying27
 have HR0 := Aside0.mk hr0
 have HC0 := Aside0.mk hc0
 clear hr0 hc0
 have HB := Aside0.mk (Below.refl w.heap.size w)
 have H : ((laws_big.f l0).bind fun t339 => (if t339 = true then (some true) else ((spec_DrawSome.f k l0).bind fun bt340 => (if (bt340.2.2.2.length : Int) < 3 then (some true) else ((spec_DrawPlaces.f k l0).bind fun t347 => (if 0 < (t347.length : Int) then (if (bt340.2.2.2.length : Int) = 0 then (none) else (if 0 ≤ (Int.tmod (rd t347 0) (bt340.2.2.2.length : Int)) then (if (Int.tmod (rd t347 0) (bt340.2.2.2.length : Int)) < (bt340.2.2.2.length : Int) then (if 1 < (t347.length : Int) then (if 0 ≤ (Int.tmod (rd t347 1) (bt340.2.2.2.length : Int)) then (if (Int.tmod (rd t347 1) (bt340.2.2.2.length : Int)) < (bt340.2.2.2.length : Int) then (if 2 < (t347.length : Int) then (if 0 ≤ (Int.tmod (rd t347 2) (bt340.2.2.2.length : Int)) then (if (Int.tmod (rd t347 2) (bt340.2.2.2.length : Int)) < (bt340.2.2.2.length : Int) then ((impl_StepsTo.f k bt340.1 bt340.2.1 bt340.2.2.1 (rd bt340.2.2.2 (Int.tmod (rd t347 0) (bt340.2.2.2.length : Int))) (rd bt340.2.2.2 (Int.tmod (rd t347 1) (bt340.2.2.2.length : Int)))).bind fun t356 => ((impl_StepsTo.f k bt340.1 bt340.2.1 bt340.2.2.1 (rd bt340.2.2.2 (Int.tmod (rd t347 0) (bt340.2.2.2.length : Int))) (rd bt340.2.2.2 (Int.tmod (rd t347 2) (bt340.2.2.2.length : Int)))).bind fun t357 => ((impl_StepsTo.f k bt340.1 bt340.2.1 bt340.2.2.1 (rd bt340.2.2.2 (Int.tmod (rd t347 2) (bt340.2.2.2.length : Int))) (rd bt340.2.2.2 (Int.tmod (rd t347 1) (bt340.2.2.2.length : Int)))).bind fun t358 => ((impl_WayTo.f k bt340.1 bt340.2.1 bt340.2.2.1 (rd bt340.2.2.2 (Int.tmod (rd t347 0) (bt340.2.2.2.length : Int))) (rd bt340.2.2.2 (Int.tmod (rd t347 1) (bt340.2.2.2.length : Int)))).bind fun t359 => ((impl_StepsTo.f k bt340.1 bt340.2.1 bt340.2.2.1 (rd bt340.2.2.2 (Int.tmod (rd t347 1) (bt340.2.2.2.length : Int))) (rd bt340.2.2.2 (Int.tmod (rd t347 0) (bt340.2.2.2.length : Int)))).bind fun t362 => (if t356 = t362 then (if t357 ≥ 0 then (if t358 ≥ 0 then (if t356 < 0 then (laws_FnSteps.j0 k (rd bt340.2.2.2 (Int.tmod (rd t347 0) (bt340.2.2.2.length : Int))) (rd bt340.2.2.2 (Int.tmod (rd t347 1) (bt340.2.2.2.length : Int))) (rd bt340.2.2.2 (Int.tmod (rd t347 2) (bt340.2.2.2.length : Int))) t356 t358 t359 true bt340.1 bt340.2.1 bt340.2.2.1) else (if t356 > (wrap64 (t357 + t358)) then (laws_FnSteps.j0 k (rd bt340.2.2.2 (Int.tmod (rd t347 0) (bt340.2.2.2.length : Int))) (rd bt340.2.2.2 (Int.tmod (rd t347 1) (bt340.2.2.2.length : Int))) (rd bt340.2.2.2 (Int.tmod (rd t347 2) (bt340.2.2.2.length : Int))) t356 t358 t359 true bt340.1 bt340.2.1 bt340.2.2.1) else (if (t359.length : Int) = (wrap64 (t356 + 1)) then (laws_FnSteps.j0 k (rd bt340.2.2.2 (Int.tmod (rd t347 0) (bt340.2.2.2.length : Int))) (rd bt340.2.2.2 (Int.tmod (rd t347 1) (bt340.2.2.2.length : Int))) (rd bt340.2.2.2 (Int.tmod (rd t347 2) (bt340.2.2.2.length : Int))) t356 t358 t359 (((rd bt340.2.2.2 (Int.tmod (rd t347 0) (bt340.2.2.2.length : Int))) == (rd bt340.2.2.2 (Int.tmod (rd t347 1) (bt340.2.2.2.length : Int)))) != (t356 == 0)) bt340.1 bt340.2.1 bt340.2.2.1) else (laws_FnSteps.j0 k (rd bt340.2.2.2 (Int.tmod (rd t347 0) (bt340.2.2.2.length : Int))) (rd bt340.2.2.2 (Int.tmod (rd t347 1) (bt340.2.2.2.length : Int))) (rd bt340.2.2.2 (Int.tmod (rd t347 2) (bt340.2.2.2.length : Int))) t356 t358 t359 true bt340.1 bt340.2.1 bt340.2.2.1)))) else (if (t359.length : Int) = (wrap64 (t356 + 1)) then (laws_FnSteps.j0 k (rd bt340.2.2.2 (Int.tmod (rd t347 0) (bt340.2.2.2.length : Int))) (rd bt340.2.2.2 (Int.tmod (rd t347 1) (bt340.2.2.2.length : Int))) (rd bt340.2.2.2 (Int.tmod (rd t347 2) (bt340.2.2.2.length : Int))) t356 t358 t359 (((rd bt340.2.2.2 (Int.tmod (rd t347 0) (bt340.2.2.2.length : Int))) == (rd bt340.2.2.2 (Int.tmod (rd t347 1) (bt340.2.2.2.length : Int)))) != (t356 == 0)) bt340.1 bt340.2.1 bt340.2.2.1) else (laws_FnSteps.j0 k (rd bt340.2.2.2 (Int.tmod (rd t347 0) (bt340.2.2.2.length : Int))) (rd bt340.2.2.2 (Int.tmod (rd t347 1) (bt340.2.2.2.length : Int))) (rd bt340.2.2.2 (Int.tmod (rd t347 2) (bt340.2.2.2.length : Int))) t356 t358 t359 true bt340.1 bt340.2.1 bt340.2.2.1))) else (if (t359.length : Int) = (wrap64 (t356 + 1)) then (laws_FnSteps.j0 k (rd bt340.2.2.2 (Int.tmod (rd t347 0) (bt340.2.2.2.length : Int))) (rd bt340.2.2.2 (Int.tmod (rd t347 1) (bt340.2.2.2.length : Int))) (rd bt340.2.2.2 (Int.tmod (rd t347 2) (bt340.2.2.2.length : Int))) t356 t358 t359 (((rd bt340.2.2.2 (Int.tmod (rd t347 0) (bt340.2.2.2.length : Int))) == (rd bt340.2.2.2 (Int.tmod (rd t347 1) (bt340.2.2.2.length : Int)))) != (t356 == 0)) bt340.1 bt340.2.1 bt340.2.2.1) else (laws_FnSteps.j0 k (rd bt340.2.2.2 (Int.tmod (rd t347 0) (bt340.2.2.2.length : Int))) (rd bt340.2.2.2 (Int.tmod (rd t347 1) (bt340.2.2.2.length : Int))) (rd bt340.2.2.2 (Int.tmod (rd t347 2) (bt340.2.2.2.length : Int))) t356 t358 t359 true bt340.1 bt340.2.1 bt340.2.2.1))) else (laws_FnSteps.j0 k (rd bt340.2.2.2 (Int.tmod (rd t347 0) (bt340.2.2.2.length : Int))) (rd bt340.2.2.2 (Int.tmod (rd t347 1) (bt340.2.2.2.length : Int))) (rd bt340.2.2.2 (Int.tmod (rd t347 2) (bt340.2.2.2.length : Int))) t356 t358 t359 true bt340.1 bt340.2.1 bt340.2.2.1))))))) else (none)) else (none)) else (none)) else (none)) else (none)) else (none)) else (none)) else (none))) else (none))))))) = some r := h
 clear h
 replace H := Option.bind_eq_some_iff.mp H
 obtain ⟨t339, A20, H⟩ := H
 replace H : (if t339 = true then (some true) else ((spec_DrawSome.f k l0).bind fun bt340 => (if (bt340.2.2.2.length : Int) < 3 then (some true) else ((spec_DrawPlaces.f k l0).bind fun t347 => (if 0 < (t347.length : Int) then (if (bt340.2.2.2.length : Int) = 0 then (none) else (if 0 ≤ (Int.tmod (rd t347 0) (bt340.2.2.2.length : Int)) then (if (Int.tmod (rd t347 0) (bt340.2.2.2.length : Int)) < (bt340.2.2.2.length : Int) then (if 1 < (t347.length : Int) then (if 0 ≤ (Int.tmod (rd t347 1) (bt340.2.2.2.length : Int)) then (if (Int.tmod (rd t347 1) (bt340.2.2.2.length : Int)) < (bt340.2.2.2.length : Int) then (if 2 < (t347.length : Int) then (if 0 ≤ (Int.tmod (rd t347 2) (bt340.2.2.2.length : Int)) then (if (Int.tmod (rd t347 2) (bt340.2.2.2.length : Int)) < (bt340.2.2.2.length : Int) then ((impl_StepsTo.f k bt340.1 bt340.2.1 bt340.2.2.1 (rd bt340.2.2.2 (Int.tmod (rd t347 0) (bt340.2.2.2.length : Int))) (rd bt340.2.2.2 (Int.tmod (rd t347 1) (bt340.2.2.2.length : Int)))).bind fun t356 => ((impl_StepsTo.f k bt340.1 bt340.2.1 bt340.2.2.1 (rd bt340.2.2.2 (Int.tmod (rd t347 0) (bt340.2.2.2.length : Int))) (rd bt340.2.2.2 (Int.tmod (rd t347 2) (bt340.2.2.2.length : Int)))).bind fun t357 => ((impl_StepsTo.f k bt340.1 bt340.2.1 bt340.2.2.1 (rd bt340.2.2.2 (Int.tmod (rd t347 2) (bt340.2.2.2.length : Int))) (rd bt340.2.2.2 (Int.tmod (rd t347 1) (bt340.2.2.2.length : Int)))).bind fun t358 => ((impl_WayTo.f k bt340.1 bt340.2.1 bt340.2.2.1 (rd bt340.2.2.2 (Int.tmod (rd t347 0) (bt340.2.2.2.length : Int))) (rd bt340.2.2.2 (Int.tmod (rd t347 1) (bt340.2.2.2.length : Int)))).bind fun t359 => ((impl_StepsTo.f k bt340.1 bt340.2.1 bt340.2.2.1 (rd bt340.2.2.2 (Int.tmod (rd t347 1) (bt340.2.2.2.length : Int))) (rd bt340.2.2.2 (Int.tmod (rd t347 0) (bt340.2.2.2.length : Int)))).bind fun t362 => (if t356 = t362 then (if t357 ≥ 0 then (if t358 ≥ 0 then (if t356 < 0 then (laws_FnSteps.j0 k (rd bt340.2.2.2 (Int.tmod (rd t347 0) (bt340.2.2.2.length : Int))) (rd bt340.2.2.2 (Int.tmod (rd t347 1) (bt340.2.2.2.length : Int))) (rd bt340.2.2.2 (Int.tmod (rd t347 2) (bt340.2.2.2.length : Int))) t356 t358 t359 true bt340.1 bt340.2.1 bt340.2.2.1) else (if t356 > (wrap64 (t357 + t358)) then (laws_FnSteps.j0 k (rd bt340.2.2.2 (Int.tmod (rd t347 0) (bt340.2.2.2.length : Int))) (rd bt340.2.2.2 (Int.tmod (rd t347 1) (bt340.2.2.2.length : Int))) (rd bt340.2.2.2 (Int.tmod (rd t347 2) (bt340.2.2.2.length : Int))) t356 t358 t359 true bt340.1 bt340.2.1 bt340.2.2.1) else (if (t359.length : Int) = (wrap64 (t356 + 1)) then (laws_FnSteps.j0 k (rd bt340.2.2.2 (Int.tmod (rd t347 0) (bt340.2.2.2.length : Int))) (rd bt340.2.2.2 (Int.tmod (rd t347 1) (bt340.2.2.2.length : Int))) (rd bt340.2.2.2 (Int.tmod (rd t347 2) (bt340.2.2.2.length : Int))) t356 t358 t359 (((rd bt340.2.2.2 (Int.tmod (rd t347 0) (bt340.2.2.2.length : Int))) == (rd bt340.2.2.2 (Int.tmod (rd t347 1) (bt340.2.2.2.length : Int)))) != (t356 == 0)) bt340.1 bt340.2.1 bt340.2.2.1) else (laws_FnSteps.j0 k (rd bt340.2.2.2 (Int.tmod (rd t347 0) (bt340.2.2.2.length : Int))) (rd bt340.2.2.2 (Int.tmod (rd t347 1) (bt340.2.2.2.length : Int))) (rd bt340.2.2.2 (Int.tmod (rd t347 2) (bt340.2.2.2.length : Int))) t356 t358 t359 true bt340.1 bt340.2.1 bt340.2.2.1)))) else (if (t359.length : Int) = (wrap64 (t356 + 1)) then (laws_FnSteps.j0 k (rd bt340.2.2.2 (Int.tmod (rd t347 0) (bt340.2.2.2.length : Int))) (rd bt340.2.2.2 (Int.tmod (rd t347 1) (bt340.2.2.2.length : Int))) (rd bt340.2.2.2 (Int.tmod (rd t347 2) (bt340.2.2.2.length : Int))) t356 t358 t359 (((rd bt340.2.2.2 (Int.tmod (rd t347 0) (bt340.2.2.2.length : Int))) == (rd bt340.2.2.2 (Int.tmod (rd t347 1) (bt340.2.2.2.length : Int)))) != (t356 == 0)) bt340.1 bt340.2.1 bt340.2.2.1) else (laws_FnSteps.j0 k (rd bt340.2.2.2 (Int.tmod (rd t347 0) (bt340.2.2.2.length : Int))) (rd bt340.2.2.2 (Int.tmod (rd t347 1) (bt340.2.2.2.length : Int))) (rd bt340.2.2.2 (Int.tmod (rd t347 2) (bt340.2.2.2.length : Int))) t356 t358 t359 true bt340.1 bt340.2.1 bt340.2.2.1))) else (if (t359.length : Int) = (wrap64 (t356 + 1)) then (laws_FnSteps.j0 k (rd bt340.2.2.2 (Int.tmod (rd t347 0) (bt340.2.2.2.length : Int))) (rd bt340.2.2.2 (Int.tmod (rd t347 1) (bt340.2.2.2.length : Int))) (rd bt340.2.2.2 (Int.tmod (rd t347 2) (bt340.2.2.2.length : Int))) t356 t358 t359 (((rd bt340.2.2.2 (Int.tmod (rd t347 0) (bt340.2.2.2.length : Int))) == (rd bt340.2.2.2 (Int.tmod (rd t347 1) (bt340.2.2.2.length : Int)))) != (t356 == 0)) bt340.1 bt340.2.1 bt340.2.2.1) else (laws_FnSteps.j0 k (rd bt340.2.2.2 (Int.tmod (rd t347 0) (bt340.2.2.2.length : Int))) (rd bt340.2.2.2 (Int.tmod (rd t347 1) (bt340.2.2.2.length : Int))) (rd bt340.2.2.2 (Int.tmod (rd t347 2) (bt340.2.2.2.length : Int))) t356 t358 t359 true bt340.1 bt340.2.1 bt340.2.2.1))) else (laws_FnSteps.j0 k (rd bt340.2.2.2 (Int.tmod (rd t347 0) (bt340.2.2.2.length : Int))) (rd bt340.2.2.2 (Int.tmod (rd t347 1) (bt340.2.2.2.length : Int))) (rd bt340.2.2.2 (Int.tmod (rd t347 2) (bt340.2.2.2.length : Int))) t356 t358 t359 true bt340.1 bt340.2.1 bt340.2.2.1))))))) else (none)) else (none)) else (none)) else (none)) else (none)) else (none)) else (none)) else (none))) else (none)))))) = some r := H
 have A2 := Aside0.mk A20
 clear A20
 by_cases c3 : t339 = true
 ·subst c3
  have H1 : (some true) = some r := by rw [if_pos rfl] at H; exact H
  clear H
  have H := H1
  clear H1
  obtain rfl := Option.some.inj H
  go_enter Try.func6, Try.ntmps6
  go_wp2_with (first | ((with_reducible refine gate_callee (f := 20) rfl ?_); refine goesL_ (some 17) rfl rfl Try.func20 (by kernel_rfl) rfl #[.slice A0 l0.length c0] rfl (by (try simp only [List.map_toArray, List.map_cons, List.map_nil]); first | done | rfl | (simp only [List.length_drop, List.length_take]; rfl)) ?_; (with_reducible refine (laws_big.calls _ _ l0 true _ ?side1 ?side2 A2.out).mono ?_); (case side1 => repeat (first | exact HR0.out | (with_reducible refine Kd.C_alloc ?_ _) | (with_reducible refine Kd.C_drewN ?_ _) | (with_reducible refine Kd.C_drew ?_))); (case side2 => exact HC0.out); rintro e w' ⟨rfl, ⟨nd, rfl⟩⟩; refine ⟨_, rfl, ?_⟩))
  go_ret
  exact ⟨by first | rfl | (simp [errW_none, errW_some] <;> rfl) | (simp [*, errW_none, errW_some] <;> rfl), by repeat (first | (with_reducible first | exact HB.out | apply below_alloc | apply pw_below_drewN | apply below_drew1) | exact HB.out)⟩
 ·replace c3 := Bool.eq_false_iff.mpr c3
  subst c3
  have H1 : ((spec_DrawSome.f k l0).bind fun bt340 => (if (bt340.2.2.2.length : Int) < 3 then (some true) else ((spec_DrawPlaces.f k l0).bind fun t347 => (if 0 < (t347.length : Int) then (if (bt340.2.2.2.length : Int) = 0 then (none) else (if 0 ≤ (Int.tmod (rd t347 0) (bt340.2.2.2.length : Int)) then (if (Int.tmod (rd t347 0) (bt340.2.2.2.length : Int)) < (bt340.2.2.2.length : Int) then (if 1 < (t347.length : Int) then (if 0 ≤ (Int.tmod (rd t347 1) (bt340.2.2.2.length : Int)) then (if (Int.tmod (rd t347 1) (bt340.2.2.2.length : Int)) < (bt340.2.2.2.length : Int) then (if 2 < (t347.length : Int) then (if 0 ≤ (Int.tmod (rd t347 2) (bt340.2.2.2.length : Int)) then (if (Int.tmod (rd t347 2) (bt340.2.2.2.length : Int)) < (bt340.2.2.2.length : Int) then ((impl_StepsTo.f k bt340.1 bt340.2.1 bt340.2.2.1 (rd bt340.2.2.2 (Int.tmod (rd t347 0) (bt340.2.2.2.length : Int))) (rd bt340.2.2.2 (Int.tmod (rd t347 1) (bt340.2.2.2.length : Int)))).bind fun t356 => ((impl_StepsTo.f k bt340.1 bt340.2.1 bt340.2.2.1 (rd bt340.2.2.2 (Int.tmod (rd t347 0) (bt340.2.2.2.length : Int))) (rd bt340.2.2.2 (Int.tmod (rd t347 2) (bt340.2.2.2.length : Int)))).bind fun t357 => ((impl_StepsTo.f k bt340.1 bt340.2.1 bt340.2.2.1 (rd bt340.2.2.2 (Int.tmod (rd t347 2) (bt340.2.2.2.length : Int))) (rd bt340.2.2.2 (Int.tmod (rd t347 1) (bt340.2.2.2.length : Int)))).bind fun t358 => ((impl_WayTo.f k bt340.1 bt340.2.1 bt340.2.2.1 (rd bt340.2.2.2 (Int.tmod (rd t347 0) (bt340.2.2.2.length : Int))) (rd bt340.2.2.2 (Int.tmod (rd t347 1) (bt340.2.2.2.length : Int)))).bind fun t359 => ((impl_StepsTo.f k bt340.1 bt340.2.1 bt340.2.2.1 (rd bt340.2.2.2 (Int.tmod (rd t347 1) (bt340.2.2.2.length : Int))) (rd bt340.2.2.2 (Int.tmod (rd t347 0) (bt340.2.2.2.length : Int)))).bind fun t362 => (if t356 = t362 then (if t357 ≥ 0 then (if t358 ≥ 0 then (if t356 < 0 then (laws_FnSteps.j0 k (rd bt340.2.2.2 (Int.tmod (rd t347 0) (bt340.2.2.2.length : Int))) (rd bt340.2.2.2 (Int.tmod (rd t347 1) (bt340.2.2.2.length : Int))) (rd bt340.2.2.2 (Int.tmod (rd t347 2) (bt340.2.2.2.length : Int))) t356 t358 t359 true bt340.1 bt340.2.1 bt340.2.2.1) else (if t356 > (wrap64 (t357 + t358)) then (laws_FnSteps.j0 k (rd bt340.2.2.2 (Int.tmod (rd t347 0) (bt340.2.2.2.length : Int))) (rd bt340.2.2.2 (Int.tmod (rd t347 1) (bt340.2.2.2.length : Int))) (rd bt340.2.2.2 (Int.tmod (rd t347 2) (bt340.2.2.2.length : Int))) t356 t358 t359 true bt340.1 bt340.2.1 bt340.2.2.1) else (if (t359.length : Int) = (wrap64 (t356 + 1)) then (laws_FnSteps.j0 k (rd bt340.2.2.2 (Int.tmod (rd t347 0) (bt340.2.2.2.length : Int))) (rd bt340.2.2.2 (Int.tmod (rd t347 1) (bt340.2.2.2.length : Int))) (rd bt340.2.2.2 (Int.tmod (rd t347 2) (bt340.2.2.2.length : Int))) t356 t358 t359 (((rd bt340.2.2.2 (Int.tmod (rd t347 0) (bt340.2.2.2.length : Int))) == (rd bt340.2.2.2 (Int.tmod (rd t347 1) (bt340.2.2.2.length : Int)))) != (t356 == 0)) bt340.1 bt340.2.1 bt340.2.2.1) else (laws_FnSteps.j0 k (rd bt340.2.2.2 (Int.tmod (rd t347 0) (bt340.2.2.2.length : Int))) (rd bt340.2.2.2 (Int.tmod (rd t347 1) (bt340.2.2.2.length : Int))) (rd bt340.2.2.2 (Int.tmod (rd t347 2) (bt340.2.2.2.length : Int))) t356 t358 t359 true bt340.1 bt340.2.1 bt340.2.2.1)))) else (if (t359.length : Int) = (wrap64 (t356 + 1)) then (laws_FnSteps.j0 k (rd bt340.2.2.2 (Int.tmod (rd t347 0) (bt340.2.2.2.length : Int))) (rd bt340.2.2.2 (Int.tmod (rd t347 1) (bt340.2.2.2.length : Int))) (rd bt340.2.2.2 (Int.tmod (rd t347 2) (bt340.2.2.2.length : Int))) t356 t358 t359 (((rd bt340.2.2.2 (Int.tmod (rd t347 0) (bt340.2.2.2.length : Int))) == (rd bt340.2.2.2 (Int.tmod (rd t347 1) (bt340.2.2.2.length : Int)))) != (t356 == 0)) bt340.1 bt340.2.1 bt340.2.2.1) else (laws_FnSteps.j0 k (rd bt340.2.2.2 (Int.tmod (rd t347 0) (bt340.2.2.2.length : Int))) (rd bt340.2.2.2 (Int.tmod (rd t347 1) (bt340.2.2.2.length : Int))) (rd bt340.2.2.2 (Int.tmod (rd t347 2) (bt340.2.2.2.length : Int))) t356 t358 t359 true bt340.1 bt340.2.1 bt340.2.2.1))) else (if (t359.length : Int) = (wrap64 (t356 + 1)) then (laws_FnSteps.j0 k (rd bt340.2.2.2 (Int.tmod (rd t347 0) (bt340.2.2.2.length : Int))) (rd bt340.2.2.2 (Int.tmod (rd t347 1) (bt340.2.2.2.length : Int))) (rd bt340.2.2.2 (Int.tmod (rd t347 2) (bt340.2.2.2.length : Int))) t356 t358 t359 (((rd bt340.2.2.2 (Int.tmod (rd t347 0) (bt340.2.2.2.length : Int))) == (rd bt340.2.2.2 (Int.tmod (rd t347 1) (bt340.2.2.2.length : Int)))) != (t356 == 0)) bt340.1 bt340.2.1 bt340.2.2.1) else (laws_FnSteps.j0 k (rd bt340.2.2.2 (Int.tmod (rd t347 0) (bt340.2.2.2.length : Int))) (rd bt340.2.2.2 (Int.tmod (rd t347 1) (bt340.2.2.2.length : Int))) (rd bt340.2.2.2 (Int.tmod (rd t347 2) (bt340.2.2.2.length : Int))) t356 t358 t359 true bt340.1 bt340.2.1 bt340.2.2.1))) else (laws_FnSteps.j0 k (rd bt340.2.2.2 (Int.tmod (rd t347 0) (bt340.2.2.2.length : Int))) (rd bt340.2.2.2 (Int.tmod (rd t347 1) (bt340.2.2.2.length : Int))) (rd bt340.2.2.2 (Int.tmod (rd t347 2) (bt340.2.2.2.length : Int))) t356 t358 t359 true bt340.1 bt340.2.1 bt340.2.2.1))))))) else (none)) else (none)) else (none)) else (none)) else (none)) else (none)) else (none)) else (none))) else (none))))) = some r := by rw [if_neg (show ¬ (false = true) by decide)] at H; exact H
  clear H
  have H := H1
  clear H1
  replace H := Option.bind_eq_some_iff.mp H
  obtain ⟨⟨t340, t341, t342, t343⟩, A40, H⟩ := H
  replace H : (if (t343.length : Int) < 3 then (some true) else ((spec_DrawPlaces.f k l0).bind fun t347 => (if 0 < (t347.length : Int) then (if (t343.length : Int) = 0 then (none) else (if 0 ≤ (Int.tmod (rd t347 0) (t343.length : Int)) then (if (Int.tmod (rd t347 0) (t343.length : Int)) < (t343.length : Int) then (if 1 < (t347.length : Int) then (if 0 ≤ (Int.tmod (rd t347 1) (t343.length : Int)) then (if (Int.tmod (rd t347 1) (t343.length : Int)) < (t343.length : Int) then (if 2 < (t347.length : Int) then (if 0 ≤ (Int.tmod (rd t347 2) (t343.length : Int)) then (if (Int.tmod (rd t347 2) (t343.length : Int)) < (t343.length : Int) then ((impl_StepsTo.f k t340 t341 t342 (rd t343 (Int.tmod (rd t347 0) (t343.length : Int))) (rd t343 (Int.tmod (rd t347 1) (t343.length : Int)))).bind fun t356 => ((impl_StepsTo.f k t340 t341 t342 (rd t343 (Int.tmod (rd t347 0) (t343.length : Int))) (rd t343 (Int.tmod (rd t347 2) (t343.length : Int)))).bind fun t357 => ((impl_StepsTo.f k t340 t341 t342 (rd t343 (Int.tmod (rd t347 2) (t343.length : Int))) (rd t343 (Int.tmod (rd t347 1) (t343.length : Int)))).bind fun t358 => ((impl_WayTo.f k t340 t341 t342 (rd t343 (Int.tmod (rd t347 0) (t343.length : Int))) (rd t343 (Int.tmod (rd t347 1) (t343.length : Int)))).bind fun t359 => ((impl_StepsTo.f k t340 t341 t342 (rd t343 (Int.tmod (rd t347 1) (t343.length : Int))) (rd t343 (Int.tmod (rd t347 0) (t343.length : Int)))).bind fun t362 => (if t356 = t362 then (if t357 ≥ 0 then (if t358 ≥ 0 then (if t356 < 0 then (laws_FnSteps.j0 k (rd t343 (Int.tmod (rd t347 0) (t343.length : Int))) (rd t343 (Int.tmod (rd t347 1) (t343.length : Int))) (rd t343 (Int.tmod (rd t347 2) (t343.length : Int))) t356 t358 t359 true t340 t341 t342) else (if t356 > (wrap64 (t357 + t358)) then (laws_FnSteps.j0 k (rd t343 (Int.tmod (rd t347 0) (t343.length : Int))) (rd t343 (Int.tmod (rd t347 1) (t343.length : Int))) (rd t343 (Int.tmod (rd t347 2) (t343.length : Int))) t356 t358 t359 true t340 t341 t342) else (if (t359.length : Int) = (wrap64 (t356 + 1)) then (laws_FnSteps.j0 k (rd t343 (Int.tmod (rd t347 0) (t343.length : Int))) (rd t343 (Int.tmod (rd t347 1) (t343.length : Int))) (rd t343 (Int.tmod (rd t347 2) (t343.length : Int))) t356 t358 t359 (((rd t343 (Int.tmod (rd t347 0) (t343.length : Int))) == (rd t343 (Int.tmod (rd t347 1) (t343.length : Int)))) != (t356 == 0)) t340 t341 t342) else (laws_FnSteps.j0 k (rd t343 (Int.tmod (rd t347 0) (t343.length : Int))) (rd t343 (Int.tmod (rd t347 1) (t343.length : Int))) (rd t343 (Int.tmod (rd t347 2) (t343.length : Int))) t356 t358 t359 true t340 t341 t342)))) else (if (t359.length : Int) = (wrap64 (t356 + 1)) then (laws_FnSteps.j0 k (rd t343 (Int.tmod (rd t347 0) (t343.length : Int))) (rd t343 (Int.tmod (rd t347 1) (t343.length : Int))) (rd t343 (Int.tmod (rd t347 2) (t343.length : Int))) t356 t358 t359 (((rd t343 (Int.tmod (rd t347 0) (t343.length : Int))) == (rd t343 (Int.tmod (rd t347 1) (t343.length : Int)))) != (t356 == 0)) t340 t341 t342) else (laws_FnSteps.j0 k (rd t343 (Int.tmod (rd t347 0) (t343.length : Int))) (rd t343 (Int.tmod (rd t347 1) (t343.length : Int))) (rd t343 (Int.tmod (rd t347 2) (t343.length : Int))) t356 t358 t359 true t340 t341 t342))) else (if (t359.length : Int) = (wrap64 (t356 + 1)) then (laws_FnSteps.j0 k (rd t343 (Int.tmod (rd t347 0) (t343.length : Int))) (rd t343 (Int.tmod (rd t347 1) (t343.length : Int))) (rd t343 (Int.tmod (rd t347 2) (t343.length : Int))) t356 t358 t359 (((rd t343 (Int.tmod (rd t347 0) (t343.length : Int))) == (rd t343 (Int.tmod (rd t347 1) (t343.length : Int)))) != (t356 == 0)) t340 t341 t342) else (laws_FnSteps.j0 k (rd t343 (Int.tmod (rd t347 0) (t343.length : Int))) (rd t343 (Int.tmod (rd t347 1) (t343.length : Int))) (rd t343 (Int.tmod (rd t347 2) (t343.length : Int))) t356 t358 t359 true t340 t341 t342))) else (laws_FnSteps.j0 k (rd t343 (Int.tmod (rd t347 0) (t343.length : Int))) (rd t343 (Int.tmod (rd t347 1) (t343.length : Int))) (rd t343 (Int.tmod (rd t347 2) (t343.length : Int))) t356 t358 t359 true t340 t341 t342))))))) else (none)) else (none)) else (none)) else (none)) else (none)) else (none)) else (none)) else (none))) else (none)))) = some r := H
  have A4 := Aside0.mk A40
  clear A40
  by_cases c5 : (t343.length : Int) < 3
  ·rw [if_pos c5] at H
   have c5b0 : decide ((t343.length : Int) < 3) = true := decide_eq_true c5
   have c5b1 : decide (t343.length < 3) = true := decide_eq_true (by omega)
   clear c5
   obtain rfl := Option.some.inj H
   go_enter Try.func6, Try.ntmps6
   go_wp2_with (first | ((with_reducible refine gate_callee (f := 20) rfl ?_); refine goesL_ (some 17) rfl rfl Try.func20 (by kernel_rfl) rfl #[.slice A0 l0.length c0] rfl (by (try simp only [List.map_toArray, List.map_cons, List.map_nil]); first | done | rfl | (simp only [List.length_drop, List.length_take]; rfl)) ?_; (with_reducible refine (laws_big.calls _ _ l0 false _ ?side1 ?side2 A2.out).mono ?_); (case side1 => repeat (first | exact HR0.out | (with_reducible refine Kd.C_alloc ?_ _) | (with_reducible refine Kd.C_drewN ?_ _) | (with_reducible refine Kd.C_drew ?_))); (case side2 => exact HC0.out); rintro e w' ⟨rfl, ⟨nd, rfl⟩⟩; refine ⟨_, rfl, ?_⟩) | ((with_reducible refine gate_callee (f := 21) rfl ?_); refine goesL_ (some 20) rfl rfl Try.func21 (by kernel_rfl) rfl #[.slice A0 l0.length c0] rfl (by (try simp only [List.map_toArray, List.map_cons, List.map_nil]); first | done | rfl | (simp only [List.length_drop, List.length_take]; rfl)) ?_; (with_reducible refine (spec_DrawSome.calls k _ _ l0 t340 t341 t342 t343 _ ?side1 ?side2 A4.out).mono ?_); (case side1 => repeat (first | exact HR0.out | (with_reducible refine Kd.C_alloc ?_ _) | (with_reducible refine Kd.C_drewN ?_ _) | (with_reducible refine Kd.C_drew ?_))); (case side2 => exact HC0.out); rintro e w6 ⟨v344, rfl, ho0, hb⟩; refine ⟨_, rfl, ?_⟩; have n0_ := Aside0.mk (Kd.R_lower ho0 (below_size (by repeat (first | (with_reducible first | exact HB.out | apply below_alloc | apply pw_below_drewN | apply below_drew1) | exact HB.out)))); have n1_ := Aside0.mk (below_step (by repeat (first | (with_reducible first | exact HB.out | apply below_alloc | apply pw_below_drewN | apply below_drew1) | exact HB.out)) hb); clear HB; have HO345 := n0_; have HB := n1_; clear n0_ n1_; (try clear hb); (try clear hb2); (try clear hk); (try clear hi); (try clear ho0)) | ((with_reducible refine gate_dst (N := 3) rfl ?_); (try (refine gate_guard (by rfl) ?_; dsimp only)); refine box_event ?hg (N := 3) ?hd (cs := #[.int .i64 0, .int .i64 0, .string (⟨#[]⟩ : ByteArray)]) (t := 27) ?hr ?_; (case hd => rfl); (case hg => rfl); (case hr => first | (go_simp; done) | (go_simp; rfl)); intro gb346 hg w7 hbox hb; have n0_ := Aside0.mk (Kd.R_below (by (with_reducible repeat (first | apply Kd.R_alloc | apply Kd.R_drewN | apply Kd.R_drew)); exact HO345.out) hb); have n1_ := Aside0.mk (below_step (by repeat (first | (with_reducible first | exact HB.out | apply below_alloc | apply pw_below_drewN | apply below_drew1) | exact HB.out)) hb); have n2_ := Aside0.mk (hbox); have n3_ := Aside0.mk ((by rw [hg]; exact (below_size (by repeat (first | (with_reducible first | exact HB.out | apply below_alloc | apply pw_below_drewN | apply below_drew1) | exact HB.out))) : w.heap.size ≤ gb346)); have n4_ := Aside0.mk ((by rw [hg]; exact (below_size (by repeat (first | (with_reducible first | exact HB.out | apply below_alloc | apply pw_below_drewN | apply below_drew1) | exact HB.out))) : w.heap.size ≤ gb346)); clear HO345; clear HB; have HO345 := n0_; have HB := n1_; have BK346 := n2_; have GW346 := n3_; have GE346 := n4_; clear n0_ n1_ n2_ n3_ n4_; clear hb hbox hg; have hcz8_0 : w7.cell? ⟨gb346, 0, none⟩ = some (.int .i64 0) := (blk_cell BK346.out 0).trans rfl; have hcz8_1 : w7.cell? ⟨gb346, 1, none⟩ = some (.int .i64 0) := (blk_cell BK346.out 1).trans rfl; have hcz8_2 : w7.cell? ⟨gb346, 2, none⟩ = some (.string (⟨#[]⟩ : ByteArray)) := (blk_cell BK346.out 2).trans rfl; have hfz8_0 := blk_frozen BK346.out 0; have hfz8_1 := blk_frozen BK346.out 1; have hfz8_2 := blk_frozen BK346.out 2; obtain ⟨Ao9, co9, eo9⟩ := Kd.R_slice HO345.out; subst eo9))
   go_ret
   exact ⟨by first | rfl | (simp [errW_none, errW_some] <;> rfl) | (simp [*, errW_none, errW_some] <;> rfl), by repeat (first | (with_reducible first | exact HB.out | apply below_alloc | apply pw_below_drewN | apply below_drew1 | refine below_set ?_ GE346.out) | exact HB.out)⟩
  ·rw [if_neg c5] at H
   have c5b0 : decide ((t343.length : Int) < 3) = false := decide_eq_false c5
   have c5b1 : decide (t343.length < 3) = false := decide_eq_false (by omega)
   clear c5
   replace H := Option.bind_eq_some_iff.mp H
   obtain ⟨t347, A100, H⟩ := H
   replace H : (if 0 < (t347.length : Int) then (if (t343.length : Int) = 0 then (none) else (if 0 ≤ (Int.tmod (rd t347 0) (t343.length : Int)) then (if (Int.tmod (rd t347 0) (t343.length : Int)) < (t343.length : Int) then (if 1 < (t347.length : Int) then (if 0 ≤ (Int.tmod (rd t347 1) (t343.length : Int)) then (if (Int.tmod (rd t347 1) (t343.length : Int)) < (t343.length : Int) then (if 2 < (t347.length : Int) then (if 0 ≤ (Int.tmod (rd t347 2) (t343.length : Int)) then (if (Int.tmod (rd t347 2) (t343.length : Int)) < (t343.length : Int) then ((impl_StepsTo.f k t340 t341 t342 (rd t343 (Int.tmod (rd t347 0) (t343.length : Int))) (rd t343 (Int.tmod (rd t347 1) (t343.length : Int)))).bind fun t356 => ((impl_StepsTo.f k t340 t341 t342 (rd t343 (Int.tmod (rd t347 0) (t343.length : Int))) (rd t343 (Int.tmod (rd t347 2) (t343.length : Int)))).bind fun t357 => ((impl_StepsTo.f k t340 t341 t342 (rd t343 (Int.tmod (rd t347 2) (t343.length : Int))) (rd t343 (Int.tmod (rd t347 1) (t343.length : Int)))).bind fun t358 => ((impl_WayTo.f k t340 t341 t342 (rd t343 (Int.tmod (rd t347 0) (t343.length : Int))) (rd t343 (Int.tmod (rd t347 1) (t343.length : Int)))).bind fun t359 => ((impl_StepsTo.f k t340 t341 t342 (rd t343 (Int.tmod (rd t347 1) (t343.length : Int))) (rd t343 (Int.tmod (rd t347 0) (t343.length : Int)))).bind fun t362 => (if t356 = t362 then (if t357 ≥ 0 then (if t358 ≥ 0 then (if t356 < 0 then (laws_FnSteps.j0 k (rd t343 (Int.tmod (rd t347 0) (t343.length : Int))) (rd t343 (Int.tmod (rd t347 1) (t343.length : Int))) (rd t343 (Int.tmod (rd t347 2) (t343.length : Int))) t356 t358 t359 true t340 t341 t342) else (if t356 > (wrap64 (t357 + t358)) then (laws_FnSteps.j0 k (rd t343 (Int.tmod (rd t347 0) (t343.length : Int))) (rd t343 (Int.tmod (rd t347 1) (t343.length : Int))) (rd t343 (Int.tmod (rd t347 2) (t343.length : Int))) t356 t358 t359 true t340 t341 t342) else (if (t359.length : Int) = (wrap64 (t356 + 1)) then (laws_FnSteps.j0 k (rd t343 (Int.tmod (rd t347 0) (t343.length : Int))) (rd t343 (Int.tmod (rd t347 1) (t343.length : Int))) (rd t343 (Int.tmod (rd t347 2) (t343.length : Int))) t356 t358 t359 (((rd t343 (Int.tmod (rd t347 0) (t343.length : Int))) == (rd t343 (Int.tmod (rd t347 1) (t343.length : Int)))) != (t356 == 0)) t340 t341 t342) else (laws_FnSteps.j0 k (rd t343 (Int.tmod (rd t347 0) (t343.length : Int))) (rd t343 (Int.tmod (rd t347 1) (t343.length : Int))) (rd t343 (Int.tmod (rd t347 2) (t343.length : Int))) t356 t358 t359 true t340 t341 t342)))) else (if (t359.length : Int) = (wrap64 (t356 + 1)) then (laws_FnSteps.j0 k (rd t343 (Int.tmod (rd t347 0) (t343.length : Int))) (rd t343 (Int.tmod (rd t347 1) (t343.length : Int))) (rd t343 (Int.tmod (rd t347 2) (t343.length : Int))) t356 t358 t359 (((rd t343 (Int.tmod (rd t347 0) (t343.length : Int))) == (rd t343 (Int.tmod (rd t347 1) (t343.length : Int)))) != (t356 == 0)) t340 t341 t342) else (laws_FnSteps.j0 k (rd t343 (Int.tmod (rd t347 0) (t343.length : Int))) (rd t343 (Int.tmod (rd t347 1) (t343.length : Int))) (rd t343 (Int.tmod (rd t347 2) (t343.length : Int))) t356 t358 t359 true t340 t341 t342))) else (if (t359.length : Int) = (wrap64 (t356 + 1)) then (laws_FnSteps.j0 k (rd t343 (Int.tmod (rd t347 0) (t343.length : Int))) (rd t343 (Int.tmod (rd t347 1) (t343.length : Int))) (rd t343 (Int.tmod (rd t347 2) (t343.length : Int))) t356 t358 t359 (((rd t343 (Int.tmod (rd t347 0) (t343.length : Int))) == (rd t343 (Int.tmod (rd t347 1) (t343.length : Int)))) != (t356 == 0)) t340 t341 t342) else (laws_FnSteps.j0 k (rd t343 (Int.tmod (rd t347 0) (t343.length : Int))) (rd t343 (Int.tmod (rd t347 1) (t343.length : Int))) (rd t343 (Int.tmod (rd t347 2) (t343.length : Int))) t356 t358 t359 true t340 t341 t342))) else (laws_FnSteps.j0 k (rd t343 (Int.tmod (rd t347 0) (t343.length : Int))) (rd t343 (Int.tmod (rd t347 1) (t343.length : Int))) (rd t343 (Int.tmod (rd t347 2) (t343.length : Int))) t356 t358 t359 true t340 t341 t342))))))) else (none)) else (none)) else (none)) else (none)) else (none)) else (none)) else (none)) else (none))) else (none)) = some r := H
   have A10 := Aside0.mk A100
   clear A100
   by_cases c11 : 0 < (t347.length : Int)
   ·rw [if_pos c11] at H
    have c11b0 : decide (0 < (t347.length : Int)) = true := decide_eq_true c11
    have c11b1 : decide (0 < t347.length) = true := decide_eq_true (by omega)
    clear c11
    by_cases c12 : (t343.length : Int) = 0
    ·rw [if_pos c12] at H
     exact absurd H (by simp)
    ·rw [if_neg c12] at H
     have c12b0 : ((t343.length : Int) == 0) = false := beq_eq_false_iff_ne.mpr c12
     have c12b1 : ((t343.length : Int) != 0) = true := bne_iff_ne.mpr c12
     have c12b2 : ¬ (t343 = []) := fun h_ => c12 (by rw [h_]; rfl)
     obtain ⟨ji13, hji13⟩ : ∃ j_ : Int, (Int.tmod (rd t347 0) (t343.length : Int)) = j_ := ⟨_, rfl⟩
     replace H : (if 0 ≤ (ji13) then (if (ji13) < (t343.length : Int) then (if 1 < (t347.length : Int) then (if 0 ≤ (Int.tmod (rd t347 1) (t343.length : Int)) then (if (Int.tmod (rd t347 1) (t343.length : Int)) < (t343.length : Int) then (if 2 < (t347.length : Int) then (if 0 ≤ (Int.tmod (rd t347 2) (t343.length : Int)) then (if (Int.tmod (rd t347 2) (t343.length : Int)) < (t343.length : Int) then ((impl_StepsTo.f k t340 t341 t342 (rd t343 (ji13)) (rd t343 (Int.tmod (rd t347 1) (t343.length : Int)))).bind fun t356 => ((impl_StepsTo.f k t340 t341 t342 (rd t343 (ji13)) (rd t343 (Int.tmod (rd t347 2) (t343.length : Int)))).bind fun t357 => ((impl_StepsTo.f k t340 t341 t342 (rd t343 (Int.tmod (rd t347 2) (t343.length : Int))) (rd t343 (Int.tmod (rd t347 1) (t343.length : Int)))).bind fun t358 => ((impl_WayTo.f k t340 t341 t342 (rd t343 (ji13)) (rd t343 (Int.tmod (rd t347 1) (t343.length : Int)))).bind fun t359 => ((impl_StepsTo.f k t340 t341 t342 (rd t343 (Int.tmod (rd t347 1) (t343.length : Int))) (rd t343 (ji13))).bind fun t362 => (if t356 = t362 then (if t357 ≥ 0 then (if t358 ≥ 0 then (if t356 < 0 then (laws_FnSteps.j0 k (rd t343 (ji13)) (rd t343 (Int.tmod (rd t347 1) (t343.length : Int))) (rd t343 (Int.tmod (rd t347 2) (t343.length : Int))) t356 t358 t359 true t340 t341 t342) else (if t356 > (wrap64 (t357 + t358)) then (laws_FnSteps.j0 k (rd t343 (ji13)) (rd t343 (Int.tmod (rd t347 1) (t343.length : Int))) (rd t343 (Int.tmod (rd t347 2) (t343.length : Int))) t356 t358 t359 true t340 t341 t342) else (if (t359.length : Int) = (wrap64 (t356 + 1)) then (laws_FnSteps.j0 k (rd t343 (ji13)) (rd t343 (Int.tmod (rd t347 1) (t343.length : Int))) (rd t343 (Int.tmod (rd t347 2) (t343.length : Int))) t356 t358 t359 (((rd t343 (ji13)) == (rd t343 (Int.tmod (rd t347 1) (t343.length : Int)))) != (t356 == 0)) t340 t341 t342) else (laws_FnSteps.j0 k (rd t343 (ji13)) (rd t343 (Int.tmod (rd t347 1) (t343.length : Int))) (rd t343 (Int.tmod (rd t347 2) (t343.length : Int))) t356 t358 t359 true t340 t341 t342)))) else (if (t359.length : Int) = (wrap64 (t356 + 1)) then (laws_FnSteps.j0 k (rd t343 (ji13)) (rd t343 (Int.tmod (rd t347 1) (t343.length : Int))) (rd t343 (Int.tmod (rd t347 2) (t343.length : Int))) t356 t358 t359 (((rd t343 (ji13)) == (rd t343 (Int.tmod (rd t347 1) (t343.length : Int)))) != (t356 == 0)) t340 t341 t342) else (laws_FnSteps.j0 k (rd t343 (ji13)) (rd t343 (Int.tmod (rd t347 1) (t343.length : Int))) (rd t343 (Int.tmod (rd t347 2) (t343.length : Int))) t356 t358 t359 true t340 t341 t342))) else (if (t359.length : Int) = (wrap64 (t356 + 1)) then (laws_FnSteps.j0 k (rd t343 (ji13)) (rd t343 (Int.tmod (rd t347 1) (t343.length : Int))) (rd t343 (Int.tmod (rd t347 2) (t343.length : Int))) t356 t358 t359 (((rd t343 (ji13)) == (rd t343 (Int.tmod (rd t347 1) (t343.length : Int)))) != (t356 == 0)) t340 t341 t342) else (laws_FnSteps.j0 k (rd t343 (ji13)) (rd t343 (Int.tmod (rd t347 1) (t343.length : Int))) (rd t343 (Int.tmod (rd t347 2) (t343.length : Int))) t356 t358 t359 true t340 t341 t342))) else (laws_FnSteps.j0 k (rd t343 (ji13)) (rd t343 (Int.tmod (rd t347 1) (t343.length : Int))) (rd t343 (Int.tmod (rd t347 2) (t343.length : Int))) t356 t358 t359 true t340 t341 t342))))))) else (none)) else (none)) else (none)) else (none)) else (none)) else (none)) else (none)) else (none)) = some r := by first | (rw [hji13] at H; exact H) | (simp only [hji13] at H ⊢; exact H)
     (try rw [hji13] at A2)
     (try rw [hji13] at A4)
     (try rw [hji13] at A10)
     by_cases c14 : 0 ≤ (ji13)
     ·rw [if_pos c14] at H
      have c14b0 : decide (0 ≤ (ji13)) = true := decide_eq_true c14
      clear c14
      by_cases c15 : (ji13) < (t343.length : Int)
      ·rw [if_pos c15] at H
       have c15b0 : decide ((ji13) < (t343.length : Int)) = true := decide_eq_true c15
       clear c15
       by_cases c16 : 1 < (t347.length : Int)
       ·rw [if_pos c16] at H
        have c16b0 : decide (1 < (t347.length : Int)) = true := decide_eq_true c16
        have c16b1 : decide (1 < t347.length) = true := decide_eq_true (by omega)
        clear c16
        obtain ⟨ji17, hji17⟩ : ∃ j_ : Int, (Int.tmod (rd t347 1) (t343.length : Int)) = j_ := ⟨_, rfl⟩
        replace H : (if 0 ≤ (ji17) then (if (ji17) < (t343.length : Int) then (if 2 < (t347.length : Int) then (if 0 ≤ (Int.tmod (rd t347 2) (t343.length : Int)) then (if (Int.tmod (rd t347 2) (t343.length : Int)) < (t343.length : Int) then ((impl_StepsTo.f k t340 t341 t342 (rd t343 (ji13)) (rd t343 (ji17))).bind fun t356 => ((impl_StepsTo.f k t340 t341 t342 (rd t343 (ji13)) (rd t343 (Int.tmod (rd t347 2) (t343.length : Int)))).bind fun t357 => ((impl_StepsTo.f k t340 t341 t342 (rd t343 (Int.tmod (rd t347 2) (t343.length : Int))) (rd t343 (ji17))).bind fun t358 => ((impl_WayTo.f k t340 t341 t342 (rd t343 (ji13)) (rd t343 (ji17))).bind fun t359 => ((impl_StepsTo.f k t340 t341 t342 (rd t343 (ji17)) (rd t343 (ji13))).bind fun t362 => (if t356 = t362 then (if t357 ≥ 0 then (if t358 ≥ 0 then (if t356 < 0 then (laws_FnSteps.j0 k (rd t343 (ji13)) (rd t343 (ji17)) (rd t343 (Int.tmod (rd t347 2) (t343.length : Int))) t356 t358 t359 true t340 t341 t342) else (if t356 > (wrap64 (t357 + t358)) then (laws_FnSteps.j0 k (rd t343 (ji13)) (rd t343 (ji17)) (rd t343 (Int.tmod (rd t347 2) (t343.length : Int))) t356 t358 t359 true t340 t341 t342) else (if (t359.length : Int) = (wrap64 (t356 + 1)) then (laws_FnSteps.j0 k (rd t343 (ji13)) (rd t343 (ji17)) (rd t343 (Int.tmod (rd t347 2) (t343.length : Int))) t356 t358 t359 (((rd t343 (ji13)) == (rd t343 (ji17))) != (t356 == 0)) t340 t341 t342) else (laws_FnSteps.j0 k (rd t343 (ji13)) (rd t343 (ji17)) (rd t343 (Int.tmod (rd t347 2) (t343.length : Int))) t356 t358 t359 true t340 t341 t342)))) else (if (t359.length : Int) = (wrap64 (t356 + 1)) then (laws_FnSteps.j0 k (rd t343 (ji13)) (rd t343 (ji17)) (rd t343 (Int.tmod (rd t347 2) (t343.length : Int))) t356 t358 t359 (((rd t343 (ji13)) == (rd t343 (ji17))) != (t356 == 0)) t340 t341 t342) else (laws_FnSteps.j0 k (rd t343 (ji13)) (rd t343 (ji17)) (rd t343 (Int.tmod (rd t347 2) (t343.length : Int))) t356 t358 t359 true t340 t341 t342))) else (if (t359.length : Int) = (wrap64 (t356 + 1)) then (laws_FnSteps.j0 k (rd t343 (ji13)) (rd t343 (ji17)) (rd t343 (Int.tmod (rd t347 2) (t343.length : Int))) t356 t358 t359 (((rd t343 (ji13)) == (rd t343 (ji17))) != (t356 == 0)) t340 t341 t342) else (laws_FnSteps.j0 k (rd t343 (ji13)) (rd t343 (ji17)) (rd t343 (Int.tmod (rd t347 2) (t343.length : Int))) t356 t358 t359 true t340 t341 t342))) else (laws_FnSteps.j0 k (rd t343 (ji13)) (rd t343 (ji17)) (rd t343 (Int.tmod (rd t347 2) (t343.length : Int))) t356 t358 t359 true t340 t341 t342))))))) else (none)) else (none)) else (none)) else (none)) else (none)) = some r := by first | (rw [hji17] at H; exact H) | (simp only [hji17] at H ⊢; exact H)
        (try rw [hji17] at A2)
        (try rw [hji17] at A4)
        (try rw [hji17] at A10)
        by_cases c18 : 0 ≤ (ji17)
        ·rw [if_pos c18] at H
         have c18b0 : decide (0 ≤ (ji17)) = true := decide_eq_true c18
         clear c18
         by_cases c19 : (ji17) < (t343.length : Int)
         ·rw [if_pos c19] at H
          have c19b0 : decide ((ji17) < (t343.length : Int)) = true := decide_eq_true c19
          clear c19
          by_cases c20 : 2 < (t347.length : Int)
          ·rw [if_pos c20] at H
           have c20b0 : decide (2 < (t347.length : Int)) = true := decide_eq_true c20
           have c20b1 : decide (2 < t347.length) = true := decide_eq_true (by omega)
           clear c20
           obtain ⟨ji21, hji21⟩ : ∃ j_ : Int, (Int.tmod (rd t347 2) (t343.length : Int)) = j_ := ⟨_, rfl⟩
           replace H : (if 0 ≤ (ji21) then (if (ji21) < (t343.length : Int) then ((impl_StepsTo.f k t340 t341 t342 (rd t343 (ji13)) (rd t343 (ji17))).bind fun t356 => ((impl_StepsTo.f k t340 t341 t342 (rd t343 (ji13)) (rd t343 (ji21))).bind fun t357 => ((impl_StepsTo.f k t340 t341 t342 (rd t343 (ji21)) (rd t343 (ji17))).bind fun t358 => ((impl_WayTo.f k t340 t341 t342 (rd t343 (ji13)) (rd t343 (ji17))).bind fun t359 => ((impl_StepsTo.f k t340 t341 t342 (rd t343 (ji17)) (rd t343 (ji13))).bind fun t362 => (if t356 = t362 then (if t357 ≥ 0 then (if t358 ≥ 0 then (if t356 < 0 then (laws_FnSteps.j0 k (rd t343 (ji13)) (rd t343 (ji17)) (rd t343 (ji21)) t356 t358 t359 true t340 t341 t342) else (if t356 > (wrap64 (t357 + t358)) then (laws_FnSteps.j0 k (rd t343 (ji13)) (rd t343 (ji17)) (rd t343 (ji21)) t356 t358 t359 true t340 t341 t342) else (if (t359.length : Int) = (wrap64 (t356 + 1)) then (laws_FnSteps.j0 k (rd t343 (ji13)) (rd t343 (ji17)) (rd t343 (ji21)) t356 t358 t359 (((rd t343 (ji13)) == (rd t343 (ji17))) != (t356 == 0)) t340 t341 t342) else (laws_FnSteps.j0 k (rd t343 (ji13)) (rd t343 (ji17)) (rd t343 (ji21)) t356 t358 t359 true t340 t341 t342)))) else (if (t359.length : Int) = (wrap64 (t356 + 1)) then (laws_FnSteps.j0 k (rd t343 (ji13)) (rd t343 (ji17)) (rd t343 (ji21)) t356 t358 t359 (((rd t343 (ji13)) == (rd t343 (ji17))) != (t356 == 0)) t340 t341 t342) else (laws_FnSteps.j0 k (rd t343 (ji13)) (rd t343 (ji17)) (rd t343 (ji21)) t356 t358 t359 true t340 t341 t342))) else (if (t359.length : Int) = (wrap64 (t356 + 1)) then (laws_FnSteps.j0 k (rd t343 (ji13)) (rd t343 (ji17)) (rd t343 (ji21)) t356 t358 t359 (((rd t343 (ji13)) == (rd t343 (ji17))) != (t356 == 0)) t340 t341 t342) else (laws_FnSteps.j0 k (rd t343 (ji13)) (rd t343 (ji17)) (rd t343 (ji21)) t356 t358 t359 true t340 t341 t342))) else (laws_FnSteps.j0 k (rd t343 (ji13)) (rd t343 (ji17)) (rd t343 (ji21)) t356 t358 t359 true t340 t341 t342))))))) else (none)) else (none)) = some r := by first | (rw [hji21] at H; exact H) | (simp only [hji21] at H ⊢; exact H)
           (try rw [hji21] at A2)
           (try rw [hji21] at A4)
           (try rw [hji21] at A10)
           by_cases c22 : 0 ≤ (ji21)
           ·rw [if_pos c22] at H
            have c22b0 : decide (0 ≤ (ji21)) = true := decide_eq_true c22
            clear c22
            by_cases c23 : (ji21) < (t343.length : Int)
            ·rw [if_pos c23] at H
             have c23b0 : decide ((ji21) < (t343.length : Int)) = true := decide_eq_true c23
             clear c23
             replace H := Option.bind_eq_some_iff.mp H
             obtain ⟨t356, A240, H⟩ := H
             replace H : ((impl_StepsTo.f k t340 t341 t342 (rd t343 (ji13)) (rd t343 (ji21))).bind fun t357 => ((impl_StepsTo.f k t340 t341 t342 (rd t343 (ji21)) (rd t343 (ji17))).bind fun t358 => ((impl_WayTo.f k t340 t341 t342 (rd t343 (ji13)) (rd t343 (ji17))).bind fun t359 => ((impl_StepsTo.f k t340 t341 t342 (rd t343 (ji17)) (rd t343 (ji13))).bind fun t362 => (if t356 = t362 then (if t357 ≥ 0 then (if t358 ≥ 0 then (if t356 < 0 then (laws_FnSteps.j0 k (rd t343 (ji13)) (rd t343 (ji17)) (rd t343 (ji21)) t356 t358 t359 true t340 t341 t342) else (if t356 > (wrap64 (t357 + t358)) then (laws_FnSteps.j0 k (rd t343 (ji13)) (rd t343 (ji17)) (rd t343 (ji21)) t356 t358 t359 true t340 t341 t342) else (if (t359.length : Int) = (wrap64 (t356 + 1)) then (laws_FnSteps.j0 k (rd t343 (ji13)) (rd t343 (ji17)) (rd t343 (ji21)) t356 t358 t359 (((rd t343 (ji13)) == (rd t343 (ji17))) != (t356 == 0)) t340 t341 t342) else (laws_FnSteps.j0 k (rd t343 (ji13)) (rd t343 (ji17)) (rd t343 (ji21)) t356 t358 t359 true t340 t341 t342)))) else (if (t359.length : Int) = (wrap64 (t356 + 1)) then (laws_FnSteps.j0 k (rd t343 (ji13)) (rd t343 (ji17)) (rd t343 (ji21)) t356 t358 t359 (((rd t343 (ji13)) == (rd t343 (ji17))) != (t356 == 0)) t340 t341 t342) else (laws_FnSteps.j0 k (rd t343 (ji13)) (rd t343 (ji17)) (rd t343 (ji21)) t356 t358 t359 true t340 t341 t342))) else (if (t359.length : Int) = (wrap64 (t356 + 1)) then (laws_FnSteps.j0 k (rd t343 (ji13)) (rd t343 (ji17)) (rd t343 (ji21)) t356 t358 t359 (((rd t343 (ji13)) == (rd t343 (ji17))) != (t356 == 0)) t340 t341 t342) else (laws_FnSteps.j0 k (rd t343 (ji13)) (rd t343 (ji17)) (rd t343 (ji21)) t356 t358 t359 true t340 t341 t342))) else (laws_FnSteps.j0 k (rd t343 (ji13)) (rd t343 (ji17)) (rd t343 (ji21)) t356 t358 t359 true t340 t341 t342)))))) = some r := H
             have A24 := Aside0.mk A240
             clear A240
             replace H := Option.bind_eq_some_iff.mp H
             obtain ⟨t357, A250, H⟩ := H
             replace H : ((impl_StepsTo.f k t340 t341 t342 (rd t343 (ji21)) (rd t343 (ji17))).bind fun t358 => ((impl_WayTo.f k t340 t341 t342 (rd t343 (ji13)) (rd t343 (ji17))).bind fun t359 => ((impl_StepsTo.f k t340 t341 t342 (rd t343 (ji17)) (rd t343 (ji13))).bind fun t362 => (if t356 = t362 then (if t357 ≥ 0 then (if t358 ≥ 0 then (if t356 < 0 then (laws_FnSteps.j0 k (rd t343 (ji13)) (rd t343 (ji17)) (rd t343 (ji21)) t356 t358 t359 true t340 t341 t342) else (if t356 > (wrap64 (t357 + t358)) then (laws_FnSteps.j0 k (rd t343 (ji13)) (rd t343 (ji17)) (rd t343 (ji21)) t356 t358 t359 true t340 t341 t342) else (if (t359.length : Int) = (wrap64 (t356 + 1)) then (laws_FnSteps.j0 k (rd t343 (ji13)) (rd t343 (ji17)) (rd t343 (ji21)) t356 t358 t359 (((rd t343 (ji13)) == (rd t343 (ji17))) != (t356 == 0)) t340 t341 t342) else (laws_FnSteps.j0 k (rd t343 (ji13)) (rd t343 (ji17)) (rd t343 (ji21)) t356 t358 t359 true t340 t341 t342)))) else (if (t359.length : Int) = (wrap64 (t356 + 1)) then (laws_FnSteps.j0 k (rd t343 (ji13)) (rd t343 (ji17)) (rd t343 (ji21)) t356 t358 t359 (((rd t343 (ji13)) == (rd t343 (ji17))) != (t356 == 0)) t340 t341 t342) else (laws_FnSteps.j0 k (rd t343 (ji13)) (rd t343 (ji17)) (rd t343 (ji21)) t356 t358 t359 true t340 t341 t342))) else (if (t359.length : Int) = (wrap64 (t356 + 1)) then (laws_FnSteps.j0 k (rd t343 (ji13)) (rd t343 (ji17)) (rd t343 (ji21)) t356 t358 t359 (((rd t343 (ji13)) == (rd t343 (ji17))) != (t356 == 0)) t340 t341 t342) else (laws_FnSteps.j0 k (rd t343 (ji13)) (rd t343 (ji17)) (rd t343 (ji21)) t356 t358 t359 true t340 t341 t342))) else (laws_FnSteps.j0 k (rd t343 (ji13)) (rd t343 (ji17)) (rd t343 (ji21)) t356 t358 t359 true t340 t341 t342))))) = some r := H
             have A25 := Aside0.mk A250
             clear A250
             replace H := Option.bind_eq_some_iff.mp H
             obtain ⟨t358, A260, H⟩ := H
             replace H : ((impl_WayTo.f k t340 t341 t342 (rd t343 (ji13)) (rd t343 (ji17))).bind fun t359 => ((impl_StepsTo.f k t340 t341 t342 (rd t343 (ji17)) (rd t343 (ji13))).bind fun t362 => (if t356 = t362 then (if t357 ≥ 0 then (if t358 ≥ 0 then (if t356 < 0 then (laws_FnSteps.j0 k (rd t343 (ji13)) (rd t343 (ji17)) (rd t343 (ji21)) t356 t358 t359 true t340 t341 t342) else (if t356 > (wrap64 (t357 + t358)) then (laws_FnSteps.j0 k (rd t343 (ji13)) (rd t343 (ji17)) (rd t343 (ji21)) t356 t358 t359 true t340 t341 t342) else (if (t359.length : Int) = (wrap64 (t356 + 1)) then (laws_FnSteps.j0 k (rd t343 (ji13)) (rd t343 (ji17)) (rd t343 (ji21)) t356 t358 t359 (((rd t343 (ji13)) == (rd t343 (ji17))) != (t356 == 0)) t340 t341 t342) else (laws_FnSteps.j0 k (rd t343 (ji13)) (rd t343 (ji17)) (rd t343 (ji21)) t356 t358 t359 true t340 t341 t342)))) else (if (t359.length : Int) = (wrap64 (t356 + 1)) then (laws_FnSteps.j0 k (rd t343 (ji13)) (rd t343 (ji17)) (rd t343 (ji21)) t356 t358 t359 (((rd t343 (ji13)) == (rd t343 (ji17))) != (t356 == 0)) t340 t341 t342) else (laws_FnSteps.j0 k (rd t343 (ji13)) (rd t343 (ji17)) (rd t343 (ji21)) t356 t358 t359 true t340 t341 t342))) else (if (t359.length : Int) = (wrap64 (t356 + 1)) then (laws_FnSteps.j0 k (rd t343 (ji13)) (rd t343 (ji17)) (rd t343 (ji21)) t356 t358 t359 (((rd t343 (ji13)) == (rd t343 (ji17))) != (t356 == 0)) t340 t341 t342) else (laws_FnSteps.j0 k (rd t343 (ji13)) (rd t343 (ji17)) (rd t343 (ji21)) t356 t358 t359 true t340 t341 t342))) else (laws_FnSteps.j0 k (rd t343 (ji13)) (rd t343 (ji17)) (rd t343 (ji21)) t356 t358 t359 true t340 t341 t342)))) = some r := H
             have A26 := Aside0.mk A260
             clear A260
             replace H := Option.bind_eq_some_iff.mp H
             obtain ⟨t359, A270, H⟩ := H
             replace H : ((impl_StepsTo.f k t340 t341 t342 (rd t343 (ji17)) (rd t343 (ji13))).bind fun t362 => (if t356 = t362 then (if t357 ≥ 0 then (if t358 ≥ 0 then (if t356 < 0 then (laws_FnSteps.j0 k (rd t343 (ji13)) (rd t343 (ji17)) (rd t343 (ji21)) t356 t358 t359 true t340 t341 t342) else (if t356 > (wrap64 (t357 + t358)) then (laws_FnSteps.j0 k (rd t343 (ji13)) (rd t343 (ji17)) (rd t343 (ji21)) t356 t358 t359 true t340 t341 t342) else (if (t359.length : Int) = (wrap64 (t356 + 1)) then (laws_FnSteps.j0 k (rd t343 (ji13)) (rd t343 (ji17)) (rd t343 (ji21)) t356 t358 t359 (((rd t343 (ji13)) == (rd t343 (ji17))) != (t356 == 0)) t340 t341 t342) else (laws_FnSteps.j0 k (rd t343 (ji13)) (rd t343 (ji17)) (rd t343 (ji21)) t356 t358 t359 true t340 t341 t342)))) else (if (t359.length : Int) = (wrap64 (t356 + 1)) then (laws_FnSteps.j0 k (rd t343 (ji13)) (rd t343 (ji17)) (rd t343 (ji21)) t356 t358 t359 (((rd t343 (ji13)) == (rd t343 (ji17))) != (t356 == 0)) t340 t341 t342) else (laws_FnSteps.j0 k (rd t343 (ji13)) (rd t343 (ji17)) (rd t343 (ji21)) t356 t358 t359 true t340 t341 t342))) else (if (t359.length : Int) = (wrap64 (t356 + 1)) then (laws_FnSteps.j0 k (rd t343 (ji13)) (rd t343 (ji17)) (rd t343 (ji21)) t356 t358 t359 (((rd t343 (ji13)) == (rd t343 (ji17))) != (t356 == 0)) t340 t341 t342) else (laws_FnSteps.j0 k (rd t343 (ji13)) (rd t343 (ji17)) (rd t343 (ji21)) t356 t358 t359 true t340 t341 t342))) else (laws_FnSteps.j0 k (rd t343 (ji13)) (rd t343 (ji17)) (rd t343 (ji21)) t356 t358 t359 true t340 t341 t342))) = some r := H
             have A27 := Aside0.mk A270
             clear A270
             have HC28 := Aside0.mk H
             clear H
             go_enter Try.func6, Try.ntmps6
             go_upto_region 14 with (first | ((with_reducible refine gate_callee (f := 20) rfl ?_); refine goesL_ (some 17) rfl rfl Try.func20 (by kernel_rfl) rfl #[.slice A0 l0.length c0] rfl (by (try simp only [List.map_toArray, List.map_cons, List.map_nil]); first | done | rfl | (simp only [List.length_drop, List.length_take]; rfl)) ?_; (with_reducible refine (laws_big.calls _ _ l0 false _ ?side1 ?side2 A2.out).mono ?_); (case side1 => repeat (first | exact HR0.out | (with_reducible refine Kd.C_alloc ?_ _) | (with_reducible refine Kd.C_drewN ?_ _) | (with_reducible refine Kd.C_drew ?_))); (case side2 => exact HC0.out); rintro e w' ⟨rfl, ⟨nd, rfl⟩⟩; refine ⟨_, rfl, ?_⟩) | ((with_reducible refine gate_callee (f := 21) rfl ?_); refine goesL_ (some 20) rfl rfl Try.func21 (by kernel_rfl) rfl #[.slice A0 l0.length c0] rfl (by (try simp only [List.map_toArray, List.map_cons, List.map_nil]); first | done | rfl | (simp only [List.length_drop, List.length_take]; rfl)) ?_; (with_reducible refine (spec_DrawSome.calls k _ _ l0 t340 t341 t342 t343 _ ?side1 ?side2 A4.out).mono ?_); (case side1 => repeat (first | exact HR0.out | (with_reducible refine Kd.C_alloc ?_ _) | (with_reducible refine Kd.C_drewN ?_ _) | (with_reducible refine Kd.C_drew ?_))); (case side2 => exact HC0.out); rintro e w29 ⟨v344, rfl, ho0, hb⟩; refine ⟨_, rfl, ?_⟩; have n0_ := Aside0.mk (Kd.R_lower ho0 (below_size (by repeat (first | (with_reducible first | exact HB.out | apply below_alloc | apply pw_below_drewN | apply below_drew1) | exact HB.out)))); have n1_ := Aside0.mk (below_step (by repeat (first | (with_reducible first | exact HB.out | apply below_alloc | apply pw_below_drewN | apply below_drew1) | exact HB.out)) hb); clear HB; have HO345 := n0_; have HB := n1_; clear n0_ n1_; (try clear hb); (try clear hb2); (try clear hk); (try clear hi); (try clear ho0)) | ((with_reducible refine gate_dst (N := 3) rfl ?_); (try (refine gate_guard (by rfl) ?_; dsimp only)); refine box_event ?hg (N := 3) ?hd (cs := #[.int .i64 0, .int .i64 0, .string (⟨#[]⟩ : ByteArray)]) (t := 27) ?hr ?_; (case hd => rfl); (case hg => rfl); (case hr => first | (go_simp; done) | (go_simp; rfl)); intro gb346 hg w30 hbox hb; have n0_ := Aside0.mk (Kd.R_below (by (with_reducible repeat (first | apply Kd.R_alloc | apply Kd.R_drewN | apply Kd.R_drew)); exact HO345.out) hb); have n1_ := Aside0.mk (below_step (by repeat (first | (with_reducible first | exact HB.out | apply below_alloc | apply pw_below_drewN | apply below_drew1) | exact HB.out)) hb); have n2_ := Aside0.mk (hbox); have n3_ := Aside0.mk ((by rw [hg]; exact (below_size (by repeat (first | (with_reducible first | exact HB.out | apply below_alloc | apply pw_below_drewN | apply below_drew1) | exact HB.out))) : w.heap.size ≤ gb346)); have n4_ := Aside0.mk ((by rw [hg]; exact (below_size (by repeat (first | (with_reducible first | exact HB.out | apply below_alloc | apply pw_below_drewN | apply below_drew1) | exact HB.out))) : w.heap.size ≤ gb346)); clear HO345; clear HB; have HO345 := n0_; have HB := n1_; have BK346 := n2_; have GW346 := n3_; have GE346 := n4_; clear n0_ n1_ n2_ n3_ n4_; clear hb hbox hg; have hcz31_0 : w30.cell? ⟨gb346, 0, none⟩ = some (.int .i64 0) := (blk_cell BK346.out 0).trans rfl; have hcz31_1 : w30.cell? ⟨gb346, 1, none⟩ = some (.int .i64 0) := (blk_cell BK346.out 1).trans rfl; have hcz31_2 : w30.cell? ⟨gb346, 2, none⟩ = some (.string (⟨#[]⟩ : ByteArray)) := (blk_cell BK346.out 2).trans rfl; have hfz31_0 := blk_frozen BK346.out 0; have hfz31_1 := blk_frozen BK346.out 1; have hfz31_2 := blk_frozen BK346.out 2; obtain ⟨Ao32, co32, eo32⟩ := Kd.R_slice HO345.out; subst eo32) | ((with_reducible refine gate_callee (f := 22) rfl ?_); refine goesL_ (some 27) rfl rfl Try.func22 (by kernel_rfl) rfl #[.slice A0 l0.length c0] rfl (by (try simp only [List.map_toArray, List.map_cons, List.map_nil]); first | done | rfl | (simp only [List.length_drop, List.length_take]; rfl)) ?_; (with_reducible refine (spec_DrawPlaces.calls k _ _ l0 t347 _ ?side1 ?side2 A10.out).mono ?_); (case side1 => exact Kd.C_below HR0.out (by repeat (first | (with_reducible first | exact HB.out | apply below_alloc | apply pw_below_drewN | apply below_drew1 | refine below_set ?_ GE346.out) | exact HB.out))); (case side2 => exact HC0.out); rintro e w33 ⟨v348, rfl, ho0, hb⟩; refine ⟨_, rfl, ?_⟩; have n0_ := Aside0.mk (Kd.R_elder' (by (with_reducible repeat (first | apply Kd.R_alloc | apply Kd.R_drewN | apply Kd.R_drew)); exact (Kd.R_mono (Kd.R_far (p := ⟨gb346, 2, none⟩) (Kd.R_far (p := ⟨gb346, 1, none⟩) (Kd.R_far (p := ⟨gb346, 0, none⟩) (Kd.R_types HO345.out BK346.out (by decide)) (fun _ hk => hk.2) (.int .i64 t340)) (fun _ hk => hk.2) (.int .i64 t341)) (fun _ hk => hk.2) (.string t342)) (fun _ h_ => h_.1))) (Kd.R_base ho0) hb); have n1_ := Aside0.mk (Kd.R_lower (Kd.R_new' ho0 (Kd.R_lt (by (with_reducible repeat (first | apply Kd.R_alloc | apply Kd.R_drewN | apply Kd.R_drew)); exact (Kd.R_mono (Kd.R_far (p := ⟨gb346, 2, none⟩) (Kd.R_far (p := ⟨gb346, 1, none⟩) (Kd.R_far (p := ⟨gb346, 0, none⟩) (Kd.R_types HO345.out BK346.out (by decide)) (fun _ hk => hk.2) (.int .i64 t340)) (fun _ hk => hk.2) (.int .i64 t341)) (fun _ hk => hk.2) (.string t342)) (fun _ h_ => h_.1))))) (below_size (by repeat (first | (with_reducible first | exact HB.out | apply below_alloc | apply pw_below_drewN | apply below_drew1 | refine below_set ?_ GE346.out) | exact HB.out)))); have n2_ := Aside0.mk (blk_below (g := gb346) (o := .cells #[.int .i64 t340, .int .i64 t341, .string t342] 27 (0, 0)) (by (with_reducible repeat (first | refine blk_drewN ?_ _ | refine blk_drew ?_ | refine blk_alloc ?_ _)); refine blk_put (cs := #[.int .i64 t340, .int .i64 t341, .string (⟨#[]⟩ : ByteArray)]) ?_ 2 _ rfl; (with_reducible repeat (first | refine blk_drewN ?_ _ | refine blk_drew ?_ | refine blk_alloc ?_ _)); refine blk_put (cs := #[.int .i64 t340, .int .i64 0, .string (⟨#[]⟩ : ByteArray)]) ?_ 1 _ rfl; (with_reducible repeat (first | refine blk_drewN ?_ _ | refine blk_drew ?_ | refine blk_alloc ?_ _)); refine blk_put (cs := #[.int .i64 0, .int .i64 0, .string (⟨#[]⟩ : ByteArray)]) ?_ 0 _ rfl; (with_reducible repeat (first | refine blk_drewN ?_ _ | refine blk_drew ?_ | refine blk_alloc ?_ _)); exact BK346.out) hb); have n3_ := Aside0.mk (below_step (by repeat (first | (with_reducible first | exact HB.out | apply below_alloc | apply pw_below_drewN | apply below_drew1 | refine below_set ?_ GE346.out) | exact HB.out)) hb); clear HO345; clear BK346; clear HB; have HO345 := n0_; have HO349 := n1_; have BK346 := n2_; have HB := n3_; clear n0_ n1_ n2_ n3_; (try clear hb); (try clear hb2); (try clear hk); (try clear hi); (try clear ho0); obtain ⟨Ao34, co34, eo34⟩ := Kd.R_slice HO349.out; subst eo34; have p350 : 0 ≤ (0 : Int) := (by omega); have q350 : 0 < (t347.length : Int) := of_decide_eq_true (by first | (with_reducible assumption) | assumption); obtain ⟨ad350, e350, hx350_0⟩ := Kd.at_int (Kd.R_reads' HO349.out).2.2 0 p350 q350; cases e350; have qi350 : (0 < t347.length) = True := eq_true (by omega); (try rw [show ((0 : Int)).toNat = 0 from rfl] at hx350_0); (try rw [Addr.add_zero'] at hx350_0); replace p350 := eq_true p350; replace q350 := eq_true q350; have p351 : 0 ≤ ((ji13) : Int) := of_decide_eq_true (by first | (with_reducible assumption) | assumption); have q351 : (ji13) < (t343.length : Int) := of_decide_eq_true (by first | (with_reducible assumption) | assumption); obtain ⟨ad351, e351, hx351_0⟩ := Kd.at_int (Kd.R_reads' HO345.out).2.2 (ji13) p351 q351; cases e351; replace p351 := eq_true p351; replace q351 := eq_true q351; have p352 : 0 ≤ (1 : Int) := (by omega); have q352 : 1 < (t347.length : Int) := of_decide_eq_true (by first | (with_reducible assumption) | assumption); obtain ⟨ad352, e352, hx352_0⟩ := Kd.at_int (Kd.R_reads' HO349.out).2.2 1 p352 q352; obtain rfl : ad350 = ad352 := (by injection e352); (try simp only [show (1 : Int).toNat = 1 from rfl, Nat.reduceMul, Nat.reduceEqDiff, Go.Addr.add, ↓reduceIte] at hx352_0); have qi352 : (1 < t347.length) = True := eq_true (by omega); (try rw [show ((1 : Int)).toNat = 1 from rfl] at hx352_0); replace p352 := eq_true p352; replace q352 := eq_true q352; have p353 : 0 ≤ ((ji17) : Int) := of_decide_eq_true (by first | (with_reducible assumption) | assumption); have q353 : (ji17) < (t343.length : Int) := of_decide_eq_true (by first | (with_reducible assumption) | assumption); obtain ⟨ad353, e353, hx353_0⟩ := Kd.at_int (Kd.R_reads' HO345.out).2.2 (ji17) p353 q353; obtain rfl : ad351 = ad353 := (by injection e353); replace p353 := eq_true p353; replace q353 := eq_true q353; have p354 : 0 ≤ (2 : Int) := (by omega); have q354 : 2 < (t347.length : Int) := of_decide_eq_true (by first | (with_reducible assumption) | assumption); obtain ⟨ad354, e354, hx354_0⟩ := Kd.at_int (Kd.R_reads' HO349.out).2.2 2 p354 q354; obtain rfl : ad350 = ad354 := (by injection e354); (try simp only [show (2 : Int).toNat = 2 from rfl, Nat.reduceMul, Nat.reduceEqDiff, Go.Addr.add, ↓reduceIte] at hx354_0); have qi354 : (2 < t347.length) = True := eq_true (by omega); (try rw [show ((2 : Int)).toNat = 2 from rfl] at hx354_0); replace p354 := eq_true p354; replace q354 := eq_true q354; have p355 : 0 ≤ ((ji21) : Int) := of_decide_eq_true (by first | (with_reducible assumption) | assumption); have q355 : (ji21) < (t343.length : Int) := of_decide_eq_true (by first | (with_reducible assumption) | assumption); obtain ⟨ad355, e355, hx355_0⟩ := Kd.at_int (Kd.R_reads' HO345.out).2.2 (ji21) p355 q355; obtain rfl : ad351 = ad355 := (by injection e355); replace p355 := eq_true p355; replace q355 := eq_true q355; have hcz35_0 : w33.cell? ⟨gb346, 0, none⟩ = some (.int .i64 t340) := (blk_cell BK346.out 0).trans rfl; have hcz35_1 : w33.cell? ⟨gb346, 1, none⟩ = some (.int .i64 t341) := (blk_cell BK346.out 1).trans rfl; have hcz35_2 : w33.cell? ⟨gb346, 2, none⟩ = some (.string t342) := (blk_cell BK346.out 2).trans rfl; have hfz35_0 := blk_frozen BK346.out 0; have hfz35_1 := blk_frozen BK346.out 1; have hfz35_2 := blk_frozen BK346.out 2) | ((with_reducible refine gate_callee (f := 23) rfl ?_); refine goesL_ (some 58) rfl rfl Try.func23 (by kernel_rfl) rfl #[.agg #[.int .i64 t340, .int .i64 t341, .string t342], .int .i64 (rd t343 (ji13)), .int .i64 (rd t343 (ji17))] rfl (by (try simp only [List.map_toArray, List.map_cons, List.map_nil]); first | done | (simp only [hji13, hji17]; rfl) | rfl | (simp only [List.length_drop, List.length_take]; rfl)) ?_; (with_reducible refine (impl_StepsTo.calls k t340 t341 t342 (rd t343 (ji13)) (rd t343 (ji17)) t356 _ A24.out).mono ?_); rintro e w36 ⟨rfl, hb⟩; refine ⟨_, rfl, ?_⟩; have n0_ := Aside0.mk (Kd.R_below (by (with_reducible repeat (first | apply Kd.R_alloc | apply Kd.R_drewN | apply Kd.R_drew)); exact HO345.out) hb); have n1_ := Aside0.mk (Kd.R_below (by (with_reducible repeat (first | apply Kd.R_alloc | apply Kd.R_drewN | apply Kd.R_drew)); exact HO349.out) hb); have n2_ := Aside0.mk (blk_below (g := gb346) (o := .cells #[.int .i64 t340, .int .i64 t341, .string t342] 27 (0, 0)) (by (with_reducible repeat (first | refine blk_drewN ?_ _ | refine blk_drew ?_ | refine blk_alloc ?_ _)); exact BK346.out) hb); have n3_ := Aside0.mk (below_step (by repeat (first | (with_reducible first | exact HB.out | apply below_alloc | apply pw_below_drewN | apply below_drew1 | refine below_set ?_ GE346.out) | exact HB.out)) hb); clear HO345; clear HO349; clear BK346; clear HB; have HO345 := n0_; have HO349 := n1_; have BK346 := n2_; have HB := n3_; clear n0_ n1_ n2_ n3_; (try clear hb); (try clear hb2); (try clear hk); (try clear hi); have hcz37_0 : w36.cell? ⟨gb346, 0, none⟩ = some (.int .i64 t340) := (blk_cell BK346.out 0).trans rfl; have hcz37_1 : w36.cell? ⟨gb346, 1, none⟩ = some (.int .i64 t341) := (blk_cell BK346.out 1).trans rfl; have hcz37_2 : w36.cell? ⟨gb346, 2, none⟩ = some (.string t342) := (blk_cell BK346.out 2).trans rfl; have hfz37_0 := blk_frozen BK346.out 0; have hfz37_1 := blk_frozen BK346.out 1; have hfz37_2 := blk_frozen BK346.out 2) | ((with_reducible refine gate_callee (f := 23) rfl ?_); refine goesL_ (some 62) rfl rfl Try.func23 (by kernel_rfl) rfl #[.agg #[.int .i64 t340, .int .i64 t341, .string t342], .int .i64 (rd t343 (ji13)), .int .i64 (rd t343 (ji21))] rfl (by (try simp only [List.map_toArray, List.map_cons, List.map_nil]); first | done | (simp only [hji13, hji21]; rfl) | rfl | (simp only [List.length_drop, List.length_take]; rfl)) ?_; (with_reducible refine (impl_StepsTo.calls k t340 t341 t342 (rd t343 (ji13)) (rd t343 (ji21)) t357 _ A25.out).mono ?_); rintro e w38 ⟨rfl, hb⟩; refine ⟨_, rfl, ?_⟩; have n0_ := Aside0.mk (Kd.R_below (by (with_reducible repeat (first | apply Kd.R_alloc | apply Kd.R_drewN | apply Kd.R_drew)); exact HO345.out) hb); have n1_ := Aside0.mk (Kd.R_below (by (with_reducible repeat (first | apply Kd.R_alloc | apply Kd.R_drewN | apply Kd.R_drew)); exact HO349.out) hb); have n2_ := Aside0.mk (blk_below (g := gb346) (o := .cells #[.int .i64 t340, .int .i64 t341, .string t342] 27 (0, 0)) (by (with_reducible repeat (first | refine blk_drewN ?_ _ | refine blk_drew ?_ | refine blk_alloc ?_ _)); exact BK346.out) hb); have n3_ := Aside0.mk (below_step (by repeat (first | (with_reducible first | exact HB.out | apply below_alloc | apply pw_below_drewN | apply below_drew1 | refine below_set ?_ GE346.out) | exact HB.out)) hb); clear HO345; clear HO349; clear BK346; clear HB; have HO345 := n0_; have HO349 := n1_; have BK346 := n2_; have HB := n3_; clear n0_ n1_ n2_ n3_; (try clear hb); (try clear hb2); (try clear hk); (try clear hi); have hcz39_0 : w38.cell? ⟨gb346, 0, none⟩ = some (.int .i64 t340) := (blk_cell BK346.out 0).trans rfl; have hcz39_1 : w38.cell? ⟨gb346, 1, none⟩ = some (.int .i64 t341) := (blk_cell BK346.out 1).trans rfl; have hcz39_2 : w38.cell? ⟨gb346, 2, none⟩ = some (.string t342) := (blk_cell BK346.out 2).trans rfl; have hfz39_0 := blk_frozen BK346.out 0; have hfz39_1 := blk_frozen BK346.out 1; have hfz39_2 := blk_frozen BK346.out 2) | ((with_reducible refine gate_callee (f := 23) rfl ?_); refine goesL_ (some 66) rfl rfl Try.func23 (by kernel_rfl) rfl #[.agg #[.int .i64 t340, .int .i64 t341, .string t342], .int .i64 (rd t343 (ji21)), .int .i64 (rd t343 (ji17))] rfl (by (try simp only [List.map_toArray, List.map_cons, List.map_nil]); first | done | (simp only [hji17, hji21]; rfl) | rfl | (simp only [List.length_drop, List.length_take]; rfl)) ?_; (with_reducible refine (impl_StepsTo.calls k t340 t341 t342 (rd t343 (ji21)) (rd t343 (ji17)) t358 _ A26.out).mono ?_); rintro e w40 ⟨rfl, hb⟩; refine ⟨_, rfl, ?_⟩; have n0_ := Aside0.mk (Kd.R_below (by (with_reducible repeat (first | apply Kd.R_alloc | apply Kd.R_drewN | apply Kd.R_drew)); exact HO345.out) hb); have n1_ := Aside0.mk (Kd.R_below (by (with_reducible repeat (first | apply Kd.R_alloc | apply Kd.R_drewN | apply Kd.R_drew)); exact HO349.out) hb); have n2_ := Aside0.mk (blk_below (g := gb346) (o := .cells #[.int .i64 t340, .int .i64 t341, .string t342] 27 (0, 0)) (by (with_reducible repeat (first | refine blk_drewN ?_ _ | refine blk_drew ?_ | refine blk_alloc ?_ _)); exact BK346.out) hb); have n3_ := Aside0.mk (below_step (by repeat (first | (with_reducible first | exact HB.out | apply below_alloc | apply pw_below_drewN | apply below_drew1 | refine below_set ?_ GE346.out) | exact HB.out)) hb); clear HO345; clear HO349; clear BK346; clear HB; have HO345 := n0_; have HO349 := n1_; have BK346 := n2_; have HB := n3_; clear n0_ n1_ n2_ n3_; (try clear hb); (try clear hb2); (try clear hk); (try clear hi); have hcz41_0 : w40.cell? ⟨gb346, 0, none⟩ = some (.int .i64 t340) := (blk_cell BK346.out 0).trans rfl; have hcz41_1 : w40.cell? ⟨gb346, 1, none⟩ = some (.int .i64 t341) := (blk_cell BK346.out 1).trans rfl; have hcz41_2 : w40.cell? ⟨gb346, 2, none⟩ = some (.string t342) := (blk_cell BK346.out 2).trans rfl; have hfz41_0 := blk_frozen BK346.out 0; have hfz41_1 := blk_frozen BK346.out 1; have hfz41_2 := blk_frozen BK346.out 2) | ((with_reducible refine gate_callee (f := 11) rfl ?_); refine goesL_ (some 70) rfl rfl Try.func11 (by kernel_rfl) rfl #[.agg #[.int .i64 t340, .int .i64 t341, .string t342], .int .i64 (rd t343 (ji13)), .int .i64 (rd t343 (ji17))] rfl (by (try simp only [List.map_toArray, List.map_cons, List.map_nil]); first | done | (simp only [hji13, hji17]; rfl) | rfl | (simp only [List.length_drop, List.length_take]; rfl)) ?_; (with_reducible refine (impl_WayTo.calls k t340 t341 t342 (rd t343 (ji13)) (rd t343 (ji17)) t359 _ A27.out).mono ?_); rintro e w42 ⟨v360, rfl, ho0, hb⟩; refine ⟨_, rfl, ?_⟩; have n0_ := Aside0.mk (Kd.R_elder' (by (with_reducible repeat (first | apply Kd.R_alloc | apply Kd.R_drewN | apply Kd.R_drew)); exact HO345.out) (Kd.R_base ho0) hb); have n1_ := Aside0.mk (Kd.R_elder' (by (with_reducible repeat (first | apply Kd.R_alloc | apply Kd.R_drewN | apply Kd.R_drew)); exact HO349.out) (Kd.R_base ho0) hb); have n2_ := Aside0.mk (Kd.R_lower (Kd.R_new' (Kd.R_new' ho0 (Kd.R_lt (by (with_reducible repeat (first | apply Kd.R_alloc | apply Kd.R_drewN | apply Kd.R_drew)); exact HO345.out))) (Kd.R_lt (by (with_reducible repeat (first | apply Kd.R_alloc | apply Kd.R_drewN | apply Kd.R_drew)); exact HO349.out))) (below_size (by repeat (first | (with_reducible first | exact HB.out | apply below_alloc | apply pw_below_drewN | apply below_drew1 | refine below_set ?_ GE346.out) | exact HB.out)))); have n3_ := Aside0.mk (blk_below (g := gb346) (o := .cells #[.int .i64 t340, .int .i64 t341, .string t342] 27 (0, 0)) (by (with_reducible repeat (first | refine blk_drewN ?_ _ | refine blk_drew ?_ | refine blk_alloc ?_ _)); exact BK346.out) hb); have n4_ := Aside0.mk (below_step (by repeat (first | (with_reducible first | exact HB.out | apply below_alloc | apply pw_below_drewN | apply below_drew1 | refine below_set ?_ GE346.out) | exact HB.out)) hb); clear HO345; clear HO349; clear BK346; clear HB; have HO345 := n0_; have HO349 := n1_; have HO361 := n2_; have BK346 := n3_; have HB := n4_; clear n0_ n1_ n2_ n3_ n4_; (try clear hb); (try clear hb2); (try clear hk); (try clear hi); (try clear ho0)))
             (try simp only [Act.put, List.setIfInBounds_toArray, List.set_cons_zero, List.set_cons_succ])
             go_cut [110] (fun v110 wc => ∃ (kq : Nat) (x110_27 : Bool), v110 = .bool x110_27 ∧ Aside0 (laws_FnSteps.j0 kq (rd t343 (ji13)) (rd t343 (ji17)) (rd t343 (ji21)) t356 t358 t359 x110_27 t340 t341 t342 = some r) ∧ Aside0 (kq ≤ k) ∧ Aside0 (Kd.R (Kd.int .i64) 3 wc w.heap.size (fun _ => True) v360 t359) ∧ Aside0 (wc.heap[gb346]? = some (.cells #[.int .i64 t340, .int .i64 t341, .string t342] 27 (0, 0))) ∧ Aside0 (Below w.heap.size w wc))
             case first =>
              have H := HC28.out
              clear HC28
              replace H := Option.bind_eq_some_iff.mp H
              obtain ⟨t362, A430, H⟩ := H
              replace H : (if t356 = t362 then (if t357 ≥ 0 then (if t358 ≥ 0 then (if t356 < 0 then (laws_FnSteps.j0 k (rd t343 (ji13)) (rd t343 (ji17)) (rd t343 (ji21)) t356 t358 t359 true t340 t341 t342) else (if t356 > (wrap64 (t357 + t358)) then (laws_FnSteps.j0 k (rd t343 (ji13)) (rd t343 (ji17)) (rd t343 (ji21)) t356 t358 t359 true t340 t341 t342) else (if (t359.length : Int) = (wrap64 (t356 + 1)) then (laws_FnSteps.j0 k (rd t343 (ji13)) (rd t343 (ji17)) (rd t343 (ji21)) t356 t358 t359 (((rd t343 (ji13)) == (rd t343 (ji17))) != (t356 == 0)) t340 t341 t342) else (laws_FnSteps.j0 k (rd t343 (ji13)) (rd t343 (ji17)) (rd t343 (ji21)) t356 t358 t359 true t340 t341 t342)))) else (if (t359.length : Int) = (wrap64 (t356 + 1)) then (laws_FnSteps.j0 k (rd t343 (ji13)) (rd t343 (ji17)) (rd t343 (ji21)) t356 t358 t359 (((rd t343 (ji13)) == (rd t343 (ji17))) != (t356 == 0)) t340 t341 t342) else (laws_FnSteps.j0 k (rd t343 (ji13)) (rd t343 (ji17)) (rd t343 (ji21)) t356 t358 t359 true t340 t341 t342))) else (if (t359.length : Int) = (wrap64 (t356 + 1)) then (laws_FnSteps.j0 k (rd t343 (ji13)) (rd t343 (ji17)) (rd t343 (ji21)) t356 t358 t359 (((rd t343 (ji13)) == (rd t343 (ji17))) != (t356 == 0)) t340 t341 t342) else (laws_FnSteps.j0 k (rd t343 (ji13)) (rd t343 (ji17)) (rd t343 (ji21)) t356 t358 t359 true t340 t341 t342))) else (laws_FnSteps.j0 k (rd t343 (ji13)) (rd t343 (ji17)) (rd t343 (ji21)) t356 t358 t359 true t340 t341 t342)) = some r := H
              have A43 := Aside0.mk A430
              clear A430
              by_cases c44 : t356 = t362
              ·rw [if_pos c44] at H
               have c44b0 : (t356 == t362) = true := beq_iff_eq.mpr c44
               have c44b1 : (t356 != t362) = false := bne_eq_false_iff_eq.mpr c44
               clear c44
               (first | rw [c44b0] | (simp only [i64_w, i32_w]; rw [c44b0]) | skip)
               by_cases c45 : t357 ≥ 0
               ·rw [if_pos c45] at H
                have c45b0 : decide (0 ≤ t357) = true := decide_eq_true c45
                clear c45
                by_cases c46 : t358 ≥ 0
                ·rw [if_pos c46] at H
                 have c46b0 : decide (0 ≤ t358) = true := decide_eq_true c46
                 clear c46
                 by_cases c47 : t356 < 0
                 ·rw [if_pos c47] at H
                  have c47b0 : decide (t356 < 0) = true := decide_eq_true c47
                  clear c47
                  exact absurd H (by cases k with | zero => simp [laws_FnSteps.j0] | succ k_ => rw [laws_FnSteps.j0, if_pos rfl, ht_.out]; simp)
                 ·rw [if_neg c47] at H
                  have c47b0 : decide (t356 < 0) = false := decide_eq_false c47
                  clear c47
                  by_cases c48 : t356 > (wrap64 (t357 + t358))
                  ·rw [if_pos c48] at H
                   have c48b0 : decide ((wrap64 (t357 + t358)) < t356) = true := decide_eq_true c48
                   clear c48
                   exact absurd H (by cases k with | zero => simp [laws_FnSteps.j0] | succ k_ => rw [laws_FnSteps.j0, if_pos rfl, ht_.out]; simp)
                  ·rw [if_neg c48] at H
                   have c48b0 : decide ((wrap64 (t357 + t358)) < t356) = false := decide_eq_false c48
                   clear c48
                   by_cases c49 : (t359.length : Int) = (wrap64 (t356 + 1))
                   ·rw [if_pos c49] at H
                    have c49b0 : ((t359.length : Int) == (wrap64 (t356 + 1))) = true := beq_iff_eq.mpr c49
                    have c49b1 : ((t359.length : Int) != (wrap64 (t356 + 1))) = false := bne_eq_false_iff_eq.mpr c49
                    clear c49
                    have H' := Aside0.mk H
                    clear H
                    have hcz50_0 : w42.cell? ⟨gb346, 0, none⟩ = some (.int .i64 t340) := (blk_cell BK346.out 0).trans rfl
                    have hcz50_1 : w42.cell? ⟨gb346, 1, none⟩ = some (.int .i64 t341) := (blk_cell BK346.out 1).trans rfl
                    have hcz50_2 : w42.cell? ⟨gb346, 2, none⟩ = some (.string t342) := (blk_cell BK346.out 2).trans rfl
                    have hfz50_0 := blk_frozen BK346.out 0
                    have hfz50_1 := blk_frozen BK346.out 1
                    have hfz50_2 := blk_frozen BK346.out 2
                    go_wp2_with (first | ((with_reducible refine gate_callee (f := 23) rfl ?_); refine goesL_ (some 75) rfl rfl Try.func23 (by kernel_rfl) rfl #[.agg #[.int .i64 t340, .int .i64 t341, .string t342], .int .i64 (rd t343 (ji17)), .int .i64 (rd t343 (ji13))] rfl (by (try simp only [List.map_toArray, List.map_cons, List.map_nil]); first | done | (simp only [hji13, hji17]; rfl) | rfl | (simp only [List.length_drop, List.length_take]; rfl)) ?_; (with_reducible refine (impl_StepsTo.calls k t340 t341 t342 (rd t343 (ji17)) (rd t343 (ji13)) t362 _ A43.out).mono ?_); rintro e w51 ⟨rfl, hb⟩; refine ⟨_, rfl, ?_⟩; have n0_ := Aside0.mk (Kd.R_below (by (with_reducible repeat (first | apply Kd.R_alloc | apply Kd.R_drewN | apply Kd.R_drew)); exact HO345.out) hb); have n1_ := Aside0.mk (Kd.R_below (by (with_reducible repeat (first | apply Kd.R_alloc | apply Kd.R_drewN | apply Kd.R_drew)); exact HO349.out) hb); have n2_ := Aside0.mk (Kd.R_below (by (with_reducible repeat (first | apply Kd.R_alloc | apply Kd.R_drewN | apply Kd.R_drew)); exact HO361.out) hb); have n3_ := Aside0.mk (blk_below (g := gb346) (o := .cells #[.int .i64 t340, .int .i64 t341, .string t342] 27 (0, 0)) (by (with_reducible repeat (first | refine blk_drewN ?_ _ | refine blk_drew ?_ | refine blk_alloc ?_ _)); exact BK346.out) hb); have n4_ := Aside0.mk (below_step (by repeat (first | (with_reducible first | exact HB.out | apply below_alloc | apply pw_below_drewN | apply below_drew1 | refine below_set ?_ GE346.out) | exact HB.out)) hb); clear HO345; clear HO349; clear HO361; clear BK346; clear HB; have HO345 := n0_; have HO349 := n1_; have HO361 := n2_; have BK346 := n3_; have HB := n4_; clear n0_ n1_ n2_ n3_ n4_; (try clear hb); (try clear hb2); (try clear hk); (try clear hi); obtain ⟨Ao52, co52, eo52⟩ := Kd.R_slice HO361.out; subst eo52))
                    go_meet
                    case rel => exact ⟨_, ((((rd t343 (ji13)) == (rd t343 (ji17))) != (t356 == 0))), (by first | rfl | (simp; done) | (simp only [← hji13, ← hji17] <;> (first | rfl | simp)) | (simp [*]; done)), H', ⟨by first | omega | exact Nat.le_refl _⟩, ⟨by (with_reducible repeat (first | apply Kd.R_alloc | apply Kd.R_drewN | apply Kd.R_drew)); exact Kd.R_mono HO361.out (fun _ hk => trivial)⟩, ⟨by (with_reducible repeat (first | refine blk_drewN ?_ _ | refine blk_drew ?_ | refine blk_alloc ?_ _)); exact BK346.out⟩, ⟨by repeat (first | (with_reducible first | exact HB.out | apply below_alloc | apply pw_below_drewN | apply below_drew1 | refine below_set ?_ GE346.out) | exact HB.out)⟩⟩
                   ·rw [if_neg c49] at H
                    have c49b0 : ((t359.length : Int) == (wrap64 (t356 + 1))) = false := beq_eq_false_iff_ne.mpr c49
                    have c49b1 : ((t359.length : Int) != (wrap64 (t356 + 1))) = true := bne_iff_ne.mpr c49
                    exact absurd H (by cases k with | zero => simp [laws_FnSteps.j0] | succ k_ => rw [laws_FnSteps.j0, if_pos rfl, ht_.out]; simp)
                ·rw [if_neg c46] at H
                 have c46b0 : decide (0 ≤ t358) = false := decide_eq_false c46
                 clear c46
                 by_cases c53 : (t359.length : Int) = (wrap64 (t356 + 1))
                 ·rw [if_pos c53] at H
                  have c53b0 : ((t359.length : Int) == (wrap64 (t356 + 1))) = true := beq_iff_eq.mpr c53
                  have c53b1 : ((t359.length : Int) != (wrap64 (t356 + 1))) = false := bne_eq_false_iff_eq.mpr c53
                  clear c53
                  have H' := Aside0.mk H
                  clear H
                  have hcz54_0 : w42.cell? ⟨gb346, 0, none⟩ = some (.int .i64 t340) := (blk_cell BK346.out 0).trans rfl
                  have hcz54_1 : w42.cell? ⟨gb346, 1, none⟩ = some (.int .i64 t341) := (blk_cell BK346.out 1).trans rfl
                  have hcz54_2 : w42.cell? ⟨gb346, 2, none⟩ = some (.string t342) := (blk_cell BK346.out 2).trans rfl
                  have hfz54_0 := blk_frozen BK346.out 0
                  have hfz54_1 := blk_frozen BK346.out 1
                  have hfz54_2 := blk_frozen BK346.out 2
                  go_wp2_with (first | ((with_reducible refine gate_callee (f := 23) rfl ?_); refine goesL_ (some 75) rfl rfl Try.func23 (by kernel_rfl) rfl #[.agg #[.int .i64 t340, .int .i64 t341, .string t342], .int .i64 (rd t343 (ji17)), .int .i64 (rd t343 (ji13))] rfl (by (try simp only [List.map_toArray, List.map_cons, List.map_nil]); first | done | (simp only [hji13, hji17]; rfl) | rfl | (simp only [List.length_drop, List.length_take]; rfl)) ?_; (with_reducible refine (impl_StepsTo.calls k t340 t341 t342 (rd t343 (ji17)) (rd t343 (ji13)) t362 _ A43.out).mono ?_); rintro e w55 ⟨rfl, hb⟩; refine ⟨_, rfl, ?_⟩; have n0_ := Aside0.mk (Kd.R_below (by (with_reducible repeat (first | apply Kd.R_alloc | apply Kd.R_drewN | apply Kd.R_drew)); exact HO345.out) hb); have n1_ := Aside0.mk (Kd.R_below (by (with_reducible repeat (first | apply Kd.R_alloc | apply Kd.R_drewN | apply Kd.R_drew)); exact HO349.out) hb); have n2_ := Aside0.mk (Kd.R_below (by (with_reducible repeat (first | apply Kd.R_alloc | apply Kd.R_drewN | apply Kd.R_drew)); exact HO361.out) hb); have n3_ := Aside0.mk (blk_below (g := gb346) (o := .cells #[.int .i64 t340, .int .i64 t341, .string t342] 27 (0, 0)) (by (with_reducible repeat (first | refine blk_drewN ?_ _ | refine blk_drew ?_ | refine blk_alloc ?_ _)); exact BK346.out) hb); have n4_ := Aside0.mk (below_step (by repeat (first | (with_reducible first | exact HB.out | apply below_alloc | apply pw_below_drewN | apply below_drew1 | refine below_set ?_ GE346.out) | exact HB.out)) hb); clear HO345; clear HO349; clear HO361; clear BK346; clear HB; have HO345 := n0_; have HO349 := n1_; have HO361 := n2_; have BK346 := n3_; have HB := n4_; clear n0_ n1_ n2_ n3_ n4_; (try clear hb); (try clear hb2); (try clear hk); (try clear hi); obtain ⟨Ao56, co56, eo56⟩ := Kd.R_slice HO361.out; subst eo56))
                  go_meet
                  case rel => exact ⟨_, ((((rd t343 (ji13)) == (rd t343 (ji17))) != (t356 == 0))), (by first | rfl | (simp; done) | (simp only [← hji13, ← hji17] <;> (first | rfl | simp)) | (simp [*]; done)), H', ⟨by first | omega | exact Nat.le_refl _⟩, ⟨by (with_reducible repeat (first | apply Kd.R_alloc | apply Kd.R_drewN | apply Kd.R_drew)); exact Kd.R_mono HO361.out (fun _ hk => trivial)⟩, ⟨by (with_reducible repeat (first | refine blk_drewN ?_ _ | refine blk_drew ?_ | refine blk_alloc ?_ _)); exact BK346.out⟩, ⟨by repeat (first | (with_reducible first | exact HB.out | apply below_alloc | apply pw_below_drewN | apply below_drew1 | refine below_set ?_ GE346.out) | exact HB.out)⟩⟩
                 ·rw [if_neg c53] at H
                  have c53b0 : ((t359.length : Int) == (wrap64 (t356 + 1))) = false := beq_eq_false_iff_ne.mpr c53
                  have c53b1 : ((t359.length : Int) != (wrap64 (t356 + 1))) = true := bne_iff_ne.mpr c53
                  exact absurd H (by cases k with | zero => simp [laws_FnSteps.j0] | succ k_ => rw [laws_FnSteps.j0, if_pos rfl, ht_.out]; simp)
               ·rw [if_neg c45] at H
                have c45b0 : decide (0 ≤ t357) = false := decide_eq_false c45
                clear c45
                by_cases c57 : (t359.length : Int) = (wrap64 (t356 + 1))
                ·rw [if_pos c57] at H
                 have c57b0 : ((t359.length : Int) == (wrap64 (t356 + 1))) = true := beq_iff_eq.mpr c57
                 have c57b1 : ((t359.length : Int) != (wrap64 (t356 + 1))) = false := bne_eq_false_iff_eq.mpr c57
                 clear c57
                 have H' := Aside0.mk H
                 clear H
                 have hcz58_0 : w42.cell? ⟨gb346, 0, none⟩ = some (.int .i64 t340) := (blk_cell BK346.out 0).trans rfl
                 have hcz58_1 : w42.cell? ⟨gb346, 1, none⟩ = some (.int .i64 t341) := (blk_cell BK346.out 1).trans rfl
                 have hcz58_2 : w42.cell? ⟨gb346, 2, none⟩ = some (.string t342) := (blk_cell BK346.out 2).trans rfl
                 have hfz58_0 := blk_frozen BK346.out 0
                 have hfz58_1 := blk_frozen BK346.out 1
                 have hfz58_2 := blk_frozen BK346.out 2
                 go_wp2_with (first | ((with_reducible refine gate_callee (f := 23) rfl ?_); refine goesL_ (some 75) rfl rfl Try.func23 (by kernel_rfl) rfl #[.agg #[.int .i64 t340, .int .i64 t341, .string t342], .int .i64 (rd t343 (ji17)), .int .i64 (rd t343 (ji13))] rfl (by (try simp only [List.map_toArray, List.map_cons, List.map_nil]); first | done | (simp only [hji13, hji17]; rfl) | rfl | (simp only [List.length_drop, List.length_take]; rfl)) ?_; (with_reducible refine (impl_StepsTo.calls k t340 t341 t342 (rd t343 (ji17)) (rd t343 (ji13)) t362 _ A43.out).mono ?_); rintro e w59 ⟨rfl, hb⟩; refine ⟨_, rfl, ?_⟩; have n0_ := Aside0.mk (Kd.R_below (by (with_reducible repeat (first | apply Kd.R_alloc | apply Kd.R_drewN | apply Kd.R_drew)); exact HO345.out) hb); have n1_ := Aside0.mk (Kd.R_below (by (with_reducible repeat (first | apply Kd.R_alloc | apply Kd.R_drewN | apply Kd.R_drew)); exact HO349.out) hb); have n2_ := Aside0.mk (Kd.R_below (by (with_reducible repeat (first | apply Kd.R_alloc | apply Kd.R_drewN | apply Kd.R_drew)); exact HO361.out) hb); have n3_ := Aside0.mk (blk_below (g := gb346) (o := .cells #[.int .i64 t340, .int .i64 t341, .string t342] 27 (0, 0)) (by (with_reducible repeat (first | refine blk_drewN ?_ _ | refine blk_drew ?_ | refine blk_alloc ?_ _)); exact BK346.out) hb); have n4_ := Aside0.mk (below_step (by repeat (first | (with_reducible first | exact HB.out | apply below_alloc | apply pw_below_drewN | apply below_drew1 | refine below_set ?_ GE346.out) | exact HB.out)) hb); clear HO345; clear HO349; clear HO361; clear BK346; clear HB; have HO345 := n0_; have HO349 := n1_; have HO361 := n2_; have BK346 := n3_; have HB := n4_; clear n0_ n1_ n2_ n3_ n4_; (try clear hb); (try clear hb2); (try clear hk); (try clear hi); obtain ⟨Ao60, co60, eo60⟩ := Kd.R_slice HO361.out; subst eo60))
                 go_meet
                 case rel => exact ⟨_, ((((rd t343 (ji13)) == (rd t343 (ji17))) != (t356 == 0))), (by first | rfl | (simp; done) | (simp only [← hji13, ← hji17] <;> (first | rfl | simp)) | (simp [*]; done)), H', ⟨by first | omega | exact Nat.le_refl _⟩, ⟨by (with_reducible repeat (first | apply Kd.R_alloc | apply Kd.R_drewN | apply Kd.R_drew)); exact Kd.R_mono HO361.out (fun _ hk => trivial)⟩, ⟨by (with_reducible repeat (first | refine blk_drewN ?_ _ | refine blk_drew ?_ | refine blk_alloc ?_ _)); exact BK346.out⟩, ⟨by repeat (first | (with_reducible first | exact HB.out | apply below_alloc | apply pw_below_drewN | apply below_drew1 | refine below_set ?_ GE346.out) | exact HB.out)⟩⟩
                ·rw [if_neg c57] at H
                 have c57b0 : ((t359.length : Int) == (wrap64 (t356 + 1))) = false := beq_eq_false_iff_ne.mpr c57
                 have c57b1 : ((t359.length : Int) != (wrap64 (t356 + 1))) = true := bne_iff_ne.mpr c57
                 exact absurd H (by cases k with | zero => simp [laws_FnSteps.j0] | succ k_ => rw [laws_FnSteps.j0, if_pos rfl, ht_.out]; simp)
              ·rw [if_neg c44] at H
               have c44b0 : (t356 == t362) = false := beq_eq_false_iff_ne.mpr c44
               have c44b1 : (t356 != t362) = true := bne_iff_ne.mpr c44
               (first | rw [c44b0] | (simp only [i64_w, i32_w]; rw [c44b0]) | skip)
               exact absurd H (by cases k with | zero => simp [laws_FnSteps.j0] | succ k_ => rw [laws_FnSteps.j0, if_pos rfl, ht_.out]; simp)
             case rest =>
              clear HC28
              try clear c1
              try clear c2
              try clear p2
              try clear c3
              try clear p3
              try clear q3
              try clear hx3
              try clear qi3
              try clear c4
              try clear c5
              try clear c5b0
              try clear c5b1
              try clear c6
              try clear p6
              try clear c11
              try clear c11b0
              try clear c11b1
              try clear c12
              try clear c12b0
              try clear c12b1
              try clear c12b2
              try clear c14
              try clear c14b0
              try clear c15
              try clear c15b0
              try clear c16
              try clear c16b0
              try clear c16b1
              try clear c18
              try clear c18b0
              try clear c19
              try clear c19b0
              try clear c20
              try clear c20b0
              try clear c20b1
              try clear c21
              try clear c22
              try clear c22b0
              try clear c23
              try clear c23b0
              try clear p35
              try clear q35
              try clear hx35
              try clear qi35
              try clear c44
              try clear c44b0
              try clear c44b1
              try clear c45
              try clear c45b0
              try clear c46
              try clear c46b0
              try clear c47
              try clear c47b0
              try clear c48
              try clear c48b0
              try clear c49
              try clear c49b0
              try clear c49b1
              try clear c53
              try clear c53b0
              try clear c53b1
              try clear c57
              try clear c57b0
              try clear c57b1
              try clear hcz31_0
              try clear hcz31_1
              try clear hcz31_2
              try clear hcz35_0
              try clear hcz35_1
              try clear hcz35_2
              try clear hcz37_0
              try clear hcz37_1
              try clear hcz37_2
              try clear hcz39_0
              try clear hcz39_1
              try clear hcz39_2
              try clear hcz41_0
              try clear hcz41_1
              try clear hcz41_2
              try clear hcz50_0
              try clear hcz50_1
              try clear hcz50_2
              try clear hcz54_0
              try clear hcz54_1
              try clear hcz54_2
              try clear hcz58_0
              try clear hcz58_1
              try clear hcz58_2
              try clear hcz8_0
              try clear hcz8_1
              try clear hcz8_2
              try clear hfz31_0
              try clear hfz31_1
              try clear hfz31_2
              try clear hfz35_0
              try clear hfz35_1
              try clear hfz35_2
              try clear hfz37_0
              try clear hfz37_1
              try clear hfz37_2
              try clear hfz39_0
              try clear hfz39_1
              try clear hfz39_2
              try clear hfz41_0
              try clear hfz41_1
              try clear hfz41_2
              try clear hfz50_0
              try clear hfz50_1
              try clear hfz50_2
              try clear hfz54_0
              try clear hfz54_1
              try clear hfz54_2
              try clear hfz58_0
              try clear hfz58_1
              try clear hfz58_2
              try clear hfz8_0
              try clear hfz8_1
              try clear hfz8_2
              try clear hx350_0
              try clear hx351_0
              try clear hx352_0
              try clear hx353_0
              try clear hx354_0
              try clear hx355_0
              try clear p350
              try clear p351
              try clear p352
              try clear p353
              try clear p354
              try clear p355
              try clear q350
              try clear q351
              try clear q352
              try clear q353
              try clear q354
              try clear q355
              obtain ⟨kq, x110_27, rfl, HA, HJ27, HO_12, BK346, HB⟩ := hcut
              cases kq with
              | zero => exact absurd HA.out (by simp [laws_FnSteps.j0])
              | succ kj27 =>
               have H := HA.out
               clear HA
               simp only [laws_FnSteps.j0] at H
               by_cases c61 : x110_27 = true
               ·subst c61
                have H1 : (some false) = some r := by rw [if_pos rfl] at H; exact H
                clear H
                have H := H1
                clear H1
                exact absurd (Option.some.inj H) (by rw [ht_.out]; simp)
               ·replace c61 := Bool.eq_false_iff.mpr c61
                subst c61
                have H1 : (laws_FnSteps.l0 kj27 (rd t343 (ji13)) (rd t343 (ji17)) (rd t343 (ji21)) t356 t358 t359 0 t340 t341 t342) = some r := by rw [if_neg (show ¬ (false = true) by decide)] at H; exact H
                clear H
                have H := H1
                clear H1
                have H' := Aside0.mk H
                clear H
                go_wp2
                go_loopg [13] kj27 (fun kq v13 w' => ∃ (x13_2 : Int), v13 = .int .i64 x13_2 ∧ Aside0 (laws_FnSteps.l0 kq (rd t343 (ji13)) (rd t343 (ji17)) (rd t343 (ji21)) t356 t358 t359 x13_2 t340 t341 t342 = some r) ∧ Aside0 (kq ≤ kj27) ∧ Aside0 (Kd.R (Kd.int .i64) 3 w' w.heap.size (fun _ => True) v360 t359) ∧ Aside0 (w'.heap[gb346]? = some (.cells #[.int .i64 t340, .int .i64 t341, .string t342] 27 (0, 0))) ∧ Aside0 (Below w.heap.size w w'))
                case atStart => exact ⟨(0), (by first | rfl | (simp; done) | (simp [*]; done)), H', ⟨Nat.le_refl _⟩, ⟨by (with_reducible repeat (first | apply Kd.R_alloc | apply Kd.R_drewN | apply Kd.R_drew)); exact HO_12.out⟩, ⟨by (with_reducible repeat (first | refine blk_drewN ?_ _ | refine blk_drew ?_ | refine blk_alloc ?_ _)); exact BK346.out⟩, ⟨by repeat (first | (with_reducible first | exact HB.out | apply below_alloc | apply pw_below_drewN | apply below_drew1 | refine below_set ?_ GE346.out) | exact HB.out)⟩⟩
                case round =>
                 clear H'
                 try clear c1
                 try clear c2
                 try clear p2
                 try clear c3
                 try clear p3
                 try clear q3
                 try clear hx3
                 try clear qi3
                 try clear c4
                 try clear c5
                 try clear c5b0
                 try clear c5b1
                 try clear c6
                 try clear p6
                 try clear c11
                 try clear c11b0
                 try clear c11b1
                 try clear c12
                 try clear c12b0
                 try clear c12b1
                 try clear c12b2
                 try clear c14
                 try clear c14b0
                 try clear c15
                 try clear c15b0
                 try clear c16
                 try clear c16b0
                 try clear c16b1
                 try clear c18
                 try clear c18b0
                 try clear c19
                 try clear c19b0
                 try clear c20
                 try clear c20b0
                 try clear c20b1
                 try clear c21
                 try clear c22
                 try clear c22b0
                 try clear c23
                 try clear c23b0
                 try clear p35
                 try clear q35
                 try clear hx35
                 try clear qi35
                 try clear c44
                 try clear c44b0
                 try clear c44b1
                 try clear c45
                 try clear c45b0
                 try clear c46
                 try clear c46b0
                 try clear c47
                 try clear c47b0
                 try clear c48
                 try clear c48b0
                 try clear c49
                 try clear c49b0
                 try clear c49b1
                 try clear c53
                 try clear c53b0
                 try clear c53b1
                 try clear c57
                 try clear c57b0
                 try clear c57b1
                 try clear c61
                 try clear hcz31_0
                 try clear hcz31_1
                 try clear hcz31_2
                 try clear hcz35_0
                 try clear hcz35_1
                 try clear hcz35_2
                 try clear hcz37_0
                 try clear hcz37_1
                 try clear hcz37_2
                 try clear hcz39_0
                 try clear hcz39_1
                 try clear hcz39_2
                 try clear hcz41_0
                 try clear hcz41_1
                 try clear hcz41_2
                 try clear hcz50_0
                 try clear hcz50_1
                 try clear hcz50_2
                 try clear hcz54_0
                 try clear hcz54_1
                 try clear hcz54_2
                 try clear hcz58_0
                 try clear hcz58_1
                 try clear hcz58_2
                 try clear hcz8_0
                 try clear hcz8_1
                 try clear hcz8_2
                 try clear hfz31_0
                 try clear hfz31_1
                 try clear hfz31_2
                 try clear hfz35_0
                 try clear hfz35_1
                 try clear hfz35_2
                 try clear hfz37_0
                 try clear hfz37_1
                 try clear hfz37_2
                 try clear hfz39_0
                 try clear hfz39_1
                 try clear hfz39_2
                 try clear hfz41_0
                 try clear hfz41_1
                 try clear hfz41_2
                 try clear hfz50_0
                 try clear hfz50_1
                 try clear hfz50_2
                 try clear hfz54_0
                 try clear hfz54_1
                 try clear hfz54_2
                 try clear hfz58_0
                 try clear hfz58_1
                 try clear hfz58_2
                 try clear hfz8_0
                 try clear hfz8_1
                 try clear hfz8_2
                 try clear hx350_0
                 try clear hx351_0
                 try clear hx352_0
                 try clear hx353_0
                 try clear hx354_0
                 try clear hx355_0
                 try clear p2
                 try clear p3
                 try clear p35
                 try clear p350
                 try clear p351
                 try clear p352
                 try clear p353
                 try clear p354
                 try clear p355
                 try clear p6
                 try clear q3
                 try clear q35
                 try clear q350
                 try clear q351
                 try clear q352
                 try clear q353
                 try clear q354
                 try clear q355
                 obtain ⟨x13_2, rfl, HA, HK2, HO_12, BK346, HB⟩ := hrel
                 cases gk with
                 | zero => exact absurd HA.out (by simp [laws_FnSteps.l0])
                 | succ k2 =>
                  have H := HA.out
                  clear HA
                  simp only [laws_FnSteps.l0] at H
                  by_cases c62 : x13_2 < (t359.length : Int)
                  ·rw [if_pos c62] at H
                   have c62b0 : decide (x13_2 < (t359.length : Int)) = true := decide_eq_true c62
                   clear c62
                   by_cases c63 : x13_2 = 0
                   ·rw [if_pos c63] at H
                    have c63b0 : (x13_2 == 0) = true := beq_iff_eq.mpr c63
                    have c63b1 : (x13_2 != 0) = false := bne_eq_false_iff_eq.mpr c63
                    clear c63
                    by_cases c64 : 0 ≤ x13_2
                    ·rw [if_pos c64] at H
                     have c64b0 : decide (0 ≤ x13_2) = true := decide_eq_true c64
                     clear c64
                     by_cases c65 : (rd t359 x13_2) = (rd t343 (ji13))
                     ·rw [if_pos c65] at H
                      have c65b0 : ((rd t359 x13_2) == (rd t343 (ji13))) = true := beq_iff_eq.mpr c65
                      have c65b1 : ((rd t359 x13_2) != (rd t343 (ji13))) = false := bne_eq_false_iff_eq.mpr c65
                      clear c65
                      by_cases c66 : x13_2 = t356
                      ·rw [if_pos c66] at H
                       have c66b0 : (x13_2 == t356) = true := beq_iff_eq.mpr c66
                       have c66b1 : (x13_2 != t356) = false := bne_eq_false_iff_eq.mpr c66
                       clear c66
                       by_cases c67 : (rd t359 x13_2) = (rd t343 (ji17))
                       ·rw [if_pos c67] at H
                        have c67b0 : ((rd t359 x13_2) == (rd t343 (ji17))) = true := beq_iff_eq.mpr c67
                        have c67b1 : ((rd t359 x13_2) != (rd t343 (ji17))) = false := bne_eq_false_iff_eq.mpr c67
                        clear c67
                        by_cases c68 : x13_2 > 0
                        ·rw [if_pos c68] at H
                         exact absurd (eq_of_beq c63b0) (Int.ne_of_gt c68)
                        ·rw [if_neg c68] at H
                         have c68b0 : decide (0 < x13_2) = false := decide_eq_false c68
                         clear c68
                         have H' := Aside0.mk H
                         clear H
                         obtain ⟨Ao69, co69, eo69⟩ := Kd.R_slice HO_12.out
                         subst eo69
                         try go_wp2
                         have n0_ := Aside0.mk (Kd.R_drew HO_12.out)
                         have n1_ := Aside0.mk (blk_drew BK346.out)
                         have n2_ := Aside0.mk (below_drew1 HB.out)
                         clear HO_12
                         clear BK346
                         clear HB
                         have HO_12 := n0_
                         have BK346 := n1_
                         have HB := n2_
                         clear n0_ n1_ n2_
                         have p363 : 0 ≤ (x13_2 : Int) := of_decide_eq_true (by first | (with_reducible assumption) | assumption)
                         have q363 : x13_2 < (t359.length : Int) := of_decide_eq_true (by first | (with_reducible assumption) | assumption)
                         obtain ⟨ad363, e363, hx363_0⟩ := Kd.at_int (Kd.R_reads' HO_12.out).2.2 x13_2 p363 q363
                         cases e363
                         replace p363 := eq_true p363
                         replace q363 := eq_true q363
                         have p364 : 0 ≤ (x13_2 : Int) := of_decide_eq_true (by first | (with_reducible assumption) | assumption)
                         have q364 : x13_2 < (t359.length : Int) := of_decide_eq_true (by first | (with_reducible assumption) | assumption)
                         obtain ⟨ad364, e364, hx364_0⟩ := Kd.at_int (Kd.R_reads' HO_12.out).2.2 x13_2 p364 q364
                         obtain rfl : ad363 = ad364 := (by injection e364)
                         replace p364 := eq_true p364
                         replace q364 := eq_true q364
                         refine start_ (n := 41) (S := fun w' => w'.cell? (ad363.add (x13_2).toNat) = some (.int .i64 (rd t359 x13_2)) ∧ w'.cell? (ad363.add (x13_2).toNat) = some (.int .i64 (rd t359 x13_2))) (ds := []) fl9_0_ (by kernel_rfl) rfl rfl ⟨hx363_0, hx364_0⟩ (fun hHeld => ?_); refine with_tabW laws_FnSteps.tab19 laws_FnSteps.bits19 (fun HT_ HW_ => ?_)
                         generalize wr.drew = w70 at HO_12 BK346 HB hx363_0 hx364_0 hHeld ⊢
                         refine pure_ (i := 0) (N := some 117) (v := ?_) (a' := ?_) fl9_1_ rfl rfl (any_of HT_.out (by kernel_rfl)) (fun _ _ _ h => h) (Or.inl ⟨by rfl, ?_⟩) ?_ ?_
                         rotate_left
                         ·intro w'
                          go_simp
                          with_reducible rfl
                         rotate_left
                         ·simp only [Act.put, List.setIfInBounds_toArray, List.set_cons_zero, List.set_cons_succ, i64_w, i32_w]
                          rfl
                         refine pure_ (i := 1) (N := some 118) (v := ?_) (a' := ?_) fl9_2_ rfl rfl (any_of HT_.out (by kernel_rfl)) (fun _ _ _ h => h) (Or.inl ⟨by rfl, ?_⟩) ?_ ?_
                         rotate_left
                         ·intro w'
                          go_simp
                          with_reducible rfl
                         rotate_left
                         ·simp only [Act.put, List.setIfInBounds_toArray, List.set_cons_zero, List.set_cons_succ, i64_w, i32_w]
                          rfl
                         refine pure_ (i := 2) (N := some 119) (v := ?_) (a' := ?_) fl9_3_ rfl rfl (any_of HT_.out (by kernel_rfl)) (fun _ _ _ h => h) (Or.inl ⟨by rfl, ?_⟩) ?_ ?_
                         rotate_left
                         ·intro w'
                          go_simp
                          with_reducible rfl
                         rotate_left
                         ·simp only [Act.put, List.setIfInBounds_toArray, List.set_cons_zero, List.set_cons_succ, i64_w, i32_w]
                          rfl
                         refine pure_ (i := 3) (N := some 120) (v := ?_) (a' := ?_) fl9_4_ rfl rfl (any_of HT_.out (by kernel_rfl)) (fun _ _ _ h => h) (Or.inl ⟨by rfl, ?_⟩) ?_ ?_
                         rotate_left
                         ·intro w'
                          go_simp
                          with_reducible rfl
                         rotate_left
                         ·simp only [Act.put, List.setIfInBounds_toArray, List.set_cons_zero, List.set_cons_succ, i64_w, i32_w]
                          rfl
                         refine pure_ (i := 4) (N := some 121) (v := ?_) (a' := ?_) fl9_5_ rfl rfl (any_of HT_.out (by kernel_rfl)) (fun _ _ _ h => h) (Or.inl ⟨by rfl, ?_⟩) ?_ ?_
                         rotate_left
                         ·intro w'
                          go_simp
                          with_reducible rfl
                         rotate_left
                         ·simp only [Act.put, List.setIfInBounds_toArray, List.set_cons_zero, List.set_cons_succ, i64_w, i32_w]
                          rfl
                         refine pure_ (i := 5) (N := some 122) (v := ?_) (a' := ?_) fl9_6_ rfl rfl (any_of HT_.out (by kernel_rfl)) (fun _ _ _ h => h) (Or.inl ⟨by rfl, ?_⟩) ?_ ?_
                         rotate_left
                         ·intro w'
                          go_simp
                          with_reducible rfl
                         rotate_left
                         ·simp only [Act.put, List.setIfInBounds_toArray, List.set_cons_zero, List.set_cons_succ, i64_w, i32_w]
                          rfl
                         refine pure_ (i := 7) (N := some 124) (v := ?_) (a' := ?_) fl9_7_ rfl rfl (any_of HT_.out (by kernel_rfl)) (fun _ _ _ h => h) (Or.inl ⟨by rfl, ?_⟩) ?_ ?_
                         rotate_left
                         ·intro w'
                          go_simp
                          with_reducible rfl
                         rotate_left
                         ·simp only [Act.put, List.setIfInBounds_toArray, List.set_cons_zero, List.set_cons_succ, i64_w, i32_w]
                          rfl
                         refine take_ (i := 6) (N := some 123) (v := ?_) (a' := ?_) fl9_8_ rfl rfl (take_ofW HT_.out HW_.out (by kernel_rfl)) (fun _ _ _ h => h) (Or.inl ⟨by rfl, ?_⟩) hHeld ?_ ?_
                         rotate_left
                         ·rintro w' ⟨s0, s1⟩
                          go_simp
                          with_reducible rfl
                         rotate_left
                         ·simp only [Act.put, List.setIfInBounds_toArray, List.set_cons_zero, List.set_cons_succ, i64_w, i32_w]
                          rfl
                         refine pure_ (i := 8) (N := some 125) (v := ?_) (a' := ?_) fl9_9_ rfl rfl (any_of HT_.out (by kernel_rfl)) (fun _ _ _ h => h) (Or.inl ⟨by rfl, ?_⟩) ?_ ?_
                         rotate_left
                         ·intro w'
                          go_simp
                          with_reducible rfl
                         rotate_left
                         ·simp only [Act.put, List.setIfInBounds_toArray, List.set_cons_zero, List.set_cons_succ, i64_w, i32_w]
                          rfl
                         refine pure_ (i := 9) (N := some 126) (v := ?_) (a' := ?_) fl9_10_ rfl rfl (any_of HT_.out (by kernel_rfl)) (fun _ _ _ h => h) (Or.inl ⟨by rfl, ?_⟩) ?_ ?_
                         rotate_left
                         ·intro w'
                          go_simp
                          with_reducible rfl
                         rotate_left
                         ·simp only [Act.put, List.setIfInBounds_toArray, List.set_cons_zero, List.set_cons_succ, i64_w, i32_w]
                          rfl
                         refine pure_ (i := 10) (N := some 127) (v := ?_) (a' := ?_) fl9_11_ rfl rfl (any_of HT_.out (by kernel_rfl)) (fun _ _ _ h => h) (Or.inl ⟨by rfl, ?_⟩) ?_ ?_
                         rotate_left
                         ·intro w'
                          go_simp
                          with_reducible rfl
                         rotate_left
                         ·simp only [Act.put, List.setIfInBounds_toArray, List.set_cons_zero, List.set_cons_succ, i64_w, i32_w]
                          rfl
                         refine pure_ (i := 11) (N := some 128) (v := ?_) (a' := ?_) fl9_12_ rfl rfl (any_of HT_.out (by kernel_rfl)) (fun _ _ _ h => h) (Or.inl ⟨by rfl, ?_⟩) ?_ ?_
                         rotate_left
                         ·intro w'
                          go_simp
                          with_reducible rfl
                         rotate_left
                         ·simp only [Act.put, List.setIfInBounds_toArray, List.set_cons_zero, List.set_cons_succ, i64_w, i32_w]
                          rfl
                         refine pure_ (i := 12) (N := some 129) (v := ?_) (a' := ?_) fl9_13_ rfl rfl (any_of HT_.out (by kernel_rfl)) (fun _ _ _ h => h) (Or.inl ⟨by rfl, ?_⟩) ?_ ?_
                         rotate_left
                         ·intro w'
                          go_simp
                          with_reducible rfl
                         rotate_left
                         ·simp only [Act.put, List.setIfInBounds_toArray, List.set_cons_zero, List.set_cons_succ, i64_w, i32_w]
                          rfl
                         refine pure_ (i := 13) (N := some 130) (v := ?_) (a' := ?_) fl9_14_ rfl rfl (any_of HT_.out (by kernel_rfl)) (fun _ _ _ h => h) (Or.inl ⟨by rfl, ?_⟩) ?_ ?_
                         rotate_left
                         ·intro w'
                          go_simp
                          with_reducible rfl
                         rotate_left
                         ·simp only [Act.put, List.setIfInBounds_toArray, List.set_cons_zero, List.set_cons_succ, i64_w, i32_w]
                          rfl
                         refine pure_ (i := 14) (N := some 131) (v := ?_) (a' := ?_) fl9_15_ rfl rfl (any_of HT_.out (by kernel_rfl)) (fun _ _ _ h => h) (Or.inl ⟨by rfl, ?_⟩) ?_ ?_
                         rotate_left
                         ·intro w'
                          go_simp
                          with_reducible rfl
                         rotate_left
                         ·simp only [Act.put, List.setIfInBounds_toArray, List.set_cons_zero, List.set_cons_succ, i64_w, i32_w]
                          rfl
                         refine pure_ (i := 15) (N := some 132) (v := ?_) (a' := ?_) fl9_16_ rfl rfl (any_of HT_.out (by kernel_rfl)) (fun _ _ _ h => h) (Or.inl ⟨by rfl, ?_⟩) ?_ ?_
                         rotate_left
                         ·intro w'
                          go_simp
                          with_reducible rfl
                         rotate_left
                         ·simp only [Act.put, List.setIfInBounds_toArray, List.set_cons_zero, List.set_cons_succ, i64_w, i32_w]
                          rfl
                         refine pure_ (i := 16) (N := some 133) (v := ?_) (a' := ?_) fl9_17_ rfl rfl (any_of HT_.out (by kernel_rfl)) (fun _ _ _ h => h) (Or.inl ⟨by rfl, ?_⟩) ?_ ?_
                         rotate_left
                         ·intro w'
                          go_simp
                          with_reducible rfl
                         rotate_left
                         ·simp only [Act.put, List.setIfInBounds_toArray, List.set_cons_zero, List.set_cons_succ, i64_w, i32_w]
                          rfl
                         refine pure_ (i := 17) (N := some 134) (v := ?_) (a' := ?_) fl9_18_ rfl rfl (any_of HT_.out (by kernel_rfl)) (fun _ _ _ h => h) (Or.inl ⟨by rfl, ?_⟩) ?_ ?_
                         rotate_left
                         ·intro w'
                          go_simp
                          with_reducible rfl
                         rotate_left
                         ·simp only [Act.put, List.setIfInBounds_toArray, List.set_cons_zero, List.set_cons_succ, i64_w, i32_w]
                          rfl
                         refine pure_ (i := 19) (N := some 136) (v := ?_) (a' := ?_) fl9_19_ rfl rfl (any_of HT_.out (by kernel_rfl)) (fun _ _ _ h => h) (Or.inl ⟨by rfl, ?_⟩) ?_ ?_
                         rotate_left
                         ·intro w'
                          go_simp
                          with_reducible rfl
                         rotate_left
                         ·simp only [Act.put, List.setIfInBounds_toArray, List.set_cons_zero, List.set_cons_succ, i64_w, i32_w]
                          rfl
                         refine take_ (i := 18) (N := some 135) (v := ?_) (a' := ?_) fl9_20_ rfl rfl (take_ofW HT_.out HW_.out (by kernel_rfl)) (fun _ _ _ h => h) (Or.inl ⟨by rfl, ?_⟩) hHeld ?_ ?_
                         rotate_left
                         ·rintro w' ⟨s0, s1⟩
                          go_simp
                          with_reducible rfl
                         rotate_left
                         ·simp only [Act.put, List.setIfInBounds_toArray, List.set_cons_zero, List.set_cons_succ, i64_w, i32_w]
                          rfl
                         refine pure_ (i := 20) (N := some 137) (v := ?_) (a' := ?_) fl9_21_ rfl rfl (any_of HT_.out (by kernel_rfl)) (fun _ _ _ h => h) (Or.inl ⟨by rfl, ?_⟩) ?_ ?_
                         rotate_left
                         ·intro w'
                          go_simp
                          with_reducible rfl
                         rotate_left
                         ·simp only [Act.put, List.setIfInBounds_toArray, List.set_cons_zero, List.set_cons_succ, i64_w, i32_w]
                          rfl
                         refine pure_ (i := 21) (N := some 138) (v := ?_) (a' := ?_) fl9_22_ rfl rfl (any_of HT_.out (by kernel_rfl)) (fun _ _ _ h => h) (Or.inl ⟨by rfl, ?_⟩) ?_ ?_
                         rotate_left
                         ·intro w'
                          go_simp
                          with_reducible rfl
                         rotate_left
                         ·simp only [Act.put, List.setIfInBounds_toArray, List.set_cons_zero, List.set_cons_succ, i64_w, i32_w]
                          rfl
                         refine pure_ (i := 22) (N := some 139) (v := ?_) (a' := ?_) fl9_23_ rfl rfl (any_of HT_.out (by kernel_rfl)) (fun _ _ _ h => h) (Or.inl ⟨by rfl, ?_⟩) ?_ ?_
                         rotate_left
                         ·intro w'
                          go_simp
                          with_reducible rfl
                         rotate_left
                         ·simp only [Act.put, List.setIfInBounds_toArray, List.set_cons_zero, List.set_cons_succ, i64_w, i32_w]
                          rfl
                         refine pure_ (i := 23) (N := some 140) (v := ?_) (a' := ?_) fl9_24_ rfl rfl (any_of HT_.out (by kernel_rfl)) (fun _ _ _ h => h) (Or.inl ⟨by rfl, ?_⟩) ?_ ?_
                         rotate_left
                         ·intro w'
                          go_simp
                          with_reducible rfl
                         rotate_left
                         ·simp only [Act.put, List.setIfInBounds_toArray, List.set_cons_zero, List.set_cons_succ, i64_w, i32_w]
                          rfl
                         refine pure_ (i := 24) (N := some 141) (v := ?_) (a' := ?_) fl9_25_ rfl rfl (any_of HT_.out (by kernel_rfl)) (fun _ _ _ h => h) (Or.inl ⟨by rfl, ?_⟩) ?_ ?_
                         rotate_left
                         ·intro w'
                          go_simp
                          with_reducible rfl
                         rotate_left
                         ·simp only [Act.put, List.setIfInBounds_toArray, List.set_cons_zero, List.set_cons_succ, i64_w, i32_w]
                          rfl
                         refine pure_ (i := 25) (N := some 142) (v := ?_) (a' := ?_) fl9_26_ rfl rfl (any_of HT_.out (by kernel_rfl)) (fun _ _ _ h => h) (Or.inl ⟨by rfl, ?_⟩) ?_ ?_
                         rotate_left
                         ·intro w'
                          go_simp
                          with_reducible rfl
                         rotate_left
                         ·simp only [Act.put, List.setIfInBounds_toArray, List.set_cons_zero, List.set_cons_succ, i64_w, i32_w]
                          rfl
                         refine pure_ (i := 26) (N := some 143) (v := ?_) (a' := ?_) fl9_27_ rfl rfl (any_of HT_.out (by kernel_rfl)) (fun _ _ _ h => h) (Or.inl ⟨by rfl, ?_⟩) ?_ ?_
                         rotate_left
                         ·intro w'
                          go_simp
                          with_reducible rfl
                         rotate_left
                         ·simp only [Act.put, List.setIfInBounds_toArray, List.set_cons_zero, List.set_cons_succ, i64_w, i32_w]
                          rfl
                         refine pure_ (i := 27) (N := some 144) (v := undef) (a' := ?_) fl9_28_ rfl rfl (any_of HT_.out (by kernel_rfl)) (fun _ _ _ h => h) (Or.inr ⟨by rfl, rfl⟩) ?_ ?_
                         rotate_left
                         ·simp only [Act.put, List.setIfInBounds_toArray, List.set_cons_zero, List.set_cons_succ, i64_w, i32_w]
                          rfl
                         refine pure_ (i := 28) (N := some 145) (v := undef) (a' := ?_) fl9_29_ rfl rfl (any_of HT_.out (by kernel_rfl)) (fun _ _ _ h => h) (Or.inr ⟨by rfl, rfl⟩) ?_ ?_
                         rotate_left
                         ·simp only [Act.put, List.setIfInBounds_toArray, List.set_cons_zero, List.set_cons_succ, i64_w, i32_w]
                          rfl
                         refine pure_ (i := 29) (N := some 146) (v := undef) (a' := ?_) fl9_30_ rfl rfl (any_of HT_.out (by kernel_rfl)) (fun _ _ _ h => h) (Or.inr ⟨by rfl, rfl⟩) ?_ ?_
                         rotate_left
                         ·simp only [Act.put, List.setIfInBounds_toArray, List.set_cons_zero, List.set_cons_succ, i64_w, i32_w]
                          rfl
                         refine pure_ (i := 30) (N := some 147) (v := undef) (a' := ?_) fl9_31_ rfl rfl (any_of HT_.out (by kernel_rfl)) (fun _ _ _ h => h) (Or.inr ⟨by rfl, rfl⟩) ?_ ?_
                         rotate_left
                         ·simp only [Act.put, List.setIfInBounds_toArray, List.set_cons_zero, List.set_cons_succ, i64_w, i32_w]
                          rfl
                         refine pure_ (i := 31) (N := some 148) (v := undef) (a' := ?_) fl9_32_ rfl rfl (any_of HT_.out (by kernel_rfl)) (fun _ _ _ h => h) (Or.inr ⟨by rfl, rfl⟩) ?_ ?_
                         rotate_left
                         ·simp only [Act.put, List.setIfInBounds_toArray, List.set_cons_zero, List.set_cons_succ, i64_w, i32_w]
                          rfl
                         refine pure_ (i := 32) (N := some 149) (v := undef) (a' := ?_) fl9_33_ rfl rfl (any_of HT_.out (by kernel_rfl)) (fun _ _ _ h => h) (Or.inr ⟨by rfl, rfl⟩) ?_ ?_
                         rotate_left
                         ·simp only [Act.put, List.setIfInBounds_toArray, List.set_cons_zero, List.set_cons_succ, i64_w, i32_w]
                          rfl
                         refine pure_ (i := 33) (N := some 150) (v := undef) (a' := ?_) fl9_34_ rfl rfl (any_of HT_.out (by kernel_rfl)) (fun _ _ _ h => h) (Or.inr ⟨by rfl, rfl⟩) ?_ ?_
                         rotate_left
                         ·simp only [Act.put, List.setIfInBounds_toArray, List.set_cons_zero, List.set_cons_succ, i64_w, i32_w]
                          rfl
                         refine pure_ (i := 34) (N := some 151) (v := undef) (a' := ?_) fl9_35_ rfl rfl (any_of HT_.out (by kernel_rfl)) (fun _ _ _ h => h) (Or.inr ⟨by rfl, rfl⟩) ?_ ?_
                         rotate_left
                         ·simp only [Act.put, List.setIfInBounds_toArray, List.set_cons_zero, List.set_cons_succ, i64_w, i32_w]
                          rfl
                         refine pure_ (i := 35) (N := some 152) (v := undef) (a' := ?_) fl9_36_ rfl rfl (any_of HT_.out (by kernel_rfl)) (fun _ _ _ h => h) (Or.inr ⟨by rfl, rfl⟩) ?_ ?_
                         rotate_left
                         ·simp only [Act.put, List.setIfInBounds_toArray, List.set_cons_zero, List.set_cons_succ, i64_w, i32_w]
                          rfl
                         refine pure_ (i := 36) (N := some 153) (v := undef) (a' := ?_) fl9_37_ rfl rfl (any_of HT_.out (by kernel_rfl)) (fun _ _ _ h => h) (Or.inr ⟨by rfl, rfl⟩) ?_ ?_
                         rotate_left
                         ·simp only [Act.put, List.setIfInBounds_toArray, List.set_cons_zero, List.set_cons_succ, i64_w, i32_w]
                          rfl
                         refine pure_ (i := 37) (N := some 154) (v := undef) (a' := ?_) fl9_38_ rfl rfl (any_of HT_.out (by kernel_rfl)) (fun _ _ _ h => h) (Or.inr ⟨by rfl, rfl⟩) ?_ ?_
                         rotate_left
                         ·simp only [Act.put, List.setIfInBounds_toArray, List.set_cons_zero, List.set_cons_succ, i64_w, i32_w]
                          rfl
                         refine pure_ (i := 38) (N := some 155) (v := undef) (a' := ?_) fl9_39_ rfl rfl (any_of HT_.out (by kernel_rfl)) (fun _ _ _ h => h) (Or.inr ⟨by rfl, rfl⟩) ?_ ?_
                         rotate_left
                         ·simp only [Act.put, List.setIfInBounds_toArray, List.set_cons_zero, List.set_cons_succ, i64_w, i32_w]
                          rfl
                         refine pure_ (i := 39) (N := some 156) (v := ?_) (a' := ?_) fl9_40_ rfl rfl (any_of HT_.out (by kernel_rfl)) (fun _ _ _ h => h) (Or.inl ⟨by rfl, ?_⟩) ?_ ?_
                         rotate_left
                         ·intro w'
                          go_simp
                          with_reducible rfl
                         rotate_left
                         ·simp only [Act.put, List.setIfInBounds_toArray, List.set_cons_zero, List.set_cons_succ, i64_w, i32_w]
                          rfl
                         refine pure_ (i := 40) (N := some 157) (v := ?_) (a' := ?_) fl9_41_ rfl rfl (any_of HT_.out (by kernel_rfl)) (fun _ _ _ h => h) (Or.inl ⟨by rfl, ?_⟩) ?_ ?_
                         rotate_left
                         ·intro w'
                          go_simp
                          with_reducible rfl
                         rotate_left
                         ·simp only [Act.put, List.setIfInBounds_toArray, List.set_cons_zero, List.set_cons_succ, i64_w, i32_w]
                          rfl
                         refine done_ (done_of HT_.out (by kernel_rfl)) ?_
                         try go_wp2
                         go_roundg k2
                         case measure => have := HJ27.out; have := HK2.out; omega
                         case rel => exact ⟨(wrap64 (x13_2 + 1)), (by first | rfl | (simp; done) | (simp [*]; done)), H', ⟨by have := HJ27.out; have := HK2.out; omega⟩, ⟨by (with_reducible repeat (first | apply Kd.R_alloc | apply Kd.R_drewN | apply Kd.R_drew)); exact HO_12.out⟩, ⟨by (with_reducible repeat (first | refine blk_drewN ?_ _ | refine blk_drew ?_ | refine blk_alloc ?_ _)); exact BK346.out⟩, ⟨by repeat (first | (with_reducible first | exact HB.out | apply below_alloc | apply pw_below_drewN | apply below_drew1 | refine below_set ?_ GE346.out) | exact HB.out)⟩⟩
                       ·rw [if_neg c67] at H
                        have c67b0 : ((rd t359 x13_2) == (rd t343 (ji17))) = false := beq_eq_false_iff_ne.mpr c67
                        have c67b1 : ((rd t359 x13_2) != (rd t343 (ji17))) = true := bne_iff_ne.mpr c67
                        exact absurd (Option.some.inj H) (by rw [ht_.out]; simp)
                      ·rw [if_neg c66] at H
                       have c66b0 : (x13_2 == t356) = false := beq_eq_false_iff_ne.mpr c66
                       have c66b1 : (x13_2 != t356) = true := bne_iff_ne.mpr c66
                       by_cases c71 : x13_2 > 0
                       ·rw [if_pos c71] at H
                        exact absurd (eq_of_beq c63b0) (Int.ne_of_gt c71)
                       ·rw [if_neg c71] at H
                        have c71b0 : decide (0 < x13_2) = false := decide_eq_false c71
                        clear c71
                        have H' := Aside0.mk H
                        clear H
                        obtain ⟨Ao72, co72, eo72⟩ := Kd.R_slice HO_12.out
                        subst eo72
                        try go_wp2
                        have n0_ := Aside0.mk (Kd.R_drew HO_12.out)
                        have n1_ := Aside0.mk (blk_drew BK346.out)
                        have n2_ := Aside0.mk (below_drew1 HB.out)
                        clear HO_12
                        clear BK346
                        clear HB
                        have HO_12 := n0_
                        have BK346 := n1_
                        have HB := n2_
                        clear n0_ n1_ n2_
                        have p363 : 0 ≤ (x13_2 : Int) := of_decide_eq_true (by first | (with_reducible assumption) | assumption)
                        have q363 : x13_2 < (t359.length : Int) := of_decide_eq_true (by first | (with_reducible assumption) | assumption)
                        obtain ⟨ad363, e363, hx363_0⟩ := Kd.at_int (Kd.R_reads' HO_12.out).2.2 x13_2 p363 q363
                        cases e363
                        replace p363 := eq_true p363
                        replace q363 := eq_true q363
                        refine start_ (n := 41) (S := fun w' => w'.cell? (ad363.add (x13_2).toNat) = some (.int .i64 (rd t359 x13_2))) (ds := []) fl9_0_ (by kernel_rfl) rfl rfl (hx363_0) (fun hHeld => ?_); refine with_tabW laws_FnSteps.tab19 laws_FnSteps.bits19 (fun HT_ HW_ => ?_)
                        generalize wr.drew = w73 at HO_12 BK346 HB hx363_0 hHeld ⊢
                        refine pure_ (i := 0) (N := some 117) (v := ?_) (a' := ?_) fl9_1_ rfl rfl (any_of HT_.out (by kernel_rfl)) (fun _ _ _ h => h) (Or.inl ⟨by rfl, ?_⟩) ?_ ?_
                        rotate_left
                        ·intro w'
                         go_simp
                         with_reducible rfl
                        rotate_left
                        ·simp only [Act.put, List.setIfInBounds_toArray, List.set_cons_zero, List.set_cons_succ, i64_w, i32_w]
                         rfl
                        refine pure_ (i := 1) (N := some 118) (v := ?_) (a' := ?_) fl9_2_ rfl rfl (any_of HT_.out (by kernel_rfl)) (fun _ _ _ h => h) (Or.inl ⟨by rfl, ?_⟩) ?_ ?_
                        rotate_left
                        ·intro w'
                         go_simp
                         with_reducible rfl
                        rotate_left
                        ·simp only [Act.put, List.setIfInBounds_toArray, List.set_cons_zero, List.set_cons_succ, i64_w, i32_w]
                         rfl
                        refine pure_ (i := 2) (N := some 119) (v := ?_) (a' := ?_) fl9_3_ rfl rfl (any_of HT_.out (by kernel_rfl)) (fun _ _ _ h => h) (Or.inl ⟨by rfl, ?_⟩) ?_ ?_
                        rotate_left
                        ·intro w'
                         go_simp
                         with_reducible rfl
                        rotate_left
                        ·simp only [Act.put, List.setIfInBounds_toArray, List.set_cons_zero, List.set_cons_succ, i64_w, i32_w]
                         rfl
                        refine pure_ (i := 3) (N := some 120) (v := ?_) (a' := ?_) fl9_4_ rfl rfl (any_of HT_.out (by kernel_rfl)) (fun _ _ _ h => h) (Or.inl ⟨by rfl, ?_⟩) ?_ ?_
                        rotate_left
                        ·intro w'
                         go_simp
                         with_reducible rfl
                        rotate_left
                        ·simp only [Act.put, List.setIfInBounds_toArray, List.set_cons_zero, List.set_cons_succ, i64_w, i32_w]
                         rfl
                        refine pure_ (i := 4) (N := some 121) (v := ?_) (a' := ?_) fl9_5_ rfl rfl (any_of HT_.out (by kernel_rfl)) (fun _ _ _ h => h) (Or.inl ⟨by rfl, ?_⟩) ?_ ?_
                        rotate_left
                        ·intro w'
                         go_simp
                         with_reducible rfl
                        rotate_left
                        ·simp only [Act.put, List.setIfInBounds_toArray, List.set_cons_zero, List.set_cons_succ, i64_w, i32_w]
                         rfl
                        refine pure_ (i := 5) (N := some 122) (v := ?_) (a' := ?_) fl9_6_ rfl rfl (any_of HT_.out (by kernel_rfl)) (fun _ _ _ h => h) (Or.inl ⟨by rfl, ?_⟩) ?_ ?_
                        rotate_left
                        ·intro w'
                         go_simp
                         with_reducible rfl
                        rotate_left
                        ·simp only [Act.put, List.setIfInBounds_toArray, List.set_cons_zero, List.set_cons_succ, i64_w, i32_w]
                         rfl
                        refine pure_ (i := 7) (N := some 124) (v := ?_) (a' := ?_) fl9_7_ rfl rfl (any_of HT_.out (by kernel_rfl)) (fun _ _ _ h => h) (Or.inl ⟨by rfl, ?_⟩) ?_ ?_
                        rotate_left
                        ·intro w'
                         go_simp
                         with_reducible rfl
                        rotate_left
                        ·simp only [Act.put, List.setIfInBounds_toArray, List.set_cons_zero, List.set_cons_succ, i64_w, i32_w]
                         rfl
                        refine take_ (i := 6) (N := some 123) (v := ?_) (a' := ?_) fl9_8_ rfl rfl (take_ofW HT_.out HW_.out (by kernel_rfl)) (fun _ _ _ h => h) (Or.inl ⟨by rfl, ?_⟩) hHeld ?_ ?_
                        rotate_left
                        ·intro w' s0
                         go_simp
                         with_reducible rfl
                        rotate_left
                        ·simp only [Act.put, List.setIfInBounds_toArray, List.set_cons_zero, List.set_cons_succ, i64_w, i32_w]
                         rfl
                        refine pure_ (i := 8) (N := some 125) (v := ?_) (a' := ?_) fl9_9_ rfl rfl (any_of HT_.out (by kernel_rfl)) (fun _ _ _ h => h) (Or.inl ⟨by rfl, ?_⟩) ?_ ?_
                        rotate_left
                        ·intro w'
                         go_simp
                         with_reducible rfl
                        rotate_left
                        ·simp only [Act.put, List.setIfInBounds_toArray, List.set_cons_zero, List.set_cons_succ, i64_w, i32_w]
                         rfl
                        refine pure_ (i := 9) (N := some 126) (v := ?_) (a' := ?_) fl9_10_ rfl rfl (any_of HT_.out (by kernel_rfl)) (fun _ _ _ h => h) (Or.inl ⟨by rfl, ?_⟩) ?_ ?_
                        rotate_left
                        ·intro w'
                         go_simp
                         with_reducible rfl
                        rotate_left
                        ·simp only [Act.put, List.setIfInBounds_toArray, List.set_cons_zero, List.set_cons_succ, i64_w, i32_w]
                         rfl
                        refine pure_ (i := 10) (N := some 127) (v := ?_) (a' := ?_) fl9_11_ rfl rfl (any_of HT_.out (by kernel_rfl)) (fun _ _ _ h => h) (Or.inl ⟨by rfl, ?_⟩) ?_ ?_
                        rotate_left
                        ·intro w'
                         go_simp
                         with_reducible rfl
                        rotate_left
                        ·simp only [Act.put, List.setIfInBounds_toArray, List.set_cons_zero, List.set_cons_succ, i64_w, i32_w]
                         rfl
                        refine pure_ (i := 11) (N := some 128) (v := ?_) (a' := ?_) fl9_12_ rfl rfl (any_of HT_.out (by kernel_rfl)) (fun _ _ _ h => h) (Or.inl ⟨by rfl, ?_⟩) ?_ ?_
                        rotate_left
                        ·intro w'
                         go_simp
                         with_reducible rfl
                        rotate_left
                        ·simp only [Act.put, List.setIfInBounds_toArray, List.set_cons_zero, List.set_cons_succ, i64_w, i32_w]
                         rfl
                        refine pure_ (i := 12) (N := some 129) (v := ?_) (a' := ?_) fl9_13_ rfl rfl (any_of HT_.out (by kernel_rfl)) (fun _ _ _ h => h) (Or.inl ⟨by rfl, ?_⟩) ?_ ?_
                        rotate_left
                        ·intro w'
                         go_simp
                         with_reducible rfl
                        rotate_left
                        ·simp only [Act.put, List.setIfInBounds_toArray, List.set_cons_zero, List.set_cons_succ, i64_w, i32_w]
                         rfl
                        refine pure_ (i := 13) (N := some 130) (v := ?_) (a' := ?_) fl9_14_ rfl rfl (any_of HT_.out (by kernel_rfl)) (fun _ _ _ h => h) (Or.inl ⟨by rfl, ?_⟩) ?_ ?_
                        rotate_left
                        ·intro w'
                         go_simp
                         with_reducible rfl
                        rotate_left
                        ·simp only [Act.put, List.setIfInBounds_toArray, List.set_cons_zero, List.set_cons_succ, i64_w, i32_w]
                         rfl
                        refine pure_ (i := 14) (N := some 131) (v := ?_) (a' := ?_) fl9_15_ rfl rfl (any_of HT_.out (by kernel_rfl)) (fun _ _ _ h => h) (Or.inl ⟨by rfl, ?_⟩) ?_ ?_
                        rotate_left
                        ·intro w'
                         go_simp
                         with_reducible rfl
                        rotate_left
                        ·simp only [Act.put, List.setIfInBounds_toArray, List.set_cons_zero, List.set_cons_succ, i64_w, i32_w]
                         rfl
                        refine pure_ (i := 15) (N := some 132) (v := undef) (a' := ?_) fl9_16_ rfl rfl (any_of HT_.out (by kernel_rfl)) (fun _ _ _ h => h) (Or.inr ⟨by rfl, rfl⟩) ?_ ?_
                        rotate_left
                        ·simp only [Act.put, List.setIfInBounds_toArray, List.set_cons_zero, List.set_cons_succ, i64_w, i32_w]
                         rfl
                        refine pure_ (i := 16) (N := some 133) (v := undef) (a' := ?_) fl9_17_ rfl rfl (any_of HT_.out (by kernel_rfl)) (fun _ _ _ h => h) (Or.inr ⟨by rfl, rfl⟩) ?_ ?_
                        rotate_left
                        ·simp only [Act.put, List.setIfInBounds_toArray, List.set_cons_zero, List.set_cons_succ, i64_w, i32_w]
                         rfl
                        refine pure_ (i := 17) (N := some 134) (v := undef) (a' := ?_) fl9_18_ rfl rfl (any_of HT_.out (by kernel_rfl)) (fun _ _ _ h => h) (Or.inr ⟨by rfl, rfl⟩) ?_ ?_
                        rotate_left
                        ·simp only [Act.put, List.setIfInBounds_toArray, List.set_cons_zero, List.set_cons_succ, i64_w, i32_w]
                         rfl
                        refine pure_ (i := 18) (N := some 135) (v := undef) (a' := ?_) fl9_42_ rfl rfl (any_of HT_.out (by kernel_rfl)) (fun _ _ _ h => h) (Or.inr ⟨by rfl, rfl⟩) ?_ ?_
                        rotate_left
                        ·simp only [Act.put, List.setIfInBounds_toArray, List.set_cons_zero, List.set_cons_succ, i64_w, i32_w]
                         rfl
                        refine pure_ (i := 19) (N := some 136) (v := undef) (a' := ?_) fl9_20_ rfl rfl (any_of HT_.out (by kernel_rfl)) (fun _ _ _ h => h) (Or.inr ⟨by rfl, rfl⟩) ?_ ?_
                        rotate_left
                        ·simp only [Act.put, List.setIfInBounds_toArray, List.set_cons_zero, List.set_cons_succ, i64_w, i32_w]
                         rfl
                        refine pure_ (i := 20) (N := some 137) (v := undef) (a' := ?_) fl9_21_ rfl rfl (any_of HT_.out (by kernel_rfl)) (fun _ _ _ h => h) (Or.inr ⟨by rfl, rfl⟩) ?_ ?_
                        rotate_left
                        ·simp only [Act.put, List.setIfInBounds_toArray, List.set_cons_zero, List.set_cons_succ, i64_w, i32_w]
                         rfl
                        refine pure_ (i := 21) (N := some 138) (v := ?_) (a' := ?_) fl9_22_ rfl rfl (any_of HT_.out (by kernel_rfl)) (fun _ _ _ h => h) (Or.inl ⟨by rfl, ?_⟩) ?_ ?_
                        rotate_left
                        ·intro w'
                         go_simp
                         with_reducible rfl
                        rotate_left
                        ·simp only [Act.put, List.setIfInBounds_toArray, List.set_cons_zero, List.set_cons_succ, i64_w, i32_w]
                         rfl
                        refine pure_ (i := 22) (N := some 139) (v := ?_) (a' := ?_) fl9_23_ rfl rfl (any_of HT_.out (by kernel_rfl)) (fun _ _ _ h => h) (Or.inl ⟨by rfl, ?_⟩) ?_ ?_
                        rotate_left
                        ·intro w'
                         go_simp
                         with_reducible rfl
                        rotate_left
                        ·simp only [Act.put, List.setIfInBounds_toArray, List.set_cons_zero, List.set_cons_succ, i64_w, i32_w]
                         rfl
                        refine pure_ (i := 23) (N := some 140) (v := ?_) (a' := ?_) fl9_24_ rfl rfl (any_of HT_.out (by kernel_rfl)) (fun _ _ _ h => h) (Or.inl ⟨by rfl, ?_⟩) ?_ ?_
                        rotate_left
                        ·intro w'
                         go_simp
                         with_reducible rfl
                        rotate_left
                        ·simp only [Act.put, List.setIfInBounds_toArray, List.set_cons_zero, List.set_cons_succ, i64_w, i32_w]
                         rfl
                        refine pure_ (i := 24) (N := some 141) (v := ?_) (a' := ?_) fl9_25_ rfl rfl (any_of HT_.out (by kernel_rfl)) (fun _ _ _ h => h) (Or.inl ⟨by rfl, ?_⟩) ?_ ?_
                        rotate_left
                        ·intro w'
                         go_simp
                         with_reducible rfl
                        rotate_left
                        ·simp only [Act.put, List.setIfInBounds_toArray, List.set_cons_zero, List.set_cons_succ, i64_w, i32_w]
                         rfl
                        refine pure_ (i := 25) (N := some 142) (v := ?_) (a' := ?_) fl9_26_ rfl rfl (any_of HT_.out (by kernel_rfl)) (fun _ _ _ h => h) (Or.inl ⟨by rfl, ?_⟩) ?_ ?_
                        rotate_left
                        ·intro w'
                         go_simp
                         with_reducible rfl
                        rotate_left
                        ·simp only [Act.put, List.setIfInBounds_toArray, List.set_cons_zero, List.set_cons_succ, i64_w, i32_w]
                         rfl
                        refine pure_ (i := 26) (N := some 143) (v := ?_) (a' := ?_) fl9_27_ rfl rfl (any_of HT_.out (by kernel_rfl)) (fun _ _ _ h => h) (Or.inl ⟨by rfl, ?_⟩) ?_ ?_
                        rotate_left
                        ·intro w'
                         go_simp
                         with_reducible rfl
                        rotate_left
                        ·simp only [Act.put, List.setIfInBounds_toArray, List.set_cons_zero, List.set_cons_succ, i64_w, i32_w]
                         rfl
                        refine pure_ (i := 27) (N := some 144) (v := undef) (a' := ?_) fl9_28_ rfl rfl (any_of HT_.out (by kernel_rfl)) (fun _ _ _ h => h) (Or.inr ⟨by rfl, rfl⟩) ?_ ?_
                        rotate_left
                        ·simp only [Act.put, List.setIfInBounds_toArray, List.set_cons_zero, List.set_cons_succ, i64_w, i32_w]
                         rfl
                        refine pure_ (i := 28) (N := some 145) (v := undef) (a' := ?_) fl9_29_ rfl rfl (any_of HT_.out (by kernel_rfl)) (fun _ _ _ h => h) (Or.inr ⟨by rfl, rfl⟩) ?_ ?_
                        rotate_left
                        ·simp only [Act.put, List.setIfInBounds_toArray, List.set_cons_zero, List.set_cons_succ, i64_w, i32_w]
                         rfl
                        refine pure_ (i := 29) (N := some 146) (v := undef) (a' := ?_) fl9_30_ rfl rfl (any_of HT_.out (by kernel_rfl)) (fun _ _ _ h => h) (Or.inr ⟨by rfl, rfl⟩) ?_ ?_
                        rotate_left
                        ·simp only [Act.put, List.setIfInBounds_toArray, List.set_cons_zero, List.set_cons_succ, i64_w, i32_w]
                         rfl
                        refine pure_ (i := 30) (N := some 147) (v := undef) (a' := ?_) fl9_31_ rfl rfl (any_of HT_.out (by kernel_rfl)) (fun _ _ _ h => h) (Or.inr ⟨by rfl, rfl⟩) ?_ ?_
                        rotate_left
                        ·simp only [Act.put, List.setIfInBounds_toArray, List.set_cons_zero, List.set_cons_succ, i64_w, i32_w]
                         rfl
                        refine pure_ (i := 31) (N := some 148) (v := undef) (a' := ?_) fl9_32_ rfl rfl (any_of HT_.out (by kernel_rfl)) (fun _ _ _ h => h) (Or.inr ⟨by rfl, rfl⟩) ?_ ?_
                        rotate_left
                        ·simp only [Act.put, List.setIfInBounds_toArray, List.set_cons_zero, List.set_cons_succ, i64_w, i32_w]
                         rfl
                        refine pure_ (i := 32) (N := some 149) (v := undef) (a' := ?_) fl9_33_ rfl rfl (any_of HT_.out (by kernel_rfl)) (fun _ _ _ h => h) (Or.inr ⟨by rfl, rfl⟩) ?_ ?_
                        rotate_left
                        ·simp only [Act.put, List.setIfInBounds_toArray, List.set_cons_zero, List.set_cons_succ, i64_w, i32_w]
                         rfl
                        refine pure_ (i := 33) (N := some 150) (v := undef) (a' := ?_) fl9_34_ rfl rfl (any_of HT_.out (by kernel_rfl)) (fun _ _ _ h => h) (Or.inr ⟨by rfl, rfl⟩) ?_ ?_
                        rotate_left
                        ·simp only [Act.put, List.setIfInBounds_toArray, List.set_cons_zero, List.set_cons_succ, i64_w, i32_w]
                         rfl
                        refine pure_ (i := 34) (N := some 151) (v := undef) (a' := ?_) fl9_35_ rfl rfl (any_of HT_.out (by kernel_rfl)) (fun _ _ _ h => h) (Or.inr ⟨by rfl, rfl⟩) ?_ ?_
                        rotate_left
                        ·simp only [Act.put, List.setIfInBounds_toArray, List.set_cons_zero, List.set_cons_succ, i64_w, i32_w]
                         rfl
                        refine pure_ (i := 35) (N := some 152) (v := undef) (a' := ?_) fl9_36_ rfl rfl (any_of HT_.out (by kernel_rfl)) (fun _ _ _ h => h) (Or.inr ⟨by rfl, rfl⟩) ?_ ?_
                        rotate_left
                        ·simp only [Act.put, List.setIfInBounds_toArray, List.set_cons_zero, List.set_cons_succ, i64_w, i32_w]
                         rfl
                        refine pure_ (i := 36) (N := some 153) (v := undef) (a' := ?_) fl9_37_ rfl rfl (any_of HT_.out (by kernel_rfl)) (fun _ _ _ h => h) (Or.inr ⟨by rfl, rfl⟩) ?_ ?_
                        rotate_left
                        ·simp only [Act.put, List.setIfInBounds_toArray, List.set_cons_zero, List.set_cons_succ, i64_w, i32_w]
                         rfl
                        refine pure_ (i := 37) (N := some 154) (v := undef) (a' := ?_) fl9_38_ rfl rfl (any_of HT_.out (by kernel_rfl)) (fun _ _ _ h => h) (Or.inr ⟨by rfl, rfl⟩) ?_ ?_
                        rotate_left
                        ·simp only [Act.put, List.setIfInBounds_toArray, List.set_cons_zero, List.set_cons_succ, i64_w, i32_w]
                         rfl
                        refine pure_ (i := 38) (N := some 155) (v := undef) (a' := ?_) fl9_39_ rfl rfl (any_of HT_.out (by kernel_rfl)) (fun _ _ _ h => h) (Or.inr ⟨by rfl, rfl⟩) ?_ ?_
                        rotate_left
                        ·simp only [Act.put, List.setIfInBounds_toArray, List.set_cons_zero, List.set_cons_succ, i64_w, i32_w]
                         rfl
                        refine pure_ (i := 39) (N := some 156) (v := ?_) (a' := ?_) fl9_40_ rfl rfl (any_of HT_.out (by kernel_rfl)) (fun _ _ _ h => h) (Or.inl ⟨by rfl, ?_⟩) ?_ ?_
                        rotate_left
                        ·intro w'
                         go_simp
                         with_reducible rfl
                        rotate_left
                        ·simp only [Act.put, List.setIfInBounds_toArray, List.set_cons_zero, List.set_cons_succ, i64_w, i32_w]
                         rfl
                        refine pure_ (i := 40) (N := some 157) (v := ?_) (a' := ?_) fl9_41_ rfl rfl (any_of HT_.out (by kernel_rfl)) (fun _ _ _ h => h) (Or.inl ⟨by rfl, ?_⟩) ?_ ?_
                        rotate_left
                        ·intro w'
                         go_simp
                         with_reducible rfl
                        rotate_left
                        ·simp only [Act.put, List.setIfInBounds_toArray, List.set_cons_zero, List.set_cons_succ, i64_w, i32_w]
                         rfl
                        refine done_ (done_of HT_.out (by kernel_rfl)) ?_
                        try go_wp2
                        go_roundg k2
                        case measure => have := HJ27.out; have := HK2.out; omega
                        case rel => exact ⟨(wrap64 (x13_2 + 1)), (by first | rfl | (simp; done) | (simp [*]; done)), H', ⟨by have := HJ27.out; have := HK2.out; omega⟩, ⟨by (with_reducible repeat (first | apply Kd.R_alloc | apply Kd.R_drewN | apply Kd.R_drew)); exact HO_12.out⟩, ⟨by (with_reducible repeat (first | refine blk_drewN ?_ _ | refine blk_drew ?_ | refine blk_alloc ?_ _)); exact BK346.out⟩, ⟨by repeat (first | (with_reducible first | exact HB.out | apply below_alloc | apply pw_below_drewN | apply below_drew1 | refine below_set ?_ GE346.out) | exact HB.out)⟩⟩
                     ·rw [if_neg c65] at H
                      have c65b0 : ((rd t359 x13_2) == (rd t343 (ji13))) = false := beq_eq_false_iff_ne.mpr c65
                      have c65b1 : ((rd t359 x13_2) != (rd t343 (ji13))) = true := bne_iff_ne.mpr c65
                      exact absurd (Option.some.inj H) (by rw [ht_.out]; simp)
                    ·rw [if_neg c64] at H
                     exact absurd H (by simp)
                   ·rw [if_neg c63] at H
                    have c63b0 : (x13_2 == 0) = false := beq_eq_false_iff_ne.mpr c63
                    have c63b1 : (x13_2 != 0) = true := bne_iff_ne.mpr c63
                    by_cases c74 : x13_2 = t356
                    ·rw [if_pos c74] at H
                     have c74b0 : (x13_2 == t356) = true := beq_iff_eq.mpr c74
                     have c74b1 : (x13_2 != t356) = false := bne_eq_false_iff_eq.mpr c74
                     clear c74
                     by_cases c75 : 0 ≤ x13_2
                     ·rw [if_pos c75] at H
                      have c75b0 : decide (0 ≤ x13_2) = true := decide_eq_true c75
                      clear c75
                      by_cases c76 : (rd t359 x13_2) = (rd t343 (ji17))
                      ·rw [if_pos c76] at H
                       have c76b0 : ((rd t359 x13_2) == (rd t343 (ji17))) = true := beq_iff_eq.mpr c76
                       have c76b1 : ((rd t359 x13_2) != (rd t343 (ji17))) = false := bne_eq_false_iff_eq.mpr c76
                       clear c76
                       by_cases c77 : x13_2 > 0
                       ·rw [if_pos c77] at H
                        have c77b0 : decide (0 < x13_2) = true := decide_eq_true c77
                        clear c77
                        obtain ⟨ji78, hji78⟩ : ∃ j_ : Int, (wrap64 (x13_2 - 1)) = j_ := ⟨_, rfl⟩
                        replace H : (if 0 ≤ (ji78) then (if (ji78) < (t359.length : Int) then ((impl_Beside.f k2 t340 t341 t342 (rd t359 (ji78)) (rd t359 x13_2)).bind fun t374 => (if t374 = true then (laws_FnSteps.l0 k2 (rd t343 (ji13)) (rd t343 (ji17)) (rd t343 (ji21)) t356 t358 t359 (wrap64 (x13_2 + 1)) t340 t341 t342) else (some false))) else (none)) else (none)) = some r := by first | (rw [hji78] at H; exact H) | (simp only [hji78] at H ⊢; exact H)
                        have hji78w : (IntKind.i64.wrap (x13_2 - 1)) = ji78 := (i64_w _).trans hji78
                        by_cases c79 : 0 ≤ (ji78)
                        ·rw [if_pos c79] at H
                         have c79b0 : decide (0 ≤ (ji78)) = true := decide_eq_true c79
                         clear c79
                         by_cases c80 : (ji78) < (t359.length : Int)
                         ·rw [if_pos c80] at H
                          have c80b0 : decide ((ji78) < (t359.length : Int)) = true := decide_eq_true c80
                          clear c80
                          replace H := Option.bind_eq_some_iff.mp H
                          obtain ⟨t374, A810, H⟩ := H
                          replace H : (if t374 = true then (laws_FnSteps.l0 k2 (rd t343 (ji13)) (rd t343 (ji17)) (rd t343 (ji21)) t356 t358 t359 (wrap64 (x13_2 + 1)) t340 t341 t342) else (some false)) = some r := H
                          have A81 := Aside0.mk A810
                          clear A810
                          by_cases c82 : t374 = true
                          ·subst c82
                           have H1 : (laws_FnSteps.l0 k2 (rd t343 (ji13)) (rd t343 (ji17)) (rd t343 (ji21)) t356 t358 t359 (wrap64 (x13_2 + 1)) t340 t341 t342) = some r := by rw [if_pos rfl] at H; exact H
                           clear H
                           have H := H1
                           clear H1
                           have H' := Aside0.mk H
                           clear H
                           obtain ⟨Ao83, co83, eo83⟩ := Kd.R_slice HO_12.out
                           subst eo83
                           try go_wp2
                           have n0_ := Aside0.mk (Kd.R_drew HO_12.out)
                           have n1_ := Aside0.mk (blk_drew BK346.out)
                           have n2_ := Aside0.mk (below_drew1 HB.out)
                           clear HO_12
                           clear BK346
                           clear HB
                           have HO_12 := n0_
                           have BK346 := n1_
                           have HB := n2_
                           clear n0_ n1_ n2_
                           have p371 : 0 ≤ (x13_2 : Int) := of_decide_eq_true (by first | (with_reducible assumption) | assumption)
                           have q371 : x13_2 < (t359.length : Int) := of_decide_eq_true (by first | (with_reducible assumption) | assumption)
                           obtain ⟨ad371, e371, hx371_0⟩ := Kd.at_int (Kd.R_reads' HO_12.out).2.2 x13_2 p371 q371
                           cases e371
                           replace p371 := eq_true p371
                           replace q371 := eq_true q371
                           have p372 : 0 ≤ ((ji78) : Int) := of_decide_eq_true (by first | (with_reducible assumption) | assumption)
                           have q372 : (ji78) < (t359.length : Int) := of_decide_eq_true (by first | (with_reducible assumption) | assumption)
                           obtain ⟨ad372, e372, hx372_0⟩ := Kd.at_int (Kd.R_reads' HO_12.out).2.2 (ji78) p372 q372
                           obtain rfl : ad371 = ad372 := (by injection e372)
                           replace p372 := eq_true p372
                           replace q372 := eq_true q372
                           have p373 : 0 ≤ (x13_2 : Int) := of_decide_eq_true (by first | (with_reducible assumption) | assumption)
                           have q373 : x13_2 < (t359.length : Int) := of_decide_eq_true (by first | (with_reducible assumption) | assumption)
                           obtain ⟨ad373, e373, hx373_0⟩ := Kd.at_int (Kd.R_reads' HO_12.out).2.2 x13_2 p373 q373
                           obtain rfl : ad371 = ad373 := (by injection e373)
                           replace p373 := eq_true p373
                           replace q373 := eq_true q373
                           refine start_ (n := 41) (S := fun w' => w'.cell? ⟨gb346, 0, none⟩ = some (.int .i64 t340) ∧ w'.cell? ⟨gb346, 1, none⟩ = some (.int .i64 t341) ∧ w'.cell? ⟨gb346, 2, none⟩ = some (.string t342) ∧ w'.cell? (ad371.add (x13_2).toNat) = some (.int .i64 (rd t359 x13_2)) ∧ w'.cell? (ad371.add ((ji78)).toNat) = some (.int .i64 (rd t359 (ji78))) ∧ w'.cell? (ad371.add (x13_2).toNat) = some (.int .i64 (rd t359 x13_2))) (ds := []) fl9_0_ (by kernel_rfl) rfl rfl ⟨(blk_cell BK346.out 0).trans rfl, (blk_cell BK346.out 1).trans rfl, (blk_cell BK346.out 2).trans rfl, hx371_0, hx372_0, hx373_0⟩ (fun hHeld => ?_); refine with_tabW laws_FnSteps.tab19 laws_FnSteps.bits19 (fun HT_ HW_ => ?_)
                           generalize wr.drew = w84 at HO_12 BK346 HB hx371_0 hx372_0 hx373_0 hHeld ⊢
                           refine pure_ (i := 0) (N := some 117) (v := ?_) (a' := ?_) fl9_1_ rfl rfl (any_of HT_.out (by kernel_rfl)) (fun _ _ _ h => h) (Or.inl ⟨by rfl, ?_⟩) ?_ ?_
                           rotate_left
                           ·intro w'
                            go_simp
                            with_reducible rfl
                           rotate_left
                           ·simp only [Act.put, List.setIfInBounds_toArray, List.set_cons_zero, List.set_cons_succ, i64_w, i32_w]
                            rfl
                           refine pure_ (i := 1) (N := some 118) (v := ?_) (a' := ?_) fl9_2_ rfl rfl (any_of HT_.out (by kernel_rfl)) (fun _ _ _ h => h) (Or.inl ⟨by rfl, ?_⟩) ?_ ?_
                           rotate_left
                           ·intro w'
                            go_simp
                            with_reducible rfl
                           rotate_left
                           ·simp only [Act.put, List.setIfInBounds_toArray, List.set_cons_zero, List.set_cons_succ, i64_w, i32_w]
                            rfl
                           refine pure_ (i := 2) (N := some 119) (v := ?_) (a' := ?_) fl9_3_ rfl rfl (any_of HT_.out (by kernel_rfl)) (fun _ _ _ h => h) (Or.inl ⟨by rfl, ?_⟩) ?_ ?_
                           rotate_left
                           ·intro w'
                            go_simp
                            with_reducible rfl
                           rotate_left
                           ·simp only [Act.put, List.setIfInBounds_toArray, List.set_cons_zero, List.set_cons_succ, i64_w, i32_w]
                            rfl
                           refine pure_ (i := 3) (N := some 120) (v := undef) (a' := ?_) fl9_4_ rfl rfl (any_of HT_.out (by kernel_rfl)) (fun _ _ _ h => h) (Or.inr ⟨by rfl, rfl⟩) ?_ ?_
                           rotate_left
                           ·simp only [Act.put, List.setIfInBounds_toArray, List.set_cons_zero, List.set_cons_succ, i64_w, i32_w]
                            rfl
                           refine pure_ (i := 4) (N := some 121) (v := undef) (a' := ?_) fl9_5_ rfl rfl (any_of HT_.out (by kernel_rfl)) (fun _ _ _ h => h) (Or.inr ⟨by rfl, rfl⟩) ?_ ?_
                           rotate_left
                           ·simp only [Act.put, List.setIfInBounds_toArray, List.set_cons_zero, List.set_cons_succ, i64_w, i32_w]
                            rfl
                           refine pure_ (i := 5) (N := some 122) (v := undef) (a' := ?_) fl9_6_ rfl rfl (any_of HT_.out (by kernel_rfl)) (fun _ _ _ h => h) (Or.inr ⟨by rfl, rfl⟩) ?_ ?_
                           rotate_left
                           ·simp only [Act.put, List.setIfInBounds_toArray, List.set_cons_zero, List.set_cons_succ, i64_w, i32_w]
                            rfl
                           refine pure_ (i := 6) (N := some 123) (v := undef) (a' := ?_) fl9_43_ rfl rfl (any_of HT_.out (by kernel_rfl)) (fun _ _ _ h => h) (Or.inr ⟨by rfl, rfl⟩) ?_ ?_
                           rotate_left
                           ·simp only [Act.put, List.setIfInBounds_toArray, List.set_cons_zero, List.set_cons_succ, i64_w, i32_w]
                            rfl
                           refine pure_ (i := 7) (N := some 124) (v := undef) (a' := ?_) fl9_8_ rfl rfl (any_of HT_.out (by kernel_rfl)) (fun _ _ _ h => h) (Or.inr ⟨by rfl, rfl⟩) ?_ ?_
                           rotate_left
                           ·simp only [Act.put, List.setIfInBounds_toArray, List.set_cons_zero, List.set_cons_succ, i64_w, i32_w]
                            rfl
                           refine pure_ (i := 8) (N := some 125) (v := undef) (a' := ?_) fl9_9_ rfl rfl (any_of HT_.out (by kernel_rfl)) (fun _ _ _ h => h) (Or.inr ⟨by rfl, rfl⟩) ?_ ?_
                           rotate_left
                           ·simp only [Act.put, List.setIfInBounds_toArray, List.set_cons_zero, List.set_cons_succ, i64_w, i32_w]
                            rfl
                           refine pure_ (i := 9) (N := some 126) (v := ?_) (a' := ?_) fl9_10_ rfl rfl (any_of HT_.out (by kernel_rfl)) (fun _ _ _ h => h) (Or.inl ⟨by rfl, ?_⟩) ?_ ?_
                           rotate_left
                           ·intro w'
                            go_simp
                            with_reducible rfl
                           rotate_left
                           ·simp only [Act.put, List.setIfInBounds_toArray, List.set_cons_zero, List.set_cons_succ, i64_w, i32_w]
                            rfl
                           refine pure_ (i := 10) (N := some 127) (v := ?_) (a' := ?_) fl9_11_ rfl rfl (any_of HT_.out (by kernel_rfl)) (fun _ _ _ h => h) (Or.inl ⟨by rfl, ?_⟩) ?_ ?_
                           rotate_left
                           ·intro w'
                            go_simp
                            with_reducible rfl
                           rotate_left
                           ·simp only [Act.put, List.setIfInBounds_toArray, List.set_cons_zero, List.set_cons_succ, i64_w, i32_w]
                            rfl
                           refine pure_ (i := 11) (N := some 128) (v := ?_) (a' := ?_) fl9_12_ rfl rfl (any_of HT_.out (by kernel_rfl)) (fun _ _ _ h => h) (Or.inl ⟨by rfl, ?_⟩) ?_ ?_
                           rotate_left
                           ·intro w'
                            go_simp
                            with_reducible rfl
                           rotate_left
                           ·simp only [Act.put, List.setIfInBounds_toArray, List.set_cons_zero, List.set_cons_succ, i64_w, i32_w]
                            rfl
                           refine pure_ (i := 12) (N := some 129) (v := ?_) (a' := ?_) fl9_13_ rfl rfl (any_of HT_.out (by kernel_rfl)) (fun _ _ _ h => h) (Or.inl ⟨by rfl, ?_⟩) ?_ ?_
                           rotate_left
                           ·intro w'
                            go_simp
                            with_reducible rfl
                           rotate_left
                           ·simp only [Act.put, List.setIfInBounds_toArray, List.set_cons_zero, List.set_cons_succ, i64_w, i32_w]
                            rfl
                           refine pure_ (i := 13) (N := some 130) (v := ?_) (a' := ?_) fl9_14_ rfl rfl (any_of HT_.out (by kernel_rfl)) (fun _ _ _ h => h) (Or.inl ⟨by rfl, ?_⟩) ?_ ?_
                           rotate_left
                           ·intro w'
                            go_simp
                            with_reducible rfl
                           rotate_left
                           ·simp only [Act.put, List.setIfInBounds_toArray, List.set_cons_zero, List.set_cons_succ, i64_w, i32_w]
                            rfl
                           refine pure_ (i := 14) (N := some 131) (v := ?_) (a' := ?_) fl9_15_ rfl rfl (any_of HT_.out (by kernel_rfl)) (fun _ _ _ h => h) (Or.inl ⟨by rfl, ?_⟩) ?_ ?_
                           rotate_left
                           ·intro w'
                            go_simp
                            with_reducible rfl
                           rotate_left
                           ·simp only [Act.put, List.setIfInBounds_toArray, List.set_cons_zero, List.set_cons_succ, i64_w, i32_w]
                            rfl
                           refine pure_ (i := 15) (N := some 132) (v := ?_) (a' := ?_) fl9_16_ rfl rfl (any_of HT_.out (by kernel_rfl)) (fun _ _ _ h => h) (Or.inl ⟨by rfl, ?_⟩) ?_ ?_
                           rotate_left
                           ·intro w'
                            go_simp
                            with_reducible rfl
                           rotate_left
                           ·simp only [Act.put, List.setIfInBounds_toArray, List.set_cons_zero, List.set_cons_succ, i64_w, i32_w]
                            rfl
                           refine pure_ (i := 16) (N := some 133) (v := ?_) (a' := ?_) fl9_17_ rfl rfl (any_of HT_.out (by kernel_rfl)) (fun _ _ _ h => h) (Or.inl ⟨by rfl, ?_⟩) ?_ ?_
                           rotate_left
                           ·intro w'
                            go_simp
                            with_reducible rfl
                           rotate_left
                           ·simp only [Act.put, List.setIfInBounds_toArray, List.set_cons_zero, List.set_cons_succ, i64_w, i32_w]
                            rfl
                           refine pure_ (i := 17) (N := some 134) (v := ?_) (a' := ?_) fl9_18_ rfl rfl (any_of HT_.out (by kernel_rfl)) (fun _ _ _ h => h) (Or.inl ⟨by rfl, ?_⟩) ?_ ?_
                           rotate_left
                           ·intro w'
                            go_simp
                            with_reducible rfl
                           rotate_left
                           ·simp only [Act.put, List.setIfInBounds_toArray, List.set_cons_zero, List.set_cons_succ, i64_w, i32_w]
                            rfl
                           refine pure_ (i := 19) (N := some 136) (v := ?_) (a' := ?_) fl9_19_ rfl rfl (any_of HT_.out (by kernel_rfl)) (fun _ _ _ h => h) (Or.inl ⟨by rfl, ?_⟩) ?_ ?_
                           rotate_left
                           ·intro w'
                            go_simp
                            with_reducible rfl
                           rotate_left
                           ·simp only [Act.put, List.setIfInBounds_toArray, List.set_cons_zero, List.set_cons_succ, i64_w, i32_w]
                            rfl
                           refine take_ (i := 18) (N := some 135) (v := ?_) (a' := ?_) fl9_20_ rfl rfl (take_ofW HT_.out HW_.out (by kernel_rfl)) (fun _ _ _ h => h) (Or.inl ⟨by rfl, ?_⟩) hHeld ?_ ?_
                           rotate_left
                           ·rintro w' ⟨s0, s1, s2, s3, s4, s5⟩
                            go_simp
                            with_reducible rfl
                           rotate_left
                           ·simp only [Act.put, List.setIfInBounds_toArray, List.set_cons_zero, List.set_cons_succ, i64_w, i32_w]
                            rfl
                           refine pure_ (i := 20) (N := some 137) (v := ?_) (a' := ?_) fl9_21_ rfl rfl (any_of HT_.out (by kernel_rfl)) (fun _ _ _ h => h) (Or.inl ⟨by rfl, ?_⟩) ?_ ?_
                           rotate_left
                           ·intro w'
                            go_simp
                            with_reducible rfl
                           rotate_left
                           ·simp only [Act.put, List.setIfInBounds_toArray, List.set_cons_zero, List.set_cons_succ, i64_w, i32_w]
                            rfl
                           refine pure_ (i := 21) (N := some 138) (v := ?_) (a' := ?_) fl9_22_ rfl rfl (any_of HT_.out (by kernel_rfl)) (fun _ _ _ h => h) (Or.inl ⟨by rfl, ?_⟩) ?_ ?_
                           rotate_left
                           ·intro w'
                            go_simp
                            with_reducible rfl
                           rotate_left
                           ·simp only [Act.put, List.setIfInBounds_toArray, List.set_cons_zero, List.set_cons_succ, i64_w, i32_w]
                            rfl
                           refine pure_ (i := 22) (N := some 139) (v := ?_) (a' := ?_) fl9_23_ rfl rfl (any_of HT_.out (by kernel_rfl)) (fun _ _ _ h => h) (Or.inl ⟨by rfl, ?_⟩) ?_ ?_
                           rotate_left
                           ·intro w'
                            go_simp
                            with_reducible rfl
                           rotate_left
                           ·simp only [Act.put, List.setIfInBounds_toArray, List.set_cons_zero, List.set_cons_succ, i64_w, i32_w]
                            rfl
                           refine pure_ (i := 23) (N := some 140) (v := ?_) (a' := ?_) fl9_24_ rfl rfl (any_of HT_.out (by kernel_rfl)) (fun _ _ _ h => h) (Or.inl ⟨by rfl, ?_⟩) ?_ ?_
                           rotate_left
                           ·intro w'
                            go_simp
                            with_reducible rfl
                           rotate_left
                           ·simp only [Act.put, List.setIfInBounds_toArray, List.set_cons_zero, List.set_cons_succ, i64_w, i32_w]
                            rfl
                           refine pure_ (i := 24) (N := some 141) (v := ?_) (a' := ?_) fl9_25_ rfl rfl (any_of HT_.out (by kernel_rfl)) (fun _ _ _ h => h) (Or.inl ⟨by rfl, ?_⟩) ?_ ?_
                           rotate_left
                           ·intro w'
                            go_simp
                            with_reducible rfl
                           rotate_left
                           ·simp only [Act.put, List.setIfInBounds_toArray, List.set_cons_zero, List.set_cons_succ, i64_w, i32_w]
                            rfl
                           refine pure_ (i := 25) (N := some 142) (v := ?_) (a' := ?_) fl9_26_ rfl rfl (any_of HT_.out (by kernel_rfl)) (fun _ _ _ h => h) (Or.inl ⟨by rfl, ?_⟩) ?_ ?_
                           rotate_left
                           ·intro w'
                            go_simp
                            with_reducible rfl
                           rotate_left
                           ·simp only [Act.put, List.setIfInBounds_toArray, List.set_cons_zero, List.set_cons_succ, i64_w, i32_w]
                            rfl
                           refine pure_ (i := 26) (N := some 143) (v := ?_) (a' := ?_) fl9_27_ rfl rfl (any_of HT_.out (by kernel_rfl)) (fun _ _ _ h => h) (Or.inl ⟨by rfl, ?_⟩) ?_ ?_
                           rotate_left
                           ·intro w'
                            go_simp
                            with_reducible rfl
                           rotate_left
                           ·simp only [Act.put, List.setIfInBounds_toArray, List.set_cons_zero, List.set_cons_succ, i64_w, i32_w]
                            rfl
                           refine pure_ (i := 28) (N := some 145) (v := ?_) (a' := ?_) fl9_44_ rfl rfl (any_of HT_.out (by kernel_rfl)) (fun _ _ _ h => h) (Or.inl ⟨by rfl, ?_⟩) ?_ ?_
                           rotate_left
                           ·intro w'
                            go_simp
                            with_reducible rfl
                           rotate_left
                           ·simp only [Act.put, List.setIfInBounds_toArray, List.set_cons_zero, List.set_cons_succ, i64_w, i32_w]
                            rfl
                           refine pure_ (i := 29) (N := some 146) (v := ?_) (a' := ?_) fl9_45_ rfl rfl (any_of HT_.out (by kernel_rfl)) (fun _ _ _ h => h) (Or.inl ⟨by rfl, ?_⟩) ?_ ?_
                           rotate_left
                           ·intro w'
                            go_simp
                            with_reducible rfl
                           rotate_left
                           ·simp only [Act.put, List.setIfInBounds_toArray, List.set_cons_zero, List.set_cons_succ, i64_w, i32_w]
                            rfl
                           refine pure_ (i := 30) (N := some 147) (v := ?_) (a' := ?_) fl9_46_ rfl rfl (any_of HT_.out (by kernel_rfl)) (fun _ _ _ h => h) (Or.inl ⟨by rfl, ?_⟩) ?_ ?_
                           rotate_left
                           ·intro w'
                            go_simp
                            with_reducible rfl
                           rotate_left
                           ·simp only [Act.put, List.setIfInBounds_toArray, List.set_cons_zero, List.set_cons_succ, i64_w, i32_w]
                            rfl
                           refine pure_ (i := 31) (N := some 148) (v := ?_) (a' := ?_) fl9_47_ rfl rfl (any_of HT_.out (by kernel_rfl)) (fun _ _ _ h => h) (Or.inl ⟨by rfl, ?_⟩) ?_ ?_
                           rotate_left
                           ·intro w'
                            go_simp
                            with_reducible rfl
                           rotate_left
                           ·simp only [Act.put, List.setIfInBounds_toArray, List.set_cons_zero, List.set_cons_succ, i64_w, i32_w]
                            rfl
                           refine pure_ (i := 33) (N := some 150) (v := ?_) (a' := ?_) fl9_48_ rfl rfl (any_of HT_.out (by kernel_rfl)) (fun _ _ _ h => h) (Or.inl ⟨by rfl, ?_⟩) ?_ ?_
                           rotate_left
                           ·intro w'
                            go_simp
                            with_reducible rfl
                           rotate_left
                           ·simp only [Act.put, List.setIfInBounds_toArray, List.set_cons_zero, List.set_cons_succ, i64_w, i32_w]
                            rfl
                           refine pure_ (i := 34) (N := some 151) (v := ?_) (a' := ?_) fl9_49_ rfl rfl (any_of HT_.out (by kernel_rfl)) (fun _ _ _ h => h) (Or.inl ⟨by rfl, ?_⟩) ?_ ?_
                           rotate_left
                           ·intro w'
                            go_simp
                            with_reducible rfl
                           rotate_left
                           ·simp only [Act.put, List.setIfInBounds_toArray, List.set_cons_zero, List.set_cons_succ, i64_w, i32_w]
                            rfl
                           refine pure_ (i := 35) (N := some 152) (v := ?_) (a' := ?_) fl9_50_ rfl rfl (any_of HT_.out (by kernel_rfl)) (fun _ _ _ h => h) (Or.inl ⟨by rfl, ?_⟩) ?_ ?_
                           rotate_left
                           ·intro w'
                            go_simp
                            with_reducible rfl
                           rotate_left
                           ·simp only [Act.put, List.setIfInBounds_toArray, List.set_cons_zero, List.set_cons_succ, i64_w, i32_w]
                            rfl
                           refine take_ (i := 27) (N := some 144) (v := ?_) (a' := ?_) fl9_51_ rfl rfl (take_ofW HT_.out HW_.out (by kernel_rfl)) (fun _ _ _ h => h) (Or.inl ⟨by rfl, ?_⟩) hHeld ?_ ?_
                           rotate_left
                           ·rintro w' ⟨s0, s1, s2, s3, s4, s5⟩
                            go_simp
                            with_reducible rfl
                           rotate_left
                           ·simp only [Act.put, List.setIfInBounds_toArray, List.set_cons_zero, List.set_cons_succ, i64_w, i32_w]
                            rfl
                           refine take_ (i := 32) (N := some 149) (v := ?_) (a' := ?_) fl9_36_ rfl rfl (take_ofW HT_.out HW_.out (by kernel_rfl)) (fun _ _ _ h => h) (Or.inl ⟨by rfl, ?_⟩) hHeld ?_ ?_
                           rotate_left
                           ·rintro w' ⟨s0, s1, s2, s3, s4, s5⟩
                            go_simp
                            with_reducible rfl
                           rotate_left
                           ·simp only [Act.put, List.setIfInBounds_toArray, List.set_cons_zero, List.set_cons_succ, i64_w, i32_w]
                            rfl
                           refine take_ (i := 36) (N := some 153) (v := ?_) (a' := ?_) fl9_37_ rfl rfl (take_ofW HT_.out HW_.out (by kernel_rfl)) (fun _ _ _ h => h) (Or.inl ⟨by rfl, ?_⟩) hHeld ?_ ?_
                           rotate_left
                           ·rintro w' ⟨s0, s1, s2, s3, s4, s5⟩
                            go_simp
                            with_reducible rfl
                           rotate_left
                           ·simp only [Act.put, List.setIfInBounds_toArray, List.set_cons_zero, List.set_cons_succ, i64_w, i32_w]
                            rfl
                           refine one_ (i := 37) (N := some 154) fl9_38_ rfl rfl (one_of HT_.out (by kernel_rfl)) (by decide) (fun K hK => ?_)
                           refine goes_ Try.func24 (by kernel_rfl) rfl #[.agg #[.int .i64 t340, .int .i64 t341, .string t342], .int .i64 (rd t359 (ji78)), .int .i64 (rd t359 x13_2)] (by rfl) rfl rfl (by (try simp only [List.map_toArray, List.map_cons, List.map_nil]); first | done | (simp only [hji78]; rfl) | rfl | (simp only [List.length_drop, List.length_take]; rfl)) ?_
                           with_reducible refine (impl_Beside.calls k2 t340 t341 t342 (rd t359 (ji78)) (rd t359 x13_2) true _ A81.out).mono ?_
                           rintro e w85 ⟨rfl, hb⟩
                           have HS3_ := (hb.cell (World.block_lt_of_cell? _ _ (hHeld.2.2.2.1))).trans (hHeld.2.2.2.1)
                           have HS4_ := (hb.cell (World.block_lt_of_cell? _ _ (hHeld.2.2.2.2.1))).trans (hHeld.2.2.2.2.1)
                           have HS5_ := (hb.cell (World.block_lt_of_cell? _ _ (hHeld.2.2.2.2.2))).trans (hHeld.2.2.2.2.2)
                           refine ⟨_, rfl, ?_⟩
                           have n0_ := Aside0.mk (Kd.R_below (by (with_reducible repeat (first | apply Kd.R_alloc | apply Kd.R_drewN | apply Kd.R_drew)); exact HO_12.out) hb)
                           have n1_ := Aside0.mk (blk_below (g := gb346) (o := .cells #[.int .i64 t340, .int .i64 t341, .string t342] 27 (0, 0)) (by (with_reducible repeat (first | refine blk_drewN ?_ _ | refine blk_drew ?_ | refine blk_alloc ?_ _)); exact BK346.out) hb)
                           have n2_ := Aside0.mk (below_step (by repeat (first | (with_reducible first | exact HB.out | apply below_alloc | apply pw_below_drewN | apply below_drew1 | refine below_set ?_ GE346.out) | exact HB.out)) hb)
                           clear HO_12
                           clear BK346
                           clear HB
                           have HO_12 := n0_
                           have BK346 := n1_
                           have HB := n2_
                           clear n0_ n1_ n2_
                           (try clear hb)
                           (try clear hb2)
                           (try clear hk)
                           (try clear hi)
                           refine hK.out _ _ ⟨(blk_cell BK346.out 0).trans rfl, (blk_cell BK346.out 1).trans rfl, (blk_cell BK346.out 2).trans rfl, HS3_, HS4_, HS5_⟩ (fun hHeld => ?_)
                           clear hK K
                           refine norm_ (a' := ?_) ?_ ?_
                           rotate_left
                           ·show Act.put _ (some 154) _ = _
                            simp only [Act.put, List.setIfInBounds_toArray, List.set_cons_zero, List.set_cons_succ, i64_w, i32_w]
                            rfl
                           refine pure_ (i := 38) (N := some 155) (v := ?_) (a' := ?_) fl9_39_ rfl rfl (any_of HT_.out (by kernel_rfl)) (fun _ _ _ h => h) (Or.inl ⟨by rfl, ?_⟩) ?_ ?_
                           rotate_left
                           ·intro w'
                            go_simp
                            with_reducible rfl
                           rotate_left
                           ·simp only [Act.put, List.setIfInBounds_toArray, List.set_cons_zero, List.set_cons_succ, i64_w, i32_w]
                            rfl
                           refine pure_ (i := 39) (N := some 156) (v := ?_) (a' := ?_) fl9_40_ rfl rfl (any_of HT_.out (by kernel_rfl)) (fun _ _ _ h => h) (Or.inl ⟨by rfl, ?_⟩) ?_ ?_
                           rotate_left
                           ·intro w'
                            go_simp
                            with_reducible rfl
                           rotate_left
                           ·simp only [Act.put, List.setIfInBounds_toArray, List.set_cons_zero, List.set_cons_succ, i64_w, i32_w]
                            rfl
                           refine pure_ (i := 40) (N := some 157) (v := ?_) (a' := ?_) fl9_41_ rfl rfl (any_of HT_.out (by kernel_rfl)) (fun _ _ _ h => h) (Or.inl ⟨by rfl, ?_⟩) ?_ ?_
                           rotate_left
                           ·intro w'
                            go_simp
                            with_reducible rfl
                           rotate_left
                           ·simp only [Act.put, List.setIfInBounds_toArray, List.set_cons_zero, List.set_cons_succ, i64_w, i32_w]
                            rfl
                           refine done_ (done_of HT_.out (by kernel_rfl)) ?_
                           try go_wp2
                           go_roundg k2
                           case measure => have := HJ27.out; have := HK2.out; omega
                           case rel => exact ⟨(wrap64 (x13_2 + 1)), (by first | rfl | (simp; done) | (simp [*]; done)), H', ⟨by have := HJ27.out; have := HK2.out; omega⟩, ⟨by (with_reducible repeat (first | apply Kd.R_alloc | apply Kd.R_drewN | apply Kd.R_drew)); exact HO_12.out⟩, ⟨by (with_reducible repeat (first | refine blk_drewN ?_ _ | refine blk_drew ?_ | refine blk_alloc ?_ _)); exact BK346.out⟩, ⟨by repeat (first | (with_reducible first | exact HB.out | apply below_alloc | apply pw_below_drewN | apply below_drew1 | refine below_set ?_ GE346.out) | exact HB.out)⟩⟩
                          ·replace c82 := Bool.eq_false_iff.mpr c82
                           subst c82
                           have H1 : (some false) = some r := by rw [if_neg (show ¬ (false = true) by decide)] at H; exact H
                           clear H
                           have H := H1
                           clear H1
                           exact absurd (Option.some.inj H) (by rw [ht_.out]; simp)
                         ·rw [if_neg c80] at H
                          exact absurd H (by simp)
                        ·rw [if_neg c79] at H
                         exact absurd H (by simp)
                       ·rw [if_neg c77] at H
                        exact (c63 (Int.le_antisymm (Int.not_lt.mp c77) (by first | exact of_eq_true c75b0 | exact of_decide_eq_true c75b0))).elim
                      ·rw [if_neg c76] at H
                       have c76b0 : ((rd t359 x13_2) == (rd t343 (ji17))) = false := beq_eq_false_iff_ne.mpr c76
                       have c76b1 : ((rd t359 x13_2) != (rd t343 (ji17))) = true := bne_iff_ne.mpr c76
                       exact absurd (Option.some.inj H) (by rw [ht_.out]; simp)
                     ·rw [if_neg c75] at H
                      exact absurd H (by simp)
                    ·rw [if_neg c74] at H
                     have c74b0 : (x13_2 == t356) = false := beq_eq_false_iff_ne.mpr c74
                     have c74b1 : (x13_2 != t356) = true := bne_iff_ne.mpr c74
                     by_cases c86 : x13_2 > 0
                     ·rw [if_pos c86] at H
                      have c86b0 : decide (0 < x13_2) = true := decide_eq_true c86
                      clear c86
                      obtain ⟨ji87, hji87⟩ : ∃ j_ : Int, (wrap64 (x13_2 - 1)) = j_ := ⟨_, rfl⟩
                      replace H : (if 0 ≤ (ji87) then (if (ji87) < (t359.length : Int) then (if 0 ≤ x13_2 then ((impl_Beside.f k2 t340 t341 t342 (rd t359 (ji87)) (rd t359 x13_2)).bind fun t377 => (if t377 = true then (laws_FnSteps.l0 k2 (rd t343 (ji13)) (rd t343 (ji17)) (rd t343 (ji21)) t356 t358 t359 (wrap64 (x13_2 + 1)) t340 t341 t342) else (some false))) else (none)) else (none)) else (none)) = some r := by first | (rw [hji87] at H; exact H) | (simp only [hji87] at H ⊢; exact H)
                      have hji87w : (IntKind.i64.wrap (x13_2 - 1)) = ji87 := (i64_w _).trans hji87
                      by_cases c88 : 0 ≤ (ji87)
                      ·rw [if_pos c88] at H
                       have c88b0 : decide (0 ≤ (ji87)) = true := decide_eq_true c88
                       clear c88
                       by_cases c89 : (ji87) < (t359.length : Int)
                       ·rw [if_pos c89] at H
                        have c89b0 : decide ((ji87) < (t359.length : Int)) = true := decide_eq_true c89
                        clear c89
                        by_cases c90 : 0 ≤ x13_2
                        ·rw [if_pos c90] at H
                         have c90b0 : decide (0 ≤ x13_2) = true := decide_eq_true c90
                         clear c90
                         replace H := Option.bind_eq_some_iff.mp H
                         obtain ⟨t377, A910, H⟩ := H
                         replace H : (if t377 = true then (laws_FnSteps.l0 k2 (rd t343 (ji13)) (rd t343 (ji17)) (rd t343 (ji21)) t356 t358 t359 (wrap64 (x13_2 + 1)) t340 t341 t342) else (some false)) = some r := H
                         have A91 := Aside0.mk A910
                         clear A910
                         by_cases c92 : t377 = true
                         ·subst c92
                          have H1 : (laws_FnSteps.l0 k2 (rd t343 (ji13)) (rd t343 (ji17)) (rd t343 (ji21)) t356 t358 t359 (wrap64 (x13_2 + 1)) t340 t341 t342) = some r := by rw [if_pos rfl] at H; exact H
                          clear H
                          have H := H1
                          clear H1
                          have H' := Aside0.mk H
                          clear H
                          obtain ⟨Ao93, co93, eo93⟩ := Kd.R_slice HO_12.out
                          subst eo93
                          try go_wp2
                          have n0_ := Aside0.mk (Kd.R_drew HO_12.out)
                          have n1_ := Aside0.mk (blk_drew BK346.out)
                          have n2_ := Aside0.mk (below_drew1 HB.out)
                          clear HO_12
                          clear BK346
                          clear HB
                          have HO_12 := n0_
                          have BK346 := n1_
                          have HB := n2_
                          clear n0_ n1_ n2_
                          have p375 : 0 ≤ ((ji87) : Int) := of_decide_eq_true (by first | (with_reducible assumption) | assumption)
                          have q375 : (ji87) < (t359.length : Int) := of_decide_eq_true (by first | (with_reducible assumption) | assumption)
                          obtain ⟨ad375, e375, hx375_0⟩ := Kd.at_int (Kd.R_reads' HO_12.out).2.2 (ji87) p375 q375
                          cases e375
                          replace p375 := eq_true p375
                          replace q375 := eq_true q375
                          have p376 : 0 ≤ (x13_2 : Int) := of_decide_eq_true (by first | (with_reducible assumption) | assumption)
                          have q376 : x13_2 < (t359.length : Int) := of_decide_eq_true (by first | (with_reducible assumption) | assumption)
                          obtain ⟨ad376, e376, hx376_0⟩ := Kd.at_int (Kd.R_reads' HO_12.out).2.2 x13_2 p376 q376
                          obtain rfl : ad375 = ad376 := (by injection e376)
                          replace p376 := eq_true p376
                          replace q376 := eq_true q376
                          refine start_ (n := 41) (S := fun w' => w'.cell? ⟨gb346, 0, none⟩ = some (.int .i64 t340) ∧ w'.cell? ⟨gb346, 1, none⟩ = some (.int .i64 t341) ∧ w'.cell? ⟨gb346, 2, none⟩ = some (.string t342) ∧ w'.cell? (ad375.add ((ji87)).toNat) = some (.int .i64 (rd t359 (ji87))) ∧ w'.cell? (ad375.add (x13_2).toNat) = some (.int .i64 (rd t359 x13_2))) (ds := []) fl9_0_ (by kernel_rfl) rfl rfl ⟨(blk_cell BK346.out 0).trans rfl, (blk_cell BK346.out 1).trans rfl, (blk_cell BK346.out 2).trans rfl, hx375_0, hx376_0⟩ (fun hHeld => ?_); refine with_tabW laws_FnSteps.tab19 laws_FnSteps.bits19 (fun HT_ HW_ => ?_)
                          generalize wr.drew = w94 at HO_12 BK346 HB hx375_0 hx376_0 hHeld ⊢
                          refine pure_ (i := 0) (N := some 117) (v := ?_) (a' := ?_) fl9_1_ rfl rfl (any_of HT_.out (by kernel_rfl)) (fun _ _ _ h => h) (Or.inl ⟨by rfl, ?_⟩) ?_ ?_
                          rotate_left
                          ·intro w'
                           go_simp
                           with_reducible rfl
                          rotate_left
                          ·simp only [Act.put, List.setIfInBounds_toArray, List.set_cons_zero, List.set_cons_succ, i64_w, i32_w]
                           rfl
                          refine pure_ (i := 1) (N := some 118) (v := ?_) (a' := ?_) fl9_2_ rfl rfl (any_of HT_.out (by kernel_rfl)) (fun _ _ _ h => h) (Or.inl ⟨by rfl, ?_⟩) ?_ ?_
                          rotate_left
                          ·intro w'
                           go_simp
                           with_reducible rfl
                          rotate_left
                          ·simp only [Act.put, List.setIfInBounds_toArray, List.set_cons_zero, List.set_cons_succ, i64_w, i32_w]
                           rfl
                          refine pure_ (i := 2) (N := some 119) (v := ?_) (a' := ?_) fl9_3_ rfl rfl (any_of HT_.out (by kernel_rfl)) (fun _ _ _ h => h) (Or.inl ⟨by rfl, ?_⟩) ?_ ?_
                          rotate_left
                          ·intro w'
                           go_simp
                           with_reducible rfl
                          rotate_left
                          ·simp only [Act.put, List.setIfInBounds_toArray, List.set_cons_zero, List.set_cons_succ, i64_w, i32_w]
                           rfl
                          refine pure_ (i := 3) (N := some 120) (v := undef) (a' := ?_) fl9_4_ rfl rfl (any_of HT_.out (by kernel_rfl)) (fun _ _ _ h => h) (Or.inr ⟨by rfl, rfl⟩) ?_ ?_
                          rotate_left
                          ·simp only [Act.put, List.setIfInBounds_toArray, List.set_cons_zero, List.set_cons_succ, i64_w, i32_w]
                           rfl
                          refine pure_ (i := 4) (N := some 121) (v := undef) (a' := ?_) fl9_5_ rfl rfl (any_of HT_.out (by kernel_rfl)) (fun _ _ _ h => h) (Or.inr ⟨by rfl, rfl⟩) ?_ ?_
                          rotate_left
                          ·simp only [Act.put, List.setIfInBounds_toArray, List.set_cons_zero, List.set_cons_succ, i64_w, i32_w]
                           rfl
                          refine pure_ (i := 5) (N := some 122) (v := undef) (a' := ?_) fl9_6_ rfl rfl (any_of HT_.out (by kernel_rfl)) (fun _ _ _ h => h) (Or.inr ⟨by rfl, rfl⟩) ?_ ?_
                          rotate_left
                          ·simp only [Act.put, List.setIfInBounds_toArray, List.set_cons_zero, List.set_cons_succ, i64_w, i32_w]
                           rfl
                          refine pure_ (i := 6) (N := some 123) (v := undef) (a' := ?_) fl9_43_ rfl rfl (any_of HT_.out (by kernel_rfl)) (fun _ _ _ h => h) (Or.inr ⟨by rfl, rfl⟩) ?_ ?_
                          rotate_left
                          ·simp only [Act.put, List.setIfInBounds_toArray, List.set_cons_zero, List.set_cons_succ, i64_w, i32_w]
                           rfl
                          refine pure_ (i := 7) (N := some 124) (v := undef) (a' := ?_) fl9_8_ rfl rfl (any_of HT_.out (by kernel_rfl)) (fun _ _ _ h => h) (Or.inr ⟨by rfl, rfl⟩) ?_ ?_
                          rotate_left
                          ·simp only [Act.put, List.setIfInBounds_toArray, List.set_cons_zero, List.set_cons_succ, i64_w, i32_w]
                           rfl
                          refine pure_ (i := 8) (N := some 125) (v := undef) (a' := ?_) fl9_9_ rfl rfl (any_of HT_.out (by kernel_rfl)) (fun _ _ _ h => h) (Or.inr ⟨by rfl, rfl⟩) ?_ ?_
                          rotate_left
                          ·simp only [Act.put, List.setIfInBounds_toArray, List.set_cons_zero, List.set_cons_succ, i64_w, i32_w]
                           rfl
                          refine pure_ (i := 9) (N := some 126) (v := ?_) (a' := ?_) fl9_10_ rfl rfl (any_of HT_.out (by kernel_rfl)) (fun _ _ _ h => h) (Or.inl ⟨by rfl, ?_⟩) ?_ ?_
                          rotate_left
                          ·intro w'
                           go_simp
                           with_reducible rfl
                          rotate_left
                          ·simp only [Act.put, List.setIfInBounds_toArray, List.set_cons_zero, List.set_cons_succ, i64_w, i32_w]
                           rfl
                          refine pure_ (i := 10) (N := some 127) (v := ?_) (a' := ?_) fl9_11_ rfl rfl (any_of HT_.out (by kernel_rfl)) (fun _ _ _ h => h) (Or.inl ⟨by rfl, ?_⟩) ?_ ?_
                          rotate_left
                          ·intro w'
                           go_simp
                           with_reducible rfl
                          rotate_left
                          ·simp only [Act.put, List.setIfInBounds_toArray, List.set_cons_zero, List.set_cons_succ, i64_w, i32_w]
                           rfl
                          refine pure_ (i := 11) (N := some 128) (v := ?_) (a' := ?_) fl9_12_ rfl rfl (any_of HT_.out (by kernel_rfl)) (fun _ _ _ h => h) (Or.inl ⟨by rfl, ?_⟩) ?_ ?_
                          rotate_left
                          ·intro w'
                           go_simp
                           with_reducible rfl
                          rotate_left
                          ·simp only [Act.put, List.setIfInBounds_toArray, List.set_cons_zero, List.set_cons_succ, i64_w, i32_w]
                           rfl
                          refine pure_ (i := 12) (N := some 129) (v := ?_) (a' := ?_) fl9_13_ rfl rfl (any_of HT_.out (by kernel_rfl)) (fun _ _ _ h => h) (Or.inl ⟨by rfl, ?_⟩) ?_ ?_
                          rotate_left
                          ·intro w'
                           go_simp
                           with_reducible rfl
                          rotate_left
                          ·simp only [Act.put, List.setIfInBounds_toArray, List.set_cons_zero, List.set_cons_succ, i64_w, i32_w]
                           rfl
                          refine pure_ (i := 13) (N := some 130) (v := ?_) (a' := ?_) fl9_14_ rfl rfl (any_of HT_.out (by kernel_rfl)) (fun _ _ _ h => h) (Or.inl ⟨by rfl, ?_⟩) ?_ ?_
                          rotate_left
                          ·intro w'
                           go_simp
                           with_reducible rfl
                          rotate_left
                          ·simp only [Act.put, List.setIfInBounds_toArray, List.set_cons_zero, List.set_cons_succ, i64_w, i32_w]
                           rfl
                          refine pure_ (i := 14) (N := some 131) (v := ?_) (a' := ?_) fl9_15_ rfl rfl (any_of HT_.out (by kernel_rfl)) (fun _ _ _ h => h) (Or.inl ⟨by rfl, ?_⟩) ?_ ?_
                          rotate_left
                          ·intro w'
                           go_simp
                           with_reducible rfl
                          rotate_left
                          ·simp only [Act.put, List.setIfInBounds_toArray, List.set_cons_zero, List.set_cons_succ, i64_w, i32_w]
                           rfl
                          refine pure_ (i := 15) (N := some 132) (v := undef) (a' := ?_) fl9_16_ rfl rfl (any_of HT_.out (by kernel_rfl)) (fun _ _ _ h => h) (Or.inr ⟨by rfl, rfl⟩) ?_ ?_
                          rotate_left
                          ·simp only [Act.put, List.setIfInBounds_toArray, List.set_cons_zero, List.set_cons_succ, i64_w, i32_w]
                           rfl
                          refine pure_ (i := 16) (N := some 133) (v := undef) (a' := ?_) fl9_17_ rfl rfl (any_of HT_.out (by kernel_rfl)) (fun _ _ _ h => h) (Or.inr ⟨by rfl, rfl⟩) ?_ ?_
                          rotate_left
                          ·simp only [Act.put, List.setIfInBounds_toArray, List.set_cons_zero, List.set_cons_succ, i64_w, i32_w]
                           rfl
                          refine pure_ (i := 17) (N := some 134) (v := undef) (a' := ?_) fl9_18_ rfl rfl (any_of HT_.out (by kernel_rfl)) (fun _ _ _ h => h) (Or.inr ⟨by rfl, rfl⟩) ?_ ?_
                          rotate_left
                          ·simp only [Act.put, List.setIfInBounds_toArray, List.set_cons_zero, List.set_cons_succ, i64_w, i32_w]
                           rfl
                          refine pure_ (i := 18) (N := some 135) (v := undef) (a' := ?_) fl9_42_ rfl rfl (any_of HT_.out (by kernel_rfl)) (fun _ _ _ h => h) (Or.inr ⟨by rfl, rfl⟩) ?_ ?_
                          rotate_left
                          ·simp only [Act.put, List.setIfInBounds_toArray, List.set_cons_zero, List.set_cons_succ, i64_w, i32_w]
                           rfl
                          refine pure_ (i := 19) (N := some 136) (v := undef) (a' := ?_) fl9_20_ rfl rfl (any_of HT_.out (by kernel_rfl)) (fun _ _ _ h => h) (Or.inr ⟨by rfl, rfl⟩) ?_ ?_
                          rotate_left
                          ·simp only [Act.put, List.setIfInBounds_toArray, List.set_cons_zero, List.set_cons_succ, i64_w, i32_w]
                           rfl
                          refine pure_ (i := 20) (N := some 137) (v := undef) (a' := ?_) fl9_21_ rfl rfl (any_of HT_.out (by kernel_rfl)) (fun _ _ _ h => h) (Or.inr ⟨by rfl, rfl⟩) ?_ ?_
                          rotate_left
                          ·simp only [Act.put, List.setIfInBounds_toArray, List.set_cons_zero, List.set_cons_succ, i64_w, i32_w]
                           rfl
                          refine pure_ (i := 21) (N := some 138) (v := ?_) (a' := ?_) fl9_22_ rfl rfl (any_of HT_.out (by kernel_rfl)) (fun _ _ _ h => h) (Or.inl ⟨by rfl, ?_⟩) ?_ ?_
                          rotate_left
                          ·intro w'
                           go_simp
                           with_reducible rfl
                          rotate_left
                          ·simp only [Act.put, List.setIfInBounds_toArray, List.set_cons_zero, List.set_cons_succ, i64_w, i32_w]
                           rfl
                          refine pure_ (i := 22) (N := some 139) (v := ?_) (a' := ?_) fl9_23_ rfl rfl (any_of HT_.out (by kernel_rfl)) (fun _ _ _ h => h) (Or.inl ⟨by rfl, ?_⟩) ?_ ?_
                          rotate_left
                          ·intro w'
                           go_simp
                           with_reducible rfl
                          rotate_left
                          ·simp only [Act.put, List.setIfInBounds_toArray, List.set_cons_zero, List.set_cons_succ, i64_w, i32_w]
                           rfl
                          refine pure_ (i := 23) (N := some 140) (v := ?_) (a' := ?_) fl9_24_ rfl rfl (any_of HT_.out (by kernel_rfl)) (fun _ _ _ h => h) (Or.inl ⟨by rfl, ?_⟩) ?_ ?_
                          rotate_left
                          ·intro w'
                           go_simp
                           with_reducible rfl
                          rotate_left
                          ·simp only [Act.put, List.setIfInBounds_toArray, List.set_cons_zero, List.set_cons_succ, i64_w, i32_w]
                           rfl
                          refine pure_ (i := 24) (N := some 141) (v := ?_) (a' := ?_) fl9_25_ rfl rfl (any_of HT_.out (by kernel_rfl)) (fun _ _ _ h => h) (Or.inl ⟨by rfl, ?_⟩) ?_ ?_
                          rotate_left
                          ·intro w'
                           go_simp
                           with_reducible rfl
                          rotate_left
                          ·simp only [Act.put, List.setIfInBounds_toArray, List.set_cons_zero, List.set_cons_succ, i64_w, i32_w]
                           rfl
                          refine pure_ (i := 25) (N := some 142) (v := ?_) (a' := ?_) fl9_26_ rfl rfl (any_of HT_.out (by kernel_rfl)) (fun _ _ _ h => h) (Or.inl ⟨by rfl, ?_⟩) ?_ ?_
                          rotate_left
                          ·intro w'
                           go_simp
                           with_reducible rfl
                          rotate_left
                          ·simp only [Act.put, List.setIfInBounds_toArray, List.set_cons_zero, List.set_cons_succ, i64_w, i32_w]
                           rfl
                          refine pure_ (i := 26) (N := some 143) (v := ?_) (a' := ?_) fl9_27_ rfl rfl (any_of HT_.out (by kernel_rfl)) (fun _ _ _ h => h) (Or.inl ⟨by rfl, ?_⟩) ?_ ?_
                          rotate_left
                          ·intro w'
                           go_simp
                           with_reducible rfl
                          rotate_left
                          ·simp only [Act.put, List.setIfInBounds_toArray, List.set_cons_zero, List.set_cons_succ, i64_w, i32_w]
                           rfl
                          refine pure_ (i := 28) (N := some 145) (v := ?_) (a' := ?_) fl9_44_ rfl rfl (any_of HT_.out (by kernel_rfl)) (fun _ _ _ h => h) (Or.inl ⟨by rfl, ?_⟩) ?_ ?_
                          rotate_left
                          ·intro w'
                           go_simp
                           with_reducible rfl
                          rotate_left
                          ·simp only [Act.put, List.setIfInBounds_toArray, List.set_cons_zero, List.set_cons_succ, i64_w, i32_w]
                           rfl
                          refine pure_ (i := 29) (N := some 146) (v := ?_) (a' := ?_) fl9_45_ rfl rfl (any_of HT_.out (by kernel_rfl)) (fun _ _ _ h => h) (Or.inl ⟨by rfl, ?_⟩) ?_ ?_
                          rotate_left
                          ·intro w'
                           go_simp
                           with_reducible rfl
                          rotate_left
                          ·simp only [Act.put, List.setIfInBounds_toArray, List.set_cons_zero, List.set_cons_succ, i64_w, i32_w]
                           rfl
                          refine pure_ (i := 30) (N := some 147) (v := ?_) (a' := ?_) fl9_46_ rfl rfl (any_of HT_.out (by kernel_rfl)) (fun _ _ _ h => h) (Or.inl ⟨by rfl, ?_⟩) ?_ ?_
                          rotate_left
                          ·intro w'
                           go_simp
                           with_reducible rfl
                          rotate_left
                          ·simp only [Act.put, List.setIfInBounds_toArray, List.set_cons_zero, List.set_cons_succ, i64_w, i32_w]
                           rfl
                          refine pure_ (i := 31) (N := some 148) (v := ?_) (a' := ?_) fl9_47_ rfl rfl (any_of HT_.out (by kernel_rfl)) (fun _ _ _ h => h) (Or.inl ⟨by rfl, ?_⟩) ?_ ?_
                          rotate_left
                          ·intro w'
                           go_simp
                           with_reducible rfl
                          rotate_left
                          ·simp only [Act.put, List.setIfInBounds_toArray, List.set_cons_zero, List.set_cons_succ, i64_w, i32_w]
                           rfl
                          refine pure_ (i := 33) (N := some 150) (v := ?_) (a' := ?_) fl9_48_ rfl rfl (any_of HT_.out (by kernel_rfl)) (fun _ _ _ h => h) (Or.inl ⟨by rfl, ?_⟩) ?_ ?_
                          rotate_left
                          ·intro w'
                           go_simp
                           with_reducible rfl
                          rotate_left
                          ·simp only [Act.put, List.setIfInBounds_toArray, List.set_cons_zero, List.set_cons_succ, i64_w, i32_w]
                           rfl
                          refine pure_ (i := 34) (N := some 151) (v := ?_) (a' := ?_) fl9_49_ rfl rfl (any_of HT_.out (by kernel_rfl)) (fun _ _ _ h => h) (Or.inl ⟨by rfl, ?_⟩) ?_ ?_
                          rotate_left
                          ·intro w'
                           go_simp
                           with_reducible rfl
                          rotate_left
                          ·simp only [Act.put, List.setIfInBounds_toArray, List.set_cons_zero, List.set_cons_succ, i64_w, i32_w]
                           rfl
                          refine pure_ (i := 35) (N := some 152) (v := ?_) (a' := ?_) fl9_50_ rfl rfl (any_of HT_.out (by kernel_rfl)) (fun _ _ _ h => h) (Or.inl ⟨by rfl, ?_⟩) ?_ ?_
                          rotate_left
                          ·intro w'
                           go_simp
                           with_reducible rfl
                          rotate_left
                          ·simp only [Act.put, List.setIfInBounds_toArray, List.set_cons_zero, List.set_cons_succ, i64_w, i32_w]
                           rfl
                          refine take_ (i := 27) (N := some 144) (v := ?_) (a' := ?_) fl9_51_ rfl rfl (take_ofW HT_.out HW_.out (by kernel_rfl)) (fun _ _ _ h => h) (Or.inl ⟨by rfl, ?_⟩) hHeld ?_ ?_
                          rotate_left
                          ·rintro w' ⟨s0, s1, s2, s3, s4⟩
                           go_simp
                           with_reducible rfl
                          rotate_left
                          ·simp only [Act.put, List.setIfInBounds_toArray, List.set_cons_zero, List.set_cons_succ, i64_w, i32_w]
                           rfl
                          refine take_ (i := 32) (N := some 149) (v := ?_) (a' := ?_) fl9_36_ rfl rfl (take_ofW HT_.out HW_.out (by kernel_rfl)) (fun _ _ _ h => h) (Or.inl ⟨by rfl, ?_⟩) hHeld ?_ ?_
                          rotate_left
                          ·rintro w' ⟨s0, s1, s2, s3, s4⟩
                           go_simp
                           with_reducible rfl
                          rotate_left
                          ·simp only [Act.put, List.setIfInBounds_toArray, List.set_cons_zero, List.set_cons_succ, i64_w, i32_w]
                           rfl
                          refine take_ (i := 36) (N := some 153) (v := ?_) (a' := ?_) fl9_37_ rfl rfl (take_ofW HT_.out HW_.out (by kernel_rfl)) (fun _ _ _ h => h) (Or.inl ⟨by rfl, ?_⟩) hHeld ?_ ?_
                          rotate_left
                          ·rintro w' ⟨s0, s1, s2, s3, s4⟩
                           go_simp
                           with_reducible rfl
                          rotate_left
                          ·simp only [Act.put, List.setIfInBounds_toArray, List.set_cons_zero, List.set_cons_succ, i64_w, i32_w]
                           rfl
                          refine one_ (i := 37) (N := some 154) fl9_38_ rfl rfl (one_of HT_.out (by kernel_rfl)) (by decide) (fun K hK => ?_)
                          refine goes_ Try.func24 (by kernel_rfl) rfl #[.agg #[.int .i64 t340, .int .i64 t341, .string t342], .int .i64 (rd t359 (ji87)), .int .i64 (rd t359 x13_2)] (by rfl) rfl rfl (by (try simp only [List.map_toArray, List.map_cons, List.map_nil]); first | done | (simp only [hji87]; rfl) | rfl | (simp only [List.length_drop, List.length_take]; rfl)) ?_
                          with_reducible refine (impl_Beside.calls k2 t340 t341 t342 (rd t359 (ji87)) (rd t359 x13_2) true _ A91.out).mono ?_
                          rintro e w95 ⟨rfl, hb⟩
                          have HS3_ := (hb.cell (World.block_lt_of_cell? _ _ (hHeld.2.2.2.1))).trans (hHeld.2.2.2.1)
                          have HS4_ := (hb.cell (World.block_lt_of_cell? _ _ (hHeld.2.2.2.2))).trans (hHeld.2.2.2.2)
                          refine ⟨_, rfl, ?_⟩
                          have n0_ := Aside0.mk (Kd.R_below (by (with_reducible repeat (first | apply Kd.R_alloc | apply Kd.R_drewN | apply Kd.R_drew)); exact HO_12.out) hb)
                          have n1_ := Aside0.mk (blk_below (g := gb346) (o := .cells #[.int .i64 t340, .int .i64 t341, .string t342] 27 (0, 0)) (by (with_reducible repeat (first | refine blk_drewN ?_ _ | refine blk_drew ?_ | refine blk_alloc ?_ _)); exact BK346.out) hb)
                          have n2_ := Aside0.mk (below_step (by repeat (first | (with_reducible first | exact HB.out | apply below_alloc | apply pw_below_drewN | apply below_drew1 | refine below_set ?_ GE346.out) | exact HB.out)) hb)
                          clear HO_12
                          clear BK346
                          clear HB
                          have HO_12 := n0_
                          have BK346 := n1_
                          have HB := n2_
                          clear n0_ n1_ n2_
                          (try clear hb)
                          (try clear hb2)
                          (try clear hk)
                          (try clear hi)
                          refine hK.out _ _ ⟨(blk_cell BK346.out 0).trans rfl, (blk_cell BK346.out 1).trans rfl, (blk_cell BK346.out 2).trans rfl, HS3_, HS4_⟩ (fun hHeld => ?_)
                          clear hK K
                          refine norm_ (a' := ?_) ?_ ?_
                          rotate_left
                          ·show Act.put _ (some 154) _ = _
                           simp only [Act.put, List.setIfInBounds_toArray, List.set_cons_zero, List.set_cons_succ, i64_w, i32_w]
                           rfl
                          refine pure_ (i := 38) (N := some 155) (v := ?_) (a' := ?_) fl9_39_ rfl rfl (any_of HT_.out (by kernel_rfl)) (fun _ _ _ h => h) (Or.inl ⟨by rfl, ?_⟩) ?_ ?_
                          rotate_left
                          ·intro w'
                           go_simp
                           with_reducible rfl
                          rotate_left
                          ·simp only [Act.put, List.setIfInBounds_toArray, List.set_cons_zero, List.set_cons_succ, i64_w, i32_w]
                           rfl
                          refine pure_ (i := 39) (N := some 156) (v := ?_) (a' := ?_) fl9_40_ rfl rfl (any_of HT_.out (by kernel_rfl)) (fun _ _ _ h => h) (Or.inl ⟨by rfl, ?_⟩) ?_ ?_
                          rotate_left
                          ·intro w'
                           go_simp
                           with_reducible rfl
                          rotate_left
                          ·simp only [Act.put, List.setIfInBounds_toArray, List.set_cons_zero, List.set_cons_succ, i64_w, i32_w]
                           rfl
                          refine pure_ (i := 40) (N := some 157) (v := ?_) (a' := ?_) fl9_41_ rfl rfl (any_of HT_.out (by kernel_rfl)) (fun _ _ _ h => h) (Or.inl ⟨by rfl, ?_⟩) ?_ ?_
                          rotate_left
                          ·intro w'
                           go_simp
                           with_reducible rfl
                          rotate_left
                          ·simp only [Act.put, List.setIfInBounds_toArray, List.set_cons_zero, List.set_cons_succ, i64_w, i32_w]
                           rfl
                          refine done_ (done_of HT_.out (by kernel_rfl)) ?_
                          try go_wp2
                          go_roundg k2
                          case measure => have := HJ27.out; have := HK2.out; omega
                          case rel => exact ⟨(wrap64 (x13_2 + 1)), (by first | rfl | (simp; done) | (simp [*]; done)), H', ⟨by have := HJ27.out; have := HK2.out; omega⟩, ⟨by (with_reducible repeat (first | apply Kd.R_alloc | apply Kd.R_drewN | apply Kd.R_drew)); exact HO_12.out⟩, ⟨by (with_reducible repeat (first | refine blk_drewN ?_ _ | refine blk_drew ?_ | refine blk_alloc ?_ _)); exact BK346.out⟩, ⟨by repeat (first | (with_reducible first | exact HB.out | apply below_alloc | apply pw_below_drewN | apply below_drew1 | refine below_set ?_ GE346.out) | exact HB.out)⟩⟩
                         ·replace c92 := Bool.eq_false_iff.mpr c92
                          subst c92
                          have H1 : (some false) = some r := by rw [if_neg (show ¬ (false = true) by decide)] at H; exact H
                          clear H
                          have H := H1
                          clear H1
                          exact absurd (Option.some.inj H) (by rw [ht_.out]; simp)
                        ·rw [if_neg c90] at H
                         exact absurd H (by simp)
                       ·rw [if_neg c89] at H
                        exact absurd H (by simp)
                      ·rw [if_neg c88] at H
                       exact absurd H (by simp)
                     ·rw [if_neg c86] at H
                      have c86b0 : decide (0 < x13_2) = false := decide_eq_false c86
                      clear c86
                      have H' := Aside0.mk H
                      clear H
                      obtain ⟨Ao96, co96, eo96⟩ := Kd.R_slice HO_12.out
                      subst eo96
                      try go_wp2
                      have n0_ := Aside0.mk (Kd.R_drew HO_12.out)
                      have n1_ := Aside0.mk (blk_drew BK346.out)
                      have n2_ := Aside0.mk (below_drew1 HB.out)
                      clear HO_12
                      clear BK346
                      clear HB
                      have HO_12 := n0_
                      have BK346 := n1_
                      have HB := n2_
                      clear n0_ n1_ n2_
                      refine start_ (n := 41) (S := fun w' => True) (ds := []) fl9_0_ (by kernel_rfl) rfl rfl trivial (fun hHeld => ?_); refine with_tabW laws_FnSteps.tab19 laws_FnSteps.bits19 (fun HT_ HW_ => ?_)
                      generalize wr.drew = w97 at HO_12 BK346 HB hHeld ⊢
                      refine pure_ (i := 0) (N := some 117) (v := ?_) (a' := ?_) fl9_1_ rfl rfl (any_of HT_.out (by kernel_rfl)) (fun _ _ _ h => h) (Or.inl ⟨by rfl, ?_⟩) ?_ ?_
                      rotate_left
                      ·intro w'
                       go_simp
                       with_reducible rfl
                      rotate_left
                      ·simp only [Act.put, List.setIfInBounds_toArray, List.set_cons_zero, List.set_cons_succ, i64_w, i32_w]
                       rfl
                      refine pure_ (i := 1) (N := some 118) (v := ?_) (a' := ?_) fl9_2_ rfl rfl (any_of HT_.out (by kernel_rfl)) (fun _ _ _ h => h) (Or.inl ⟨by rfl, ?_⟩) ?_ ?_
                      rotate_left
                      ·intro w'
                       go_simp
                       with_reducible rfl
                      rotate_left
                      ·simp only [Act.put, List.setIfInBounds_toArray, List.set_cons_zero, List.set_cons_succ, i64_w, i32_w]
                       rfl
                      refine pure_ (i := 2) (N := some 119) (v := ?_) (a' := ?_) fl9_3_ rfl rfl (any_of HT_.out (by kernel_rfl)) (fun _ _ _ h => h) (Or.inl ⟨by rfl, ?_⟩) ?_ ?_
                      rotate_left
                      ·intro w'
                       go_simp
                       with_reducible rfl
                      rotate_left
                      ·simp only [Act.put, List.setIfInBounds_toArray, List.set_cons_zero, List.set_cons_succ, i64_w, i32_w]
                       rfl
                      refine pure_ (i := 3) (N := some 120) (v := undef) (a' := ?_) fl9_4_ rfl rfl (any_of HT_.out (by kernel_rfl)) (fun _ _ _ h => h) (Or.inr ⟨by rfl, rfl⟩) ?_ ?_
                      rotate_left
                      ·simp only [Act.put, List.setIfInBounds_toArray, List.set_cons_zero, List.set_cons_succ, i64_w, i32_w]
                       rfl
                      refine pure_ (i := 4) (N := some 121) (v := undef) (a' := ?_) fl9_5_ rfl rfl (any_of HT_.out (by kernel_rfl)) (fun _ _ _ h => h) (Or.inr ⟨by rfl, rfl⟩) ?_ ?_
                      rotate_left
                      ·simp only [Act.put, List.setIfInBounds_toArray, List.set_cons_zero, List.set_cons_succ, i64_w, i32_w]
                       rfl
                      refine pure_ (i := 5) (N := some 122) (v := undef) (a' := ?_) fl9_6_ rfl rfl (any_of HT_.out (by kernel_rfl)) (fun _ _ _ h => h) (Or.inr ⟨by rfl, rfl⟩) ?_ ?_
                      rotate_left
                      ·simp only [Act.put, List.setIfInBounds_toArray, List.set_cons_zero, List.set_cons_succ, i64_w, i32_w]
                       rfl
                      refine pure_ (i := 6) (N := some 123) (v := undef) (a' := ?_) fl9_43_ rfl rfl (any_of HT_.out (by kernel_rfl)) (fun _ _ _ h => h) (Or.inr ⟨by rfl, rfl⟩) ?_ ?_
                      rotate_left
                      ·simp only [Act.put, List.setIfInBounds_toArray, List.set_cons_zero, List.set_cons_succ, i64_w, i32_w]
                       rfl
                      refine pure_ (i := 7) (N := some 124) (v := undef) (a' := ?_) fl9_8_ rfl rfl (any_of HT_.out (by kernel_rfl)) (fun _ _ _ h => h) (Or.inr ⟨by rfl, rfl⟩) ?_ ?_
                      rotate_left
                      ·simp only [Act.put, List.setIfInBounds_toArray, List.set_cons_zero, List.set_cons_succ, i64_w, i32_w]
                       rfl
                      refine pure_ (i := 8) (N := some 125) (v := undef) (a' := ?_) fl9_9_ rfl rfl (any_of HT_.out (by kernel_rfl)) (fun _ _ _ h => h) (Or.inr ⟨by rfl, rfl⟩) ?_ ?_
                      rotate_left
                      ·simp only [Act.put, List.setIfInBounds_toArray, List.set_cons_zero, List.set_cons_succ, i64_w, i32_w]
                       rfl
                      refine pure_ (i := 9) (N := some 126) (v := ?_) (a' := ?_) fl9_10_ rfl rfl (any_of HT_.out (by kernel_rfl)) (fun _ _ _ h => h) (Or.inl ⟨by rfl, ?_⟩) ?_ ?_
                      rotate_left
                      ·intro w'
                       go_simp
                       with_reducible rfl
                      rotate_left
                      ·simp only [Act.put, List.setIfInBounds_toArray, List.set_cons_zero, List.set_cons_succ, i64_w, i32_w]
                       rfl
                      refine pure_ (i := 10) (N := some 127) (v := ?_) (a' := ?_) fl9_11_ rfl rfl (any_of HT_.out (by kernel_rfl)) (fun _ _ _ h => h) (Or.inl ⟨by rfl, ?_⟩) ?_ ?_
                      rotate_left
                      ·intro w'
                       go_simp
                       with_reducible rfl
                      rotate_left
                      ·simp only [Act.put, List.setIfInBounds_toArray, List.set_cons_zero, List.set_cons_succ, i64_w, i32_w]
                       rfl
                      refine pure_ (i := 11) (N := some 128) (v := ?_) (a' := ?_) fl9_12_ rfl rfl (any_of HT_.out (by kernel_rfl)) (fun _ _ _ h => h) (Or.inl ⟨by rfl, ?_⟩) ?_ ?_
                      rotate_left
                      ·intro w'
                       go_simp
                       with_reducible rfl
                      rotate_left
                      ·simp only [Act.put, List.setIfInBounds_toArray, List.set_cons_zero, List.set_cons_succ, i64_w, i32_w]
                       rfl
                      refine pure_ (i := 12) (N := some 129) (v := ?_) (a' := ?_) fl9_13_ rfl rfl (any_of HT_.out (by kernel_rfl)) (fun _ _ _ h => h) (Or.inl ⟨by rfl, ?_⟩) ?_ ?_
                      rotate_left
                      ·intro w'
                       go_simp
                       with_reducible rfl
                      rotate_left
                      ·simp only [Act.put, List.setIfInBounds_toArray, List.set_cons_zero, List.set_cons_succ, i64_w, i32_w]
                       rfl
                      refine pure_ (i := 13) (N := some 130) (v := ?_) (a' := ?_) fl9_14_ rfl rfl (any_of HT_.out (by kernel_rfl)) (fun _ _ _ h => h) (Or.inl ⟨by rfl, ?_⟩) ?_ ?_
                      rotate_left
                      ·intro w'
                       go_simp
                       with_reducible rfl
                      rotate_left
                      ·simp only [Act.put, List.setIfInBounds_toArray, List.set_cons_zero, List.set_cons_succ, i64_w, i32_w]
                       rfl
                      refine pure_ (i := 14) (N := some 131) (v := ?_) (a' := ?_) fl9_15_ rfl rfl (any_of HT_.out (by kernel_rfl)) (fun _ _ _ h => h) (Or.inl ⟨by rfl, ?_⟩) ?_ ?_
                      rotate_left
                      ·intro w'
                       go_simp
                       with_reducible rfl
                      rotate_left
                      ·simp only [Act.put, List.setIfInBounds_toArray, List.set_cons_zero, List.set_cons_succ, i64_w, i32_w]
                       rfl
                      refine pure_ (i := 15) (N := some 132) (v := undef) (a' := ?_) fl9_16_ rfl rfl (any_of HT_.out (by kernel_rfl)) (fun _ _ _ h => h) (Or.inr ⟨by rfl, rfl⟩) ?_ ?_
                      rotate_left
                      ·simp only [Act.put, List.setIfInBounds_toArray, List.set_cons_zero, List.set_cons_succ, i64_w, i32_w]
                       rfl
                      refine pure_ (i := 16) (N := some 133) (v := undef) (a' := ?_) fl9_17_ rfl rfl (any_of HT_.out (by kernel_rfl)) (fun _ _ _ h => h) (Or.inr ⟨by rfl, rfl⟩) ?_ ?_
                      rotate_left
                      ·simp only [Act.put, List.setIfInBounds_toArray, List.set_cons_zero, List.set_cons_succ, i64_w, i32_w]
                       rfl
                      refine pure_ (i := 17) (N := some 134) (v := undef) (a' := ?_) fl9_18_ rfl rfl (any_of HT_.out (by kernel_rfl)) (fun _ _ _ h => h) (Or.inr ⟨by rfl, rfl⟩) ?_ ?_
                      rotate_left
                      ·simp only [Act.put, List.setIfInBounds_toArray, List.set_cons_zero, List.set_cons_succ, i64_w, i32_w]
                       rfl
                      refine pure_ (i := 18) (N := some 135) (v := undef) (a' := ?_) fl9_42_ rfl rfl (any_of HT_.out (by kernel_rfl)) (fun _ _ _ h => h) (Or.inr ⟨by rfl, rfl⟩) ?_ ?_
                      rotate_left
                      ·simp only [Act.put, List.setIfInBounds_toArray, List.set_cons_zero, List.set_cons_succ, i64_w, i32_w]
                       rfl
                      refine pure_ (i := 19) (N := some 136) (v := undef) (a' := ?_) fl9_20_ rfl rfl (any_of HT_.out (by kernel_rfl)) (fun _ _ _ h => h) (Or.inr ⟨by rfl, rfl⟩) ?_ ?_
                      rotate_left
                      ·simp only [Act.put, List.setIfInBounds_toArray, List.set_cons_zero, List.set_cons_succ, i64_w, i32_w]
                       rfl
                      refine pure_ (i := 20) (N := some 137) (v := undef) (a' := ?_) fl9_21_ rfl rfl (any_of HT_.out (by kernel_rfl)) (fun _ _ _ h => h) (Or.inr ⟨by rfl, rfl⟩) ?_ ?_
                      rotate_left
                      ·simp only [Act.put, List.setIfInBounds_toArray, List.set_cons_zero, List.set_cons_succ, i64_w, i32_w]
                       rfl
                      refine pure_ (i := 21) (N := some 138) (v := ?_) (a' := ?_) fl9_22_ rfl rfl (any_of HT_.out (by kernel_rfl)) (fun _ _ _ h => h) (Or.inl ⟨by rfl, ?_⟩) ?_ ?_
                      rotate_left
                      ·intro w'
                       go_simp
                       with_reducible rfl
                      rotate_left
                      ·simp only [Act.put, List.setIfInBounds_toArray, List.set_cons_zero, List.set_cons_succ, i64_w, i32_w]
                       rfl
                      refine pure_ (i := 22) (N := some 139) (v := ?_) (a' := ?_) fl9_23_ rfl rfl (any_of HT_.out (by kernel_rfl)) (fun _ _ _ h => h) (Or.inl ⟨by rfl, ?_⟩) ?_ ?_
                      rotate_left
                      ·intro w'
                       go_simp
                       with_reducible rfl
                      rotate_left
                      ·simp only [Act.put, List.setIfInBounds_toArray, List.set_cons_zero, List.set_cons_succ, i64_w, i32_w]
                       rfl
                      refine pure_ (i := 23) (N := some 140) (v := ?_) (a' := ?_) fl9_24_ rfl rfl (any_of HT_.out (by kernel_rfl)) (fun _ _ _ h => h) (Or.inl ⟨by rfl, ?_⟩) ?_ ?_
                      rotate_left
                      ·intro w'
                       go_simp
                       with_reducible rfl
                      rotate_left
                      ·simp only [Act.put, List.setIfInBounds_toArray, List.set_cons_zero, List.set_cons_succ, i64_w, i32_w]
                       rfl
                      refine pure_ (i := 24) (N := some 141) (v := ?_) (a' := ?_) fl9_25_ rfl rfl (any_of HT_.out (by kernel_rfl)) (fun _ _ _ h => h) (Or.inl ⟨by rfl, ?_⟩) ?_ ?_
                      rotate_left
                      ·intro w'
                       go_simp
                       with_reducible rfl
                      rotate_left
                      ·simp only [Act.put, List.setIfInBounds_toArray, List.set_cons_zero, List.set_cons_succ, i64_w, i32_w]
                       rfl
                      refine pure_ (i := 25) (N := some 142) (v := ?_) (a' := ?_) fl9_26_ rfl rfl (any_of HT_.out (by kernel_rfl)) (fun _ _ _ h => h) (Or.inl ⟨by rfl, ?_⟩) ?_ ?_
                      rotate_left
                      ·intro w'
                       go_simp
                       with_reducible rfl
                      rotate_left
                      ·simp only [Act.put, List.setIfInBounds_toArray, List.set_cons_zero, List.set_cons_succ, i64_w, i32_w]
                       rfl
                      refine pure_ (i := 26) (N := some 143) (v := ?_) (a' := ?_) fl9_27_ rfl rfl (any_of HT_.out (by kernel_rfl)) (fun _ _ _ h => h) (Or.inl ⟨by rfl, ?_⟩) ?_ ?_
                      rotate_left
                      ·intro w'
                       go_simp
                       with_reducible rfl
                      rotate_left
                      ·simp only [Act.put, List.setIfInBounds_toArray, List.set_cons_zero, List.set_cons_succ, i64_w, i32_w]
                       rfl
                      refine pure_ (i := 27) (N := some 144) (v := undef) (a' := ?_) fl9_28_ rfl rfl (any_of HT_.out (by kernel_rfl)) (fun _ _ _ h => h) (Or.inr ⟨by rfl, rfl⟩) ?_ ?_
                      rotate_left
                      ·simp only [Act.put, List.setIfInBounds_toArray, List.set_cons_zero, List.set_cons_succ, i64_w, i32_w]
                       rfl
                      refine pure_ (i := 28) (N := some 145) (v := undef) (a' := ?_) fl9_29_ rfl rfl (any_of HT_.out (by kernel_rfl)) (fun _ _ _ h => h) (Or.inr ⟨by rfl, rfl⟩) ?_ ?_
                      rotate_left
                      ·simp only [Act.put, List.setIfInBounds_toArray, List.set_cons_zero, List.set_cons_succ, i64_w, i32_w]
                       rfl
                      refine pure_ (i := 29) (N := some 146) (v := undef) (a' := ?_) fl9_30_ rfl rfl (any_of HT_.out (by kernel_rfl)) (fun _ _ _ h => h) (Or.inr ⟨by rfl, rfl⟩) ?_ ?_
                      rotate_left
                      ·simp only [Act.put, List.setIfInBounds_toArray, List.set_cons_zero, List.set_cons_succ, i64_w, i32_w]
                       rfl
                      refine pure_ (i := 30) (N := some 147) (v := undef) (a' := ?_) fl9_31_ rfl rfl (any_of HT_.out (by kernel_rfl)) (fun _ _ _ h => h) (Or.inr ⟨by rfl, rfl⟩) ?_ ?_
                      rotate_left
                      ·simp only [Act.put, List.setIfInBounds_toArray, List.set_cons_zero, List.set_cons_succ, i64_w, i32_w]
                       rfl
                      refine pure_ (i := 31) (N := some 148) (v := undef) (a' := ?_) fl9_32_ rfl rfl (any_of HT_.out (by kernel_rfl)) (fun _ _ _ h => h) (Or.inr ⟨by rfl, rfl⟩) ?_ ?_
                      rotate_left
                      ·simp only [Act.put, List.setIfInBounds_toArray, List.set_cons_zero, List.set_cons_succ, i64_w, i32_w]
                       rfl
                      refine pure_ (i := 32) (N := some 149) (v := undef) (a' := ?_) fl9_33_ rfl rfl (any_of HT_.out (by kernel_rfl)) (fun _ _ _ h => h) (Or.inr ⟨by rfl, rfl⟩) ?_ ?_
                      rotate_left
                      ·simp only [Act.put, List.setIfInBounds_toArray, List.set_cons_zero, List.set_cons_succ, i64_w, i32_w]
                       rfl
                      refine pure_ (i := 33) (N := some 150) (v := undef) (a' := ?_) fl9_34_ rfl rfl (any_of HT_.out (by kernel_rfl)) (fun _ _ _ h => h) (Or.inr ⟨by rfl, rfl⟩) ?_ ?_
                      rotate_left
                      ·simp only [Act.put, List.setIfInBounds_toArray, List.set_cons_zero, List.set_cons_succ, i64_w, i32_w]
                       rfl
                      refine pure_ (i := 34) (N := some 151) (v := undef) (a' := ?_) fl9_35_ rfl rfl (any_of HT_.out (by kernel_rfl)) (fun _ _ _ h => h) (Or.inr ⟨by rfl, rfl⟩) ?_ ?_
                      rotate_left
                      ·simp only [Act.put, List.setIfInBounds_toArray, List.set_cons_zero, List.set_cons_succ, i64_w, i32_w]
                       rfl
                      refine pure_ (i := 35) (N := some 152) (v := undef) (a' := ?_) fl9_36_ rfl rfl (any_of HT_.out (by kernel_rfl)) (fun _ _ _ h => h) (Or.inr ⟨by rfl, rfl⟩) ?_ ?_
                      rotate_left
                      ·simp only [Act.put, List.setIfInBounds_toArray, List.set_cons_zero, List.set_cons_succ, i64_w, i32_w]
                       rfl
                      refine pure_ (i := 36) (N := some 153) (v := undef) (a' := ?_) fl9_37_ rfl rfl (any_of HT_.out (by kernel_rfl)) (fun _ _ _ h => h) (Or.inr ⟨by rfl, rfl⟩) ?_ ?_
                      rotate_left
                      ·simp only [Act.put, List.setIfInBounds_toArray, List.set_cons_zero, List.set_cons_succ, i64_w, i32_w]
                       rfl
                      refine pure_ (i := 37) (N := some 154) (v := undef) (a' := ?_) fl9_38_ rfl rfl (any_of HT_.out (by kernel_rfl)) (fun _ _ _ h => h) (Or.inr ⟨by rfl, rfl⟩) ?_ ?_
                      rotate_left
                      ·simp only [Act.put, List.setIfInBounds_toArray, List.set_cons_zero, List.set_cons_succ, i64_w, i32_w]
                       rfl
                      refine pure_ (i := 38) (N := some 155) (v := undef) (a' := ?_) fl9_39_ rfl rfl (any_of HT_.out (by kernel_rfl)) (fun _ _ _ h => h) (Or.inr ⟨by rfl, rfl⟩) ?_ ?_
                      rotate_left
                      ·simp only [Act.put, List.setIfInBounds_toArray, List.set_cons_zero, List.set_cons_succ, i64_w, i32_w]
                       rfl
                      refine pure_ (i := 39) (N := some 156) (v := ?_) (a' := ?_) fl9_40_ rfl rfl (any_of HT_.out (by kernel_rfl)) (fun _ _ _ h => h) (Or.inl ⟨by rfl, ?_⟩) ?_ ?_
                      rotate_left
                      ·intro w'
                       go_simp
                       with_reducible rfl
                      rotate_left
                      ·simp only [Act.put, List.setIfInBounds_toArray, List.set_cons_zero, List.set_cons_succ, i64_w, i32_w]
                       rfl
                      refine pure_ (i := 40) (N := some 157) (v := ?_) (a' := ?_) fl9_41_ rfl rfl (any_of HT_.out (by kernel_rfl)) (fun _ _ _ h => h) (Or.inl ⟨by rfl, ?_⟩) ?_ ?_
                      rotate_left
                      ·intro w'
                       go_simp
                       with_reducible rfl
                      rotate_left
                      ·simp only [Act.put, List.setIfInBounds_toArray, List.set_cons_zero, List.set_cons_succ, i64_w, i32_w]
                       rfl
                      refine done_ (done_of HT_.out (by kernel_rfl)) ?_
                      try go_wp2
                      go_roundg k2
                      case measure => have := HJ27.out; have := HK2.out; omega
                      case rel => exact ⟨(wrap64 (x13_2 + 1)), (by first | rfl | (simp; done) | (simp [*]; done)), H', ⟨by have := HJ27.out; have := HK2.out; omega⟩, ⟨by (with_reducible repeat (first | apply Kd.R_alloc | apply Kd.R_drewN | apply Kd.R_drew)); exact HO_12.out⟩, ⟨by (with_reducible repeat (first | refine blk_drewN ?_ _ | refine blk_drew ?_ | refine blk_alloc ?_ _)); exact BK346.out⟩, ⟨by repeat (first | (with_reducible first | exact HB.out | apply below_alloc | apply pw_below_drewN | apply below_drew1 | refine below_set ?_ GE346.out) | exact HB.out)⟩⟩
                  ·rw [if_neg c62] at H
                   have c62b0 : decide (x13_2 < (t359.length : Int)) = false := decide_eq_false c62
                   clear c62
                   obtain ⟨y378, hy378⟩ : ∃ y_ : List Int, y_ = (([(rd t343 (ji13)), (rd t343 (ji21))] : List Int)) := ⟨_, rfl⟩
                   replace H : ((impl_StepsFrom.f k2 t340 t341 t342 y378).bind fun t381 => (if t358 ≥ 0 then (if t356 < 0 then (if (t381.length : Int) = (t342.size : Int) then (if 0 ≤ (rd t343 (ji17)) then (if (rd t343 (ji17)) < (t381.length : Int) then (some ((rd t381 (rd t343 (ji17))) == t358)) else (none)) else (none)) else (some false)) else (if t358 < t356 then (if (t381.length : Int) = (t342.size : Int) then (if 0 ≤ (rd t343 (ji17)) then (if (rd t343 (ji17)) < (t381.length : Int) then (some ((rd t381 (rd t343 (ji17))) == t358)) else (none)) else (none)) else (some false)) else (if (t381.length : Int) = (t342.size : Int) then (if 0 ≤ (rd t343 (ji17)) then (if (rd t343 (ji17)) < (t381.length : Int) then (some ((rd t381 (rd t343 (ji17))) == t356)) else (none)) else (none)) else (some false)))) else (if (t381.length : Int) = (t342.size : Int) then (if 0 ≤ (rd t343 (ji17)) then (if (rd t343 (ji17)) < (t381.length : Int) then (some ((rd t381 (rd t343 (ji17))) == t356)) else (none)) else (none)) else (some false)))) = some r := by first | (rw [hy378]; with_reducible exact H) | (have H2_ := (Option.bind_some _ _).symm.trans H; rw [hy378]; with_reducible exact H2_) | (have H2_ := (Option.bind_some _ _).symm.trans H; with_reducible exact H2_) | with_reducible exact H | (rw [hy378]; exact H) | exact H
                   have Ny378 := Aside0.mk hy378
                   clear hy378
                   replace H := Option.bind_eq_some_iff.mp H
                   obtain ⟨t381, A980, H⟩ := H
                   replace H : (if t358 ≥ 0 then (if t356 < 0 then (if (t381.length : Int) = (t342.size : Int) then (if 0 ≤ (rd t343 (ji17)) then (if (rd t343 (ji17)) < (t381.length : Int) then (some ((rd t381 (rd t343 (ji17))) == t358)) else (none)) else (none)) else (some false)) else (if t358 < t356 then (if (t381.length : Int) = (t342.size : Int) then (if 0 ≤ (rd t343 (ji17)) then (if (rd t343 (ji17)) < (t381.length : Int) then (some ((rd t381 (rd t343 (ji17))) == t358)) else (none)) else (none)) else (some false)) else (if (t381.length : Int) = (t342.size : Int) then (if 0 ≤ (rd t343 (ji17)) then (if (rd t343 (ji17)) < (t381.length : Int) then (some ((rd t381 (rd t343 (ji17))) == t356)) else (none)) else (none)) else (some false)))) else (if (t381.length : Int) = (t342.size : Int) then (if 0 ≤ (rd t343 (ji17)) then (if (rd t343 (ji17)) < (t381.length : Int) then (some ((rd t381 (rd t343 (ji17))) == t356)) else (none)) else (none)) else (some false))) = some r := H
                   have A98 := Aside0.mk A980
                   clear A980
                   by_cases c99 : t358 ≥ 0
                   ·rw [if_pos c99] at H
                    have c99b0 : decide (0 ≤ t358) = true := decide_eq_true c99
                    clear c99
                    by_cases c100 : t356 < 0
                    ·rw [if_pos c100] at H
                     have c100b0 : decide (t356 < 0) = true := decide_eq_true c100
                     clear c100
                     by_cases c101 : (t381.length : Int) = (t342.size : Int)
                     ·rw [if_pos c101] at H
                      have c101b0 : ((t381.length : Int) == (t342.size : Int)) = true := beq_iff_eq.mpr c101
                      have c101b1 : ((t381.length : Int) != (t342.size : Int)) = false := bne_eq_false_iff_eq.mpr c101
                      have c101b2 : (t381.length == t342.size) = true := by first | simpa using c101 | (simp at c101 ⊢; omega)
                      clear c101
                      by_cases c102 : 0 ≤ (rd t343 (ji17))
                      ·rw [if_pos c102] at H
                       have c102b0 : decide (0 ≤ (rd t343 (ji17))) = true := decide_eq_true c102
                       clear c102
                       by_cases c103 : (rd t343 (ji17)) < (t381.length : Int)
                       ·rw [if_pos c103] at H
                        have c103b0 : decide ((rd t343 (ji17)) < (t381.length : Int)) = true := decide_eq_true c103
                        clear c103
                        obtain rfl := Option.some.inj H
                        obtain ⟨Ao104, co104, eo104⟩ := Kd.R_slice HO_12.out
                        subst eo104
                        have hcz105_0 : wr.cell? ⟨gb346, 0, none⟩ = some (.int .i64 t340) := (blk_cell BK346.out 0).trans rfl
                        have hcz105_1 : wr.cell? ⟨gb346, 1, none⟩ = some (.int .i64 t341) := (blk_cell BK346.out 1).trans rfl
                        have hcz105_2 : wr.cell? ⟨gb346, 2, none⟩ = some (.string t342) := (blk_cell BK346.out 2).trans rfl
                        have hfz105_0 := blk_frozen BK346.out 0
                        have hfz105_1 := blk_frozen BK346.out 1
                        have hfz105_2 := blk_frozen BK346.out 2
                        go_wp2_with (first | ((with_reducible refine gate_dst (N := 161) rfl ?_); (try (refine gate_guard (by rfl) ?_; dsimp only)); refine Kd.R_lit (Kd.int .i64) _ 3 ?hg (N := 161) ?hd (xs := ([(rd t343 (ji13)), (rd t343 (ji21))] : List Int)) (inner := [.int .i64 (rd t343 (ji13)), .int .i64 (rd t343 (ji21))]) (ok := fun _ => True) (okp := fun _ => True) ?hr ?hp (fun _ hk => hk) trivial (Below.refl _ _) (Nat.le_refl _) (by simp) ?_; (case hd => rfl); (case hg => rfl); (case hr => first | (go_simp; done) | (go_simp; rfl)); (case hp => exact (Reps.one (show Kd.M (Kd.int .i64) _ _ _ (rd t343 (ji13)) [.int .i64 (rd t343 (ji13))] from rfl) (Reps.one (show Kd.M (Kd.int .i64) _ _ _ (rd t343 (ji21)) [.int .i64 (rd t343 (ji21))] from rfl) (Reps.none _ _)))); intro v379 w106 ho107 hb hg_ hnew_; clear hg_ hnew_; (first | rw [← Ny378.out] at ho107 | (simp only [Int.reduceToNat] at ho107; rw [← Ny378.out] at ho107)); have n0_ := Aside0.mk (Kd.R_elder' (by (with_reducible repeat (first | apply Kd.R_alloc | apply Kd.R_drewN | apply Kd.R_drew)); exact HO_12.out) (Kd.R_base ho107) hb); have n1_ := Aside0.mk (Kd.R_lower (Kd.R_new' ho107 (Kd.R_lt (by (with_reducible repeat (first | apply Kd.R_alloc | apply Kd.R_drewN | apply Kd.R_drew)); exact HO_12.out))) (below_size (by repeat (first | (with_reducible first | exact HB.out | apply below_alloc | apply pw_below_drewN | apply below_drew1 | refine below_set ?_ GE346.out) | exact HB.out)))); have n2_ := Aside0.mk (blk_below (g := gb346) (o := .cells #[.int .i64 t340, .int .i64 t341, .string t342] 27 (0, 0)) (by (with_reducible repeat (first | refine blk_drewN ?_ _ | refine blk_drew ?_ | refine blk_alloc ?_ _)); exact BK346.out) hb); have n3_ := Aside0.mk (below_step (by repeat (first | (with_reducible first | exact HB.out | apply below_alloc | apply pw_below_drewN | apply below_drew1 | refine below_set ?_ GE346.out) | exact HB.out)) hb); clear HO_12; clear BK346; clear HB; have HO_12 := n0_; have HO380 := n1_; have BK346 := n2_; have HB := n3_; clear n0_ n1_ n2_ n3_; clear hb ho107; obtain ⟨Ao108, co108, eo108⟩ := Kd.R_slice HO380.out; subst eo108) | ((with_reducible refine gate_callee (f := 25) rfl ?_); refine goesL_ (some 162) rfl rfl Try.func25 (by kernel_rfl) rfl #[.agg #[.int .i64 t340, .int .i64 t341, .string t342], .slice Ao108 y378.length co108] rfl (by (try simp only [List.map_toArray, List.map_cons, List.map_nil]); first | done | rfl | (simp only [List.length_drop, List.length_take]; rfl)) ?_; (with_reducible refine (impl_StepsFrom.calls k2 t340 t341 t342 _ _ y378 t381 _ ?side1 ?side2 A98.out).mono ?_); (case side1 => repeat (first | exact (Kd.R_reads' HO380.out).2.2 | (with_reducible refine Kd.C_alloc ?_ _) | (with_reducible refine Kd.C_drewN ?_ _) | (with_reducible refine Kd.C_drew ?_))); (case side2 => exact (Kd.R_reads' HO380.out).2.1); rintro e w109 ⟨v382, rfl, ho0, hb⟩; refine ⟨_, rfl, ?_⟩; have n0_ := Aside0.mk (Kd.R_elder' (by (with_reducible repeat (first | apply Kd.R_alloc | apply Kd.R_drewN | apply Kd.R_drew)); exact HO_12.out) (Kd.R_base ho0) hb); have n1_ := Aside0.mk (Kd.R_elder' (by (with_reducible repeat (first | apply Kd.R_alloc | apply Kd.R_drewN | apply Kd.R_drew)); exact HO380.out) (Kd.R_base ho0) hb); have n2_ := Aside0.mk (Kd.R_lower (Kd.R_new' (Kd.R_new' ho0 (Kd.R_lt (by (with_reducible repeat (first | apply Kd.R_alloc | apply Kd.R_drewN | apply Kd.R_drew)); exact HO_12.out))) (Kd.R_lt (by (with_reducible repeat (first | apply Kd.R_alloc | apply Kd.R_drewN | apply Kd.R_drew)); exact HO380.out))) (below_size (by repeat (first | (with_reducible first | exact HB.out | apply below_alloc | apply pw_below_drewN | apply below_drew1 | refine below_set ?_ GE346.out) | exact HB.out)))); have n3_ := Aside0.mk (blk_below (g := gb346) (o := .cells #[.int .i64 t340, .int .i64 t341, .string t342] 27 (0, 0)) (by (with_reducible repeat (first | refine blk_drewN ?_ _ | refine blk_drew ?_ | refine blk_alloc ?_ _)); exact BK346.out) hb); have n4_ := Aside0.mk (below_step (by repeat (first | (with_reducible first | exact HB.out | apply below_alloc | apply pw_below_drewN | apply below_drew1 | refine below_set ?_ GE346.out) | exact HB.out)) hb); clear HO_12; clear HO380; clear BK346; clear HB; have HO_12 := n0_; have HO380 := n1_; have HO383 := n2_; have BK346 := n3_; have HB := n4_; clear n0_ n1_ n2_ n3_ n4_; (try clear hb); (try clear hb2); (try clear hk); (try clear hi); (try clear ho0); obtain ⟨Ao110, co110, eo110⟩ := Kd.R_slice HO383.out; subst eo110; have hcz111_0 : w109.cell? ⟨gb346, 0, none⟩ = some (.int .i64 t340) := (blk_cell BK346.out 0).trans rfl; have hcz111_1 : w109.cell? ⟨gb346, 1, none⟩ = some (.int .i64 t341) := (blk_cell BK346.out 1).trans rfl; have hcz111_2 : w109.cell? ⟨gb346, 2, none⟩ = some (.string t342) := (blk_cell BK346.out 2).trans rfl; have hfz111_0 := blk_frozen BK346.out 0; have hfz111_1 := blk_frozen BK346.out 1; have hfz111_2 := blk_frozen BK346.out 2; have p384 : 0 ≤ ((rd t343 (ji17)) : Int) := of_decide_eq_true (by first | (with_reducible assumption) | assumption); have q384 : (rd t343 (ji17)) < (t381.length : Int) := of_decide_eq_true (by first | (with_reducible assumption) | assumption); obtain ⟨ad384, e384, hx384_0⟩ := Kd.at_int (Kd.R_reads' HO383.out).2.2 (rd t343 (ji17)) p384 q384; cases e384; replace p384 := eq_true p384; replace q384 := eq_true q384))
                        go_ret
                        exact ⟨by first | rfl | (simp [errW_none, errW_some] <;> rfl) | (simp only [← hji13, ← hji17, ← hji21]; first | rfl | (simp [errW_none, errW_some] <;> rfl)) | (simp [*, errW_none, errW_some] <;> rfl), by repeat (first | (with_reducible first | exact HB.out | apply below_alloc | apply pw_below_drewN | apply below_drew1 | refine below_set ?_ GE346.out) | exact HB.out)⟩
                       ·rw [if_neg c103] at H
                        exact absurd H (by simp)
                      ·rw [if_neg c102] at H
                       exact absurd H (by simp)
                     ·rw [if_neg c101] at H
                      have c101b0 : ((t381.length : Int) == (t342.size : Int)) = false := beq_eq_false_iff_ne.mpr c101
                      have c101b1 : ((t381.length : Int) != (t342.size : Int)) = true := bne_iff_ne.mpr c101
                      have c101b2 : (t381.length == t342.size) = false := by first | simpa using c101 | (simp at c101 ⊢; omega)
                      exact absurd (Option.some.inj H) (by rw [ht_.out]; simp)
                    ·rw [if_neg c100] at H
                     have c100b0 : decide (t356 < 0) = false := decide_eq_false c100
                     clear c100
                     by_cases c112 : t358 < t356
                     ·rw [if_pos c112] at H
                      have c112b0 : decide (t358 < t356) = true := decide_eq_true c112
                      clear c112
                      by_cases c113 : (t381.length : Int) = (t342.size : Int)
                      ·rw [if_pos c113] at H
                       have c113b0 : ((t381.length : Int) == (t342.size : Int)) = true := beq_iff_eq.mpr c113
                       have c113b1 : ((t381.length : Int) != (t342.size : Int)) = false := bne_eq_false_iff_eq.mpr c113
                       have c113b2 : (t381.length == t342.size) = true := by first | simpa using c113 | (simp at c113 ⊢; omega)
                       clear c113
                       by_cases c114 : 0 ≤ (rd t343 (ji17))
                       ·rw [if_pos c114] at H
                        have c114b0 : decide (0 ≤ (rd t343 (ji17))) = true := decide_eq_true c114
                        clear c114
                        by_cases c115 : (rd t343 (ji17)) < (t381.length : Int)
                        ·rw [if_pos c115] at H
                         have c115b0 : decide ((rd t343 (ji17)) < (t381.length : Int)) = true := decide_eq_true c115
                         clear c115
                         obtain rfl := Option.some.inj H
                         obtain ⟨Ao116, co116, eo116⟩ := Kd.R_slice HO_12.out
                         subst eo116
                         have hcz117_0 : wr.cell? ⟨gb346, 0, none⟩ = some (.int .i64 t340) := (blk_cell BK346.out 0).trans rfl
                         have hcz117_1 : wr.cell? ⟨gb346, 1, none⟩ = some (.int .i64 t341) := (blk_cell BK346.out 1).trans rfl
                         have hcz117_2 : wr.cell? ⟨gb346, 2, none⟩ = some (.string t342) := (blk_cell BK346.out 2).trans rfl
                         have hfz117_0 := blk_frozen BK346.out 0
                         have hfz117_1 := blk_frozen BK346.out 1
                         have hfz117_2 := blk_frozen BK346.out 2
                         go_wp2_with (first | ((with_reducible refine gate_dst (N := 161) rfl ?_); (try (refine gate_guard (by rfl) ?_; dsimp only)); refine Kd.R_lit (Kd.int .i64) _ 3 ?hg (N := 161) ?hd (xs := ([(rd t343 (ji13)), (rd t343 (ji21))] : List Int)) (inner := [.int .i64 (rd t343 (ji13)), .int .i64 (rd t343 (ji21))]) (ok := fun _ => True) (okp := fun _ => True) ?hr ?hp (fun _ hk => hk) trivial (Below.refl _ _) (Nat.le_refl _) (by simp) ?_; (case hd => rfl); (case hg => rfl); (case hr => first | (go_simp; done) | (go_simp; rfl)); (case hp => exact (Reps.one (show Kd.M (Kd.int .i64) _ _ _ (rd t343 (ji13)) [.int .i64 (rd t343 (ji13))] from rfl) (Reps.one (show Kd.M (Kd.int .i64) _ _ _ (rd t343 (ji21)) [.int .i64 (rd t343 (ji21))] from rfl) (Reps.none _ _)))); intro v379 w118 ho119 hb hg_ hnew_; clear hg_ hnew_; (first | rw [← Ny378.out] at ho119 | (simp only [Int.reduceToNat] at ho119; rw [← Ny378.out] at ho119)); have n0_ := Aside0.mk (Kd.R_elder' (by (with_reducible repeat (first | apply Kd.R_alloc | apply Kd.R_drewN | apply Kd.R_drew)); exact HO_12.out) (Kd.R_base ho119) hb); have n1_ := Aside0.mk (Kd.R_lower (Kd.R_new' ho119 (Kd.R_lt (by (with_reducible repeat (first | apply Kd.R_alloc | apply Kd.R_drewN | apply Kd.R_drew)); exact HO_12.out))) (below_size (by repeat (first | (with_reducible first | exact HB.out | apply below_alloc | apply pw_below_drewN | apply below_drew1 | refine below_set ?_ GE346.out) | exact HB.out)))); have n2_ := Aside0.mk (blk_below (g := gb346) (o := .cells #[.int .i64 t340, .int .i64 t341, .string t342] 27 (0, 0)) (by (with_reducible repeat (first | refine blk_drewN ?_ _ | refine blk_drew ?_ | refine blk_alloc ?_ _)); exact BK346.out) hb); have n3_ := Aside0.mk (below_step (by repeat (first | (with_reducible first | exact HB.out | apply below_alloc | apply pw_below_drewN | apply below_drew1 | refine below_set ?_ GE346.out) | exact HB.out)) hb); clear HO_12; clear BK346; clear HB; have HO_12 := n0_; have HO380 := n1_; have BK346 := n2_; have HB := n3_; clear n0_ n1_ n2_ n3_; clear hb ho119; obtain ⟨Ao120, co120, eo120⟩ := Kd.R_slice HO380.out; subst eo120) | ((with_reducible refine gate_callee (f := 25) rfl ?_); refine goesL_ (some 162) rfl rfl Try.func25 (by kernel_rfl) rfl #[.agg #[.int .i64 t340, .int .i64 t341, .string t342], .slice Ao120 y378.length co120] rfl (by (try simp only [List.map_toArray, List.map_cons, List.map_nil]); first | done | rfl | (simp only [List.length_drop, List.length_take]; rfl)) ?_; (with_reducible refine (impl_StepsFrom.calls k2 t340 t341 t342 _ _ y378 t381 _ ?side1 ?side2 A98.out).mono ?_); (case side1 => repeat (first | exact (Kd.R_reads' HO380.out).2.2 | (with_reducible refine Kd.C_alloc ?_ _) | (with_reducible refine Kd.C_drewN ?_ _) | (with_reducible refine Kd.C_drew ?_))); (case side2 => exact (Kd.R_reads' HO380.out).2.1); rintro e w121 ⟨v382, rfl, ho0, hb⟩; refine ⟨_, rfl, ?_⟩; have n0_ := Aside0.mk (Kd.R_elder' (by (with_reducible repeat (first | apply Kd.R_alloc | apply Kd.R_drewN | apply Kd.R_drew)); exact HO_12.out) (Kd.R_base ho0) hb); have n1_ := Aside0.mk (Kd.R_elder' (by (with_reducible repeat (first | apply Kd.R_alloc | apply Kd.R_drewN | apply Kd.R_drew)); exact HO380.out) (Kd.R_base ho0) hb); have n2_ := Aside0.mk (Kd.R_lower (Kd.R_new' (Kd.R_new' ho0 (Kd.R_lt (by (with_reducible repeat (first | apply Kd.R_alloc | apply Kd.R_drewN | apply Kd.R_drew)); exact HO_12.out))) (Kd.R_lt (by (with_reducible repeat (first | apply Kd.R_alloc | apply Kd.R_drewN | apply Kd.R_drew)); exact HO380.out))) (below_size (by repeat (first | (with_reducible first | exact HB.out | apply below_alloc | apply pw_below_drewN | apply below_drew1 | refine below_set ?_ GE346.out) | exact HB.out)))); have n3_ := Aside0.mk (blk_below (g := gb346) (o := .cells #[.int .i64 t340, .int .i64 t341, .string t342] 27 (0, 0)) (by (with_reducible repeat (first | refine blk_drewN ?_ _ | refine blk_drew ?_ | refine blk_alloc ?_ _)); exact BK346.out) hb); have n4_ := Aside0.mk (below_step (by repeat (first | (with_reducible first | exact HB.out | apply below_alloc | apply pw_below_drewN | apply below_drew1 | refine below_set ?_ GE346.out) | exact HB.out)) hb); clear HO_12; clear HO380; clear BK346; clear HB; have HO_12 := n0_; have HO380 := n1_; have HO383 := n2_; have BK346 := n3_; have HB := n4_; clear n0_ n1_ n2_ n3_ n4_; (try clear hb); (try clear hb2); (try clear hk); (try clear hi); (try clear ho0); obtain ⟨Ao122, co122, eo122⟩ := Kd.R_slice HO383.out; subst eo122; have hcz123_0 : w121.cell? ⟨gb346, 0, none⟩ = some (.int .i64 t340) := (blk_cell BK346.out 0).trans rfl; have hcz123_1 : w121.cell? ⟨gb346, 1, none⟩ = some (.int .i64 t341) := (blk_cell BK346.out 1).trans rfl; have hcz123_2 : w121.cell? ⟨gb346, 2, none⟩ = some (.string t342) := (blk_cell BK346.out 2).trans rfl; have hfz123_0 := blk_frozen BK346.out 0; have hfz123_1 := blk_frozen BK346.out 1; have hfz123_2 := blk_frozen BK346.out 2; have p385 : 0 ≤ ((rd t343 (ji17)) : Int) := of_decide_eq_true (by first | (with_reducible assumption) | assumption); have q385 : (rd t343 (ji17)) < (t381.length : Int) := of_decide_eq_true (by first | (with_reducible assumption) | assumption); obtain ⟨ad385, e385, hx385_0⟩ := Kd.at_int (Kd.R_reads' HO383.out).2.2 (rd t343 (ji17)) p385 q385; cases e385; replace p385 := eq_true p385; replace q385 := eq_true q385))
                         go_ret
                         exact ⟨by first | rfl | (simp [errW_none, errW_some] <;> rfl) | (simp only [← hji13, ← hji17, ← hji21]; first | rfl | (simp [errW_none, errW_some] <;> rfl)) | (simp [*, errW_none, errW_some] <;> rfl), by repeat (first | (with_reducible first | exact HB.out | apply below_alloc | apply pw_below_drewN | apply below_drew1 | refine below_set ?_ GE346.out) | exact HB.out)⟩
                        ·rw [if_neg c115] at H
                         exact absurd H (by simp)
                       ·rw [if_neg c114] at H
                        exact absurd H (by simp)
                      ·rw [if_neg c113] at H
                       have c113b0 : ((t381.length : Int) == (t342.size : Int)) = false := beq_eq_false_iff_ne.mpr c113
                       have c113b1 : ((t381.length : Int) != (t342.size : Int)) = true := bne_iff_ne.mpr c113
                       have c113b2 : (t381.length == t342.size) = false := by first | simpa using c113 | (simp at c113 ⊢; omega)
                       exact absurd (Option.some.inj H) (by rw [ht_.out]; simp)
                     ·rw [if_neg c112] at H
                      have c112b0 : decide (t358 < t356) = false := decide_eq_false c112
                      clear c112
                      by_cases c124 : (t381.length : Int) = (t342.size : Int)
                      ·rw [if_pos c124] at H
                       have c124b0 : ((t381.length : Int) == (t342.size : Int)) = true := beq_iff_eq.mpr c124
                       have c124b1 : ((t381.length : Int) != (t342.size : Int)) = false := bne_eq_false_iff_eq.mpr c124
                       have c124b2 : (t381.length == t342.size) = true := by first | simpa using c124 | (simp at c124 ⊢; omega)
                       clear c124
                       by_cases c125 : 0 ≤ (rd t343 (ji17))
                       ·rw [if_pos c125] at H
                        have c125b0 : decide (0 ≤ (rd t343 (ji17))) = true := decide_eq_true c125
                        clear c125
                        by_cases c126 : (rd t343 (ji17)) < (t381.length : Int)
                        ·rw [if_pos c126] at H
                         have c126b0 : decide ((rd t343 (ji17)) < (t381.length : Int)) = true := decide_eq_true c126
                         clear c126
                         obtain rfl := Option.some.inj H
                         obtain ⟨Ao127, co127, eo127⟩ := Kd.R_slice HO_12.out
                         subst eo127
                         have hcz128_0 : wr.cell? ⟨gb346, 0, none⟩ = some (.int .i64 t340) := (blk_cell BK346.out 0).trans rfl
                         have hcz128_1 : wr.cell? ⟨gb346, 1, none⟩ = some (.int .i64 t341) := (blk_cell BK346.out 1).trans rfl
                         have hcz128_2 : wr.cell? ⟨gb346, 2, none⟩ = some (.string t342) := (blk_cell BK346.out 2).trans rfl
                         have hfz128_0 := blk_frozen BK346.out 0
                         have hfz128_1 := blk_frozen BK346.out 1
                         have hfz128_2 := blk_frozen BK346.out 2
                         go_wp2_with (first | ((with_reducible refine gate_dst (N := 161) rfl ?_); (try (refine gate_guard (by rfl) ?_; dsimp only)); refine Kd.R_lit (Kd.int .i64) _ 3 ?hg (N := 161) ?hd (xs := ([(rd t343 (ji13)), (rd t343 (ji21))] : List Int)) (inner := [.int .i64 (rd t343 (ji13)), .int .i64 (rd t343 (ji21))]) (ok := fun _ => True) (okp := fun _ => True) ?hr ?hp (fun _ hk => hk) trivial (Below.refl _ _) (Nat.le_refl _) (by simp) ?_; (case hd => rfl); (case hg => rfl); (case hr => first | (go_simp; done) | (go_simp; rfl)); (case hp => exact (Reps.one (show Kd.M (Kd.int .i64) _ _ _ (rd t343 (ji13)) [.int .i64 (rd t343 (ji13))] from rfl) (Reps.one (show Kd.M (Kd.int .i64) _ _ _ (rd t343 (ji21)) [.int .i64 (rd t343 (ji21))] from rfl) (Reps.none _ _)))); intro v379 w129 ho130 hb hg_ hnew_; clear hg_ hnew_; (first | rw [← Ny378.out] at ho130 | (simp only [Int.reduceToNat] at ho130; rw [← Ny378.out] at ho130)); have n0_ := Aside0.mk (Kd.R_elder' (by (with_reducible repeat (first | apply Kd.R_alloc | apply Kd.R_drewN | apply Kd.R_drew)); exact HO_12.out) (Kd.R_base ho130) hb); have n1_ := Aside0.mk (Kd.R_lower (Kd.R_new' ho130 (Kd.R_lt (by (with_reducible repeat (first | apply Kd.R_alloc | apply Kd.R_drewN | apply Kd.R_drew)); exact HO_12.out))) (below_size (by repeat (first | (with_reducible first | exact HB.out | apply below_alloc | apply pw_below_drewN | apply below_drew1 | refine below_set ?_ GE346.out) | exact HB.out)))); have n2_ := Aside0.mk (blk_below (g := gb346) (o := .cells #[.int .i64 t340, .int .i64 t341, .string t342] 27 (0, 0)) (by (with_reducible repeat (first | refine blk_drewN ?_ _ | refine blk_drew ?_ | refine blk_alloc ?_ _)); exact BK346.out) hb); have n3_ := Aside0.mk (below_step (by repeat (first | (with_reducible first | exact HB.out | apply below_alloc | apply pw_below_drewN | apply below_drew1 | refine below_set ?_ GE346.out) | exact HB.out)) hb); clear HO_12; clear BK346; clear HB; have HO_12 := n0_; have HO380 := n1_; have BK346 := n2_; have HB := n3_; clear n0_ n1_ n2_ n3_; clear hb ho130; obtain ⟨Ao131, co131, eo131⟩ := Kd.R_slice HO380.out; subst eo131) | ((with_reducible refine gate_callee (f := 25) rfl ?_); refine goesL_ (some 162) rfl rfl Try.func25 (by kernel_rfl) rfl #[.agg #[.int .i64 t340, .int .i64 t341, .string t342], .slice Ao131 y378.length co131] rfl (by (try simp only [List.map_toArray, List.map_cons, List.map_nil]); first | done | rfl | (simp only [List.length_drop, List.length_take]; rfl)) ?_; (with_reducible refine (impl_StepsFrom.calls k2 t340 t341 t342 _ _ y378 t381 _ ?side1 ?side2 A98.out).mono ?_); (case side1 => repeat (first | exact (Kd.R_reads' HO380.out).2.2 | (with_reducible refine Kd.C_alloc ?_ _) | (with_reducible refine Kd.C_drewN ?_ _) | (with_reducible refine Kd.C_drew ?_))); (case side2 => exact (Kd.R_reads' HO380.out).2.1); rintro e w132 ⟨v382, rfl, ho0, hb⟩; refine ⟨_, rfl, ?_⟩; have n0_ := Aside0.mk (Kd.R_elder' (by (with_reducible repeat (first | apply Kd.R_alloc | apply Kd.R_drewN | apply Kd.R_drew)); exact HO_12.out) (Kd.R_base ho0) hb); have n1_ := Aside0.mk (Kd.R_elder' (by (with_reducible repeat (first | apply Kd.R_alloc | apply Kd.R_drewN | apply Kd.R_drew)); exact HO380.out) (Kd.R_base ho0) hb); have n2_ := Aside0.mk (Kd.R_lower (Kd.R_new' (Kd.R_new' ho0 (Kd.R_lt (by (with_reducible repeat (first | apply Kd.R_alloc | apply Kd.R_drewN | apply Kd.R_drew)); exact HO_12.out))) (Kd.R_lt (by (with_reducible repeat (first | apply Kd.R_alloc | apply Kd.R_drewN | apply Kd.R_drew)); exact HO380.out))) (below_size (by repeat (first | (with_reducible first | exact HB.out | apply below_alloc | apply pw_below_drewN | apply below_drew1 | refine below_set ?_ GE346.out) | exact HB.out)))); have n3_ := Aside0.mk (blk_below (g := gb346) (o := .cells #[.int .i64 t340, .int .i64 t341, .string t342] 27 (0, 0)) (by (with_reducible repeat (first | refine blk_drewN ?_ _ | refine blk_drew ?_ | refine blk_alloc ?_ _)); exact BK346.out) hb); have n4_ := Aside0.mk (below_step (by repeat (first | (with_reducible first | exact HB.out | apply below_alloc | apply pw_below_drewN | apply below_drew1 | refine below_set ?_ GE346.out) | exact HB.out)) hb); clear HO_12; clear HO380; clear BK346; clear HB; have HO_12 := n0_; have HO380 := n1_; have HO383 := n2_; have BK346 := n3_; have HB := n4_; clear n0_ n1_ n2_ n3_ n4_; (try clear hb); (try clear hb2); (try clear hk); (try clear hi); (try clear ho0); obtain ⟨Ao133, co133, eo133⟩ := Kd.R_slice HO383.out; subst eo133; have hcz134_0 : w132.cell? ⟨gb346, 0, none⟩ = some (.int .i64 t340) := (blk_cell BK346.out 0).trans rfl; have hcz134_1 : w132.cell? ⟨gb346, 1, none⟩ = some (.int .i64 t341) := (blk_cell BK346.out 1).trans rfl; have hcz134_2 : w132.cell? ⟨gb346, 2, none⟩ = some (.string t342) := (blk_cell BK346.out 2).trans rfl; have hfz134_0 := blk_frozen BK346.out 0; have hfz134_1 := blk_frozen BK346.out 1; have hfz134_2 := blk_frozen BK346.out 2; have p386 : 0 ≤ ((rd t343 (ji17)) : Int) := of_decide_eq_true (by first | (with_reducible assumption) | assumption); have q386 : (rd t343 (ji17)) < (t381.length : Int) := of_decide_eq_true (by first | (with_reducible assumption) | assumption); obtain ⟨ad386, e386, hx386_0⟩ := Kd.at_int (Kd.R_reads' HO383.out).2.2 (rd t343 (ji17)) p386 q386; cases e386; replace p386 := eq_true p386; replace q386 := eq_true q386))
                         go_ret
                         exact ⟨by first | rfl | (simp [errW_none, errW_some] <;> rfl) | (simp only [← hji13, ← hji17, ← hji21]; first | rfl | (simp [errW_none, errW_some] <;> rfl)) | (simp [*, errW_none, errW_some] <;> rfl), by repeat (first | (with_reducible first | exact HB.out | apply below_alloc | apply pw_below_drewN | apply below_drew1 | refine below_set ?_ GE346.out) | exact HB.out)⟩
                        ·rw [if_neg c126] at H
                         exact absurd H (by simp)
                       ·rw [if_neg c125] at H
                        exact absurd H (by simp)
                      ·rw [if_neg c124] at H
                       have c124b0 : ((t381.length : Int) == (t342.size : Int)) = false := beq_eq_false_iff_ne.mpr c124
                       have c124b1 : ((t381.length : Int) != (t342.size : Int)) = true := bne_iff_ne.mpr c124
                       have c124b2 : (t381.length == t342.size) = false := by first | simpa using c124 | (simp at c124 ⊢; omega)
                       exact absurd (Option.some.inj H) (by rw [ht_.out]; simp)
                   ·rw [if_neg c99] at H
                    have c99b0 : decide (0 ≤ t358) = false := decide_eq_false c99
                    clear c99
                    by_cases c135 : (t381.length : Int) = (t342.size : Int)
                    ·rw [if_pos c135] at H
                     have c135b0 : ((t381.length : Int) == (t342.size : Int)) = true := beq_iff_eq.mpr c135
                     have c135b1 : ((t381.length : Int) != (t342.size : Int)) = false := bne_eq_false_iff_eq.mpr c135
                     have c135b2 : (t381.length == t342.size) = true := by first | simpa using c135 | (simp at c135 ⊢; omega)
                     clear c135
                     by_cases c136 : 0 ≤ (rd t343 (ji17))
                     ·rw [if_pos c136] at H
                      have c136b0 : decide (0 ≤ (rd t343 (ji17))) = true := decide_eq_true c136
                      clear c136
                      by_cases c137 : (rd t343 (ji17)) < (t381.length : Int)
                      ·rw [if_pos c137] at H
                       have c137b0 : decide ((rd t343 (ji17)) < (t381.length : Int)) = true := decide_eq_true c137
                       clear c137
                       obtain rfl := Option.some.inj H
                       obtain ⟨Ao138, co138, eo138⟩ := Kd.R_slice HO_12.out
                       subst eo138
                       have hcz139_0 : wr.cell? ⟨gb346, 0, none⟩ = some (.int .i64 t340) := (blk_cell BK346.out 0).trans rfl
                       have hcz139_1 : wr.cell? ⟨gb346, 1, none⟩ = some (.int .i64 t341) := (blk_cell BK346.out 1).trans rfl
                       have hcz139_2 : wr.cell? ⟨gb346, 2, none⟩ = some (.string t342) := (blk_cell BK346.out 2).trans rfl
                       have hfz139_0 := blk_frozen BK346.out 0
                       have hfz139_1 := blk_frozen BK346.out 1
                       have hfz139_2 := blk_frozen BK346.out 2
                       go_wp2_with (first | ((with_reducible refine gate_dst (N := 161) rfl ?_); (try (refine gate_guard (by rfl) ?_; dsimp only)); refine Kd.R_lit (Kd.int .i64) _ 3 ?hg (N := 161) ?hd (xs := ([(rd t343 (ji13)), (rd t343 (ji21))] : List Int)) (inner := [.int .i64 (rd t343 (ji13)), .int .i64 (rd t343 (ji21))]) (ok := fun _ => True) (okp := fun _ => True) ?hr ?hp (fun _ hk => hk) trivial (Below.refl _ _) (Nat.le_refl _) (by simp) ?_; (case hd => rfl); (case hg => rfl); (case hr => first | (go_simp; done) | (go_simp; rfl)); (case hp => exact (Reps.one (show Kd.M (Kd.int .i64) _ _ _ (rd t343 (ji13)) [.int .i64 (rd t343 (ji13))] from rfl) (Reps.one (show Kd.M (Kd.int .i64) _ _ _ (rd t343 (ji21)) [.int .i64 (rd t343 (ji21))] from rfl) (Reps.none _ _)))); intro v379 w140 ho141 hb hg_ hnew_; clear hg_ hnew_; (first | rw [← Ny378.out] at ho141 | (simp only [Int.reduceToNat] at ho141; rw [← Ny378.out] at ho141)); have n0_ := Aside0.mk (Kd.R_elder' (by (with_reducible repeat (first | apply Kd.R_alloc | apply Kd.R_drewN | apply Kd.R_drew)); exact HO_12.out) (Kd.R_base ho141) hb); have n1_ := Aside0.mk (Kd.R_lower (Kd.R_new' ho141 (Kd.R_lt (by (with_reducible repeat (first | apply Kd.R_alloc | apply Kd.R_drewN | apply Kd.R_drew)); exact HO_12.out))) (below_size (by repeat (first | (with_reducible first | exact HB.out | apply below_alloc | apply pw_below_drewN | apply below_drew1 | refine below_set ?_ GE346.out) | exact HB.out)))); have n2_ := Aside0.mk (blk_below (g := gb346) (o := .cells #[.int .i64 t340, .int .i64 t341, .string t342] 27 (0, 0)) (by (with_reducible repeat (first | refine blk_drewN ?_ _ | refine blk_drew ?_ | refine blk_alloc ?_ _)); exact BK346.out) hb); have n3_ := Aside0.mk (below_step (by repeat (first | (with_reducible first | exact HB.out | apply below_alloc | apply pw_below_drewN | apply below_drew1 | refine below_set ?_ GE346.out) | exact HB.out)) hb); clear HO_12; clear BK346; clear HB; have HO_12 := n0_; have HO380 := n1_; have BK346 := n2_; have HB := n3_; clear n0_ n1_ n2_ n3_; clear hb ho141; obtain ⟨Ao142, co142, eo142⟩ := Kd.R_slice HO380.out; subst eo142) | ((with_reducible refine gate_callee (f := 25) rfl ?_); refine goesL_ (some 162) rfl rfl Try.func25 (by kernel_rfl) rfl #[.agg #[.int .i64 t340, .int .i64 t341, .string t342], .slice Ao142 y378.length co142] rfl (by (try simp only [List.map_toArray, List.map_cons, List.map_nil]); first | done | rfl | (simp only [List.length_drop, List.length_take]; rfl)) ?_; (with_reducible refine (impl_StepsFrom.calls k2 t340 t341 t342 _ _ y378 t381 _ ?side1 ?side2 A98.out).mono ?_); (case side1 => repeat (first | exact (Kd.R_reads' HO380.out).2.2 | (with_reducible refine Kd.C_alloc ?_ _) | (with_reducible refine Kd.C_drewN ?_ _) | (with_reducible refine Kd.C_drew ?_))); (case side2 => exact (Kd.R_reads' HO380.out).2.1); rintro e w143 ⟨v382, rfl, ho0, hb⟩; refine ⟨_, rfl, ?_⟩; have n0_ := Aside0.mk (Kd.R_elder' (by (with_reducible repeat (first | apply Kd.R_alloc | apply Kd.R_drewN | apply Kd.R_drew)); exact HO_12.out) (Kd.R_base ho0) hb); have n1_ := Aside0.mk (Kd.R_elder' (by (with_reducible repeat (first | apply Kd.R_alloc | apply Kd.R_drewN | apply Kd.R_drew)); exact HO380.out) (Kd.R_base ho0) hb); have n2_ := Aside0.mk (Kd.R_lower (Kd.R_new' (Kd.R_new' ho0 (Kd.R_lt (by (with_reducible repeat (first | apply Kd.R_alloc | apply Kd.R_drewN | apply Kd.R_drew)); exact HO_12.out))) (Kd.R_lt (by (with_reducible repeat (first | apply Kd.R_alloc | apply Kd.R_drewN | apply Kd.R_drew)); exact HO380.out))) (below_size (by repeat (first | (with_reducible first | exact HB.out | apply below_alloc | apply pw_below_drewN | apply below_drew1 | refine below_set ?_ GE346.out) | exact HB.out)))); have n3_ := Aside0.mk (blk_below (g := gb346) (o := .cells #[.int .i64 t340, .int .i64 t341, .string t342] 27 (0, 0)) (by (with_reducible repeat (first | refine blk_drewN ?_ _ | refine blk_drew ?_ | refine blk_alloc ?_ _)); exact BK346.out) hb); have n4_ := Aside0.mk (below_step (by repeat (first | (with_reducible first | exact HB.out | apply below_alloc | apply pw_below_drewN | apply below_drew1 | refine below_set ?_ GE346.out) | exact HB.out)) hb); clear HO_12; clear HO380; clear BK346; clear HB; have HO_12 := n0_; have HO380 := n1_; have HO383 := n2_; have BK346 := n3_; have HB := n4_; clear n0_ n1_ n2_ n3_ n4_; (try clear hb); (try clear hb2); (try clear hk); (try clear hi); (try clear ho0); obtain ⟨Ao144, co144, eo144⟩ := Kd.R_slice HO383.out; subst eo144; have hcz145_0 : w143.cell? ⟨gb346, 0, none⟩ = some (.int .i64 t340) := (blk_cell BK346.out 0).trans rfl; have hcz145_1 : w143.cell? ⟨gb346, 1, none⟩ = some (.int .i64 t341) := (blk_cell BK346.out 1).trans rfl; have hcz145_2 : w143.cell? ⟨gb346, 2, none⟩ = some (.string t342) := (blk_cell BK346.out 2).trans rfl; have hfz145_0 := blk_frozen BK346.out 0; have hfz145_1 := blk_frozen BK346.out 1; have hfz145_2 := blk_frozen BK346.out 2; have p387 : 0 ≤ ((rd t343 (ji17)) : Int) := of_decide_eq_true (by first | (with_reducible assumption) | assumption); have q387 : (rd t343 (ji17)) < (t381.length : Int) := of_decide_eq_true (by first | (with_reducible assumption) | assumption); obtain ⟨ad387, e387, hx387_0⟩ := Kd.at_int (Kd.R_reads' HO383.out).2.2 (rd t343 (ji17)) p387 q387; cases e387; replace p387 := eq_true p387; replace q387 := eq_true q387))
                       go_ret
                       exact ⟨by first | rfl | (simp [errW_none, errW_some] <;> rfl) | (simp only [← hji13, ← hji17, ← hji21]; first | rfl | (simp [errW_none, errW_some] <;> rfl)) | (simp [*, errW_none, errW_some] <;> rfl), by repeat (first | (with_reducible first | exact HB.out | apply below_alloc | apply pw_below_drewN | apply below_drew1 | refine below_set ?_ GE346.out) | exact HB.out)⟩
                      ·rw [if_neg c137] at H
                       exact absurd H (by simp)
                     ·rw [if_neg c136] at H
                      exact absurd H (by simp)
                    ·rw [if_neg c135] at H
                     have c135b0 : ((t381.length : Int) == (t342.size : Int)) = false := beq_eq_false_iff_ne.mpr c135
                     have c135b1 : ((t381.length : Int) != (t342.size : Int)) = true := bne_iff_ne.mpr c135
                     have c135b2 : (t381.length == t342.size) = false := by first | simpa using c135 | (simp at c135 ⊢; omega)
                     exact absurd (Option.some.inj H) (by rw [ht_.out]; simp)
            ·rw [if_neg c23] at H
             exact absurd H (by simp)
           ·rw [if_neg c22] at H
            exact absurd H (by simp)
          ·rw [if_neg c20] at H
           exact absurd H (by simp)
         ·rw [if_neg c19] at H
          exact absurd H (by simp)
        ·rw [if_neg c18] at H
         exact absurd H (by simp)
       ·rw [if_neg c16] at H
        exact absurd H (by simp)
      ·rw [if_neg c15] at H
       exact absurd H (by simp)
     ·rw [if_neg c14] at H
      exact absurd H (by simp)
   ·rw [if_neg c11] at H
    exact absurd H (by simp)

/-- THE ONE PURE STATEMENT of laws_FnSteps: yours. -/
def laws_FnSteps.Pure : Prop := ∀ (l0 : List Int), l0.length ≤ maxLen → l0.length * 1 ≤ 140737488351232 → (∀ x ∈ l0, (Lit.int .u8 x).wf = true) → ∃ k, laws_FnSteps.f k l0 = some true
theorem laws_FnSteps.walk (P : laws_FnSteps.Pure) (a0 : Option Addr) (len0 cap0 : Nat) (z0 : List Int) (w : World) (w0 : (a0 = none ∧ len0 = 0 ∧ cap0 = 0 ∧ z0 = []) ∨ ∃ x, a0 = some x ∧ len0 ≤ cap0 ∧ cap0 ≤ maxLen ∧ z0.length = cap0 ∧ (∀ i, i < z0.length → w.cell? (x.add i) = some (.int .u8 (z0.getD i 0))) ∧ ∀ n ∈ z0, (Lit.int .u8 n).wf = true) (y0 : len0 * 1 ≤ 140737488351232) :
  Calls Try.prog 6 #[.slice a0 len0 cap0] w fun e w' => e = .returned (.bool true) ∧ Below w.heap.size w w' := by
 obtain ⟨l0, rfl, hr0, hm0, hw0, hc0⟩ := ReadsInt.ofRowC w0
 obtain ⟨k, h⟩ := P l0 hm0 y0 hw0
 refine (laws_FnSteps.calls k _ _ l0 true w (Kd.C_of_reads (d := (0 : Int)) (h1 := fun _ => rfl) hr0) hc0 h ⟨rfl⟩).mono ?_
 rintro e w' ⟨rfl, hd⟩
 exact ⟨rfl, hd⟩

end Go.Proofs.Ytabepbkolmimlaa.PFnSteps
