-- Made by the session's wip/pp.py, a changed call of the kit's printer; Lean checks it.
import Derived.Test.YtgkpgigoonhgdaaPFnMostCutx0
namespace Go.Proofs.Ytgkpgigoonhgdaa.PFnMostCut
open Go.RowKit Go.Proofs.YtgkpgigoonhgdaaW.PrintWords Go.Proofs.YtgkpgigoonhgdaaW.PrintLast Go.Proofs.YtgkpgigoonhgdaaW.PrintMore
attribute [local go_sem] max2_int min2_int max_two min_two max_three min_three max_four min_four   -- for this text's walks alone
set_option linter.unusedVariables false
set_option linter.unusedSimpArgs false

abbrev fl8_0_ : Array Bool:=#[false,false,false,false,false,false,false,false,false,false,false,false,false,false,false,false,false,false,false,false,false]
abbrev fl8_1_ : Array Bool:=#[true,false,false,false,false,false,false,false,false,false,false,false,false,false,false,false,false,false,false,false,false]
abbrev fl8_2_ : Array Bool:=#[true,false,true,false,false,false,false,false,false,false,false,false,false,false,false,false,false,false,false,false,false]
abbrev fl8_3_ : Array Bool:=#[true,true,true,false,false,false,false,false,false,false,false,false,false,false,false,false,false,false,false,false,false]
abbrev fl8_4_ : Array Bool:=#[true,true,true,true,false,false,false,false,false,false,false,false,false,false,false,false,false,false,false,false,false]
abbrev fl8_5_ : Array Bool:=#[true,true,true,true,true,false,false,false,false,false,false,false,false,false,false,false,false,false,false,false,false]
abbrev fl8_6_ : Array Bool:=#[true,true,true,true,true,true,false,false,false,false,false,false,false,false,false,false,false,false,false,false,false]
abbrev fl8_7_ : Array Bool:=#[true,true,true,true,true,true,true,false,false,false,false,false,false,false,false,false,false,false,false,false,false]
abbrev fl8_8_ : Array Bool:=#[true,true,true,true,true,true,true,true,false,false,false,false,false,false,false,false,false,false,false,false,false]
abbrev fl8_9_ : Array Bool:=#[true,true,true,true,true,true,true,true,true,false,false,false,false,false,false,false,false,false,false,false,false]
abbrev fl8_10_ : Array Bool:=#[true,true,true,true,true,true,true,true,true,true,false,false,false,false,false,false,false,false,false,false,false]
abbrev fl8_11_ : Array Bool:=#[true,true,true,true,true,true,true,true,true,true,true,false,false,false,false,false,false,false,false,false,false]
abbrev fl8_12_ : Array Bool:=#[true,true,true,true,true,true,true,true,true,true,true,true,false,false,false,false,false,false,false,false,false]
abbrev fl8_13_ : Array Bool:=#[true,true,true,true,true,true,true,true,true,true,true,true,true,false,false,false,false,false,false,false,false]
abbrev fl8_14_ : Array Bool:=#[true,true,true,true,true,true,true,true,true,true,true,true,true,true,false,false,false,false,false,false,false]
abbrev fl8_15_ : Array Bool:=#[true,true,true,true,true,true,true,true,true,true,true,true,true,true,true,false,false,false,false,false,false]
abbrev fl8_16_ : Array Bool:=#[true,true,true,true,true,true,true,true,true,true,true,true,true,true,true,true,false,false,false,false,false]
abbrev fl8_17_ : Array Bool:=#[true,true,true,true,true,true,true,true,true,true,true,true,true,true,true,true,true,false,false,false,false]
abbrev fl8_18_ : Array Bool:=#[true,true,true,true,true,true,true,true,true,true,true,true,true,true,true,true,true,true,false,false,false]
abbrev fl8_19_ : Array Bool:=#[true,true,true,true,true,true,true,true,true,true,true,true,true,true,true,true,true,true,true,false,false]
abbrev fl8_20_ : Array Bool:=#[true,true,true,true,true,true,true,true,true,true,true,true,true,true,true,true,true,true,true,true,false]
abbrev fl8_21_ : Array Bool:=#[true,true,true,true,true,true,true,true,true,true,true,true,true,true,true,true,true,true,true,true,true]
/-! ### spec_l06Pushed: function 52 -/
mutual
def spec_l06Pushed.l0 : Nat → Int → List Int → Int → Int → List (S67) → Option (List Int)
 | 0, _, _, _, _, _ => none
 | k + 1, x1, x5, x6, x257000, x257001 => if x6 < x1 then (if 0 ≤ x257000 then (if (x257000 : Int).toNat ≤ 35184372088832 then (if (x257000 : Int).toNat ≤ 281474976710656 then ((some (List.replicate (x257000 : Int).toNat false : List Bool)).bind fun y263 => (if 0 < (y263.length : Int) then (spec_l06Pushed.l1 k x1 x5 x6 (List.replicate (x257000 : Int).toNat 0) (y263.set (0 : Int).toNat true) (([0] : List Int)) 0 x257000 x257001) else (none))) else (none)) else (none)) else (none)) else (some x5)
def spec_l06Pushed.l1 : Nat → Int → List Int → Int → List Int → List Bool → List Int → Int → Int → List (S67) → Option (List Int)
 | 0, _, _, _, _, _, _, _, _, _ => none
 | k + 1, x1, x5, x6, x7, x8, x9, x10, x257000, x257001 => if x10 < (x9.length : Int) then (if 0 ≤ x10 then (spec_l06Pushed.l2 k x1 x5 x6 x7 x8 x9 x10 (rd x9 x10) 0 x257000 x257001) else (none)) else (if 1 < (x8.length : Int) then (if rdOf false x8 1 = true then (spec_l06Pushed.l3 k x1 x5 x6 x7 1 x257000 x257001) else (some x5)) else (none))
def spec_l06Pushed.l2 : Nat → Int → List Int → Int → List Int → List Bool → List Int → Int → Int → Int → Int → List (S67) → Option (List Int)
 | 0, _, _, _, _, _, _, _, _, _, _, _ => none
 | k + 1, x1, x5, x6, x7, x8, x9, x10, x11, x12, x257000, x257001 => if x12 < (x5.length : Int) then (if 0 ≤ x12 then (if x12 < (x257001.length : Int) then (if ((rd_T67 x257001 x12).f0) = x11 then (if 0 ≤ ((rd_T67 x257001 x12).f1) then (if ((rd_T67 x257001 x12).f1) < (x8.length : Int) then (if (rdOf false x8 ((rd_T67 x257001 x12).f1) = true) then (spec_l06Pushed.j3 k x1 x5 x6 x7 x8 x9 x10 x11 x12 false x257000 x257001 ((rd_T67 x257001 x12).f0) ((rd_T67 x257001 x12).f1) ((rd_T67 x257001 x12).f2) ((rd_T67 x257001 x12).f3)) else (spec_l06Pushed.j3 k x1 x5 x6 x7 x8 x9 x10 x11 x12 (decide ((rd x5 x12) < ((rd_T67 x257001 x12).f2))) x257000 x257001 ((rd_T67 x257001 x12).f0) ((rd_T67 x257001 x12).f1) ((rd_T67 x257001 x12).f2) ((rd_T67 x257001 x12).f3))) else (none)) else (none)) else (spec_l06Pushed.j3 k x1 x5 x6 x7 x8 x9 x10 x11 x12 false x257000 x257001 ((rd_T67 x257001 x12).f0) ((rd_T67 x257001 x12).f1) ((rd_T67 x257001 x12).f2) ((rd_T67 x257001 x12).f3))) else (none)) else (none)) else (spec_l06Pushed.l1 k x1 x5 x6 x7 x8 x9 (wrap64 (x10 + 1)) x257000 x257001)
def spec_l06Pushed.j3 : Nat → Int → List Int → Int → List Int → List Bool → List Int → Int → Int → Int → Bool → Int → List (S67) → Int → Int → Int → Int → Option (List Int)
 | 0, _, _, _, _, _, _, _, _, _, _, _, _, _, _, _, _ => none
 | k + 1, x1, x5, x6, x7, x8, x9, x10, x11, x12, x74, x257000, x257001, x273000, x273001, x273002, x273003 => if x74 = true then (if 0 ≤ x273001 then (if x273001 < (x8.length : Int) then ((some (x8.set (x273001 : Int).toNat true : List Bool)).bind fun y275 => (if x273001 < (x7.length : Int) then ((some (x7.set (x273001 : Int).toNat (wrap64 (x12 + 1)) : List Int)).bind fun y276 => (if x9.length < 17592186044416 then ((some (x9 ++ [x273001] : List Int)).bind fun y277 => (if x273001 = x11 then (if 0 ≤ x273000 then (if x273000 < (x8.length : Int) then (if rdOf false y275 x273000 = true then (spec_l06Pushed.l2 k x1 x5 x6 y276 y275 y277 x10 x11 (wrap64 (x12 + 1)) x257000 x257001) else (if 0 ≤ x12 then (if x12 < (x5.length : Int) then (if (rd x5 x12) > 0 then (if x273000 < (x7.length : Int) then (if y277.length < 17592186044416 then (spec_l06Pushed.l2 k x1 x5 x6 (y276.set (x273000 : Int).toNat (wrap64 ((wrap64 (-x12)) - 1))) (y275.set (x273000 : Int).toNat true) (y277 ++ [x273000]) x10 x11 (wrap64 (x12 + 1)) x257000 x257001) else (none)) else (none)) else (spec_l06Pushed.l2 k x1 x5 x6 y276 y275 y277 x10 x11 (wrap64 (x12 + 1)) x257000 x257001)) else (none)) else (none))) else (none)) else (none)) else (spec_l06Pushed.l2 k x1 x5 x6 y276 y275 y277 x10 x11 (wrap64 (x12 + 1)) x257000 x257001))) else (none))) else (none))) else (none)) else (none)) else (if x273001 = x11 then (if 0 ≤ x273000 then (if x273000 < (x8.length : Int) then (if rdOf false x8 x273000 = true then (spec_l06Pushed.l2 k x1 x5 x6 x7 x8 x9 x10 x11 (wrap64 (x12 + 1)) x257000 x257001) else (if 0 ≤ x12 then (if x12 < (x5.length : Int) then (if (rd x5 x12) > 0 then (if x273000 < (x7.length : Int) then (if x9.length < 17592186044416 then (spec_l06Pushed.l2 k x1 x5 x6 (x7.set (x273000 : Int).toNat (wrap64 ((wrap64 (-x12)) - 1))) (x8.set (x273000 : Int).toNat true) (x9 ++ [x273000]) x10 x11 (wrap64 (x12 + 1)) x257000 x257001) else (none)) else (none)) else (spec_l06Pushed.l2 k x1 x5 x6 x7 x8 x9 x10 x11 (wrap64 (x12 + 1)) x257000 x257001)) else (none)) else (none))) else (none)) else (none)) else (spec_l06Pushed.l2 k x1 x5 x6 x7 x8 x9 x10 x11 (wrap64 (x12 + 1)) x257000 x257001))
def spec_l06Pushed.l3 : Nat → Int → List Int → Int → List Int → Int → Int → List (S67) → Option (List Int)
 | 0, _, _, _, _, _, _, _ => none
 | k + 1, x1, x5, x6, x7, x14, x257000, x257001 => if x14 = 0 then (spec_l06Pushed.l0 k x1 x5 (wrap64 (x6 + 1)) x257000 x257001) else (if 0 ≤ x14 then (if x14 < (x7.length : Int) then (if (rd x7 x14) > 0 then (if 0 ≤ (wrap64 ((rd x7 x14) - 1)) then (if (wrap64 ((rd x7 x14) - 1)) < (x5.length : Int) then (if (wrap64 ((rd x7 x14) - 1)) < (x257001.length : Int) then (spec_l06Pushed.l3 k x1 (x5.set ((wrap64 ((rd x7 x14) - 1)) : Int).toNat (wrap64 ((rd x5 (wrap64 ((rd x7 x14) - 1))) + 1))) x6 x7 ((rd_T67 x257001 (wrap64 ((rd x7 x14) - 1))).f0) x257000 x257001) else (none)) else (none)) else (none)) else (if 0 ≤ (wrap64 ((wrap64 (-(rd x7 x14))) - 1)) then (if (wrap64 ((wrap64 (-(rd x7 x14))) - 1)) < (x5.length : Int) then (if (wrap64 ((wrap64 (-(rd x7 x14))) - 1)) < (x257001.length : Int) then (spec_l06Pushed.l3 k x1 (x5.set ((wrap64 ((wrap64 (-(rd x7 x14))) - 1)) : Int).toNat (wrap64 ((rd x5 (wrap64 ((wrap64 (-(rd x7 x14))) - 1))) - 1))) x6 x7 ((rd_T67 x257001 (wrap64 ((wrap64 (-(rd x7 x14))) - 1))).f1) x257000 x257001) else (none)) else (none)) else (none))) else (none)) else (none))
end
def spec_l06Pushed.f (k : Nat) (a0_0 : Int) (l0_1 : List (S67)) (a1 : Int) : Option (List Int):=if 0 ≤ (l0_1.length : Int) then (if ((l0_1.length : Int) : Int).toNat ≤ 35184372088832 then (spec_l06Pushed.l0 k a1 (List.replicate ((l0_1.length : Int) : Int).toNat 0) 0 a0_0 l0_1) else (none)) else (none)
theorem spec_l06Pushed.mono_l : ∀ k,(∀ y0 y1 y2 y3 y4,LeO (spec_l06Pushed.l0 k y0 y1 y2 y3 y4) (spec_l06Pushed.l0 (k + 1) y0 y1 y2 y3 y4)) ∧ (∀ y0 y1 y2 y3 y4 y5 y6 y7 y8,LeO (spec_l06Pushed.l1 k y0 y1 y2 y3 y4 y5 y6 y7 y8) (spec_l06Pushed.l1 (k + 1) y0 y1 y2 y3 y4 y5 y6 y7 y8)) ∧ (∀ y0 y1 y2 y3 y4 y5 y6 y7 y8 y9 y10,LeO (spec_l06Pushed.l2 k y0 y1 y2 y3 y4 y5 y6 y7 y8 y9 y10) (spec_l06Pushed.l2 (k + 1) y0 y1 y2 y3 y4 y5 y6 y7 y8 y9 y10)) ∧ (∀ y0 y1 y2 y3 y4 y5 y6 y7 y8 y9 y10 y11 y12 y13 y14 y15,LeO (spec_l06Pushed.j3 k y0 y1 y2 y3 y4 y5 y6 y7 y8 y9 y10 y11 y12 y13 y14 y15) (spec_l06Pushed.j3 (k + 1) y0 y1 y2 y3 y4 y5 y6 y7 y8 y9 y10 y11 y12 y13 y14 y15)) ∧ (∀ y0 y1 y2 y3 y4 y5 y6,LeO (spec_l06Pushed.l3 k y0 y1 y2 y3 y4 y5 y6) (spec_l06Pushed.l3 (k + 1) y0 y1 y2 y3 y4 y5 y6))
 | 0 => ⟨fun _ _ _ _ _ r h => by simp [spec_l06Pushed.l0] at h, fun _ _ _ _ _ _ _ _ _ r h => by simp [spec_l06Pushed.l1] at h, fun _ _ _ _ _ _ _ _ _ _ _ r h => by simp [spec_l06Pushed.l2] at h, fun _ _ _ _ _ _ _ _ _ _ _ _ _ _ _ _ r h => by simp [spec_l06Pushed.j3] at h, fun _ _ _ _ _ _ _ r h => by simp [spec_l06Pushed.l3] at h⟩
 | k + 1 => by
  obtain ⟨ih0,ih1,ih2,ih3,ih4⟩:=spec_l06Pushed.mono_l k
  refine ⟨?_,?_,?_,?_,?_⟩
  ·intro y0 y1 y2 y3 y4
   unfold spec_l06Pushed.l0
   repeat' first
   | (with_reducible exact ih1 _ _ _ _ _ _ _ _ _)
   | (with_reducible exact LeO.refl _)
   | (with_reducible refine LeO.ite ?_ ?_)
   | (with_reducible refine LeO.bind ?_ (fun _ => ?_))
  ·intro y0 y1 y2 y3 y4 y5 y6 y7 y8
   unfold spec_l06Pushed.l1
   repeat' first
   | (with_reducible exact ih2 _ _ _ _ _ _ _ _ _ _ _)
   | (with_reducible exact ih4 _ _ _ _ _ _ _)
   | (with_reducible exact LeO.refl _)
   | (with_reducible refine LeO.ite ?_ ?_)
  ·intro y0 y1 y2 y3 y4 y5 y6 y7 y8 y9 y10
   unfold spec_l06Pushed.l2
   repeat' first
   | (with_reducible exact ih1 _ _ _ _ _ _ _ _ _)
   | (with_reducible exact ih3 _ _ _ _ _ _ _ _ _ _ _ _ _ _ _ _)
   | (with_reducible exact LeO.refl _)
   | (with_reducible refine LeO.ite ?_ ?_)
  ·intro y0 y1 y2 y3 y4 y5 y6 y7 y8 y9 y10 y11 y12 y13 y14 y15
   unfold spec_l06Pushed.j3
   repeat' first
   | (with_reducible exact ih2 _ _ _ _ _ _ _ _ _ _ _)
   | (with_reducible exact LeO.refl _)
   | (with_reducible refine LeO.ite ?_ ?_)
   | (with_reducible refine LeO.bind ?_ (fun _ => ?_))
  ·intro y0 y1 y2 y3 y4 y5 y6
   unfold spec_l06Pushed.l3
   repeat' first
   | (with_reducible exact ih0 _ _ _ _ _)
   | (with_reducible exact ih4 _ _ _ _ _ _ _)
   | (with_reducible exact LeO.refl _)
   | (with_reducible refine LeO.ite ?_ ?_)
theorem spec_l06Pushed.mono : ∀ a0 a1 a2 k,LeO (spec_l06Pushed.f k a0 a1 a2) (spec_l06Pushed.f (k + 1) a0 a1 a2):=by
 intro a0 a1 a2 k
 obtain ⟨ih0,ih1,ih2,ih3,ih4⟩:=spec_l06Pushed.mono_l k
 unfold spec_l06Pushed.f
 repeat' first
   | (with_reducible exact ih0 _ _ _ _ _)
   | (with_reducible exact LeO.refl _)
   | (with_reducible refine LeO.ite ?_ ?_)
def spec_l06Pushed.T17 : Bool × List (List Nat × List Nat):=(true,[([],[]),([0],[0]),([],[]),([1,2],[1,2]),([3],[3]),([4],[4]),([4],[4]),([6,4],[4,6]),([5,7,4],[4,5,7]),([8,4],[4,8]),([9,4],[4,9]),([4,10],[4,10]),([11,4],[11]),([12],[12]),([12],[12]),([13,14,12],[12,13,14]),([15,12],[12,15]),([12],[12]),([17,12],[12,17]),([16,18,12],[12,16,18]),([12,19],[12,19])])
def spec_l06Pushed.B17 : List Nat:=[0,1,0,7,15,31,31,95,255,511,1023,2047,4095,8191,8191,32767,65535,8191,139263,524287,1048575]
theorem spec_l06Pushed.tab17 : rtab .any (opsOf Try.f52 17) = spec_l06Pushed.T17:=by kernel_rfl
theorem spec_l06Pushed.bits17 : waitsOk spec_l06Pushed.T17.2 spec_l06Pushed.B17 = true:=by kernel_rfl
def spec_l06Pushed.T30 : Bool × List (List Nat × List Nat):=(true,[([],[]),([],[]),([],[]),([1,2],[1,2]),([3],[3]),([4],[4]),([],[]),([],[]),([],[]),([7,8],[7,8]),([9],[9]),([10],[10]),([6,11],[6,11]),([12],[12]),([13],[13]),([0,5,0,1,2,3,4,5,6,7,8,9,10,11,12,13,14],[0,5]),([15,14,0,1,2,3,4,5,6,7,8,9,10,11,12,13,14],[14,15])])
def spec_l06Pushed.B30 : List Nat:=[0,0,0,6,14,30,0,0,0,384,896,1920,4032,8128,16320,32767,65535]
theorem spec_l06Pushed.tab30 : rtab .any (opsOf Try.f52 30) = spec_l06Pushed.T30:=by kernel_rfl
theorem spec_l06Pushed.bits30 : waitsOk spec_l06Pushed.T30.2 spec_l06Pushed.B30 = true:=by kernel_rfl
def spec_l06Pushed.T31 : Bool × List (List Nat × List Nat):=(true,[([],[]),([0],[0]),([],[]),([],[]),([2,3],[2,3]),([4],[4]),([5],[5]),([1,6],[1,6]),([7],[7]),([8],[8]),([9,0,1,2,3,4,5,6,7,8,9],[3,9])])
def spec_l06Pushed.B31 : List Nat:=[0,1,0,0,12,28,60,127,255,511,1023]
theorem spec_l06Pushed.tab31 : rtab .any (opsOf Try.f52 31) = spec_l06Pushed.T31:=by kernel_rfl
theorem spec_l06Pushed.bits31 : waitsOk spec_l06Pushed.T31.2 spec_l06Pushed.B31 = true:=by kernel_rfl
def spec_l06Pushed.T32 : Bool × List (List Nat × List Nat):=(true,[([],[]),([],[]),([],[]),([1,2],[1,2]),([3],[3]),([4],[4]),([5],[5]),([],[]),([],[]),([],[]),([8,9],[8,9]),([10],[10]),([11],[11]),([12],[12]),([7,13],[7,13]),([14],[14]),([15],[15]),([0,6,0,1,2,3,4,5,6,7,8,9,10,11,12,13,14,15,16],[0,6]),([17,16,0,1,2,3,4,5,6,7,8,9,10,11,12,13,14,15,16],[16,17])])
def spec_l06Pushed.B32 : List Nat:=[0,0,0,6,14,30,62,0,0,0,768,1792,3840,7936,16256,32640,65408,131071,262143]
theorem spec_l06Pushed.tab32 : rtab .any (opsOf Try.f52 32) = spec_l06Pushed.T32:=by kernel_rfl
theorem spec_l06Pushed.bits32 : waitsOk spec_l06Pushed.T32.2 spec_l06Pushed.B32 = true:=by kernel_rfl
def spec_l06Pushed.T33 : Bool × List (List Nat × List Nat):=(true,[([],[]),([0],[0]),([],[]),([],[]),([2,3],[2,3]),([4],[4]),([5],[5]),([6],[6]),([1,7],[1,7]),([8],[8]),([9],[9]),([10,0,1,2,3,4,5,6,7,8,9,10],[3,10])])
def spec_l06Pushed.B33 : List Nat:=[0,1,0,0,12,28,60,124,255,511,1023,2047]
theorem spec_l06Pushed.tab33 : rtab .any (opsOf Try.f52 33) = spec_l06Pushed.T33:=by kernel_rfl
theorem spec_l06Pushed.bits33 : waitsOk spec_l06Pushed.T33.2 spec_l06Pushed.B33 = true:=by kernel_rfl
end Go.Proofs.Ytgkpgigoonhgdaa.PFnMostCut
