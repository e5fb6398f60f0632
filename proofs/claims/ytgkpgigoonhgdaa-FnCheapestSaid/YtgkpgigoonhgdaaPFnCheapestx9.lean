-- Made by the session's wip/pp.py, a changed call of the kit's printer; Lean checks it.
import Derived.Test.YtgkpgigoonhgdaaPFnCheapestx0
import Derived.Test.YtgkpgigoonhgdaaPFnCheapestx1
import Derived.Test.YtgkpgigoonhgdaaPFnCheapestx2
import Derived.Test.YtgkpgigoonhgdaaPFnCheapestx3
import Derived.Test.YtgkpgigoonhgdaaPFnCheapestx4
import Derived.Test.YtgkpgigoonhgdaaPFnCheapestx5
import Derived.Test.YtgkpgigoonhgdaaPFnCheapestx7
import Derived.Test.YtgkpgigoonhgdaaPFnCheapestx8
namespace Go.Proofs.Ytgkpgigoonhgdaa.PFnCheapest
open Go.RowKit Go.Proofs.YtgkpgigoonhgdaaW.PrintWords Go.Proofs.YtgkpgigoonhgdaaW.PrintLast Go.Proofs.YtgkpgigoonhgdaaW.PrintMore
attribute [local go_sem] max2_int min2_int max_two min_two max_three min_three max_four min_four   -- for this text's walks alone
set_option linter.unusedVariables false
set_option linter.unusedSimpArgs false

abbrev fl9_0_ : Array Bool:=#[false,false,false,false,false,false,false,false,false,false,false,false,false,false,false,false,false,false,false,false,false,false,false,false,false,false,false]
abbrev fl9_1_ : Array Bool:=#[false,false,true,false,false,false,false,false,false,false,false,false,false,false,false,false,false,false,false,false,false,false,false,false,false,false,false]
abbrev fl9_2_ : Array Bool:=#[true,false,true,false,false,false,false,false,false,false,false,false,false,false,false,false,false,false,false,false,false,false,false,false,false,false,false]
abbrev fl9_3_ : Array Bool:=#[true,true,true,false,false,false,false,false,false,false,false,false,false,false,false,false,false,false,false,false,false,false,false,false,false,false,false]
abbrev fl9_4_ : Array Bool:=#[true,true,true,true,false,false,false,false,false,false,false,false,false,false,false,false,false,false,false,false,false,false,false,false,false,false,false]
abbrev fl9_5_ : Array Bool:=#[true,true,true,true,true,false,false,false,false,false,false,false,false,false,false,false,false,false,false,false,false,false,false,false,false,false,false]
abbrev fl9_6_ : Array Bool:=#[true,true,true,true,true,true,false,false,false,false,false,false,false,false,false,false,false,false,false,false,false,false,false,false,false,false,false]
abbrev fl9_7_ : Array Bool:=#[true,true,true,true,true,true,true,false,false,false,false,false,false,false,false,false,false,false,false,false,false,false,false,false,false,false,false]
abbrev fl9_8_ : Array Bool:=#[true,true,true,true,true,true,true,true,false,false,false,false,false,false,false,false,false,false,false,false,false,false,false,false,false,false,false]
abbrev fl9_9_ : Array Bool:=#[true,true,true,true,true,true,true,true,true,false,false,false,false,false,false,false,false,false,false,false,false,false,false,false,false,false,false]
abbrev fl9_10_ : Array Bool:=#[true,true,true,true,true,true,true,true,true,true,false,false,false,false,false,false,false,false,false,false,false,false,false,false,false,false,false]
abbrev fl9_11_ : Array Bool:=#[true,true,true,true,true,true,true,true,true,true,true,false,false,false,false,false,false,false,false,false,false,false,false,false,false,false,false]
abbrev fl9_12_ : Array Bool:=#[true,true,true,true,true,true,true,true,true,true,true,true,false,false,false,false,false,false,false,false,false,false,false,false,false,false,false]
abbrev fl9_13_ : Array Bool:=#[true,true,true,true,true,true,true,true,true,true,true,true,true,false,false,false,false,false,false,false,false,false,false,false,false,false,false]
abbrev fl9_14_ : Array Bool:=#[true,true,true,true,true,true,true,true,true,true,true,true,true,true,false,false,false,false,false,false,false,false,false,false,false,false,false]
abbrev fl9_15_ : Array Bool:=#[true,true,true,true,true,true,true,true,true,true,true,true,true,true,true,false,false,false,false,false,false,false,false,false,false,false,false]
abbrev fl9_16_ : Array Bool:=#[true,true,true,true,true,true,true,true,true,true,true,true,true,true,true,true,false,false,false,false,false,false,false,false,false,false,false]
abbrev fl9_17_ : Array Bool:=#[true,true,true,true,true,true,true,true,true,true,true,true,true,true,true,true,true,false,false,false,false,false,false,false,false,false,false]
abbrev fl9_18_ : Array Bool:=#[true,true,true,true,true,true,true,true,true,true,true,true,true,true,true,true,true,true,false,false,false,false,false,false,false,false,false]
abbrev fl9_19_ : Array Bool:=#[true,true,true,true,true,true,true,true,true,true,true,true,true,true,true,true,true,true,true,false,false,false,false,false,false,false,false]
abbrev fl9_20_ : Array Bool:=#[true,true,true,true,true,true,true,true,true,true,true,true,true,true,true,true,true,true,true,true,false,false,false,false,false,false,false]
abbrev fl9_21_ : Array Bool:=#[true,true,true,true,true,true,true,true,true,true,true,true,true,true,true,true,true,true,true,true,true,false,false,false,false,false,false]
abbrev fl9_22_ : Array Bool:=#[true,true,true,true,true,true,true,true,true,true,true,true,true,true,true,true,true,true,true,true,true,true,false,false,false,false,false]
abbrev fl9_23_ : Array Bool:=#[true,true,true,true,true,true,true,true,true,true,true,true,true,true,true,true,true,true,true,true,true,true,true,false,false,false,false]
abbrev fl9_24_ : Array Bool:=#[true,true,true,true,true,true,true,true,true,true,true,true,true,true,true,true,true,true,true,true,true,true,true,true,false,false,false]
abbrev fl9_25_ : Array Bool:=#[true,true,true,true,true,true,true,true,true,true,true,true,true,true,true,true,true,true,true,true,true,true,true,true,true,false,false]
abbrev fl9_26_ : Array Bool:=#[true,true,true,true,true,true,true,true,true,true,true,true,true,true,true,true,true,true,true,true,true,true,true,true,true,true,false]
abbrev fl9_27_ : Array Bool:=#[true,true,true,true,true,true,true,true,true,true,true,true,true,true,true,true,true,true,true,true,true,true,true,true,true,true,true]
abbrev fl9_28_ : Array Bool:=#[true,true,true,true,true,true,true,true,true,true,true,true,true,true,true,true,false,false,false,false,false,true,false,false,false,false,false]
abbrev fl9_29_ : Array Bool:=#[true,true,true,true,true,true,true,true,true,true,true,true,true,true,true,true,false,false,false,false,false,true,true,false,false,false,false]
abbrev fl9_30_ : Array Bool:=#[true,true,true,true,true,true,true,true,true,true,true,true,true,true,true,true,false,false,false,false,false,true,true,true,false,false,false]
abbrev fl9_31_ : Array Bool:=#[true,true,true,true,true,true,true,true,true,true,true,true,true,true,true,true,true,false,false,false,false,true,true,true,false,false,false]
abbrev fl9_32_ : Array Bool:=#[true,true,true,true,true,true,true,true,true,true,true,true,true,true,true,true,true,true,false,false,false,true,true,true,false,false,false]
abbrev fl9_33_ : Array Bool:=#[true,true,true,true,true,true,true,true,true,true,true,true,true,true,true,true,true,true,true,false,false,true,true,true,false,false,false]
abbrev fl9_34_ : Array Bool:=#[true,true,true,true,true,true,true,true,true,true,true,true,true,true,true,true,true,true,true,false,false,true,true,true,true,false,false]
abbrev fl9_35_ : Array Bool:=#[true,true,true,true,true,true,true,true,true,true,true,true,true,true,true,true,true,true,true,true,false,true,true,true,true,false,false]
/-! ### impl_Cheapest: function 43 -/
mutual
def impl_Cheapest.j0 : Nat → Int → Bool → Int → List (S67) → Option (List Int × Int × Bool)
 | 0, _, _, _, _ => none
 | k + 1, x1, x29, x316000, x316001 => if x29 = true then (some (([] : List Int), 0, false)) else ((impl_stepsOf.f k x316000 x316001).bind fun bt317 => (if 0 ≤ (x316001.length : Int) then (if ((x316001.length : Int) : Int).toNat ≤ 35184372088832 then (impl_Cheapest.l0 k x1 bt317.1 bt317.2 (List.replicate ((x316001.length : Int) : Int).toNat 0) x316000 x316001) else (none)) else (none)))
def impl_Cheapest.l0 : Nat → Int → List (List (S79)) → List (List (S79)) → List Int → Int → List (S67) → Option (List Int × Int × Bool)
 | 0, _, _, _, _, _, _ => none
 | k + 1, x1, x7, x8, x9, x316000, x316001 => if x1 > 0 then ((impl_distances.f k x316000 x316001 x7 x9).bind fun t327 => (if 1 < (t327.length : Int) then (if (rd t327 1) = 1152921504606846976 then (some (([] : List Int), 0, false)) else (impl_Cheapest.l1 k x1 x7 x8 x9 t327 ([] : List (S79)) 1 x316000 x316001)) else (none))) else ((impl_costOf.f k x316000 x316001 x9).bind fun t326 => (some (x9, t326, true)))
def impl_Cheapest.l1 : Nat → Int → List (List (S79)) → List (List (S79)) → List Int → List Int → List (S79) → Int → Int → List (S67) → Option (List Int × Int × Bool)
 | 0, _, _, _, _, _, _, _, _, _ => none
 | k + 1, x1, x7, x8, x9, x10, x11, x12, x316000, x316001 => if x12 = 0 then (impl_Cheapest.l3 k x1 x7 x8 x9 x11 (x11.length : Int) 0 x316000 x316001) else (if 0 ≤ x12 then (if x12 < (x8.length : Int) then (impl_Cheapest.l2 k x1 x7 x8 x9 x10 x11 x12 (rd_L4 x8 x12) ((rd_L4 x8 x12).length : Int) 0 x316000 x316001) else (none)) else (none))
def impl_Cheapest.l3 : Nat → Int → List (List (S79)) → List (List (S79)) → List Int → List (S79) → Int → Int → Int → List (S67) → Option (List Int × Int × Bool)
 | 0, _, _, _, _, _, _, _, _, _ => none
 | k + 1, x1, x7, x8, x9, x101, x102, x103, x316000, x316001 => if x103 < x102 then (if 0 ≤ x103 then (if x103 < (x101.length : Int) then ((impl_pushed.f x9 ((rd_T79 x101 x103).f0) ((rd_T79 x101 x103).f1) 1).bind fun t346 => (impl_Cheapest.l3 k x1 x7 x8 t346 x101 x102 (wrap64 (x103 + 1)) x316000 x316001)) else (none)) else (none)) else (impl_Cheapest.l0 k (wrap64 (x1 - 1)) x7 x8 x9 x316000 x316001)
def impl_Cheapest.l2 : Nat → Int → List (List (S79)) → List (List (S79)) → List Int → List Int → List (S79) → Int → List (S79) → Int → Int → Int → List (S67) → Option (List Int × Int × Bool)
 | 0, _, _, _, _, _, _, _, _, _, _, _, _ => none
 | k + 1, x1, x7, x8, x9, x10, x11, x12, x56, x57, x58, x316000, x316001 => if x58 < x57 then (if 0 ≤ x58 then (if x58 < (x56.length : Int) then ((impl_step_ends.f ((rd_T79 x56 x58).f0) ((rd_T79 x56 x58).f1) x316000 x316001).bind fun bt334 => ((impl_step_room.f ((rd_T79 x56 x58).f0) ((rd_T79 x56 x58).f1) x316000 x316001 x9).bind fun t336 => (if t336 > 0 then (if 0 ≤ bt334.1 then (if bt334.1 < (x10.length : Int) then (if (rd x10 bt334.1) < 1152921504606846976 then ((impl_step_length.f ((rd_T79 x56 x58).f0) ((rd_T79 x56 x58).f1) x316000 x316001).bind fun t339 => (if 0 ≤ x12 then (if x12 < (x10.length : Int) then (if (wrap64 ((rd x10 bt334.1) + t339)) = (rd x10 x12) then (if x11.length < 8796093022208 then (impl_Cheapest.l1 k x1 x7 x8 x9 x10 (x11 ++ [(⟨(rd_T79 x56 x58).f0, (rd_T79 x56 x58).f1⟩ : S79)]) bt334.1 x316000 x316001) else (none)) else (impl_Cheapest.l2 k x1 x7 x8 x9 x10 x11 x12 x56 x57 (wrap64 (x58 + 1)) x316000 x316001)) else (none)) else (none))) else (impl_Cheapest.l2 k x1 x7 x8 x9 x10 x11 x12 x56 x57 (wrap64 (x58 + 1)) x316000 x316001)) else (none)) else (none)) else (impl_Cheapest.l2 k x1 x7 x8 x9 x10 x11 x12 x56 x57 (wrap64 (x58 + 1)) x316000 x316001)))) else (none)) else (none)) else (impl_Cheapest.l1 k x1 x7 x8 x9 x10 x11 x12 x316000 x316001)
end
def impl_Cheapest.f (k : Nat) (a0_0 : Int) (l0_1 : List (S67)) (a1 : Int) : Option (List Int × Int × Bool):=(impl_NetOk.f k a0_0 l0_1).bind fun t316=>(if t316 = true then (if a1 < 0 then (impl_Cheapest.j0 k a1 true a0_0 l0_1) else (impl_Cheapest.j0 k a1 (decide (a1 > 16)) a0_0 l0_1)) else (impl_Cheapest.j0 k a1 true a0_0 l0_1))
theorem impl_Cheapest.mono_l : ∀ k,(∀ y0 y1 y2 y3,LeO (impl_Cheapest.j0 k y0 y1 y2 y3) (impl_Cheapest.j0 (k + 1) y0 y1 y2 y3)) ∧ (∀ y0 y1 y2 y3 y4 y5,LeO (impl_Cheapest.l0 k y0 y1 y2 y3 y4 y5) (impl_Cheapest.l0 (k + 1) y0 y1 y2 y3 y4 y5)) ∧ (∀ y0 y1 y2 y3 y4 y5 y6 y7 y8,LeO (impl_Cheapest.l1 k y0 y1 y2 y3 y4 y5 y6 y7 y8) (impl_Cheapest.l1 (k + 1) y0 y1 y2 y3 y4 y5 y6 y7 y8)) ∧ (∀ y0 y1 y2 y3 y4 y5 y6 y7 y8,LeO (impl_Cheapest.l3 k y0 y1 y2 y3 y4 y5 y6 y7 y8) (impl_Cheapest.l3 (k + 1) y0 y1 y2 y3 y4 y5 y6 y7 y8)) ∧ (∀ y0 y1 y2 y3 y4 y5 y6 y7 y8 y9 y10 y11,LeO (impl_Cheapest.l2 k y0 y1 y2 y3 y4 y5 y6 y7 y8 y9 y10 y11) (impl_Cheapest.l2 (k + 1) y0 y1 y2 y3 y4 y5 y6 y7 y8 y9 y10 y11))
 | 0 => ⟨fun _ _ _ _ r h => by simp [impl_Cheapest.j0] at h, fun _ _ _ _ _ _ r h => by simp [impl_Cheapest.l0] at h, fun _ _ _ _ _ _ _ _ _ r h => by simp [impl_Cheapest.l1] at h, fun _ _ _ _ _ _ _ _ _ r h => by simp [impl_Cheapest.l3] at h, fun _ _ _ _ _ _ _ _ _ _ _ _ r h => by simp [impl_Cheapest.l2] at h⟩
 | k + 1 => by
  obtain ⟨ih0,ih1,ih2,ih3,ih4⟩:=impl_Cheapest.mono_l k
  refine ⟨?_,?_,?_,?_,?_⟩
  ·intro y0 y1 y2 y3
   unfold impl_Cheapest.j0
   repeat' first
   | (with_reducible exact ih1 _ _ _ _ _ _)
   | (with_reducible exact impl_stepsOf.mono _ _ _)
   | (with_reducible exact LeO.refl _)
   | (with_reducible refine LeO.ite ?_ ?_)
   | (with_reducible refine LeO.bind ?_ (fun _ => ?_))
  ·intro y0 y1 y2 y3 y4 y5
   unfold impl_Cheapest.l0
   repeat' first
   | (with_reducible exact ih2 _ _ _ _ _ _ _ _ _)
   | (with_reducible exact impl_costOf.mono _ _ _ _)
   | (with_reducible exact impl_distances.mono _ _ _ _ _)
   | (with_reducible exact LeO.refl _)
   | (with_reducible refine LeO.ite ?_ ?_)
   | (with_reducible refine LeO.bind ?_ (fun _ => ?_))
  ·intro y0 y1 y2 y3 y4 y5 y6 y7 y8
   unfold impl_Cheapest.l1
   repeat' first
   | (with_reducible exact ih3 _ _ _ _ _ _ _ _ _)
   | (with_reducible exact ih4 _ _ _ _ _ _ _ _ _ _ _ _)
   | (with_reducible exact LeO.refl _)
   | (with_reducible refine LeO.ite ?_ ?_)
  ·intro y0 y1 y2 y3 y4 y5 y6 y7 y8
   unfold impl_Cheapest.l3
   repeat' first
   | (with_reducible exact ih1 _ _ _ _ _ _)
   | (with_reducible exact ih3 _ _ _ _ _ _ _ _ _)
   | (with_reducible exact LeO.refl _)
   | (with_reducible refine LeO.ite ?_ ?_)
   | (with_reducible refine LeO.bind ?_ (fun _ => ?_))
  ·intro y0 y1 y2 y3 y4 y5 y6 y7 y8 y9 y10 y11
   unfold impl_Cheapest.l2
   repeat' first
   | (with_reducible exact ih2 _ _ _ _ _ _ _ _ _)
   | (with_reducible exact ih4 _ _ _ _ _ _ _ _ _ _ _ _)
   | (with_reducible exact LeO.refl _)
   | (with_reducible refine LeO.ite ?_ ?_)
   | (with_reducible refine LeO.bind ?_ (fun _ => ?_))
theorem impl_Cheapest.mono : ∀ a0 a1 a2 k,LeO (impl_Cheapest.f k a0 a1 a2) (impl_Cheapest.f (k + 1) a0 a1 a2):=by
 intro a0 a1 a2 k
 obtain ⟨ih0,ih1,ih2,ih3,ih4⟩:=impl_Cheapest.mono_l k
 unfold impl_Cheapest.f
 repeat' first
   | (with_reducible exact ih0 _ _ _ _)
   | (with_reducible exact impl_NetOk.mono _ _ _)
   | (with_reducible refine LeO.ite ?_ ?_)
   | (with_reducible refine LeO.bind ?_ (fun _ => ?_))
def impl_Cheapest.T17 : Bool × List (List Nat × List Nat):=(true,[([],[]),([],[]),([],[]),([0,1,2],[0,1,2]),([3],[3]),([4,3],[4]),([5],[5]),([5],[5]),([6,7,5],[5,6,7]),([8,5],[5,8]),([9,5],[5,9]),([5,10],[5,10]),([11,5],[11]),([12],[12]),([12],[12]),([13,14,12],[12,13,14]),([15,12],[12,15]),([12],[12]),([12],[12]),([17,18,12,12],[12,17,18]),([16,19,12],[12,16,19]),([12],[12]),([12],[12]),([21,22,12],[12,21,22]),([23,12],[12,23]),([20,24,12],[12,20,24]),([12,25],[12,25])])
def impl_Cheapest.B17 : List Nat:=[0,0,0,7,15,31,63,63,255,511,1023,2047,4095,8191,8191,32767,65535,8191,8191,401407,1048575,8191,8191,6299647,14688255,33554431,67108863]
theorem impl_Cheapest.tab17 : rtab .any (opsOf Try.f43 17) = impl_Cheapest.T17:=by kernel_rfl
theorem impl_Cheapest.bits17 : waitsOk impl_Cheapest.T17.2 impl_Cheapest.B17 = true:=by kernel_rfl
/-! what was read ahead of a block's making, behind stores into that block -/
theorem seen_new {α : Type} {d : Kd α} {w : World} {A : Option Addr} {n : Nat} {xs : List α} {g : Nat} (hsz : 0 < d.sz) (hg : w.heap.size ≤ g) (h : Kd.C d w A n xs) : ∀ a,A = some a → 0 < n → a.block ≠ g:=by
 intro a ha hn e
 obtain ⟨ad,e1,hc⟩:=h.2.2 hn
 obtain rfl : ad = a:=Option.some.inj (e1.symm.trans ha)
 have hl : 0 < xs.length:=by rw [h.1];exact hn
 obtain ⟨c,hs,hr,hcell⟩:=hc 0 _ (List.getElem?_eq_getElem hl)
 have hc0 : 0 < c.length:=by omega
 have hb:=World.block_lt_of_cell? w _ (hcell 0 _ (List.getElem?_eq_getElem hc0))
 rw [add_block] at hb
 omega
theorem seen_far {w : World} {A : Option Addr} {n : Nat} {xs : List S79} {g o : Nat} (h : Kd.C k79 w A n xs) (hne : ∀ a,A = some a → 0 < n → a.block ≠ g) (u : Value) : Kd.C k79 (w.setCell ⟨g,o,none⟩ u) A n xs:=by
 refine ⟨h.1,h.2.1,fun hn=>?_⟩
 obtain ⟨ad,e,hc⟩:=h.2.2 hn
 refine ⟨ad,e,fun j p hj=>?_⟩
 obtain ⟨c,hs,hr,hcell⟩:=hc j p hj
 exact ⟨c,hs,hr,fun i u' hu=>by rw [cell_far (by rw [add_block];exact hne ad e hn)];exact hcell i u' hu⟩
set_option maxHeartbeats 8000000 in
set_option maxRecDepth 100000 in
theorem impl_Cheapest.calls (k : Nat) (a0_0 : Int) (A0_1 : Option Addr) (c0_1 : Nat) (l0_1 : List (S67)) (a1 : Int) (r1 : List Int) (r2 : Int) (r3 : Bool) (w : World) (hr0_1 : Kd.C k67 w A0_1 l0_1.length l0_1) (hc0_1 : l0_1.length ≤ c0_1) (h : impl_Cheapest.f k a0_0 l0_1 a1 = some (r1,r2,r3)) :
  Calls Try.prog 43 #[.agg #[.int .i64 a0_0,.slice A0_1 l0_1.length c0_1],.int .i64 a1] w fun e w'=>∃ v0_ : Value,e = .returned (.tuple #[v0_,.int .i64 r2,.bool r3]) ∧ Kd.R (Kd.int .i64) 3 w' w.heap.size (fun _=>True) v0_ r1 ∧ Below w.heap.size w w':=by
 have hu30:=Try.underlying30
 have hu79:=Try.underlying79
 have HR0_1:=am_ hr0_1
 have HC0_1:=am_ hc0_1
 clear hr0_1 hc0_1
 have HB:=am_ (Below.refl w.heap.size w)
 have H : ((impl_NetOk.f k a0_0 l0_1).bind fun t316=>(if t316 = true then (if a1 < 0 then (impl_Cheapest.j0 k a1 true a0_0 l0_1) else (impl_Cheapest.j0 k a1 (decide (a1 > 16)) a0_0 l0_1)) else (impl_Cheapest.j0 k a1 true a0_0 l0_1))) = some (r1,r2,r3):=h
 clear h
 have HC3:=am_ H
 clear H
 go_enter Try.func43,Try.ntmps43
 go_upto_region 1 with (((with_reducible refine gate_dst (N:=2) rfl ?_);refine box_event ?hg (N:=2) ?hd (cs:=#[.int .i64 a0_0,.slice A0_1 l0_1.length c0_1]) (t:=30) ?hr ?_;(case hd=>rfl);(case hg=>rfl);(case hr=>(go_simp;done));intro gb315 hg w4 hbox hb;have n0_:=am_ (below_step HB.out hb);have n1_:=am_ (hbox);have n2_:=am_ ((by rw [hg];exact (below_size HB.out) : w.heap.size ≤ gb315));have n3_:=n2_;clear HB;have HB:=n0_;have BK315:=n1_;have GW315:=n2_;have GE315:=n3_;clear n0_ n1_ n2_ n3_ hb hbox hg))
 (skip)
 go_cut [29] (fun v29 wc=>∃ (kq : Nat) (x29_2 : Bool),v29 = .bool x29_2 ∧ Aside0 (impl_Cheapest.j0 kq a1 x29_2 a0_0 l0_1 = some (r1,r2,r3)) ∧ Aside0 (kq ≤ k) ∧ Aside0 (wc.heap[gb315]? = some (.cells #[.int .i64 a0_0,(.slice A0_1 l0_1.length c0_1)] 30 (0,0))) ∧ Aside0 (Below w.heap.size w wc))
 case first =>
  have H:=HC3.out
  clear HC3
  replace H:=Option.bind_eq_some_iff.mp H
  obtain ⟨t316,A50,H⟩:=H
  replace H : (if t316 = true then (if a1 < 0 then (impl_Cheapest.j0 k a1 true a0_0 l0_1) else (impl_Cheapest.j0 k a1 (decide (a1 > 16)) a0_0 l0_1)) else (impl_Cheapest.j0 k a1 true a0_0 l0_1)) = some (r1,r2,r3):=H
  have A5:=am_ A50
  clear A50
  by_cases c6 : t316 = true
  rotate_left
  ·replace c6:=Bool.eq_false_iff.mpr c6
   subst c6
   have H1 : (impl_Cheapest.j0 k a1 true a0_0 l0_1) = some (r1,r2,r3):=by rw [if_neg (show ¬ (false = true) by decide)] at H;exact H
   clear H
   have H:=H1
   clear H1
   have H':=am_ H
   clear H
   have hcz12_0 : w4.cell? ⟨gb315,0,none⟩ = some (.int .i64 a0_0):=(blk_cell BK315.out 0).trans rfl
   have hcz12_1 : w4.cell? ⟨gb315,1,none⟩ = some (.slice A0_1 l0_1.length c0_1):=(blk_cell BK315.out 1).trans rfl
   have hfz12_0:=blk_frozen BK315.out 0
   have hfz12_1:=blk_frozen BK315.out 1
   go_wp2_with (((with_reducible refine gate_callee (f:=53) rfl ?_);refine goesL_ (some 20) rfl rfl Try.func53 (by kernel_rfl) rfl #[.agg #[.int .i64 a0_0,.slice A0_1 l0_1.length c0_1]] rfl (by (try simp only [List.map_toArray,List.map_cons,List.map_nil]);rfl) ?_;(with_reducible refine (impl_NetOk.calls k a0_0 _ _ l0_1 false _ ?side1 ?side2 A5.out).mono ?_);(case side1=>exact (Kd.C_below HR0_1.out HB.out));(case side2=>exact HC0_1.out);rintro e w13 ⟨rfl,hb⟩;refine ⟨_,rfl,?_⟩;have n0_:=am_ (blk_below BK315.out hb);have n1_:=am_ (below_step HB.out hb);clear BK315 HB;have BK315:=n0_;have HB:=n1_;clear n0_ n1_;(try clear hb)))
   go_meet
   case rel=>exact ⟨_,(true),(by rfl),H',⟨by omega⟩,⟨by exact BK315.out⟩,⟨by exact HB.out⟩⟩
  subst c6
  have H1 : (if a1 < 0 then (impl_Cheapest.j0 k a1 true a0_0 l0_1) else (impl_Cheapest.j0 k a1 (decide (a1 > 16)) a0_0 l0_1)) = some (r1,r2,r3):=by rw [if_pos rfl] at H;exact H
  clear H
  have H:=H1
  clear H1
  by_cases c7 : a1 < 0
  ·rw [if_pos c7] at H
   have c7b0 : decide (a1 < 0) = true:=decide_eq_true c7
   clear c7
   (skip)
   have H':=am_ H
   clear H
   have hcz8_0 : w4.cell? ⟨gb315,0,none⟩ = some (.int .i64 a0_0):=(blk_cell BK315.out 0).trans rfl
   have hcz8_1 : w4.cell? ⟨gb315,1,none⟩ = some (.slice A0_1 l0_1.length c0_1):=(blk_cell BK315.out 1).trans rfl
   have hfz8_0:=blk_frozen BK315.out 0
   have hfz8_1:=blk_frozen BK315.out 1
   go_wp2_with (((with_reducible refine gate_callee (f:=53) rfl ?_);refine goesL_ (some 20) rfl rfl Try.func53 (by kernel_rfl) rfl #[.agg #[.int .i64 a0_0,.slice A0_1 l0_1.length c0_1]] rfl (by (try simp only [List.map_toArray,List.map_cons,List.map_nil]);rfl) ?_;(with_reducible refine (impl_NetOk.calls k a0_0 _ _ l0_1 true _ ?side1 ?side2 A5.out).mono ?_);(case side1=>exact (Kd.C_below HR0_1.out HB.out));(case side2=>exact HC0_1.out);rintro e w9 ⟨rfl,hb⟩;refine ⟨_,rfl,?_⟩;have n0_:=am_ (blk_below BK315.out hb);have n1_:=am_ (below_step HB.out hb);clear BK315 HB;have BK315:=n0_;have HB:=n1_;clear n0_ n1_;(try clear hb)))
   go_meet
   case rel=>exact ⟨_,(true),(by rfl),H',⟨by omega⟩,⟨by exact BK315.out⟩,⟨by exact HB.out⟩⟩
  rw [if_neg c7] at H
  have c7b0 : decide (a1 < 0) = false:=decide_eq_false c7
  clear c7
  (skip)
  have H':=am_ H
  clear H
  have hcz10_0 : w4.cell? ⟨gb315,0,none⟩ = some (.int .i64 a0_0):=(blk_cell BK315.out 0).trans rfl
  have hcz10_1 : w4.cell? ⟨gb315,1,none⟩ = some (.slice A0_1 l0_1.length c0_1):=(blk_cell BK315.out 1).trans rfl
  have hfz10_0:=blk_frozen BK315.out 0
  have hfz10_1:=blk_frozen BK315.out 1
  go_wp2_with (((with_reducible refine gate_callee (f:=53) rfl ?_);refine goesL_ (some 20) rfl rfl Try.func53 (by kernel_rfl) rfl #[.agg #[.int .i64 a0_0,.slice A0_1 l0_1.length c0_1]] rfl (by (try simp only [List.map_toArray,List.map_cons,List.map_nil]);rfl) ?_;(with_reducible refine (impl_NetOk.calls k a0_0 _ _ l0_1 true _ ?side1 ?side2 A5.out).mono ?_);(case side1=>exact (Kd.C_below HR0_1.out HB.out));(case side2=>exact HC0_1.out);rintro e w11 ⟨rfl,hb⟩;refine ⟨_,rfl,?_⟩;have n0_:=am_ (blk_below BK315.out hb);have n1_:=am_ (below_step HB.out hb);clear BK315 HB;have BK315:=n0_;have HB:=n1_;clear n0_ n1_;(try clear hb)))
  go_meet
  case rel=>exact ⟨_,(decide (a1 > 16)),(by rfl),H',⟨by omega⟩,⟨by exact BK315.out⟩,⟨by exact HB.out⟩⟩
 case rest =>
  clear HC3
  try clear p2
  try clear c4
  try clear c5
  try clear c6
  try clear c7
  try clear c7b0
  try clear hcz10_0
  try clear hcz10_1
  try clear hcz12_0
  try clear hcz12_1
  try clear hcz8_0
  try clear hcz8_1
  try clear hfz10_0
  try clear hfz10_1
  try clear hfz12_0
  try clear hfz12_1
  try clear hfz8_0
  try clear hfz8_1
  obtain ⟨kq,x29_2,rfl,HA,HJ2,BK315,HB⟩:=hcut
  cases kq with
  | zero => exact absurd HA.out (by simp [impl_Cheapest.j0])
  | succ kj2 =>
   have H:=HA.out
   clear HA
   simp only [impl_Cheapest.j0] at H
   by_cases c14 : x29_2 = true
   ·subst c14
    have H1 : (some (([] : List Int),0,false)) = some (r1,r2,r3):=by rw [if_pos rfl] at H;exact H
    clear H
    have H:=H1
    clear H1
    simp only [Option.some.injEq,Prod.mk.injEq] at H
    obtain ⟨rfl,rfl,rfl⟩:=H
    go_wp2
    go_ret3
    exact ⟨_,by rfl,by exact Kd.R_nil _ _ _ _ _,by exact HB.out⟩
   replace c14:=Bool.eq_false_iff.mpr c14
   subst c14
   have H1 : ((impl_stepsOf.f kj2 a0_0 l0_1).bind fun bt317=>(if 0 ≤ (l0_1.length : Int) then (if ((l0_1.length : Int) : Int).toNat ≤ 35184372088832 then (impl_Cheapest.l0 kj2 a1 bt317.1 bt317.2 (List.replicate ((l0_1.length : Int) : Int).toNat 0) a0_0 l0_1) else (none)) else (none))) = some (r1,r2,r3):=by rw [if_neg (show ¬ (false = true) by decide)] at H;exact H
   clear H
   have H:=H1
   clear H1
   replace H:=Option.bind_eq_some_iff.mp H
   obtain ⟨⟨t317,t320⟩,A150,H⟩:=H
   replace H : (if 0 ≤ (l0_1.length : Int) then (if ((l0_1.length : Int) : Int).toNat ≤ 35184372088832 then (impl_Cheapest.l0 kj2 a1 t317 t320 (List.replicate ((l0_1.length : Int) : Int).toNat 0) a0_0 l0_1) else (none)) else (none)) = some (r1,r2,r3):=H
   have A15:=am_ A150
   clear A150
   by_cases c16 : 0 ≤ (l0_1.length : Int)
   rotate_left
   ·rw [if_neg c16] at H
    exact absurd H (by simp)
   rw [if_pos c16] at H
   have c16b0:=eq_true c16
   have c16b1 : decide (0 ≤ (l0_1.length : Int)) = true:=decide_eq_true c16
   clear c16
   by_cases c17 : ((l0_1.length : Int) : Int).toNat ≤ 35184372088832
   rotate_left
   ·rw [if_neg c17] at H
    exact absurd H (by simp)
   rw [if_pos c17] at H
   have c17b0:=eq_true c17
   have c17b1 : decide (((l0_1.length : Int) : Int).toNat ≤ 35184372088832) = true:=decide_eq_true c17
   clear c17
   obtain ⟨y323,hy323⟩ : ∃ y_ : List Int,y_ = (List.replicate ((l0_1.length : Int) : Int).toNat 0):=⟨_,rfl⟩
   replace H : (impl_Cheapest.l0 kj2 a1 t317 t320 y323 a0_0 l0_1) = some (r1,r2,r3):=by (rw [hy323];with_reducible exact H)
   have Ny323:=am_ hy323
   clear hy323
   have H':=am_ H
   clear H
   have hcz18_0 : wc.cell? ⟨gb315,0,none⟩ = some (.int .i64 a0_0):=(blk_cell BK315.out 0).trans rfl
   have hcz18_1 : wc.cell? ⟨gb315,1,none⟩ = some (.slice A0_1 l0_1.length c0_1):=(blk_cell BK315.out 1).trans rfl
   have hfz18_0:=blk_frozen BK315.out 0
   have hfz18_1:=blk_frozen BK315.out 1
   go_wp2_with (first|((with_reducible refine gate_callee (f:=49) rfl ?_);refine goesL_ (some 32) rfl rfl Try.func49 (by kernel_rfl) rfl #[.agg #[.int .i64 a0_0,.slice A0_1 l0_1.length c0_1]] rfl (by (try simp only [List.map_toArray,List.map_cons,List.map_nil]);rfl) ?_;(with_reducible refine (impl_stepsOf.calls kj2 a0_0 _ _ l0_1 t317 t320 _ ?side1 ?side2 A15.out).mono ?_);(case side1=>exact (Kd.C_below HR0_1.out HB.out));(case side2=>exact HC0_1.out);rintro e w19 ⟨v318,v321,rfl,ho0,ho1,hb⟩;refine ⟨_,rfl,?_⟩;have n0_:=am_ (Kd.S_lower ho0 (below_size HB.out));have n1_:=am_ (Kd.S_lower ho1 (below_size HB.out));have n2_:=am_ (blk_below BK315.out hb);have n3_:=am_ (below_step HB.out hb);clear BK315 HB;have HO319:=n0_;have HO322:=n1_;have BK315:=n2_;have HB:=n3_;clear n0_ n1_ n2_ n3_;(try clear hb);(try clear ho0);(try clear ho1);have hcz20_0 : w19.cell? ⟨gb315,0,none⟩ = some (.int .i64 a0_0):=(blk_cell BK315.out 0).trans rfl;have hcz20_1 : w19.cell? ⟨gb315,1,none⟩ = some (.slice A0_1 l0_1.length c0_1):=(blk_cell BK315.out 1).trans rfl;have hfz20_0:=blk_frozen BK315.out 0;have hfz20_1:=blk_frozen BK315.out 1)|((with_reducible refine gate_dst (N:=38) rfl ?_);refine Kd.R_make (Kd.int .i64) _ 3 rfl (N:=38) rfl 25 _ _ rfl (l0_1.length : Int) rfl rfl Try.underlying25 (.int .i64 0) 8 info3 rfl (by decide) (by omega) 0 (ok:=fun _=>True) (okp:=fun _=>True) rfl (fun _ hk=>hk) trivial (of_decide_eq_true (by (with_reducible assumption))) (Nat.le_trans (Nat.mul_le_mul_right _ (of_decide_eq_true (by (with_reducible assumption)) : (l0_1.length : Int).toNat ≤ 35184372088832)) (by omega)) (Below.refl _ _) (Nat.le_refl _) ?_;intro v324 w21 ho22 hb hg_ hnew_;clear hg_ hnew_;(rw [← Ny323.out] at ho22);have n0_:=am_ (Kd.S_below HO319.out hb);have n1_:=am_ (Kd.S_below HO322.out hb);have n2_:=am_ (Kd.R_lower ho22 (below_size HB.out));have n3_:=am_ (blk_below BK315.out hb);have n4_:=am_ (below_step HB.out hb);clear HO319 HO322 BK315 HB;have HO319:=n0_;have HO322:=n1_;have HO325:=n2_;have BK315:=n3_;have HB:=n4_;clear n0_ n1_ n2_ n3_ n4_ hb ho22))
   go_loopg [1] kj2 (fun kq v1 w'=>∃ (x1_2 : Int) (x9_2 : List Int),v1 = .int .i64 x1_2 ∧ Aside0 (impl_Cheapest.l0 kq x1_2 t317 t320 x9_2 a0_0 l0_1 = some (r1,r2,r3)) ∧ Aside0 (kq ≤ kj2) ∧ Aside0 (Kd.S (Kd.slice 79 k79) 71 w' w.heap.size (fun k_=>some k_ ≠ (v321 : Value).ownBlock) v318 t317) ∧ Aside0 (Kd.S (Kd.slice 79 k79) 71 w' w.heap.size (fun k_=>some k_ ≠ (v318 : Value).ownBlock) v321 t320) ∧ Aside0 (Kd.R (Kd.int .i64) 3 w' w.heap.size (fun _=>True) v324 x9_2) ∧ Aside0 (w'.heap[gb315]? = some (.cells #[.int .i64 a0_0,(.slice A0_1 l0_1.length c0_1)] 30 (0,0))) ∧ Aside0 (Below w.heap.size w w'))
   case atStart=>exact ⟨(a1),(y323),(by rfl),H',⟨Nat.le_refl _⟩,⟨by exact HO319.out⟩,⟨by exact HO322.out⟩,⟨by exact HO325.out⟩,⟨by exact BK315.out⟩,⟨by exact HB.out⟩⟩
   case round =>
    clear H'
    try clear c1
    try clear p2
    try clear c4
    try clear c5
    try clear c6
    try clear c7
    try clear c7b0
    try clear c14
    try clear c16
    try clear c16b0
    try clear c16b1
    try clear c17
    try clear c17b0
    try clear c17b1
    try clear hcz10_0
    try clear hcz10_1
    try clear hcz12_0
    try clear hcz12_1
    try clear hcz18_0
    try clear hcz18_1
    try clear hcz20_0
    try clear hcz20_1
    try clear hcz8_0
    try clear hcz8_1
    try clear hfz10_0
    try clear hfz10_1
    try clear hfz12_0
    try clear hfz12_1
    try clear hfz18_0
    try clear hfz18_1
    try clear hfz20_0
    try clear hfz20_1
    try clear hfz8_0
    try clear hfz8_1
    try clear p2
    obtain ⟨x1_2,x9_2,rfl,HA,HK2,HO_7,HO_8,HO_9,BK315,HB⟩:=hrel
    cases gk with
    | zero => exact absurd HA.out (by simp [impl_Cheapest.l0])
    | succ k2 =>
     have H:=HA.out
     clear HA
     simp only [impl_Cheapest.l0] at H
     by_cases c23 : x1_2 > 0
     rotate_left
     ·rw [if_neg c23] at H
      have c23b0 : decide (0 < x1_2) = false:=decide_eq_false c23
      clear c23
      replace H:=Option.bind_eq_some_iff.mp H
      obtain ⟨t326,A980,H⟩:=H
      replace H : (some (x9_2,t326,true)) = some (r1,r2,r3):=H
      have A98:=am_ A980
      clear A980
      simp only [Option.some.injEq,Prod.mk.injEq] at H
      obtain ⟨rfl,rfl,rfl⟩:=H
      have hcz99_0 : wr.cell? ⟨gb315,0,none⟩ = some (.int .i64 a0_0):=(blk_cell BK315.out 0).trans rfl
      have hcz99_1 : wr.cell? ⟨gb315,1,none⟩ = some (.slice A0_1 l0_1.length c0_1):=(blk_cell BK315.out 1).trans rfl
      have hfz99_0:=blk_frozen BK315.out 0
      have hfz99_1:=blk_frozen BK315.out 1
      obtain ⟨Ao100,co100,eo100⟩:=Kd.R_slice HO_9.out
      subst eo100
      go_wp2_with (((with_reducible refine gate_callee (f:=64) rfl ?_);refine goesL_ (some 114) rfl rfl Try.func64 (by kernel_rfl) rfl #[.agg #[.int .i64 a0_0,.slice A0_1 l0_1.length c0_1],.slice Ao100 x9_2.length co100] rfl (by (try simp only [List.map_toArray,List.map_cons,List.map_nil]);rfl) ?_;(with_reducible refine (impl_costOf.calls k2 a0_0 _ _ l0_1 _ _ x9_2 t326 _ ?side1 ?side2 ?side3 ?side4 A98.out).mono ?_);(case side1=>exact (Kd.C_below HR0_1.out HB.out));(case side2=>exact HC0_1.out);(case side3=>repeat (exact (Kd.R_reads' HO_9.out).2.2));(case side4=>exact (Kd.R_reads' HO_9.out).2.1);rintro e w101 ⟨rfl,hb⟩;refine ⟨_,rfl,?_⟩;have n0_:=am_ (Kd.S_below HO_7.out hb);have n1_:=am_ (Kd.S_below HO_8.out hb);have n2_:=am_ (Kd.R_below HO_9.out hb);have n3_:=am_ (blk_below BK315.out hb);have n4_:=am_ (below_step HB.out hb);clear HO_7 HO_8 HO_9 BK315 HB;have HO_7:=n0_;have HO_8:=n1_;have HO_9:=n2_;have BK315:=n3_;have HB:=n4_;clear n0_ n1_ n2_ n3_ n4_;(try clear hb)))
      go_ret3
      exact ⟨_,by rfl,by exact HO_9.out,by exact HB.out⟩
     rw [if_pos c23] at H
     have c23b0 : decide (0 < x1_2) = true:=decide_eq_true c23
     clear c23
     replace H:=Option.bind_eq_some_iff.mp H
     obtain ⟨t327,A240,H⟩:=H
     replace H : (if 1 < (t327.length : Int) then (if (rd t327 1) = 1152921504606846976 then (some (([] : List Int),0,false)) else (impl_Cheapest.l1 k2 x1_2 t317 t320 x9_2 t327 ([] : List (S79)) 1 a0_0 l0_1)) else (none)) = some (r1,r2,r3):=H
     have A24:=am_ A240
     clear A240
     by_cases c25 : 1 < (t327.length : Int)
     rotate_left
     ·rw [if_neg c25] at H
      exact absurd H (by simp)
     rw [if_pos c25] at H
     have c25b0 : decide (1 < (t327.length : Int)) = true:=decide_eq_true c25
     have c25b1 : decide (1 < t327.length) = true:=decide_eq_true (by omega)
     clear c25
     by_cases c26 : (rd t327 1) = 1152921504606846976
     ·rw [if_pos c26] at H
      have c26b0 : ((rd t327 1) == 1152921504606846976) = true:=beq_iff_eq.mpr c26
      have c26b1 : ((rd t327 1) != 1152921504606846976) = false:=bne_eq_false_iff_eq.mpr c26
      clear c26
      simp only [Option.some.injEq,Prod.mk.injEq] at H
      obtain ⟨rfl,rfl,rfl⟩:=H
      have hcz27_0 : wr.cell? ⟨gb315,0,none⟩ = some (.int .i64 a0_0):=(blk_cell BK315.out 0).trans rfl
      have hcz27_1 : wr.cell? ⟨gb315,1,none⟩ = some (.slice A0_1 l0_1.length c0_1):=(blk_cell BK315.out 1).trans rfl
      have hfz27_0:=blk_frozen BK315.out 0
      have hfz27_1:=blk_frozen BK315.out 1
      obtain ⟨Ao28,co28,eo28⟩:=Kd.S_slice HO_7.out
      subst eo28
      obtain ⟨Ao29,co29,eo29⟩:=Kd.R_slice HO_9.out
      subst eo29
      go_wp2_with (((with_reducible refine gate_callee (f:=66) rfl ?_);refine goesL_ (some 46) rfl rfl Try.func66 (by kernel_rfl) rfl #[.agg #[.int .i64 a0_0,.slice A0_1 l0_1.length c0_1],.slice Ao28 t317.length co28,.slice Ao29 x9_2.length co29] rfl (by (try simp only [List.map_toArray,List.map_cons,List.map_nil]);rfl) ?_;(with_reducible refine (impl_distances.calls k2 a0_0 _ _ l0_1 _ _ t317 _ _ x9_2 t327 _ ?side1 ?side2 ?side3 ?side4 ?side5 ?side6 A24.out).mono ?_);(case side1=>exact (Kd.C_below HR0_1.out HB.out));(case side2=>exact HC0_1.out);(case side3=>repeat (exact (Kd.S_reads' HO_7.out).2.2));(case side4=>exact (Kd.S_reads' HO_7.out).2.1);(case side5=>repeat (exact (Kd.R_reads' HO_9.out).2.2));(case side6=>exact (Kd.R_reads' HO_9.out).2.1);rintro e w30 ⟨v328,rfl,ho0,hb⟩;refine ⟨_,rfl,?_⟩;have n0_:=am_ (Kd.S_below HO_7.out hb);have n1_:=am_ (Kd.S_below HO_8.out hb);have n2_:=am_ (Kd.R_elder' HO_9.out (Kd.R_base ho0) hb);have n3_:=am_ (Kd.R_lower (Kd.R_new' ho0 (Kd.R_lt HO_9.out)) (below_size HB.out));have n4_:=am_ (blk_below BK315.out hb);have n5_:=am_ (below_step HB.out hb);clear HO_7 HO_8 HO_9 BK315 HB;have HO_7:=n0_;have HO_8:=n1_;have HO_9:=n2_;have HO329:=n3_;have BK315:=n4_;have HB:=n5_;clear n0_ n1_ n2_ n3_ n4_ n5_;(try clear hb);(try clear ho0);obtain ⟨Ao31,co31,eo31⟩:=Kd.R_slice HO329.out;subst eo31;have p330 : 0 ≤ (1 : Int):=(by omega);have q330 : 1 < (t327.length : Int):=of_decide_eq_true (by (with_reducible assumption));obtain ⟨ad330,e330,hx330_0⟩:=Kd.at_int (Kd.R_reads' HO329.out).2.2 1 p330 q330;cases e330;(try simp only [show (1 : Int).toNat = 1 from rfl,Nat.reduceMul,Nat.reduceEqDiff,Go.Addr.add,↓reduceIte] at hx330_0);have qi330 : (1 < t327.length) = True:=eq_true (by omega);replace p330:=eq_true p330;replace q330:=eq_true q330))
      go_ret3
      exact ⟨_,by rfl,by exact Kd.R_nil _ _ _ _ _,by exact HB.out⟩
     rw [if_neg c26] at H
     have c26b0 : ((rd t327 1) == 1152921504606846976) = false:=beq_eq_false_iff_ne.mpr c26
     have c26b1 : ((rd t327 1) != 1152921504606846976) = true:=bne_iff_ne.mpr c26
     have H':=am_ H
     clear H
     have hcz32_0 : wr.cell? ⟨gb315,0,none⟩ = some (.int .i64 a0_0):=(blk_cell BK315.out 0).trans rfl
     have hcz32_1 : wr.cell? ⟨gb315,1,none⟩ = some (.slice A0_1 l0_1.length c0_1):=(blk_cell BK315.out 1).trans rfl
     have hfz32_0:=blk_frozen BK315.out 0
     have hfz32_1:=blk_frozen BK315.out 1
     obtain ⟨Ao33,co33,eo33⟩:=Kd.S_slice HO_7.out
     subst eo33
     obtain ⟨Ao34,co34,eo34⟩:=Kd.R_slice HO_9.out
     subst eo34
     go_wp2_with (((with_reducible refine gate_callee (f:=66) rfl ?_);refine goesL_ (some 46) rfl rfl Try.func66 (by kernel_rfl) rfl #[.agg #[.int .i64 a0_0,.slice A0_1 l0_1.length c0_1],.slice Ao33 t317.length co33,.slice Ao34 x9_2.length co34] rfl (by (try simp only [List.map_toArray,List.map_cons,List.map_nil]);rfl) ?_;(with_reducible refine (impl_distances.calls k2 a0_0 _ _ l0_1 _ _ t317 _ _ x9_2 t327 _ ?side1 ?side2 ?side3 ?side4 ?side5 ?side6 A24.out).mono ?_);(case side1=>exact (Kd.C_below HR0_1.out HB.out));(case side2=>exact HC0_1.out);(case side3=>repeat (exact (Kd.S_reads' HO_7.out).2.2));(case side4=>exact (Kd.S_reads' HO_7.out).2.1);(case side5=>repeat (exact (Kd.R_reads' HO_9.out).2.2));(case side6=>exact (Kd.R_reads' HO_9.out).2.1);rintro e w35 ⟨v328,rfl,ho0,hb⟩;refine ⟨_,rfl,?_⟩;have n0_:=am_ (Kd.S_below HO_7.out hb);have n1_:=am_ (Kd.S_below HO_8.out hb);have n2_:=am_ (Kd.R_elder' HO_9.out (Kd.R_base ho0) hb);have n3_:=am_ (Kd.R_lower (Kd.R_new' ho0 (Kd.R_lt HO_9.out)) (below_size HB.out));have n4_:=am_ (blk_below BK315.out hb);have n5_:=am_ (below_step HB.out hb);clear HO_7 HO_8 HO_9 BK315 HB;have HO_7:=n0_;have HO_8:=n1_;have HO_9:=n2_;have HO329:=n3_;have BK315:=n4_;have HB:=n5_;clear n0_ n1_ n2_ n3_ n4_ n5_;(try clear hb);(try clear ho0);obtain ⟨Ao36,co36,eo36⟩:=Kd.R_slice HO329.out;subst eo36;have p330 : 0 ≤ (1 : Int):=(by omega);have q330 : 1 < (t327.length : Int):=of_decide_eq_true (by (with_reducible assumption));obtain ⟨ad330,e330,hx330_0⟩:=Kd.at_int (Kd.R_reads' HO329.out).2.2 1 p330 q330;cases e330;(try simp only [show (1 : Int).toNat = 1 from rfl,Nat.reduceMul,Nat.reduceEqDiff,Go.Addr.add,↓reduceIte] at hx330_0);have qi330 : (1 < t327.length) = True:=eq_true (by omega);replace p330:=eq_true p330;replace q330:=eq_true q330))
     go_loopg [11,12] k2 (fun kq v11 v12 w'=>∃ (x11_3 : List (S79)) (x12_3 : Int),v12 = .int .i64 x12_3 ∧ Aside0 (impl_Cheapest.l1 kq x1_2 t317 t320 x9_2 t327 x11_3 x12_3 a0_0 l0_1 = some (r1,r2,r3)) ∧ Aside0 (kq ≤ k2) ∧ Aside0 (Kd.S (Kd.slice 79 k79) 71 w' w.heap.size (fun k_=>some k_ ≠ (v321 : Value).ownBlock ∧ some k_ ≠ (v11 : Value).ownBlock) (.slice Ao33 t317.length co33) t317) ∧ Aside0 (Kd.S (Kd.slice 79 k79) 71 w' w.heap.size (fun k_=>some k_ ≠ ((.slice Ao33 t317.length co33) : Value).ownBlock ∧ some k_ ≠ (v11 : Value).ownBlock) v321 t320) ∧ Aside0 (Kd.R (Kd.int .i64) 3 w' w.heap.size (fun k_=>some k_ ≠ ((.slice (some ad330) t327.length co36) : Value).ownBlock) (.slice Ao34 x9_2.length co34) x9_2) ∧ Aside0 (Kd.R (Kd.int .i64) 3 w' w.heap.size (fun k_=>some k_ ≠ ((.slice Ao34 x9_2.length co34) : Value).ownBlock) (.slice (some ad330) t327.length co36) t327) ∧ Aside0 (Kd.R k79 79 w' w.heap.size (fun _=>True) v11 x11_3) ∧ Aside0 (w'.heap[gb315]? = some (.cells #[.int .i64 a0_0,(.slice A0_1 l0_1.length c0_1)] 30 (0,0))) ∧ Aside0 (Below w.heap.size w w'))
     case atStart=>exact ⟨(([] : List (S79))),(1),(by rfl),H',⟨Nat.le_refl _⟩,⟨by exact Kd.S_mono HO_7.out (fun _ hk=>⟨hk,(by simp [Value.ownBlock])⟩)⟩,⟨by exact Kd.S_mono HO_8.out (fun _ hk=>⟨hk,(by simp [Value.ownBlock])⟩)⟩,⟨by exact Kd.R_mono HO_9.out (fun _ hk=>hk.2)⟩,⟨by exact Kd.R_mono HO329.out (fun _ hk=>hk.2)⟩,⟨by exact Kd.R_nil _ _ _ _ _⟩,⟨by exact BK315.out⟩,⟨by exact HB.out⟩⟩
     case round =>
      clear H'
      try clear c1
      try clear c2
      try clear p2
      try clear p3
      try clear q3
      try clear hx3
      try clear qi3
      try clear c4
      try clear c5
      try clear c6
      try clear c7
      try clear c7b0
      try clear c14
      try clear c16
      try clear c16b0
      try clear c16b1
      try clear c17
      try clear c17b0
      try clear c17b1
      try clear c23
      try clear c23b0
      try clear c25
      try clear c25b0
      try clear c25b1
      try clear c26
      try clear c26b0
      try clear c26b1
      try clear p33
      try clear q33
      try clear hx33
      try clear qi33
      try clear hcz10_0
      try clear hcz10_1
      try clear hcz12_0
      try clear hcz12_1
      try clear hcz18_0
      try clear hcz18_1
      try clear hcz20_0
      try clear hcz20_1
      try clear hcz27_0
      try clear hcz27_1
      try clear hcz32_0
      try clear hcz32_1
      try clear hcz8_0
      try clear hcz8_1
      try clear hfz10_0
      try clear hfz10_1
      try clear hfz12_0
      try clear hfz12_1
      try clear hfz18_0
      try clear hfz18_1
      try clear hfz20_0
      try clear hfz20_1
      try clear hfz27_0
      try clear hfz27_1
      try clear hfz32_0
      try clear hfz32_1
      try clear hfz8_0
      try clear hfz8_1
      try clear hx330_0
      try clear p2
      try clear p330
      try clear q330
      obtain ⟨x11_3,x12_3,rfl,HA,HK3,HO_7,HO_8,HO_9,HO_10,HO_11,BK315,HB⟩:=hrel
      cases gk with
      | zero => exact absurd HA.out (by simp [impl_Cheapest.l1])
      | succ k3 =>
       have H:=HA.out
       clear HA
       simp only [impl_Cheapest.l1] at H
       by_cases c37 : x12_3 = 0
       ·rw [if_pos c37] at H
        have c37b0 : (x12_3 == 0) = true:=beq_iff_eq.mpr c37
        have c37b1 : (x12_3 != 0) = false:=bne_eq_false_iff_eq.mpr c37
        clear c37
        have H':=am_ H
        clear H
        obtain ⟨Ao38,co38,eo38⟩:=Kd.R_slice HO_11.out
        subst eo38
        go_wp2
        go_loopg [103] k3 (fun kq v103 w'=>∃ (x9_4 : List Int) (x103_4 : Int),v103 = .int .i64 x103_4 ∧ Aside0 (impl_Cheapest.l3 kq x1_2 t317 t320 x9_4 x11_3 (x11_3.length : Int) x103_4 a0_0 l0_1 = some (r1,r2,r3)) ∧ Aside0 (kq ≤ k3) ∧ Aside0 (Kd.S (Kd.slice 79 k79) 71 w' w.heap.size (fun k_=>some k_ ≠ (v321 : Value).ownBlock ∧ some k_ ≠ ((.slice Ao38 x11_3.length co38) : Value).ownBlock) (.slice Ao33 t317.length co33) t317) ∧ Aside0 (Kd.S (Kd.slice 79 k79) 71 w' w.heap.size (fun k_=>some k_ ≠ ((.slice Ao33 t317.length co33) : Value).ownBlock ∧ some k_ ≠ ((.slice Ao38 x11_3.length co38) : Value).ownBlock) v321 t320) ∧ Aside0 (Kd.R (Kd.int .i64) 3 w' w.heap.size (fun _=>True) (.slice Ao34 x9_2.length co34) x9_4) ∧ Aside0 (Kd.R k79 79 w' w.heap.size (fun _=>True) (.slice Ao38 x11_3.length co38) x11_3) ∧ Aside0 (w'.heap[gb315]? = some (.cells #[.int .i64 a0_0,(.slice A0_1 l0_1.length c0_1)] 30 (0,0))) ∧ Aside0 (Below w.heap.size w w'))
        case atStart=>exact ⟨(x9_2),(0),(by rfl),H',⟨Nat.le_refl _⟩,⟨by exact HO_7.out⟩,⟨by exact HO_8.out⟩,⟨by exact Kd.R_mono HO_9.out (fun _ hk=>trivial)⟩,⟨by exact HO_11.out⟩,⟨by exact BK315.out⟩,⟨by exact HB.out⟩⟩
        case round =>
         clear H'
         try clear c1
         try clear c2
         try clear p2
         try clear c3
         try clear p3
         try clear q3
         try clear hx3
         try clear qi3
         try clear c4
         try clear c5
         try clear c6
         try clear c7
         try clear c7b0
         try clear c14
         try clear c16
         try clear c16b0
         try clear c16b1
         try clear c17
         try clear c17b0
         try clear c17b1
         try clear c23
         try clear c23b0
         try clear c25
         try clear c25b0
         try clear c25b1
         try clear c26
         try clear c26b0
         try clear c26b1
         try clear p33
         try clear q33
         try clear hx33
         try clear qi33
         try clear c37
         try clear c37b0
         try clear c37b1
         try clear hcz10_0
         try clear hcz10_1
         try clear hcz12_0
         try clear hcz12_1
         try clear hcz18_0
         try clear hcz18_1
         try clear hcz20_0
         try clear hcz20_1
         try clear hcz27_0
         try clear hcz27_1
         try clear hcz32_0
         try clear hcz32_1
         try clear hcz8_0
         try clear hcz8_1
         try clear hfz10_0
         try clear hfz10_1
         try clear hfz12_0
         try clear hfz12_1
         try clear hfz18_0
         try clear hfz18_1
         try clear hfz20_0
         try clear hfz20_1
         try clear hfz27_0
         try clear hfz27_1
         try clear hfz32_0
         try clear hfz32_1
         try clear hfz8_0
         try clear hfz8_1
         try clear hx330_0
         try clear p2
         try clear p3
         try clear p33
         try clear p330
         try clear q3
         try clear q33
         try clear q330
         obtain ⟨x9_4,x103_4,rfl,HA,HK4,HO_7,HO_8,HO_9,HO_101,BK315,HB⟩:=hrel
         have hl9_4:=(Kd.R_reads' HO_9.out).1
         rw [hl9_4] at HO_9
         (try simp only [hl9_4])
         (skip)
         (skip)
         (skip)
         (skip)
         cases gk with
         | zero => exact absurd HA.out (by simp [impl_Cheapest.l3])
         | succ k4 =>
          have H:=HA.out
          clear HA
          simp only [impl_Cheapest.l3] at H
          by_cases c39 : x103_4 < (x11_3.length : Int)
          rotate_left
          ·rw [if_neg c39] at H
           have c39b0 : decide (x103_4 < (x11_3.length : Int)) = false:=decide_eq_false c39
           clear c39
           have H':=am_ H
           clear H
           go_wp2
           (try simp only [← hl9_4])
           go_roundg k4
           case measure=>have:=HJ2.out;have:=HK2.out;have:=HK3.out;have:=HK4.out;omega
           case rel=>exact ⟨(wrap64 (x1_2 - 1)),(x9_4),(by rfl),H',⟨by have:=HJ2.out;have:=HK2.out;have:=HK3.out;have:=HK4.out;omega⟩,⟨by exact Kd.S_mono HO_7.out (fun _ hk=>hk.1)⟩,⟨by exact Kd.S_mono HO_8.out (fun _ hk=>hk.1)⟩,⟨by (try simp only [hl9_4]);exact HO_9.out⟩,⟨by exact BK315.out⟩,⟨by exact HB.out⟩⟩
          rw [if_pos c39] at H
          have c39b0 : decide (x103_4 < (x11_3.length : Int)) = true:=decide_eq_true c39
          clear c39
          by_cases c40 : 0 ≤ x103_4
          rotate_left
          ·rw [if_neg c40] at H
           exact absurd H (by simp)
          rw [if_pos c40] at H
          have c40b0 : decide (0 ≤ x103_4) = true:=decide_eq_true c40
          clear c40
          by_cases c41 : x103_4 < (x11_3.length : Int)
          rotate_left
          ·rw [if_neg c41] at H
           exact absurd H (by simp)
          rw [if_pos c41] at H
          have c41b0 : decide (x103_4 < (x11_3.length : Int)) = true:=decide_eq_true c41
          clear c41
          replace H:=Option.bind_eq_some_iff.mp H
          obtain ⟨t346,A420,H⟩:=H
          replace H : (impl_Cheapest.l3 k4 x1_2 t317 t320 t346 x11_3 (x11_3.length : Int) (wrap64 (x103_4 + 1)) a0_0 l0_1) = some (r1,r2,r3):=H
          have A42:=am_ A420
          clear A420
          have H':=am_ H
          clear H
          have p344 : 0 ≤ (x103_4 : Int):=of_decide_eq_true (by (with_reducible assumption))
          have q344 : x103_4 < (x11_3.length : Int):=of_decide_eq_true (by (with_reducible assumption))
          obtain ⟨ad344,e344,hx344_0,hx344_1⟩:=at_T79 (Kd.R_reads' HO_101.out).2.2 x103_4 p344 q344
          cases e344
          replace p344:=eq_true p344
          replace q344:=eq_true q344
          go_wp2_with (first|((with_reducible refine gate_dst (N:=18) rfl ?_);refine box_event ?hg (N:=18) ?hd (cs:=#[.int .i64 0,.bool false]) (t:=79) ?hr ?_;(case hd=>rfl);(case hg=>rfl);(case hr=>(go_simp;done));intro gb345 hg w43 hbox hb;have n0_:=am_ (Kd.S_below (Kd.S_elderB HO_7.out gb345 (Nat.le_of_eq hg.symm)) hb);have n1_:=am_ (Kd.S_below (Kd.S_elderB HO_8.out gb345 (Nat.le_of_eq hg.symm)) hb);have n2_:=am_ (Kd.R_below HO_9.out hb);have n3_:=am_ (Kd.R_below (Kd.R_elderB HO_101.out gb345 (Nat.le_of_eq hg.symm)) hb);have n4_:=am_ (blk_below BK315.out hb);have n5_:=am_ (below_step HB.out hb);have n6_:=am_ (hbox);have n7_:=am_ ((by rw [hg];exact (below_size HB.out) : w.heap.size ≤ gb345));have n8_:=n7_;have n9_:=am_ ((by rw [hg];exact Nat.ne_of_lt (blk_lt (g:=gb315) (o:=.cells #[.int .i64 a0_0,.slice A0_1 l0_1.length c0_1] 30 (0,0)) BK315.out) : gb315 ≠ gb345));have n10_:=am_ ((by rw [hg];exact Nat.ne_of_gt (blk_lt (g:=gb315) (o:=.cells #[.int .i64 a0_0,.slice A0_1 l0_1.length c0_1] 30 (0,0)) BK315.out) : gb345 ≠ gb315));clear HO_7 HO_8 HO_9 HO_101 BK315 HB;have HO_7:=n0_;have HO_8:=n1_;have HO_9:=n2_;have HO_101:=n3_;have BK315:=n4_;have HB:=n5_;have BK345:=n6_;have GW345:=n7_;have GE345:=n8_;have NB315_345:=n9_;have NB345_315:=n10_;clear n0_ n1_ n2_ n3_ n4_ n5_ n6_ n7_ n8_ n9_ n10_ hb hbox hg;have hnb44:=NB345_315.out;have hnc44:=NB315_345.out;have hcz45_0 : w43.cell? ⟨gb345,0,none⟩ = some (.int .i64 0):=(blk_cell BK345.out 0).trans rfl;have hcz45_1 : w43.cell? ⟨gb345,1,none⟩ = some (.bool false):=(blk_cell BK345.out 1).trans rfl;have hfz45_0:=blk_frozen BK345.out 0;have hfz45_1:=blk_frozen BK345.out 1)|((with_reducible refine gate_store (t:=79) (p:=18) rfl ?_);refine store_event (t:=79) (p:=18) (v:=?vo_w46) (w1:=((w43.setCell ⟨gb345,0,none⟩ (.int .i64 ((rd_T79 x11_3 x103_4).f0))).setCell ⟨gb345,1,none⟩ (.bool ((rd_T79 x11_3 x103_4).f1)))) ?hg ?ho ?hn ?hr ?_;(case ho=>rfl);(case hg=>rfl);(case hn=>rfl);(case hr=>(go_simp;done));intro w46 hw;have n0_ : Aside0 (Kd.S (Kd.slice 79 k79) 71 w46 w.heap.size (fun k_=>some k_ ≠ (v321 : Value).ownBlock ∧ some k_ ≠ (.slice (some ad344) x11_3.length co38 : Value).ownBlock ∧ k_ ≠ gb345) (.slice Ao33 t317.length co33) t317):=⟨(by rw [hw];exact (by exact Kd.S_mono (Kd.S_far (p:=⟨gb345,1,none⟩) (Kd.S_far (p:=⟨gb345,0,none⟩) (Kd.S_mono HO_7.out (fun k_ hk=>(⟨hk,hk.2⟩ : _ ∧ k_ ≠ gb345))) (fun _ hk=>hk.2) (.int .i64 ((rd_T79 x11_3 x103_4).f0))) (fun _ hk=>hk.2) (.bool ((rd_T79 x11_3 x103_4).f1))) (fun _ hk=>⟨hk.1.1.1,⟨hk.1.1.2,hk.1.2⟩⟩)))⟩;have n1_ : Aside0 (Kd.S (Kd.slice 79 k79) 71 w46 w.heap.size (fun k_=>some k_ ≠ (.slice Ao33 t317.length co33 : Value).ownBlock ∧ some k_ ≠ (.slice (some ad344) x11_3.length co38 : Value).ownBlock ∧ k_ ≠ gb345) v321 t320):=⟨(by rw [hw];exact (by exact Kd.S_mono (Kd.S_far (p:=⟨gb345,1,none⟩) (Kd.S_far (p:=⟨gb345,0,none⟩) (Kd.S_mono HO_8.out (fun k_ hk=>(⟨hk,hk.2⟩ : _ ∧ k_ ≠ gb345))) (fun _ hk=>hk.2) (.int .i64 ((rd_T79 x11_3 x103_4).f0))) (fun _ hk=>hk.2) (.bool ((rd_T79 x11_3 x103_4).f1))) (fun _ hk=>⟨hk.1.1.1,⟨hk.1.1.2,hk.1.2⟩⟩)))⟩;have n2_ : Aside0 (Kd.R (Kd.int .i64) 3 w46 w.heap.size (fun _=>True) (.slice Ao34 x9_4.length co34) x9_4):=⟨(by rw [hw];exact (by exact Kd.R_mono (Kd.R_far (p:=⟨gb345,1,none⟩) (Kd.R_far (p:=⟨gb345,0,none⟩) (Kd.R_types HO_9.out BK345.out (by decide)) (fun _ hk=>hk.2) (.int .i64 ((rd_T79 x11_3 x103_4).f0))) (fun _ hk=>hk.2) (.bool ((rd_T79 x11_3 x103_4).f1))) (fun _ hk=>trivial)))⟩;have n3_ : Aside0 (Kd.R k79 79 w46 w.heap.size (fun k_=>k_ ≠ gb345) (.slice (some ad344) x11_3.length co38) x11_3):=⟨(by rw [hw];exact (by exact Kd.R_mono (Kd.R_far (p:=⟨gb345,1,none⟩) (Kd.R_far (p:=⟨gb345,0,none⟩) (Kd.R_mono HO_101.out (fun k_ hk=>(⟨hk,hk.2⟩ : _ ∧ k_ ≠ gb345))) (fun _ hk=>hk.2) (.int .i64 ((rd_T79 x11_3 x103_4).f0))) (fun _ hk=>hk.2) (.bool ((rd_T79 x11_3 x103_4).f1))) (fun _ hk=>hk.1.2)))⟩;have n4_ : Aside0 (w46.heap[gb315]? = some (.cells #[.int .i64 a0_0,.slice A0_1 l0_1.length c0_1] 30 (0,0))):=⟨(by rw [hw];exact (by refine blk_far ?_ NB315_345.out _;refine blk_far ?_ NB315_345.out _;exact BK315.out))⟩;have n5_ : Aside0 (w46.heap[gb345]? = some (.cells #[.int .i64 ((rd_T79 x11_3 x103_4).f0),.bool ((rd_T79 x11_3 x103_4).f1)] 79 (0,0))):=⟨(by rw [hw];exact (by refine blk_put (cs:=#[.int .i64 ((rd_T79 x11_3 x103_4).f0),.bool false]) ?_ 1 _ rfl;refine blk_put (cs:=#[.int .i64 0,.bool false]) ?_ 0 _ rfl;exact BK345.out))⟩;have n6_ : Aside0 (Below w.heap.size w w46):=⟨(by rw [hw];exact (by repeat ((with_reducible first|exact HB.out|refine below_set ?_ GE345.out))))⟩;clear hw HO_7 HO_8 HO_9 HO_101 BK315 BK345 HB;have HO_7:=n0_;have HO_8:=n1_;have HO_9:=n2_;have HO_101:=n3_;have BK315:=n4_;have BK345:=n5_;have HB:=n6_;clear n0_ n1_ n2_ n3_ n4_ n5_ n6_;have hcz47_0 : w46.cell? ⟨gb345,0,none⟩ = some (.int .i64 ((rd_T79 x11_3 x103_4).f0)):=(blk_cell BK345.out 0).trans rfl;have hcz47_1 : w46.cell? ⟨gb345,1,none⟩ = some (.bool ((rd_T79 x11_3 x103_4).f1)):=(blk_cell BK345.out 1).trans rfl;have hfz47_0:=blk_frozen BK345.out 0;have hfz47_1:=blk_frozen BK345.out 1)|((with_reducible refine gate_callee (f:=57) rfl ?_);refine goesL_ (some 109) rfl rfl Try.func57 (by kernel_rfl) rfl #[.slice Ao34 x9_4.length co34,.agg #[.int .i64 ((rd_T79 x11_3 x103_4).f0),.bool ((rd_T79 x11_3 x103_4).f1)],.int .i64 1] rfl (by (try simp only [List.map_toArray,List.map_cons,List.map_nil]);rfl) ?_;(with_reducible refine (impl_pushed.calls (fun k_=>some k_ = (.slice Ao34 x9_4.length co34 : Value).ownBlock) (.slice Ao34 x9_4.length co34) x9_4 ((rd_T79 x11_3 x103_4).f0) ((rd_T79 x11_3 x103_4).f1) 1 t346 w _ ?side1 ?side2 A42.out).mono ?_);(case side1=>exact HB.out);(case side2=>exact Kd.R_tight rfl HO_9.out);rintro e w48 ⟨rfl,hy0,hb,hkp⟩;refine ⟨_,rfl,?_⟩;have n0_:=am_ (Kd.S_mono (ok':=fun k_=>some k_ ≠ (v321 : Value).ownBlock ∧ some k_ ≠ (.slice (some ad344) x11_3.length co38 : Value).ownBlock ∧ k_ ≠ gb345) (Kd.S_keptB ((Kd.S_apart' HO_7.out (Kd.R_typed HO_9.out) (by decide))) hkp (fun k_ hk_ hs_=>(hk_.2) hs_)) (fun k_ hk_=>⟨hk_.1.1.1,hk_.1.1.2.1,hk_.1.1.2.2⟩));have n1_:=am_ (Kd.S_mono (ok':=fun k_=>some k_ ≠ (.slice Ao33 t317.length co33 : Value).ownBlock ∧ some k_ ≠ (.slice (some ad344) x11_3.length co38 : Value).ownBlock ∧ k_ ≠ gb345) (Kd.S_keptB ((Kd.S_apart' HO_8.out (Kd.R_typed HO_9.out) (by decide))) hkp (fun k_ hk_ hs_=>(hk_.2) hs_)) (fun k_ hk_=>⟨hk_.1.1.1,hk_.1.1.2.1,hk_.1.1.2.2⟩));have n2_:=am_ (Kd.R_reok rfl hy0 (fun k_ e_=>HO_9.out.1 k_ e_));have n3_:=am_ (Kd.R_mono (ok':=fun k_=>k_ ≠ gb345) (Kd.R_keptB ((Kd.R_apart' HO_101.out (Kd.R_typed HO_9.out) (by decide))) hkp (fun k_ hk_ hs_=>(hk_.2) hs_)) (fun k_ hk_=>hk_.1.1));have n4_:=am_ (blk_kept BK315.out hkp (fun hs_=>(fun e_=>(Kd.R_ne HO_9.out BK315.out (by decide)) e_) hs_));have n5_:=am_ (blk_kept BK345.out hkp (fun hs_=>(fun e_=>(Kd.R_ne HO_9.out BK345.out (by decide)) e_) hs_));have n6_:=am_ (hb);clear HO_7 HO_8 HO_9 HO_101 BK315 BK345 HB;have HO_7:=n0_;have HO_8:=n1_;have HO_9:=n2_;have HO_101:=n3_;have BK315:=n4_;have BK345:=n5_;have HB:=n6_;clear n0_ n1_ n2_ n3_ n4_ n5_ n6_;(try clear hb);(try clear hkp);(try clear hy0)))
          (try simp only [← hl9_4])
          go_roundg k4
          case measure=>have:=HJ2.out;have:=HK2.out;have:=HK3.out;have:=HK4.out;omega
          case rel=>exact ⟨(t346),(wrap64 (x103_4 + 1)),(by rfl),H',⟨by have:=HJ2.out;have:=HK2.out;have:=HK3.out;have:=HK4.out;omega⟩,⟨by exact Kd.S_mono HO_7.out (fun _ hk=>⟨hk.1,hk.2.1⟩)⟩,⟨by exact Kd.S_mono HO_8.out (fun _ hk=>⟨hk.1,hk.2.1⟩)⟩,⟨by (try simp only [hl9_4]);exact HO_9.out⟩,⟨by exact Kd.R_mono HO_101.out (fun _ hk=>trivial)⟩,⟨by exact BK315.out⟩,⟨by exact HB.out⟩⟩
       rw [if_neg c37] at H
       have c37b0 : (x12_3 == 0) = false:=beq_eq_false_iff_ne.mpr c37
       have c37b1 : (x12_3 != 0) = true:=bne_iff_ne.mpr c37
       by_cases c49 : 0 ≤ x12_3
       rotate_left
       ·rw [if_neg c49] at H
        exact absurd H (by simp)
       rw [if_pos c49] at H
       have c49b0 : decide (0 ≤ x12_3) = true:=decide_eq_true c49
       clear c49
       by_cases c50 : x12_3 < (t320.length : Int)
       rotate_left
       ·rw [if_neg c50] at H
        exact absurd H (by simp)
       rw [if_pos c50] at H
       have c50b0 : decide (x12_3 < (t320.length : Int)) = true:=decide_eq_true c50
       clear c50
       have H':=am_ H
       clear H
       obtain ⟨Ao51,co51,eo51⟩:=Kd.S_slice HO_8.out
       subst eo51
       have p331 : 0 ≤ (x12_3 : Int):=of_decide_eq_true (by (with_reducible assumption))
       have q331 : x12_3 < (t320.length : Int):=of_decide_eq_true (by (with_reducible assumption))
       obtain ⟨ad331,A331_0,c331_0,e331,hx331_0,hl331_0,hi331_0⟩:=at_L4 (Kd.S_reads' HO_8.out).2.2 x12_3 p331 q331
       cases e331
       obtain ⟨ce331,hce331,hMe331,hcc331⟩:=Kd.S_get HO_8.out [] x12_3 p331 (by exact q331)
       obtain ⟨ve331_0,rfl,ge331_0⟩:=hMe331
       have hv331_0:=hcc331 0 _ rfl
       rw [Nat.add_zero,show ((Kd.slice 79 k79)).sz = 1 from rfl,Nat.mul_one] at hv331_0
       replace hv331_0:=Option.some.inj (hv331_0.symm.trans hx331_0)
       rw [hv331_0] at ge331_0
       have HL331_0:=am_ (show Kd.R k79 79 _ _ _ _ (rd_L4 t320 x12_3) from ge331_0)
       clear hv331_0 ge331_0
       clear hcc331 hce331
       have HR331_0:=am_ hi331_0
       have HC331_0:=am_ hl331_0
       clear hi331_0 hl331_0
       replace p331:=eq_true p331
       replace q331:=eq_true q331
       go_wp2
       go_loopg [11,12,58] k3 (fun kq v11 v12 v58 w'=>∃ (x11_4 : List (S79)) (x12_4 : Int) (x58_4 : Int),v12 = .int .i64 x12_4 ∧ v58 = .int .i64 x58_4 ∧ Aside0 (impl_Cheapest.l2 kq x1_2 t317 t320 x9_2 t327 x11_4 x12_4 (rd_L4 t320 x12_3) ((rd_L4 t320 x12_3).length : Int) x58_4 a0_0 l0_1 = some (r1,r2,r3)) ∧ Aside0 (kq ≤ k3) ∧ Aside0 (Kd.S (Kd.slice 79 k79) 71 w' w.heap.size (fun k_=>some k_ ≠ ((.slice (some ad331) t320.length co51) : Value).ownBlock ∧ some k_ ≠ (v11 : Value).ownBlock) (.slice Ao33 t317.length co33) t317) ∧ Aside0 (Kd.S (Kd.slice 79 k79) 71 w' w.heap.size (fun k_=>some k_ ≠ ((.slice Ao33 t317.length co33) : Value).ownBlock ∧ some k_ ≠ (v11 : Value).ownBlock) (.slice (some ad331) t320.length co51) t320) ∧ Aside0 (Kd.R (Kd.int .i64) 3 w' w.heap.size (fun k_=>some k_ ≠ ((.slice (some ad330) t327.length co36) : Value).ownBlock) (.slice Ao34 x9_2.length co34) x9_2) ∧ Aside0 (Kd.R (Kd.int .i64) 3 w' w.heap.size (fun k_=>some k_ ≠ ((.slice Ao34 x9_2.length co34) : Value).ownBlock) (.slice (some ad330) t327.length co36) t327) ∧ Aside0 (Kd.R k79 79 w' w.heap.size (fun _=>True) v11 x11_4) ∧ Aside0 (w'.heap[gb315]? = some (.cells #[.int .i64 a0_0,(.slice A0_1 l0_1.length c0_1)] 30 (0,0))) ∧ Aside0 (Kd.C k79 w' A331_0 (rd_L4 t320 x12_3).length (rd_L4 t320 x12_3)) ∧ Aside0 (Below w.heap.size w w'))
       case atStart=>exact ⟨(x11_3),(x12_3),(0),(by rfl),(by rfl),H',⟨Nat.le_refl _⟩,⟨by exact HO_7.out⟩,⟨by exact HO_8.out⟩,⟨by exact HO_9.out⟩,⟨by exact HO_10.out⟩,⟨by exact HO_11.out⟩,⟨by exact BK315.out⟩,⟨by exact HR331_0.out⟩,⟨by exact HB.out⟩⟩
       case round =>
        clear H'
        try clear c1
        try clear c2
        try clear p2
        try clear c3
        try clear p3
        try clear q3
        try clear hx3
        try clear qi3
        try clear c4
        try clear c5
        try clear c6
        try clear p6
        try clear c7
        try clear c7b0
        try clear c14
        try clear c16
        try clear c16b0
        try clear c16b1
        try clear c17
        try clear c17b0
        try clear c17b1
        try clear c23
        try clear c23b0
        try clear c25
        try clear c25b0
        try clear c25b1
        try clear c26
        try clear c26b0
        try clear c26b1
        try clear c33
        try clear p33
        try clear q33
        try clear hx33
        try clear qi33
        try clear p34
        try clear q34
        try clear hx34
        try clear c37
        try clear c37b0
        try clear c37b1
        try clear c39
        try clear c39b0
        try clear c40
        try clear c40b0
        try clear c41
        try clear c41b0
        try clear c43
        try clear c44
        try clear c49
        try clear c49b0
        try clear c50
        try clear c50b0
        try clear hcz10_0
        try clear hcz10_1
        try clear hcz12_0
        try clear hcz12_1
        try clear hcz18_0
        try clear hcz18_1
        try clear hcz20_0
        try clear hcz20_1
        try clear hcz27_0
        try clear hcz27_1
        try clear hcz32_0
        try clear hcz32_1
        try clear hcz45_0
        try clear hcz45_1
        try clear hcz47_0
        try clear hcz47_1
        try clear hcz8_0
        try clear hcz8_1
        try clear hfz10_0
        try clear hfz10_1
        try clear hfz12_0
        try clear hfz12_1
        try clear hfz18_0
        try clear hfz18_1
        try clear hfz20_0
        try clear hfz20_1
        try clear hfz27_0
        try clear hfz27_1
        try clear hfz32_0
        try clear hfz32_1
        try clear hfz45_0
        try clear hfz45_1
        try clear hfz47_0
        try clear hfz47_1
        try clear hfz8_0
        try clear hfz8_1
        try clear hx330_0
        try clear hx331_0
        try clear hx344_0
        try clear hx344_1
        try clear p2
        try clear p3
        try clear p33
        try clear p330
        try clear p331
        try clear p344
        try clear q3
        try clear q33
        try clear q330
        try clear q331
        try clear q344
        obtain ⟨x11_4,x12_4,x58_4,rfl,rfl,HA,HK4,HO_7,HO_8,HO_9,HO_10,HO_11,BK315,HR331_0,HB⟩:=hrel
        cases gk with
        | zero => exact absurd HA.out (by simp [impl_Cheapest.l2])
        | succ k4 =>
         have H:=HA.out
         clear HA
         simp only [impl_Cheapest.l2] at H
         by_cases c52 : x58_4 < ((rd_L4 t320 x12_3).length : Int)
         rotate_left
         ·rw [if_neg c52] at H
          have c52b0 : decide (x58_4 < ((rd_L4 t320 x12_3).length : Int)) = false:=decide_eq_false c52
          clear c52
          have H':=am_ H
          clear H
          go_wp2
          go_roundg k4
          case measure=>have:=HJ2.out;have:=HK2.out;have:=HK3.out;have:=HK4.out;omega
          case rel=>exact ⟨(x11_4),(x12_4),(by rfl),H',⟨by have:=HJ2.out;have:=HK2.out;have:=HK3.out;have:=HK4.out;omega⟩,⟨by exact HO_7.out⟩,⟨by exact HO_8.out⟩,⟨by exact HO_9.out⟩,⟨by exact HO_10.out⟩,⟨by exact HO_11.out⟩,⟨by exact BK315.out⟩,⟨by exact HB.out⟩⟩
         rw [if_pos c52] at H
         have c52b0 : decide (x58_4 < ((rd_L4 t320 x12_3).length : Int)) = true:=decide_eq_true c52
         clear c52
         by_cases c53 : 0 ≤ x58_4
         rotate_left
         ·rw [if_neg c53] at H
          exact absurd H (by simp)
         rw [if_pos c53] at H
         have c53b0 : decide (0 ≤ x58_4) = true:=decide_eq_true c53
         clear c53
         by_cases c54 : x58_4 < ((rd_L4 t320 x12_3).length : Int)
         rotate_left
         ·rw [if_neg c54] at H
          exact absurd H (by simp)
         rw [if_pos c54] at H
         have c54b0 : decide (x58_4 < ((rd_L4 t320 x12_3).length : Int)) = true:=decide_eq_true c54
         clear c54
         replace H:=Option.bind_eq_some_iff.mp H
         obtain ⟨⟨t334,t335⟩,A550,H⟩:=H
         replace H : ((impl_step_room.f ((rd_T79 (rd_L4 t320 x12_3) x58_4).f0) ((rd_T79 (rd_L4 t320 x12_3) x58_4).f1) a0_0 l0_1 x9_2).bind fun t336=>(if t336 > 0 then (if 0 ≤ t334 then (if t334 < (t327.length : Int) then (if (rd t327 t334) < 1152921504606846976 then ((impl_step_length.f ((rd_T79 (rd_L4 t320 x12_3) x58_4).f0) ((rd_T79 (rd_L4 t320 x12_3) x58_4).f1) a0_0 l0_1).bind fun t339=>(if 0 ≤ x12_4 then (if x12_4 < (t327.length : Int) then (if (wrap64 ((rd t327 t334) + t339)) = (rd t327 x12_4) then (if x11_4.length < 8796093022208 then (impl_Cheapest.l1 k4 x1_2 t317 t320 x9_2 t327 (x11_4 ++ [(⟨(rd_T79 (rd_L4 t320 x12_3) x58_4).f0,(rd_T79 (rd_L4 t320 x12_3) x58_4).f1⟩ : S79)]) t334 a0_0 l0_1) else (none)) else (impl_Cheapest.l2 k4 x1_2 t317 t320 x9_2 t327 x11_4 x12_4 (rd_L4 t320 x12_3) ((rd_L4 t320 x12_3).length : Int) (wrap64 (x58_4 + 1)) a0_0 l0_1)) else (none)) else (none))) else (impl_Cheapest.l2 k4 x1_2 t317 t320 x9_2 t327 x11_4 x12_4 (rd_L4 t320 x12_3) ((rd_L4 t320 x12_3).length : Int) (wrap64 (x58_4 + 1)) a0_0 l0_1)) else (none)) else (none)) else (impl_Cheapest.l2 k4 x1_2 t317 t320 x9_2 t327 x11_4 x12_4 (rd_L4 t320 x12_3) ((rd_L4 t320 x12_3).length : Int) (wrap64 (x58_4 + 1)) a0_0 l0_1))) = some (r1,r2,r3):=H
         have A55:=am_ A550
         clear A550
         replace H:=Option.bind_eq_some_iff.mp H
         obtain ⟨t336,A560,H⟩:=H
         replace H : (if t336 > 0 then (if 0 ≤ t334 then (if t334 < (t327.length : Int) then (if (rd t327 t334) < 1152921504606846976 then ((impl_step_length.f ((rd_T79 (rd_L4 t320 x12_3) x58_4).f0) ((rd_T79 (rd_L4 t320 x12_3) x58_4).f1) a0_0 l0_1).bind fun t339=>(if 0 ≤ x12_4 then (if x12_4 < (t327.length : Int) then (if (wrap64 ((rd t327 t334) + t339)) = (rd t327 x12_4) then (if x11_4.length < 8796093022208 then (impl_Cheapest.l1 k4 x1_2 t317 t320 x9_2 t327 (x11_4 ++ [(⟨(rd_T79 (rd_L4 t320 x12_3) x58_4).f0,(rd_T79 (rd_L4 t320 x12_3) x58_4).f1⟩ : S79)]) t334 a0_0 l0_1) else (none)) else (impl_Cheapest.l2 k4 x1_2 t317 t320 x9_2 t327 x11_4 x12_4 (rd_L4 t320 x12_3) ((rd_L4 t320 x12_3).length : Int) (wrap64 (x58_4 + 1)) a0_0 l0_1)) else (none)) else (none))) else (impl_Cheapest.l2 k4 x1_2 t317 t320 x9_2 t327 x11_4 x12_4 (rd_L4 t320 x12_3) ((rd_L4 t320 x12_3).length : Int) (wrap64 (x58_4 + 1)) a0_0 l0_1)) else (none)) else (none)) else (impl_Cheapest.l2 k4 x1_2 t317 t320 x9_2 t327 x11_4 x12_4 (rd_L4 t320 x12_3) ((rd_L4 t320 x12_3).length : Int) (wrap64 (x58_4 + 1)) a0_0 l0_1)) = some (r1,r2,r3):=H
         have A56:=am_ A560
         clear A560
         by_cases c57 : t336 > 0
         rotate_left
         ·rw [if_neg c57] at H
          have c57b0 : decide (0 < t336) = false:=decide_eq_false c57
          clear c57
          have H':=am_ H
          clear H
          have p332 : 0 ≤ (x58_4 : Int):=of_decide_eq_true (by (with_reducible assumption))
          have q332 : x58_4 < ((rd_L4 t320 x12_3).length : Int):=of_decide_eq_true (by (with_reducible assumption))
          obtain ⟨ad332,e332,hx332_0,hx332_1⟩:=at_T79 HR331_0.out x58_4 p332 q332
          cases e332
          replace p332:=eq_true p332
          replace q332:=eq_true q332
          try go_wp2_with (first|((with_reducible refine gate_dst (N:=14) rfl ?_);refine box_event ?hg (N:=14) ?hd (cs:=#[.int .i64 0,.bool false]) (t:=79) ?hr ?_;(case hd=>rfl);(case hg=>rfl);(case hr=>(go_simp;done));intro gb333 hg w91 hbox hb;have NA_:=am_ (seen_new (d:=k79) (by decide) (Nat.le_of_eq hg.symm) (by exact HR331_0.out));have n0_:=am_ (Kd.S_below (Kd.S_elderB HO_7.out gb333 (Nat.le_of_eq hg.symm)) hb);have n1_:=am_ (Kd.S_below (Kd.S_elderB HO_8.out gb333 (Nat.le_of_eq hg.symm)) hb);have n2_:=am_ (Kd.R_below HO_9.out hb);have n3_:=am_ (Kd.R_below HO_10.out hb);have n4_:=am_ (Kd.R_below (Kd.R_elderB HO_11.out gb333 (Nat.le_of_eq hg.symm)) hb);have n5_:=am_ (blk_below BK315.out hb);have n6_:=am_ (Kd.C_below (by exact HR331_0.out) hb);have n7_:=am_ (below_step HB.out hb);have n8_:=am_ (hbox);have n9_:=am_ ((by rw [hg];exact (below_size HB.out) : w.heap.size ≤ gb333));have n10_:=n9_;have n11_:=am_ ((by rw [hg];exact Nat.ne_of_lt (blk_lt (g:=gb315) (o:=.cells #[.int .i64 a0_0,.slice A0_1 l0_1.length c0_1] 30 (0,0)) BK315.out) : gb315 ≠ gb333));have n12_:=am_ ((by rw [hg];exact Nat.ne_of_gt (blk_lt (g:=gb315) (o:=.cells #[.int .i64 a0_0,.slice A0_1 l0_1.length c0_1] 30 (0,0)) BK315.out) : gb333 ≠ gb315));clear HO_7 HO_8 HO_9 HO_10 HO_11 BK315 HR331_0 HB;have HO_7:=n0_;have HO_8:=n1_;have HO_9:=n2_;have HO_10:=n3_;have HO_11:=n4_;have BK315:=n5_;have HR331_0:=n6_;have HB:=n7_;have BK333:=n8_;have GW333:=n9_;have GE333:=n10_;have NB315_333:=n11_;have NB333_315:=n12_;clear n0_ n1_ n2_ n3_ n4_ n5_ n6_ n7_ n8_ n9_ n10_ n11_ n12_ hb hbox hg;have hnb92:=NB333_315.out;have hnc92:=NB315_333.out;have hcz93_0 : w91.cell? ⟨gb333,0,none⟩ = some (.int .i64 0):=(blk_cell BK333.out 0).trans rfl;have hcz93_1 : w91.cell? ⟨gb333,1,none⟩ = some (.bool false):=(blk_cell BK333.out 1).trans rfl;have hfz93_0:=blk_frozen BK333.out 0;have hfz93_1:=blk_frozen BK333.out 1;have hcz94_0 : w91.cell? ⟨gb315,0,none⟩ = some (.int .i64 a0_0):=(blk_cell BK315.out 0).trans rfl;have hcz94_1 : w91.cell? ⟨gb315,1,none⟩ = some (.slice A0_1 l0_1.length c0_1):=(blk_cell BK315.out 1).trans rfl;have hfz94_0:=blk_frozen BK315.out 0;have hfz94_1:=blk_frozen BK315.out 1)|((with_reducible refine gate_callee (f:=55) rfl ?_);refine goesL_ (some 65) rfl rfl Try.func55 (by kernel_rfl) rfl #[.agg #[.int .i64 ((rd_T79 (rd_L4 t320 x12_3) x58_4).f0),.bool ((rd_T79 (rd_L4 t320 x12_3) x58_4).f1)],.agg #[.int .i64 a0_0,.slice A0_1 l0_1.length c0_1]] rfl (by (try simp only [List.map_toArray,List.map_cons,List.map_nil]);rfl) ?_;(with_reducible refine (impl_step_ends.calls ((rd_T79 (rd_L4 t320 x12_3) x58_4).f0) ((rd_T79 (rd_L4 t320 x12_3) x58_4).f1) a0_0 _ _ l0_1 t334 t335 _ ?side1 ?side2 A55.out).mono ?_);(case side1=>exact Kd.C_below HR0_1.out (by repeat ((with_reducible first|exact HB.out|refine below_set ?_ GE333.out))));(case side2=>exact HC0_1.out);rintro e w95 ⟨rfl,hb⟩;refine ⟨_,rfl,?_⟩;have n0_:=am_ (Kd.S_below (by exact (Kd.S_mono (Kd.S_far (p:=⟨gb333,1,none⟩) (Kd.S_far (p:=⟨gb333,0,none⟩) (Kd.S_mono HO_7.out (fun k_ hk=>(⟨hk,hk.2⟩ : _ ∧ k_ ≠ gb333))) (fun _ hk=>hk.2) (.int .i64 ((rd_T79 (rd_L4 t320 x12_3) x58_4).f0))) (fun _ hk=>hk.2) (.bool ((rd_T79 (rd_L4 t320 x12_3) x58_4).f1))) (fun _ h_=>h_.1))) hb);have n1_:=am_ (Kd.S_below (by exact (Kd.S_mono (Kd.S_far (p:=⟨gb333,1,none⟩) (Kd.S_far (p:=⟨gb333,0,none⟩) (Kd.S_mono HO_8.out (fun k_ hk=>(⟨hk,hk.2⟩ : _ ∧ k_ ≠ gb333))) (fun _ hk=>hk.2) (.int .i64 ((rd_T79 (rd_L4 t320 x12_3) x58_4).f0))) (fun _ hk=>hk.2) (.bool ((rd_T79 (rd_L4 t320 x12_3) x58_4).f1))) (fun _ h_=>h_.1))) hb);have n2_:=am_ (Kd.R_below (by exact (Kd.R_mono (Kd.R_far (p:=⟨gb333,1,none⟩) (Kd.R_far (p:=⟨gb333,0,none⟩) (Kd.R_types HO_9.out BK333.out (by decide)) (fun _ hk=>hk.2) (.int .i64 ((rd_T79 (rd_L4 t320 x12_3) x58_4).f0))) (fun _ hk=>hk.2) (.bool ((rd_T79 (rd_L4 t320 x12_3) x58_4).f1))) (fun _ h_=>h_.1))) hb);have n3_:=am_ (Kd.R_below (by exact (Kd.R_mono (Kd.R_far (p:=⟨gb333,1,none⟩) (Kd.R_far (p:=⟨gb333,0,none⟩) (Kd.R_types HO_10.out BK333.out (by decide)) (fun _ hk=>hk.2) (.int .i64 ((rd_T79 (rd_L4 t320 x12_3) x58_4).f0))) (fun _ hk=>hk.2) (.bool ((rd_T79 (rd_L4 t320 x12_3) x58_4).f1))) (fun _ h_=>h_.1))) hb);have n4_:=am_ (Kd.R_below (by exact (Kd.R_mono (Kd.R_far (p:=⟨gb333,1,none⟩) (Kd.R_far (p:=⟨gb333,0,none⟩) (Kd.R_mono HO_11.out (fun k_ hk=>(⟨hk,hk.2⟩ : _ ∧ k_ ≠ gb333))) (fun _ hk=>hk.2) (.int .i64 ((rd_T79 (rd_L4 t320 x12_3) x58_4).f0))) (fun _ hk=>hk.2) (.bool ((rd_T79 (rd_L4 t320 x12_3) x58_4).f1))) (fun _ h_=>h_.1))) hb);have n5_:=am_ (blk_below (g:=gb315) (o:=.cells #[.int .i64 a0_0,.slice A0_1 l0_1.length c0_1] 30 (0,0)) (by refine blk_far ?_ NB315_333.out _;refine blk_far ?_ NB315_333.out _;exact BK315.out) hb);have n6_:=am_ (Kd.C_below (seen_far (seen_far HR331_0.out NA_.out _) NA_.out _) hb);have n7_:=am_ (blk_below (g:=gb333) (o:=.cells #[.int .i64 ((rd_T79 (rd_L4 t320 x12_3) x58_4).f0),.bool ((rd_T79 (rd_L4 t320 x12_3) x58_4).f1)] 79 (0,0)) (by refine blk_put (cs:=#[.int .i64 ((rd_T79 (rd_L4 t320 x12_3) x58_4).f0),.bool false]) ?_ 1 _ rfl;refine blk_put (cs:=#[.int .i64 0,.bool false]) ?_ 0 _ rfl;exact BK333.out) hb);have n8_:=am_ (below_step (by repeat ((with_reducible first|exact HB.out|refine below_set ?_ GE333.out))) hb);clear HO_7 HO_8 HO_9 HO_10 HO_11 BK315 HR331_0 BK333 HB;have HO_7:=n0_;have HO_8:=n1_;have HO_9:=n2_;have HO_10:=n3_;have HO_11:=n4_;have BK315:=n5_;have HR331_0:=n6_;have BK333:=n7_;have HB:=n8_;clear n0_ n1_ n2_ n3_ n4_ n5_ n6_ n7_ n8_;(try clear hb)))
          have n0_:=am_ (Kd.S_drew HO_7.out)
          have n1_:=am_ (Kd.S_drew HO_8.out)
          have n2_:=am_ (Kd.R_drew HO_9.out)
          have n3_:=am_ (Kd.R_drew HO_10.out)
          have n4_:=am_ (Kd.R_drew HO_11.out)
          have n5_:=am_ (blk_drew BK315.out)
          have n6_:=am_ (blk_drew BK333.out)
          have n7_:=am_ (Kd.C_drew HR331_0.out)
          have n8_:=am_ (below_drew1 HB.out)
          clear HO_7
          clear HO_8
          clear HO_9
          clear HO_10
          clear HO_11
          clear BK315
          clear BK333
          clear HR331_0
          clear HB
          have HO_7:=n0_
          have HO_8:=n1_
          have HO_9:=n2_
          have HO_10:=n3_
          have HO_11:=n4_
          have BK315:=n5_
          have BK333:=n6_
          have HR331_0:=n7_
          have HB:=n8_
          clear n0_ n1_ n2_ n3_ n4_ n5_ n6_ n7_ n8_
          refine start_ (n:=27) (S:=fun w'=>w'.cell? ⟨gb333,0,none⟩ = some (.int .i64 ((rd_T79 (rd_L4 t320 x12_3) x58_4).f0)) ∧ w'.cell? ⟨gb333,1,none⟩ = some (.bool ((rd_T79 (rd_L4 t320 x12_3) x58_4).f1)) ∧ w'.cell? ⟨gb315,0,none⟩ = some (.int .i64 a0_0) ∧ w'.cell? ⟨gb315,1,none⟩ = some (.slice A0_1 l0_1.length c0_1)) (ds:=[]) fl9_0_ (by kernel_rfl) rfl rfl ⟨(blk_cell BK333.out 0).trans rfl,(blk_cell BK333.out 1).trans rfl,(blk_cell BK315.out 0).trans rfl,(blk_cell BK315.out 1).trans rfl⟩ (fun hHeld=>?_);refine with_tabW impl_Cheapest.tab17 impl_Cheapest.bits17 (fun HT_ HW_=>?_)
          generalize w95.drew = w96 at HO_7 HO_8 HO_9 HO_10 HO_11 BK315 BK333 HR331_0 HB hHeld ⊢
          refine pure_ (i:=2) (N:=some 70) (v:=?_) (a':=?_) fl9_1_ rfl rfl (any_of HT_.out (by kernel_rfl)) (fun _ _ _ h=>h) (Or.inl ⟨by rfl,?_⟩) ?_ ?_
          rotate_left
          ·intro w'
           go_simp
           with_reducible rfl
          rotate_left
          ·simp only [Act.put,List.setIfInBounds_toArray,List.set_cons_zero,List.set_cons_succ,i64_w,i32_w]
           rfl
          refine take_ (i:=0) (N:=some 68) (v:=?_) (a':=?_) fl9_2_ rfl rfl (take_ofW HT_.out HW_.out (by kernel_rfl)) (fun _ _ _ h=>h) (Or.inl ⟨by rfl,?_⟩) hHeld ?_ ?_
          rotate_left
          ·rintro w' ⟨s0,s1,s2,s3⟩
           go_simp
           with_reducible rfl
          rotate_left
          ·simp only [Act.put,List.setIfInBounds_toArray,List.set_cons_zero,List.set_cons_succ,i64_w,i32_w]
           rfl
          refine take_ (i:=1) (N:=some 69) (v:=?_) (a':=?_) fl9_3_ rfl rfl (take_ofW HT_.out HW_.out (by kernel_rfl)) (fun _ _ _ h=>h) (Or.inl ⟨by rfl,?_⟩) hHeld ?_ ?_
          rotate_left
          ·rintro w' ⟨s0,s1,s2,s3⟩
           go_simp
           with_reducible rfl
          rotate_left
          ·simp only [Act.put,List.setIfInBounds_toArray,List.set_cons_zero,List.set_cons_succ,i64_w,i32_w]
           rfl
          refine one_ (i:=3) (N:=some 71) fl9_4_ rfl rfl (one_of HT_.out (by kernel_rfl)) (by decide) (fun K hK=>?_)
          refine goes_ Try.func56 (by kernel_rfl) rfl #[.agg #[.int .i64 ((rd_T79 (rd_L4 t320 x12_3) x58_4).f0),.bool ((rd_T79 (rd_L4 t320 x12_3) x58_4).f1)],.agg #[.int .i64 a0_0,.slice A0_1 l0_1.length c0_1],.slice Ao34 x9_2.length co34] (by rfl) rfl rfl (by (try simp only [List.map_toArray,List.map_cons,List.map_nil]);rfl) ?_
          with_reducible refine (impl_step_room.calls ((rd_T79 (rd_L4 t320 x12_3) x58_4).f0) ((rd_T79 (rd_L4 t320 x12_3) x58_4).f1) a0_0 _ _ l0_1 _ _ x9_2 t336 _ ?side1 ?side2 ?side3 ?side4 A56.out).mono ?_
          (case side1=>exact (Kd.C_below HR0_1.out HB.out))
          (case side2=>exact HC0_1.out)
          (case side3=>repeat (exact (Kd.R_reads' HO_9.out).2.2))
          (case side4=>exact (Kd.R_reads' HO_9.out).2.1)
          rintro e w97 ⟨rfl,hb⟩
          refine ⟨_,rfl,?_⟩
          have n0_:=am_ (Kd.S_below HO_7.out hb)
          have n1_:=am_ (Kd.S_below HO_8.out hb)
          have n2_:=am_ (Kd.R_below HO_9.out hb)
          have n3_:=am_ (Kd.R_below HO_10.out hb)
          have n4_:=am_ (Kd.R_below HO_11.out hb)
          have n5_:=am_ (blk_below BK315.out hb)
          have n6_:=am_ (Kd.C_below (by exact HR331_0.out) hb)
          have n7_:=am_ (blk_below (g:=gb333) (o:=.cells #[.int .i64 ((rd_T79 (rd_L4 t320 x12_3) x58_4).f0),.bool ((rd_T79 (rd_L4 t320 x12_3) x58_4).f1)] 79 (0,0)) BK333.out hb)
          have n8_:=am_ (below_step HB.out hb)
          clear HO_7
          clear HO_8
          clear HO_9
          clear HO_10
          clear HO_11
          clear BK315
          clear HR331_0
          clear BK333
          clear HB
          have HO_7:=n0_
          have HO_8:=n1_
          have HO_9:=n2_
          have HO_10:=n3_
          have HO_11:=n4_
          have BK315:=n5_
          have HR331_0:=n6_
          have BK333:=n7_
          have HB:=n8_
          clear n0_ n1_ n2_ n3_ n4_ n5_ n6_ n7_ n8_
          (try clear hb)
          (skip)
          (skip)
          (skip)
          refine hK.out _ _ ⟨(blk_cell BK333.out 0).trans rfl,(blk_cell BK333.out 1).trans rfl,(blk_cell BK315.out 0).trans rfl,(blk_cell BK315.out 1).trans rfl⟩ (fun hHeld=>?_)
          clear hK K
          refine norm_ (a':=?_) ?_ ?_
          rotate_left
          ·show Act.put _ (some 71) _ = _
           simp only [Act.put,List.setIfInBounds_toArray,List.set_cons_zero,List.set_cons_succ,i64_w,i32_w]
           rfl
          refine pure_ (i:=4) (N:=some 72) (v:=?_) (a':=?_) fl9_5_ rfl rfl (any_of HT_.out (by kernel_rfl)) (fun _ _ _ h=>h) (Or.inl ⟨by rfl,?_⟩) ?_ ?_
          rotate_left
          ·intro w'
           go_simp
           with_reducible rfl
          rotate_left
          ·simp only [Act.put,List.setIfInBounds_toArray,List.set_cons_zero,List.set_cons_succ,i64_w,i32_w]
           rfl
          refine pure_ (i:=5) (N:=some 73) (v:=?_) (a':=?_) fl9_6_ rfl rfl (any_of HT_.out (by kernel_rfl)) (fun _ _ _ h=>h) (Or.inl ⟨by rfl,?_⟩) ?_ ?_
          rotate_left
          ·intro w'
           go_simp
           with_reducible rfl
          rotate_left
          ·simp only [Act.put,List.setIfInBounds_toArray,List.set_cons_zero,List.set_cons_succ,i64_w,i32_w]
           rfl
          refine pure_ (i:=6) (N:=some 74) (v:=undef) (a':=?_) fl9_7_ rfl rfl (any_of HT_.out (by kernel_rfl)) (fun _ _ _ h=>h) (Or.inr ⟨by rfl,rfl⟩) ?_ ?_
          rotate_left
          ·simp only [Act.put,List.setIfInBounds_toArray,List.set_cons_zero,List.set_cons_succ,i64_w,i32_w]
           rfl
          refine pure_ (i:=7) (N:=some 75) (v:=undef) (a':=?_) fl9_8_ rfl rfl (any_of HT_.out (by kernel_rfl)) (fun _ _ _ h=>h) (Or.inr ⟨by rfl,rfl⟩) ?_ ?_
          rotate_left
          ·simp only [Act.put,List.setIfInBounds_toArray,List.set_cons_zero,List.set_cons_succ,i64_w,i32_w]
           rfl
          refine pure_ (i:=8) (N:=some 76) (v:=undef) (a':=?_) fl9_9_ rfl rfl (any_of HT_.out (by kernel_rfl)) (fun _ _ _ h=>h) (Or.inr ⟨by rfl,rfl⟩) ?_ ?_
          rotate_left
          ·simp only [Act.put,List.setIfInBounds_toArray,List.set_cons_zero,List.set_cons_succ,i64_w,i32_w]
           rfl
          refine pure_ (i:=9) (N:=some 77) (v:=undef) (a':=?_) fl9_10_ rfl rfl (any_of HT_.out (by kernel_rfl)) (fun _ _ _ h=>h) (Or.inr ⟨by rfl,rfl⟩) ?_ ?_
          rotate_left
          ·simp only [Act.put,List.setIfInBounds_toArray,List.set_cons_zero,List.set_cons_succ,i64_w,i32_w]
           rfl
          refine pure_ (i:=10) (N:=some 78) (v:=undef) (a':=?_) fl9_11_ rfl rfl (any_of HT_.out (by kernel_rfl)) (fun _ _ _ h=>h) (Or.inr ⟨by rfl,rfl⟩) ?_ ?_
          rotate_left
          ·simp only [Act.put,List.setIfInBounds_toArray,List.set_cons_zero,List.set_cons_succ,i64_w,i32_w]
           rfl
          refine pure_ (i:=11) (N:=some 79) (v:=?_) (a':=?_) fl9_12_ rfl rfl (any_of HT_.out (by kernel_rfl)) (fun _ _ _ h=>h) (Or.inl ⟨by rfl,?_⟩) ?_ ?_
          rotate_left
          ·intro w'
           go_simp
           with_reducible rfl
          rotate_left
          ·simp only [Act.put,List.setIfInBounds_toArray,List.set_cons_zero,List.set_cons_succ,i64_w,i32_w]
           rfl
          refine pure_ (i:=12) (N:=some 80) (v:=?_) (a':=?_) fl9_13_ rfl rfl (any_of HT_.out (by kernel_rfl)) (fun _ _ _ h=>h) (Or.inl ⟨by rfl,?_⟩) ?_ ?_
          rotate_left
          ·intro w'
           go_simp
           with_reducible rfl
          rotate_left
          ·simp only [Act.put,List.setIfInBounds_toArray,List.set_cons_zero,List.set_cons_succ,i64_w,i32_w]
           rfl
          refine pure_ (i:=13) (N:=some 81) (v:=undef) (a':=?_) fl9_14_ rfl rfl (any_of HT_.out (by kernel_rfl)) (fun _ _ _ h=>h) (Or.inr ⟨by rfl,rfl⟩) ?_ ?_
          rotate_left
          ·simp only [Act.put,List.setIfInBounds_toArray,List.set_cons_zero,List.set_cons_succ,i64_w,i32_w]
           rfl
          refine pure_ (i:=14) (N:=some 82) (v:=undef) (a':=?_) fl9_15_ rfl rfl (any_of HT_.out (by kernel_rfl)) (fun _ _ _ h=>h) (Or.inr ⟨by rfl,rfl⟩) ?_ ?_
          rotate_left
          ·simp only [Act.put,List.setIfInBounds_toArray,List.set_cons_zero,List.set_cons_succ,i64_w,i32_w]
           rfl
          refine pure_ (i:=15) (N:=some 83) (v:=undef) (a':=?_) fl9_16_ rfl rfl (any_of HT_.out (by kernel_rfl)) (fun _ _ _ h=>h) (Or.inr ⟨by rfl,rfl⟩) ?_ ?_
          rotate_left
          ·simp only [Act.put,List.setIfInBounds_toArray,List.set_cons_zero,List.set_cons_succ,i64_w,i32_w]
           rfl
          refine pure_ (i:=16) (N:=some 84) (v:=undef) (a':=?_) fl9_17_ rfl rfl (any_of HT_.out (by kernel_rfl)) (fun _ _ _ h=>h) (Or.inr ⟨by rfl,rfl⟩) ?_ ?_
          rotate_left
          ·simp only [Act.put,List.setIfInBounds_toArray,List.set_cons_zero,List.set_cons_succ,i64_w,i32_w]
           rfl
          refine pure_ (i:=17) (N:=some 85) (v:=undef) (a':=?_) fl9_18_ rfl rfl (any_of HT_.out (by kernel_rfl)) (fun _ _ _ h=>h) (Or.inr ⟨by rfl,rfl⟩) ?_ ?_
          rotate_left
          ·simp only [Act.put,List.setIfInBounds_toArray,List.set_cons_zero,List.set_cons_succ,i64_w,i32_w]
           rfl
          refine pure_ (i:=18) (N:=some 86) (v:=undef) (a':=?_) fl9_19_ rfl rfl (any_of HT_.out (by kernel_rfl)) (fun _ _ _ h=>h) (Or.inr ⟨by rfl,rfl⟩) ?_ ?_
          rotate_left
          ·simp only [Act.put,List.setIfInBounds_toArray,List.set_cons_zero,List.set_cons_succ,i64_w,i32_w]
           rfl
          refine pure_ (i:=19) (N:=some 87) (v:=undef) (a':=?_) fl9_20_ rfl rfl (any_of HT_.out (by kernel_rfl)) (fun _ _ _ h=>h) (Or.inr ⟨by rfl,rfl⟩) ?_ ?_
          rotate_left
          ·simp only [Act.put,List.setIfInBounds_toArray,List.set_cons_zero,List.set_cons_succ,i64_w,i32_w]
           rfl
          refine pure_ (i:=20) (N:=some 88) (v:=undef) (a':=?_) fl9_21_ rfl rfl (any_of HT_.out (by kernel_rfl)) (fun _ _ _ h=>h) (Or.inr ⟨by rfl,rfl⟩) ?_ ?_
          rotate_left
          ·simp only [Act.put,List.setIfInBounds_toArray,List.set_cons_zero,List.set_cons_succ,i64_w,i32_w]
           rfl
          refine pure_ (i:=21) (N:=some 89) (v:=undef) (a':=?_) fl9_22_ rfl rfl (any_of HT_.out (by kernel_rfl)) (fun _ _ _ h=>h) (Or.inr ⟨by rfl,rfl⟩) ?_ ?_
          rotate_left
          ·simp only [Act.put,List.setIfInBounds_toArray,List.set_cons_zero,List.set_cons_succ,i64_w,i32_w]
           rfl
          refine pure_ (i:=22) (N:=some 90) (v:=undef) (a':=?_) fl9_23_ rfl rfl (any_of HT_.out (by kernel_rfl)) (fun _ _ _ h=>h) (Or.inr ⟨by rfl,rfl⟩) ?_ ?_
          rotate_left
          ·simp only [Act.put,List.setIfInBounds_toArray,List.set_cons_zero,List.set_cons_succ,i64_w,i32_w]
           rfl
          refine pure_ (i:=23) (N:=some 91) (v:=undef) (a':=?_) fl9_24_ rfl rfl (any_of HT_.out (by kernel_rfl)) (fun _ _ _ h=>h) (Or.inr ⟨by rfl,rfl⟩) ?_ ?_
          rotate_left
          ·simp only [Act.put,List.setIfInBounds_toArray,List.set_cons_zero,List.set_cons_succ,i64_w,i32_w]
           rfl
          refine pure_ (i:=24) (N:=some 92) (v:=undef) (a':=?_) fl9_25_ rfl rfl (any_of HT_.out (by kernel_rfl)) (fun _ _ _ h=>h) (Or.inr ⟨by rfl,rfl⟩) ?_ ?_
          rotate_left
          ·simp only [Act.put,List.setIfInBounds_toArray,List.set_cons_zero,List.set_cons_succ,i64_w,i32_w]
           rfl
          refine pure_ (i:=25) (N:=some 93) (v:=undef) (a':=?_) fl9_26_ rfl rfl (any_of HT_.out (by kernel_rfl)) (fun _ _ _ h=>h) (Or.inr ⟨by rfl,rfl⟩) ?_ ?_
          rotate_left
          ·simp only [Act.put,List.setIfInBounds_toArray,List.set_cons_zero,List.set_cons_succ,i64_w,i32_w]
           rfl
          refine pure_ (i:=26) (N:=some 94) (v:=?_) (a':=?_) fl9_27_ rfl rfl (any_of HT_.out (by kernel_rfl)) (fun _ _ _ h=>h) (Or.inl ⟨by rfl,?_⟩) ?_ ?_
          rotate_left
          ·intro w'
           go_simp
           with_reducible rfl
          rotate_left
          ·simp only [Act.put,List.setIfInBounds_toArray,List.set_cons_zero,List.set_cons_succ,i64_w,i32_w]
           rfl
          refine done_ (done_of HT_.out (by kernel_rfl)) ?_
          try go_wp2
          go_roundg k4
          case measure=>have:=HJ2.out;have:=HK2.out;have:=HK3.out;have:=HK4.out;omega
          case rel=>exact ⟨(x11_4),(x12_4),(wrap64 (x58_4 + 1)),(by rfl),(by rfl),H',⟨by have:=HJ2.out;have:=HK2.out;have:=HK3.out;have:=HK4.out;omega⟩,⟨by exact Kd.S_mono HO_7.out (fun _ hk=>⟨hk.1.1,hk.1.2⟩)⟩,⟨by exact Kd.S_mono HO_8.out (fun _ hk=>⟨hk.1.1,hk.1.2⟩)⟩,⟨by exact HO_9.out⟩,⟨by exact HO_10.out⟩,⟨by exact Kd.R_mono HO_11.out (fun _ hk=>trivial)⟩,⟨by exact BK315.out⟩,⟨by exact HR331_0.out⟩,⟨by exact HB.out⟩⟩
         rw [if_pos c57] at H
         have c57b0 : decide (0 < t336) = true:=decide_eq_true c57
         clear c57
         by_cases c58 : 0 ≤ t334
         rotate_left
         ·rw [if_neg c58] at H
          exact absurd H (by simp)
         rw [if_pos c58] at H
         have c58b0 : decide (0 ≤ t334) = true:=decide_eq_true c58
         clear c58
         by_cases c59 : t334 < (t327.length : Int)
         rotate_left
         ·rw [if_neg c59] at H
          exact absurd H (by simp)
         rw [if_pos c59] at H
         have c59b0 : decide (t334 < (t327.length : Int)) = true:=decide_eq_true c59
         clear c59
         by_cases c60 : (rd t327 t334) < 1152921504606846976
         rotate_left
         ·rw [if_neg c60] at H
          have c60b0 : decide ((rd t327 t334) < 1152921504606846976) = false:=decide_eq_false c60
          clear c60
          have H':=am_ H
          clear H
          have p332 : 0 ≤ (x58_4 : Int):=of_decide_eq_true (by (with_reducible assumption))
          have q332 : x58_4 < ((rd_L4 t320 x12_3).length : Int):=of_decide_eq_true (by (with_reducible assumption))
          obtain ⟨ad332,e332,hx332_0,hx332_1⟩:=at_T79 HR331_0.out x58_4 p332 q332
          cases e332
          replace p332:=eq_true p332
          replace q332:=eq_true q332
          try go_wp2_with (first|((with_reducible refine gate_dst (N:=14) rfl ?_);refine box_event ?hg (N:=14) ?hd (cs:=#[.int .i64 0,.bool false]) (t:=79) ?hr ?_;(case hd=>rfl);(case hg=>rfl);(case hr=>(go_simp;done));intro gb333 hg w84 hbox hb;have NA_:=am_ (seen_new (d:=k79) (by decide) (Nat.le_of_eq hg.symm) (by exact HR331_0.out));have n0_:=am_ (Kd.S_below (Kd.S_elderB HO_7.out gb333 (Nat.le_of_eq hg.symm)) hb);have n1_:=am_ (Kd.S_below (Kd.S_elderB HO_8.out gb333 (Nat.le_of_eq hg.symm)) hb);have n2_:=am_ (Kd.R_below HO_9.out hb);have n3_:=am_ (Kd.R_below HO_10.out hb);have n4_:=am_ (Kd.R_below (Kd.R_elderB HO_11.out gb333 (Nat.le_of_eq hg.symm)) hb);have n5_:=am_ (blk_below BK315.out hb);have n6_:=am_ (Kd.C_below (by exact HR331_0.out) hb);have n7_:=am_ (below_step HB.out hb);have n8_:=am_ (hbox);have n9_:=am_ ((by rw [hg];exact (below_size HB.out) : w.heap.size ≤ gb333));have n10_:=n9_;have n11_:=am_ ((by rw [hg];exact Nat.ne_of_lt (blk_lt (g:=gb315) (o:=.cells #[.int .i64 a0_0,.slice A0_1 l0_1.length c0_1] 30 (0,0)) BK315.out) : gb315 ≠ gb333));have n12_:=am_ ((by rw [hg];exact Nat.ne_of_gt (blk_lt (g:=gb315) (o:=.cells #[.int .i64 a0_0,.slice A0_1 l0_1.length c0_1] 30 (0,0)) BK315.out) : gb333 ≠ gb315));clear HO_7 HO_8 HO_9 HO_10 HO_11 BK315 HR331_0 HB;have HO_7:=n0_;have HO_8:=n1_;have HO_9:=n2_;have HO_10:=n3_;have HO_11:=n4_;have BK315:=n5_;have HR331_0:=n6_;have HB:=n7_;have BK333:=n8_;have GW333:=n9_;have GE333:=n10_;have NB315_333:=n11_;have NB333_315:=n12_;clear n0_ n1_ n2_ n3_ n4_ n5_ n6_ n7_ n8_ n9_ n10_ n11_ n12_ hb hbox hg;have hnb85:=NB333_315.out;have hnc85:=NB315_333.out;have hcz86_0 : w84.cell? ⟨gb333,0,none⟩ = some (.int .i64 0):=(blk_cell BK333.out 0).trans rfl;have hcz86_1 : w84.cell? ⟨gb333,1,none⟩ = some (.bool false):=(blk_cell BK333.out 1).trans rfl;have hfz86_0:=blk_frozen BK333.out 0;have hfz86_1:=blk_frozen BK333.out 1;have hcz87_0 : w84.cell? ⟨gb315,0,none⟩ = some (.int .i64 a0_0):=(blk_cell BK315.out 0).trans rfl;have hcz87_1 : w84.cell? ⟨gb315,1,none⟩ = some (.slice A0_1 l0_1.length c0_1):=(blk_cell BK315.out 1).trans rfl;have hfz87_0:=blk_frozen BK315.out 0;have hfz87_1:=blk_frozen BK315.out 1)|((with_reducible refine gate_callee (f:=55) rfl ?_);refine goesL_ (some 65) rfl rfl Try.func55 (by kernel_rfl) rfl #[.agg #[.int .i64 ((rd_T79 (rd_L4 t320 x12_3) x58_4).f0),.bool ((rd_T79 (rd_L4 t320 x12_3) x58_4).f1)],.agg #[.int .i64 a0_0,.slice A0_1 l0_1.length c0_1]] rfl (by (try simp only [List.map_toArray,List.map_cons,List.map_nil]);rfl) ?_;(with_reducible refine (impl_step_ends.calls ((rd_T79 (rd_L4 t320 x12_3) x58_4).f0) ((rd_T79 (rd_L4 t320 x12_3) x58_4).f1) a0_0 _ _ l0_1 t334 t335 _ ?side1 ?side2 A55.out).mono ?_);(case side1=>exact Kd.C_below HR0_1.out (by repeat ((with_reducible first|exact HB.out|refine below_set ?_ GE333.out))));(case side2=>exact HC0_1.out);rintro e w88 ⟨rfl,hb⟩;refine ⟨_,rfl,?_⟩;have n0_:=am_ (Kd.S_below (by exact (Kd.S_mono (Kd.S_far (p:=⟨gb333,1,none⟩) (Kd.S_far (p:=⟨gb333,0,none⟩) (Kd.S_mono HO_7.out (fun k_ hk=>(⟨hk,hk.2⟩ : _ ∧ k_ ≠ gb333))) (fun _ hk=>hk.2) (.int .i64 ((rd_T79 (rd_L4 t320 x12_3) x58_4).f0))) (fun _ hk=>hk.2) (.bool ((rd_T79 (rd_L4 t320 x12_3) x58_4).f1))) (fun _ h_=>h_.1))) hb);have n1_:=am_ (Kd.S_below (by exact (Kd.S_mono (Kd.S_far (p:=⟨gb333,1,none⟩) (Kd.S_far (p:=⟨gb333,0,none⟩) (Kd.S_mono HO_8.out (fun k_ hk=>(⟨hk,hk.2⟩ : _ ∧ k_ ≠ gb333))) (fun _ hk=>hk.2) (.int .i64 ((rd_T79 (rd_L4 t320 x12_3) x58_4).f0))) (fun _ hk=>hk.2) (.bool ((rd_T79 (rd_L4 t320 x12_3) x58_4).f1))) (fun _ h_=>h_.1))) hb);have n2_:=am_ (Kd.R_below (by exact (Kd.R_mono (Kd.R_far (p:=⟨gb333,1,none⟩) (Kd.R_far (p:=⟨gb333,0,none⟩) (Kd.R_types HO_9.out BK333.out (by decide)) (fun _ hk=>hk.2) (.int .i64 ((rd_T79 (rd_L4 t320 x12_3) x58_4).f0))) (fun _ hk=>hk.2) (.bool ((rd_T79 (rd_L4 t320 x12_3) x58_4).f1))) (fun _ h_=>h_.1))) hb);have n3_:=am_ (Kd.R_below (by exact (Kd.R_mono (Kd.R_far (p:=⟨gb333,1,none⟩) (Kd.R_far (p:=⟨gb333,0,none⟩) (Kd.R_types HO_10.out BK333.out (by decide)) (fun _ hk=>hk.2) (.int .i64 ((rd_T79 (rd_L4 t320 x12_3) x58_4).f0))) (fun _ hk=>hk.2) (.bool ((rd_T79 (rd_L4 t320 x12_3) x58_4).f1))) (fun _ h_=>h_.1))) hb);have n4_:=am_ (Kd.R_below (by exact (Kd.R_mono (Kd.R_far (p:=⟨gb333,1,none⟩) (Kd.R_far (p:=⟨gb333,0,none⟩) (Kd.R_mono HO_11.out (fun k_ hk=>(⟨hk,hk.2⟩ : _ ∧ k_ ≠ gb333))) (fun _ hk=>hk.2) (.int .i64 ((rd_T79 (rd_L4 t320 x12_3) x58_4).f0))) (fun _ hk=>hk.2) (.bool ((rd_T79 (rd_L4 t320 x12_3) x58_4).f1))) (fun _ h_=>h_.1))) hb);have n5_:=am_ (blk_below (g:=gb315) (o:=.cells #[.int .i64 a0_0,.slice A0_1 l0_1.length c0_1] 30 (0,0)) (by refine blk_far ?_ NB315_333.out _;refine blk_far ?_ NB315_333.out _;exact BK315.out) hb);have n6_:=am_ (Kd.C_below (seen_far (seen_far HR331_0.out NA_.out _) NA_.out _) hb);have n7_:=am_ (blk_below (g:=gb333) (o:=.cells #[.int .i64 ((rd_T79 (rd_L4 t320 x12_3) x58_4).f0),.bool ((rd_T79 (rd_L4 t320 x12_3) x58_4).f1)] 79 (0,0)) (by refine blk_put (cs:=#[.int .i64 ((rd_T79 (rd_L4 t320 x12_3) x58_4).f0),.bool false]) ?_ 1 _ rfl;refine blk_put (cs:=#[.int .i64 0,.bool false]) ?_ 0 _ rfl;exact BK333.out) hb);have n8_:=am_ (below_step (by repeat ((with_reducible first|exact HB.out|refine below_set ?_ GE333.out))) hb);clear HO_7 HO_8 HO_9 HO_10 HO_11 BK315 HR331_0 BK333 HB;have HO_7:=n0_;have HO_8:=n1_;have HO_9:=n2_;have HO_10:=n3_;have HO_11:=n4_;have BK315:=n5_;have HR331_0:=n6_;have BK333:=n7_;have HB:=n8_;clear n0_ n1_ n2_ n3_ n4_ n5_ n6_ n7_ n8_;(try clear hb)))
          have n0_:=am_ (Kd.S_drew HO_7.out)
          have n1_:=am_ (Kd.S_drew HO_8.out)
          have n2_:=am_ (Kd.R_drew HO_9.out)
          have n3_:=am_ (Kd.R_drew HO_10.out)
          have n4_:=am_ (Kd.R_drew HO_11.out)
          have n5_:=am_ (blk_drew BK315.out)
          have n6_:=am_ (blk_drew BK333.out)
          have n7_:=am_ (Kd.C_drew HR331_0.out)
          have n8_:=am_ (below_drew1 HB.out)
          clear HO_7
          clear HO_8
          clear HO_9
          clear HO_10
          clear HO_11
          clear BK315
          clear BK333
          clear HR331_0
          clear HB
          have HO_7:=n0_
          have HO_8:=n1_
          have HO_9:=n2_
          have HO_10:=n3_
          have HO_11:=n4_
          have BK315:=n5_
          have BK333:=n6_
          have HR331_0:=n7_
          have HB:=n8_
          clear n0_ n1_ n2_ n3_ n4_ n5_ n6_ n7_ n8_
          have p337 : 0 ≤ (t334 : Int):=of_decide_eq_true (by (with_reducible assumption))
          have q337 : t334 < (t327.length : Int):=of_decide_eq_true (by (with_reducible assumption))
          obtain ⟨ad337,e337,hx337_0⟩:=Kd.at_int (Kd.R_reads' HO_10.out).2.2 t334 p337 q337
          obtain rfl : ad330 = ad337:=(by injection e337)
          replace p337:=eq_true p337
          replace q337:=eq_true q337
          refine start_ (n:=27) (S:=fun w'=>w'.cell? ⟨gb333,0,none⟩ = some (.int .i64 ((rd_T79 (rd_L4 t320 x12_3) x58_4).f0)) ∧ w'.cell? ⟨gb333,1,none⟩ = some (.bool ((rd_T79 (rd_L4 t320 x12_3) x58_4).f1)) ∧ w'.cell? ⟨gb315,0,none⟩ = some (.int .i64 a0_0) ∧ w'.cell? ⟨gb315,1,none⟩ = some (.slice A0_1 l0_1.length c0_1) ∧ w'.cell? (ad330.add (t334).toNat) = some (.int .i64 (rd t327 t334))) (ds:=[]) fl9_0_ (by kernel_rfl) rfl rfl ⟨(blk_cell BK333.out 0).trans rfl,(blk_cell BK333.out 1).trans rfl,(blk_cell BK315.out 0).trans rfl,(blk_cell BK315.out 1).trans rfl,hx337_0⟩ (fun hHeld=>?_);refine with_tabW impl_Cheapest.tab17 impl_Cheapest.bits17 (fun HT_ HW_=>?_)
          generalize w88.drew = w89 at HO_7 HO_8 HO_9 HO_10 HO_11 BK315 BK333 HR331_0 HB hx337_0 hHeld ⊢
          refine pure_ (i:=2) (N:=some 70) (v:=?_) (a':=?_) fl9_1_ rfl rfl (any_of HT_.out (by kernel_rfl)) (fun _ _ _ h=>h) (Or.inl ⟨by rfl,?_⟩) ?_ ?_
          rotate_left
          ·intro w'
           go_simp
           with_reducible rfl
          rotate_left
          ·simp only [Act.put,List.setIfInBounds_toArray,List.set_cons_zero,List.set_cons_succ,i64_w,i32_w]
           rfl
          refine take_ (i:=0) (N:=some 68) (v:=?_) (a':=?_) fl9_2_ rfl rfl (take_ofW HT_.out HW_.out (by kernel_rfl)) (fun _ _ _ h=>h) (Or.inl ⟨by rfl,?_⟩) hHeld ?_ ?_
          rotate_left
          ·rintro w' ⟨s0,s1,s2,s3,s4⟩
           go_simp
           with_reducible rfl
          rotate_left
          ·simp only [Act.put,List.setIfInBounds_toArray,List.set_cons_zero,List.set_cons_succ,i64_w,i32_w]
           rfl
          refine take_ (i:=1) (N:=some 69) (v:=?_) (a':=?_) fl9_3_ rfl rfl (take_ofW HT_.out HW_.out (by kernel_rfl)) (fun _ _ _ h=>h) (Or.inl ⟨by rfl,?_⟩) hHeld ?_ ?_
          rotate_left
          ·rintro w' ⟨s0,s1,s2,s3,s4⟩
           go_simp
           with_reducible rfl
          rotate_left
          ·simp only [Act.put,List.setIfInBounds_toArray,List.set_cons_zero,List.set_cons_succ,i64_w,i32_w]
           rfl
          refine one_ (i:=3) (N:=some 71) fl9_4_ rfl rfl (one_of HT_.out (by kernel_rfl)) (by decide) (fun K hK=>?_)
          refine goes_ Try.func56 (by kernel_rfl) rfl #[.agg #[.int .i64 ((rd_T79 (rd_L4 t320 x12_3) x58_4).f0),.bool ((rd_T79 (rd_L4 t320 x12_3) x58_4).f1)],.agg #[.int .i64 a0_0,.slice A0_1 l0_1.length c0_1],.slice Ao34 x9_2.length co34] (by rfl) rfl rfl (by (try simp only [List.map_toArray,List.map_cons,List.map_nil]);rfl) ?_
          with_reducible refine (impl_step_room.calls ((rd_T79 (rd_L4 t320 x12_3) x58_4).f0) ((rd_T79 (rd_L4 t320 x12_3) x58_4).f1) a0_0 _ _ l0_1 _ _ x9_2 t336 _ ?side1 ?side2 ?side3 ?side4 A56.out).mono ?_
          (case side1=>exact (Kd.C_below HR0_1.out HB.out))
          (case side2=>exact HC0_1.out)
          (case side3=>repeat (exact (Kd.R_reads' HO_9.out).2.2))
          (case side4=>exact (Kd.R_reads' HO_9.out).2.1)
          rintro e w90 ⟨rfl,hb⟩
          have HS4_:=(hb.cell (World.block_lt_of_cell? _ _ (hHeld.2.2.2.2))).trans (hHeld.2.2.2.2)
          refine ⟨_,rfl,?_⟩
          have n0_:=am_ (Kd.S_below HO_7.out hb)
          have n1_:=am_ (Kd.S_below HO_8.out hb)
          have n2_:=am_ (Kd.R_below HO_9.out hb)
          have n3_:=am_ (Kd.R_below HO_10.out hb)
          have n4_:=am_ (Kd.R_below HO_11.out hb)
          have n5_:=am_ (blk_below BK315.out hb)
          have n6_:=am_ (Kd.C_below (by exact HR331_0.out) hb)
          have n7_:=am_ (blk_below (g:=gb333) (o:=.cells #[.int .i64 ((rd_T79 (rd_L4 t320 x12_3) x58_4).f0),.bool ((rd_T79 (rd_L4 t320 x12_3) x58_4).f1)] 79 (0,0)) BK333.out hb)
          have n8_:=am_ (below_step HB.out hb)
          clear HO_7
          clear HO_8
          clear HO_9
          clear HO_10
          clear HO_11
          clear BK315
          clear HR331_0
          clear BK333
          clear HB
          have HO_7:=n0_
          have HO_8:=n1_
          have HO_9:=n2_
          have HO_10:=n3_
          have HO_11:=n4_
          have BK315:=n5_
          have HR331_0:=n6_
          have BK333:=n7_
          have HB:=n8_
          clear n0_ n1_ n2_ n3_ n4_ n5_ n6_ n7_ n8_
          (try clear hb)
          (skip)
          (skip)
          (skip)
          refine hK.out _ _ ⟨(blk_cell BK333.out 0).trans rfl,(blk_cell BK333.out 1).trans rfl,(blk_cell BK315.out 0).trans rfl,(blk_cell BK315.out 1).trans rfl,HS4_⟩ (fun hHeld=>?_)
          clear hK K
          refine norm_ (a':=?_) ?_ ?_
          rotate_left
          ·show Act.put _ (some 71) _ = _
           simp only [Act.put,List.setIfInBounds_toArray,List.set_cons_zero,List.set_cons_succ,i64_w,i32_w]
           rfl
          refine pure_ (i:=4) (N:=some 72) (v:=?_) (a':=?_) fl9_5_ rfl rfl (any_of HT_.out (by kernel_rfl)) (fun _ _ _ h=>h) (Or.inl ⟨by rfl,?_⟩) ?_ ?_
          rotate_left
          ·intro w'
           go_simp
           with_reducible rfl
          rotate_left
          ·simp only [Act.put,List.setIfInBounds_toArray,List.set_cons_zero,List.set_cons_succ,i64_w,i32_w]
           rfl
          refine pure_ (i:=5) (N:=some 73) (v:=?_) (a':=?_) fl9_6_ rfl rfl (any_of HT_.out (by kernel_rfl)) (fun _ _ _ h=>h) (Or.inl ⟨by rfl,?_⟩) ?_ ?_
          rotate_left
          ·intro w'
           go_simp
           with_reducible rfl
          rotate_left
          ·simp only [Act.put,List.setIfInBounds_toArray,List.set_cons_zero,List.set_cons_succ,i64_w,i32_w]
           rfl
          refine pure_ (i:=6) (N:=some 74) (v:=?_) (a':=?_) fl9_7_ rfl rfl (any_of HT_.out (by kernel_rfl)) (fun _ _ _ h=>h) (Or.inl ⟨by rfl,?_⟩) ?_ ?_
          rotate_left
          ·intro w'
           go_simp
           with_reducible rfl
          rotate_left
          ·simp only [Act.put,List.setIfInBounds_toArray,List.set_cons_zero,List.set_cons_succ,i64_w,i32_w]
           rfl
          refine pure_ (i:=7) (N:=some 75) (v:=?_) (a':=?_) fl9_8_ rfl rfl (any_of HT_.out (by kernel_rfl)) (fun _ _ _ h=>h) (Or.inl ⟨by rfl,?_⟩) ?_ ?_
          rotate_left
          ·intro w'
           go_simp
           with_reducible rfl
          rotate_left
          ·simp only [Act.put,List.setIfInBounds_toArray,List.set_cons_zero,List.set_cons_succ,i64_w,i32_w]
           rfl
          refine pure_ (i:=8) (N:=some 76) (v:=?_) (a':=?_) fl9_9_ rfl rfl (any_of HT_.out (by kernel_rfl)) (fun _ _ _ h=>h) (Or.inl ⟨by rfl,?_⟩) ?_ ?_
          rotate_left
          ·intro w'
           go_simp
           with_reducible rfl
          rotate_left
          ·simp only [Act.put,List.setIfInBounds_toArray,List.set_cons_zero,List.set_cons_succ,i64_w,i32_w]
           rfl
          refine take_ (i:=9) (N:=some 77) (v:=?_) (a':=?_) fl9_10_ rfl rfl (take_ofW HT_.out HW_.out (by kernel_rfl)) (fun _ _ _ h=>h) (Or.inl ⟨by rfl,?_⟩) hHeld ?_ ?_
          rotate_left
          ·rintro w' ⟨s0,s1,s2,s3,s4⟩
           go_simp
           with_reducible rfl
          rotate_left
          ·simp only [Act.put,List.setIfInBounds_toArray,List.set_cons_zero,List.set_cons_succ,i64_w,i32_w]
           rfl
          refine pure_ (i:=10) (N:=some 78) (v:=?_) (a':=?_) fl9_11_ rfl rfl (any_of HT_.out (by kernel_rfl)) (fun _ _ _ h=>h) (Or.inl ⟨by rfl,?_⟩) ?_ ?_
          rotate_left
          ·intro w'
           go_simp
           with_reducible rfl
          rotate_left
          ·simp only [Act.put,List.setIfInBounds_toArray,List.set_cons_zero,List.set_cons_succ,i64_w,i32_w]
           rfl
          refine pure_ (i:=11) (N:=some 79) (v:=?_) (a':=?_) fl9_12_ rfl rfl (any_of HT_.out (by kernel_rfl)) (fun _ _ _ h=>h) (Or.inl ⟨by rfl,?_⟩) ?_ ?_
          rotate_left
          ·intro w'
           go_simp
           with_reducible rfl
          rotate_left
          ·simp only [Act.put,List.setIfInBounds_toArray,List.set_cons_zero,List.set_cons_succ,i64_w,i32_w]
           rfl
          refine pure_ (i:=12) (N:=some 80) (v:=?_) (a':=?_) fl9_13_ rfl rfl (any_of HT_.out (by kernel_rfl)) (fun _ _ _ h=>h) (Or.inl ⟨by rfl,?_⟩) ?_ ?_
          rotate_left
          ·intro w'
           go_simp
           with_reducible rfl
          rotate_left
          ·simp only [Act.put,List.setIfInBounds_toArray,List.set_cons_zero,List.set_cons_succ,i64_w,i32_w]
           rfl
          refine pure_ (i:=13) (N:=some 81) (v:=undef) (a':=?_) fl9_14_ rfl rfl (any_of HT_.out (by kernel_rfl)) (fun _ _ _ h=>h) (Or.inr ⟨by rfl,rfl⟩) ?_ ?_
          rotate_left
          ·simp only [Act.put,List.setIfInBounds_toArray,List.set_cons_zero,List.set_cons_succ,i64_w,i32_w]
           rfl
          refine pure_ (i:=14) (N:=some 82) (v:=undef) (a':=?_) fl9_15_ rfl rfl (any_of HT_.out (by kernel_rfl)) (fun _ _ _ h=>h) (Or.inr ⟨by rfl,rfl⟩) ?_ ?_
          rotate_left
          ·simp only [Act.put,List.setIfInBounds_toArray,List.set_cons_zero,List.set_cons_succ,i64_w,i32_w]
           rfl
          refine pure_ (i:=15) (N:=some 83) (v:=undef) (a':=?_) fl9_16_ rfl rfl (any_of HT_.out (by kernel_rfl)) (fun _ _ _ h=>h) (Or.inr ⟨by rfl,rfl⟩) ?_ ?_
          rotate_left
          ·simp only [Act.put,List.setIfInBounds_toArray,List.set_cons_zero,List.set_cons_succ,i64_w,i32_w]
           rfl
          refine pure_ (i:=16) (N:=some 84) (v:=undef) (a':=?_) fl9_17_ rfl rfl (any_of HT_.out (by kernel_rfl)) (fun _ _ _ h=>h) (Or.inr ⟨by rfl,rfl⟩) ?_ ?_
          rotate_left
          ·simp only [Act.put,List.setIfInBounds_toArray,List.set_cons_zero,List.set_cons_succ,i64_w,i32_w]
           rfl
          refine pure_ (i:=17) (N:=some 85) (v:=undef) (a':=?_) fl9_18_ rfl rfl (any_of HT_.out (by kernel_rfl)) (fun _ _ _ h=>h) (Or.inr ⟨by rfl,rfl⟩) ?_ ?_
          rotate_left
          ·simp only [Act.put,List.setIfInBounds_toArray,List.set_cons_zero,List.set_cons_succ,i64_w,i32_w]
           rfl
          refine pure_ (i:=18) (N:=some 86) (v:=undef) (a':=?_) fl9_19_ rfl rfl (any_of HT_.out (by kernel_rfl)) (fun _ _ _ h=>h) (Or.inr ⟨by rfl,rfl⟩) ?_ ?_
          rotate_left
          ·simp only [Act.put,List.setIfInBounds_toArray,List.set_cons_zero,List.set_cons_succ,i64_w,i32_w]
           rfl
          refine pure_ (i:=19) (N:=some 87) (v:=undef) (a':=?_) fl9_20_ rfl rfl (any_of HT_.out (by kernel_rfl)) (fun _ _ _ h=>h) (Or.inr ⟨by rfl,rfl⟩) ?_ ?_
          rotate_left
          ·simp only [Act.put,List.setIfInBounds_toArray,List.set_cons_zero,List.set_cons_succ,i64_w,i32_w]
           rfl
          refine pure_ (i:=20) (N:=some 88) (v:=undef) (a':=?_) fl9_21_ rfl rfl (any_of HT_.out (by kernel_rfl)) (fun _ _ _ h=>h) (Or.inr ⟨by rfl,rfl⟩) ?_ ?_
          rotate_left
          ·simp only [Act.put,List.setIfInBounds_toArray,List.set_cons_zero,List.set_cons_succ,i64_w,i32_w]
           rfl
          refine pure_ (i:=21) (N:=some 89) (v:=undef) (a':=?_) fl9_22_ rfl rfl (any_of HT_.out (by kernel_rfl)) (fun _ _ _ h=>h) (Or.inr ⟨by rfl,rfl⟩) ?_ ?_
          rotate_left
          ·simp only [Act.put,List.setIfInBounds_toArray,List.set_cons_zero,List.set_cons_succ,i64_w,i32_w]
           rfl
          refine pure_ (i:=22) (N:=some 90) (v:=undef) (a':=?_) fl9_23_ rfl rfl (any_of HT_.out (by kernel_rfl)) (fun _ _ _ h=>h) (Or.inr ⟨by rfl,rfl⟩) ?_ ?_
          rotate_left
          ·simp only [Act.put,List.setIfInBounds_toArray,List.set_cons_zero,List.set_cons_succ,i64_w,i32_w]
           rfl
          refine pure_ (i:=23) (N:=some 91) (v:=undef) (a':=?_) fl9_24_ rfl rfl (any_of HT_.out (by kernel_rfl)) (fun _ _ _ h=>h) (Or.inr ⟨by rfl,rfl⟩) ?_ ?_
          rotate_left
          ·simp only [Act.put,List.setIfInBounds_toArray,List.set_cons_zero,List.set_cons_succ,i64_w,i32_w]
           rfl
          refine pure_ (i:=24) (N:=some 92) (v:=undef) (a':=?_) fl9_25_ rfl rfl (any_of HT_.out (by kernel_rfl)) (fun _ _ _ h=>h) (Or.inr ⟨by rfl,rfl⟩) ?_ ?_
          rotate_left
          ·simp only [Act.put,List.setIfInBounds_toArray,List.set_cons_zero,List.set_cons_succ,i64_w,i32_w]
           rfl
          refine pure_ (i:=25) (N:=some 93) (v:=undef) (a':=?_) fl9_26_ rfl rfl (any_of HT_.out (by kernel_rfl)) (fun _ _ _ h=>h) (Or.inr ⟨by rfl,rfl⟩) ?_ ?_
          rotate_left
          ·simp only [Act.put,List.setIfInBounds_toArray,List.set_cons_zero,List.set_cons_succ,i64_w,i32_w]
           rfl
          refine pure_ (i:=26) (N:=some 94) (v:=?_) (a':=?_) fl9_27_ rfl rfl (any_of HT_.out (by kernel_rfl)) (fun _ _ _ h=>h) (Or.inl ⟨by rfl,?_⟩) ?_ ?_
          rotate_left
          ·intro w'
           go_simp
           with_reducible rfl
          rotate_left
          ·simp only [Act.put,List.setIfInBounds_toArray,List.set_cons_zero,List.set_cons_succ,i64_w,i32_w]
           rfl
          refine done_ (done_of HT_.out (by kernel_rfl)) ?_
          try go_wp2
          go_roundg k4
          case measure=>have:=HJ2.out;have:=HK2.out;have:=HK3.out;have:=HK4.out;omega
          case rel=>exact ⟨(x11_4),(x12_4),(wrap64 (x58_4 + 1)),(by rfl),(by rfl),H',⟨by have:=HJ2.out;have:=HK2.out;have:=HK3.out;have:=HK4.out;omega⟩,⟨by exact Kd.S_mono HO_7.out (fun _ hk=>⟨hk.1.1,hk.1.2⟩)⟩,⟨by exact Kd.S_mono HO_8.out (fun _ hk=>⟨hk.1.1,hk.1.2⟩)⟩,⟨by exact HO_9.out⟩,⟨by exact HO_10.out⟩,⟨by exact Kd.R_mono HO_11.out (fun _ hk=>trivial)⟩,⟨by exact BK315.out⟩,⟨by exact HR331_0.out⟩,⟨by exact HB.out⟩⟩
         rw [if_pos c60] at H
         have c60b0 : decide ((rd t327 t334) < 1152921504606846976) = true:=decide_eq_true c60
         clear c60
         replace H:=Option.bind_eq_some_iff.mp H
         obtain ⟨t339,A610,H⟩:=H
         replace H : (if 0 ≤ x12_4 then (if x12_4 < (t327.length : Int) then (if (wrap64 ((rd t327 t334) + t339)) = (rd t327 x12_4) then (if x11_4.length < 8796093022208 then (impl_Cheapest.l1 k4 x1_2 t317 t320 x9_2 t327 (x11_4 ++ [(⟨(rd_T79 (rd_L4 t320 x12_3) x58_4).f0,(rd_T79 (rd_L4 t320 x12_3) x58_4).f1⟩ : S79)]) t334 a0_0 l0_1) else (none)) else (impl_Cheapest.l2 k4 x1_2 t317 t320 x9_2 t327 x11_4 x12_4 (rd_L4 t320 x12_3) ((rd_L4 t320 x12_3).length : Int) (wrap64 (x58_4 + 1)) a0_0 l0_1)) else (none)) else (none)) = some (r1,r2,r3):=H
         have A61:=am_ A610
         clear A610
         by_cases c62 : 0 ≤ x12_4
         rotate_left
         ·rw [if_neg c62] at H
          exact absurd H (by simp)
         rw [if_pos c62] at H
         have c62b0 : decide (0 ≤ x12_4) = true:=decide_eq_true c62
         clear c62
         by_cases c63 : x12_4 < (t327.length : Int)
         rotate_left
         ·rw [if_neg c63] at H
          exact absurd H (by simp)
         rw [if_pos c63] at H
         have c63b0 : decide (x12_4 < (t327.length : Int)) = true:=decide_eq_true c63
         clear c63
         by_cases c64 : (wrap64 ((rd t327 t334) + t339)) = (rd t327 x12_4)
         rotate_left
         ·rw [if_neg c64] at H
          have c64b0 : ((wrap64 ((rd t327 t334) + t339)) == (rd t327 x12_4)) = false:=beq_eq_false_iff_ne.mpr c64
          have c64b1 : ((wrap64 ((rd t327 t334) + t339)) != (rd t327 x12_4)) = true:=bne_iff_ne.mpr c64
          have H':=am_ H
          clear H
          have p332 : 0 ≤ (x58_4 : Int):=of_decide_eq_true (by (with_reducible assumption))
          have q332 : x58_4 < ((rd_L4 t320 x12_3).length : Int):=of_decide_eq_true (by (with_reducible assumption))
          obtain ⟨ad332,e332,hx332_0,hx332_1⟩:=at_T79 HR331_0.out x58_4 p332 q332
          cases e332
          replace p332:=eq_true p332
          replace q332:=eq_true q332
          try go_wp2_with (first|((with_reducible refine gate_dst (N:=14) rfl ?_);refine box_event ?hg (N:=14) ?hd (cs:=#[.int .i64 0,.bool false]) (t:=79) ?hr ?_;(case hd=>rfl);(case hg=>rfl);(case hr=>(go_simp;done));intro gb333 hg w76 hbox hb;have NA_:=am_ (seen_new (d:=k79) (by decide) (Nat.le_of_eq hg.symm) (by exact HR331_0.out));have n0_:=am_ (Kd.S_below (Kd.S_elderB HO_7.out gb333 (Nat.le_of_eq hg.symm)) hb);have n1_:=am_ (Kd.S_below (Kd.S_elderB HO_8.out gb333 (Nat.le_of_eq hg.symm)) hb);have n2_:=am_ (Kd.R_below HO_9.out hb);have n3_:=am_ (Kd.R_below HO_10.out hb);have n4_:=am_ (Kd.R_below (Kd.R_elderB HO_11.out gb333 (Nat.le_of_eq hg.symm)) hb);have n5_:=am_ (blk_below BK315.out hb);have n6_:=am_ (Kd.C_below (by exact HR331_0.out) hb);have n7_:=am_ (below_step HB.out hb);have n8_:=am_ (hbox);have n9_:=am_ ((by rw [hg];exact (below_size HB.out) : w.heap.size ≤ gb333));have n10_:=n9_;have n11_:=am_ ((by rw [hg];exact Nat.ne_of_lt (blk_lt (g:=gb315) (o:=.cells #[.int .i64 a0_0,.slice A0_1 l0_1.length c0_1] 30 (0,0)) BK315.out) : gb315 ≠ gb333));have n12_:=am_ ((by rw [hg];exact Nat.ne_of_gt (blk_lt (g:=gb315) (o:=.cells #[.int .i64 a0_0,.slice A0_1 l0_1.length c0_1] 30 (0,0)) BK315.out) : gb333 ≠ gb315));clear HO_7 HO_8 HO_9 HO_10 HO_11 BK315 HR331_0 HB;have HO_7:=n0_;have HO_8:=n1_;have HO_9:=n2_;have HO_10:=n3_;have HO_11:=n4_;have BK315:=n5_;have HR331_0:=n6_;have HB:=n7_;have BK333:=n8_;have GW333:=n9_;have GE333:=n10_;have NB315_333:=n11_;have NB333_315:=n12_;clear n0_ n1_ n2_ n3_ n4_ n5_ n6_ n7_ n8_ n9_ n10_ n11_ n12_ hb hbox hg;have hnb77:=NB333_315.out;have hnc77:=NB315_333.out;have hcz78_0 : w76.cell? ⟨gb333,0,none⟩ = some (.int .i64 0):=(blk_cell BK333.out 0).trans rfl;have hcz78_1 : w76.cell? ⟨gb333,1,none⟩ = some (.bool false):=(blk_cell BK333.out 1).trans rfl;have hfz78_0:=blk_frozen BK333.out 0;have hfz78_1:=blk_frozen BK333.out 1;have hcz79_0 : w76.cell? ⟨gb315,0,none⟩ = some (.int .i64 a0_0):=(blk_cell BK315.out 0).trans rfl;have hcz79_1 : w76.cell? ⟨gb315,1,none⟩ = some (.slice A0_1 l0_1.length c0_1):=(blk_cell BK315.out 1).trans rfl;have hfz79_0:=blk_frozen BK315.out 0;have hfz79_1:=blk_frozen BK315.out 1)|((with_reducible refine gate_callee (f:=55) rfl ?_);refine goesL_ (some 65) rfl rfl Try.func55 (by kernel_rfl) rfl #[.agg #[.int .i64 ((rd_T79 (rd_L4 t320 x12_3) x58_4).f0),.bool ((rd_T79 (rd_L4 t320 x12_3) x58_4).f1)],.agg #[.int .i64 a0_0,.slice A0_1 l0_1.length c0_1]] rfl (by (try simp only [List.map_toArray,List.map_cons,List.map_nil]);rfl) ?_;(with_reducible refine (impl_step_ends.calls ((rd_T79 (rd_L4 t320 x12_3) x58_4).f0) ((rd_T79 (rd_L4 t320 x12_3) x58_4).f1) a0_0 _ _ l0_1 t334 t335 _ ?side1 ?side2 A55.out).mono ?_);(case side1=>exact Kd.C_below HR0_1.out (by repeat ((with_reducible first|exact HB.out|refine below_set ?_ GE333.out))));(case side2=>exact HC0_1.out);rintro e w80 ⟨rfl,hb⟩;refine ⟨_,rfl,?_⟩;have n0_:=am_ (Kd.S_below (by exact (Kd.S_mono (Kd.S_far (p:=⟨gb333,1,none⟩) (Kd.S_far (p:=⟨gb333,0,none⟩) (Kd.S_mono HO_7.out (fun k_ hk=>(⟨hk,hk.2⟩ : _ ∧ k_ ≠ gb333))) (fun _ hk=>hk.2) (.int .i64 ((rd_T79 (rd_L4 t320 x12_3) x58_4).f0))) (fun _ hk=>hk.2) (.bool ((rd_T79 (rd_L4 t320 x12_3) x58_4).f1))) (fun _ h_=>h_.1))) hb);have n1_:=am_ (Kd.S_below (by exact (Kd.S_mono (Kd.S_far (p:=⟨gb333,1,none⟩) (Kd.S_far (p:=⟨gb333,0,none⟩) (Kd.S_mono HO_8.out (fun k_ hk=>(⟨hk,hk.2⟩ : _ ∧ k_ ≠ gb333))) (fun _ hk=>hk.2) (.int .i64 ((rd_T79 (rd_L4 t320 x12_3) x58_4).f0))) (fun _ hk=>hk.2) (.bool ((rd_T79 (rd_L4 t320 x12_3) x58_4).f1))) (fun _ h_=>h_.1))) hb);have n2_:=am_ (Kd.R_below (by exact (Kd.R_mono (Kd.R_far (p:=⟨gb333,1,none⟩) (Kd.R_far (p:=⟨gb333,0,none⟩) (Kd.R_types HO_9.out BK333.out (by decide)) (fun _ hk=>hk.2) (.int .i64 ((rd_T79 (rd_L4 t320 x12_3) x58_4).f0))) (fun _ hk=>hk.2) (.bool ((rd_T79 (rd_L4 t320 x12_3) x58_4).f1))) (fun _ h_=>h_.1))) hb);have n3_:=am_ (Kd.R_below (by exact (Kd.R_mono (Kd.R_far (p:=⟨gb333,1,none⟩) (Kd.R_far (p:=⟨gb333,0,none⟩) (Kd.R_types HO_10.out BK333.out (by decide)) (fun _ hk=>hk.2) (.int .i64 ((rd_T79 (rd_L4 t320 x12_3) x58_4).f0))) (fun _ hk=>hk.2) (.bool ((rd_T79 (rd_L4 t320 x12_3) x58_4).f1))) (fun _ h_=>h_.1))) hb);have n4_:=am_ (Kd.R_below (by exact (Kd.R_mono (Kd.R_far (p:=⟨gb333,1,none⟩) (Kd.R_far (p:=⟨gb333,0,none⟩) (Kd.R_mono HO_11.out (fun k_ hk=>(⟨hk,hk.2⟩ : _ ∧ k_ ≠ gb333))) (fun _ hk=>hk.2) (.int .i64 ((rd_T79 (rd_L4 t320 x12_3) x58_4).f0))) (fun _ hk=>hk.2) (.bool ((rd_T79 (rd_L4 t320 x12_3) x58_4).f1))) (fun _ h_=>h_.1))) hb);have n5_:=am_ (blk_below (g:=gb315) (o:=.cells #[.int .i64 a0_0,.slice A0_1 l0_1.length c0_1] 30 (0,0)) (by refine blk_far ?_ NB315_333.out _;refine blk_far ?_ NB315_333.out _;exact BK315.out) hb);have n6_:=am_ (Kd.C_below (seen_far (seen_far HR331_0.out NA_.out _) NA_.out _) hb);have n7_:=am_ (blk_below (g:=gb333) (o:=.cells #[.int .i64 ((rd_T79 (rd_L4 t320 x12_3) x58_4).f0),.bool ((rd_T79 (rd_L4 t320 x12_3) x58_4).f1)] 79 (0,0)) (by refine blk_put (cs:=#[.int .i64 ((rd_T79 (rd_L4 t320 x12_3) x58_4).f0),.bool false]) ?_ 1 _ rfl;refine blk_put (cs:=#[.int .i64 0,.bool false]) ?_ 0 _ rfl;exact BK333.out) hb);have n8_:=am_ (below_step (by repeat ((with_reducible first|exact HB.out|refine below_set ?_ GE333.out))) hb);clear HO_7 HO_8 HO_9 HO_10 HO_11 BK315 HR331_0 BK333 HB;have HO_7:=n0_;have HO_8:=n1_;have HO_9:=n2_;have HO_10:=n3_;have HO_11:=n4_;have BK315:=n5_;have HR331_0:=n6_;have BK333:=n7_;have HB:=n8_;clear n0_ n1_ n2_ n3_ n4_ n5_ n6_ n7_ n8_;(try clear hb)))
          have n0_:=am_ (Kd.S_drew HO_7.out)
          have n1_:=am_ (Kd.S_drew HO_8.out)
          have n2_:=am_ (Kd.R_drew HO_9.out)
          have n3_:=am_ (Kd.R_drew HO_10.out)
          have n4_:=am_ (Kd.R_drew HO_11.out)
          have n5_:=am_ (blk_drew BK315.out)
          have n6_:=am_ (blk_drew BK333.out)
          have n7_:=am_ (Kd.C_drew HR331_0.out)
          have n8_:=am_ (below_drew1 HB.out)
          clear HO_7
          clear HO_8
          clear HO_9
          clear HO_10
          clear HO_11
          clear BK315
          clear BK333
          clear HR331_0
          clear HB
          have HO_7:=n0_
          have HO_8:=n1_
          have HO_9:=n2_
          have HO_10:=n3_
          have HO_11:=n4_
          have BK315:=n5_
          have BK333:=n6_
          have HR331_0:=n7_
          have HB:=n8_
          clear n0_ n1_ n2_ n3_ n4_ n5_ n6_ n7_ n8_
          have p337 : 0 ≤ (t334 : Int):=of_decide_eq_true (by (with_reducible assumption))
          have q337 : t334 < (t327.length : Int):=of_decide_eq_true (by (with_reducible assumption))
          obtain ⟨ad337,e337,hx337_0⟩:=Kd.at_int (Kd.R_reads' HO_10.out).2.2 t334 p337 q337
          obtain rfl : ad330 = ad337:=(by injection e337)
          replace p337:=eq_true p337
          replace q337:=eq_true q337
          have p338 : 0 ≤ (t334 : Int):=of_decide_eq_true (by (with_reducible assumption))
          have q338 : t334 < (t327.length : Int):=of_decide_eq_true (by (with_reducible assumption))
          obtain ⟨ad338,e338,hx338_0⟩:=Kd.at_int (Kd.R_reads' HO_10.out).2.2 t334 p338 q338
          obtain rfl : ad330 = ad338:=(by injection e338)
          replace p338:=eq_true p338
          replace q338:=eq_true q338
          have p340 : 0 ≤ (x12_4 : Int):=of_decide_eq_true (by (with_reducible assumption))
          have q340 : x12_4 < (t327.length : Int):=of_decide_eq_true (by (with_reducible assumption))
          obtain ⟨ad340,e340,hx340_0⟩:=Kd.at_int (Kd.R_reads' HO_10.out).2.2 x12_4 p340 q340
          obtain rfl : ad330 = ad340:=(by injection e340)
          replace p340:=eq_true p340
          replace q340:=eq_true q340
          refine start_ (n:=27) (S:=fun w'=>w'.cell? ⟨gb333,0,none⟩ = some (.int .i64 ((rd_T79 (rd_L4 t320 x12_3) x58_4).f0)) ∧ w'.cell? ⟨gb333,1,none⟩ = some (.bool ((rd_T79 (rd_L4 t320 x12_3) x58_4).f1)) ∧ w'.cell? ⟨gb315,0,none⟩ = some (.int .i64 a0_0) ∧ w'.cell? ⟨gb315,1,none⟩ = some (.slice A0_1 l0_1.length c0_1) ∧ w'.cell? (ad330.add (t334).toNat) = some (.int .i64 (rd t327 t334)) ∧ w'.cell? (ad330.add (t334).toNat) = some (.int .i64 (rd t327 t334)) ∧ w'.cell? (ad330.add (x12_4).toNat) = some (.int .i64 (rd t327 x12_4))) (ds:=[]) fl9_0_ (by kernel_rfl) rfl rfl ⟨(blk_cell BK333.out 0).trans rfl,(blk_cell BK333.out 1).trans rfl,(blk_cell BK315.out 0).trans rfl,(blk_cell BK315.out 1).trans rfl,hx337_0,hx338_0,hx340_0⟩ (fun hHeld=>?_);refine with_tabW impl_Cheapest.tab17 impl_Cheapest.bits17 (fun HT_ HW_=>?_)
          generalize w80.drew = w81 at HO_7 HO_8 HO_9 HO_10 HO_11 BK315 BK333 HR331_0 HB hx337_0 hx338_0 hx340_0 hHeld ⊢
          refine pure_ (i:=2) (N:=some 70) (v:=?_) (a':=?_) fl9_1_ rfl rfl (any_of HT_.out (by kernel_rfl)) (fun _ _ _ h=>h) (Or.inl ⟨by rfl,?_⟩) ?_ ?_
          rotate_left
          ·intro w'
           go_simp
           with_reducible rfl
          rotate_left
          ·simp only [Act.put,List.setIfInBounds_toArray,List.set_cons_zero,List.set_cons_succ,i64_w,i32_w]
           rfl
          refine take_ (i:=0) (N:=some 68) (v:=?_) (a':=?_) fl9_2_ rfl rfl (take_ofW HT_.out HW_.out (by kernel_rfl)) (fun _ _ _ h=>h) (Or.inl ⟨by rfl,?_⟩) hHeld ?_ ?_
          rotate_left
          ·rintro w' ⟨s0,s1,s2,s3,s4,s5,s6⟩
           go_simp
           with_reducible rfl
          rotate_left
          ·simp only [Act.put,List.setIfInBounds_toArray,List.set_cons_zero,List.set_cons_succ,i64_w,i32_w]
           rfl
          refine take_ (i:=1) (N:=some 69) (v:=?_) (a':=?_) fl9_3_ rfl rfl (take_ofW HT_.out HW_.out (by kernel_rfl)) (fun _ _ _ h=>h) (Or.inl ⟨by rfl,?_⟩) hHeld ?_ ?_
          rotate_left
          ·rintro w' ⟨s0,s1,s2,s3,s4,s5,s6⟩
           go_simp
           with_reducible rfl
          rotate_left
          ·simp only [Act.put,List.setIfInBounds_toArray,List.set_cons_zero,List.set_cons_succ,i64_w,i32_w]
           rfl
          refine one_ (i:=3) (N:=some 71) fl9_4_ rfl rfl (one_of HT_.out (by kernel_rfl)) (by decide) (fun K hK=>?_)
          refine goes_ Try.func56 (by kernel_rfl) rfl #[.agg #[.int .i64 ((rd_T79 (rd_L4 t320 x12_3) x58_4).f0),.bool ((rd_T79 (rd_L4 t320 x12_3) x58_4).f1)],.agg #[.int .i64 a0_0,.slice A0_1 l0_1.length c0_1],.slice Ao34 x9_2.length co34] (by rfl) rfl rfl (by (try simp only [List.map_toArray,List.map_cons,List.map_nil]);rfl) ?_
          with_reducible refine (impl_step_room.calls ((rd_T79 (rd_L4 t320 x12_3) x58_4).f0) ((rd_T79 (rd_L4 t320 x12_3) x58_4).f1) a0_0 _ _ l0_1 _ _ x9_2 t336 _ ?side1 ?side2 ?side3 ?side4 A56.out).mono ?_
          (case side1=>exact (Kd.C_below HR0_1.out HB.out))
          (case side2=>exact HC0_1.out)
          (case side3=>repeat (exact (Kd.R_reads' HO_9.out).2.2))
          (case side4=>exact (Kd.R_reads' HO_9.out).2.1)
          rintro e w82 ⟨rfl,hb⟩
          have HS4_:=(hb.cell (World.block_lt_of_cell? _ _ (hHeld.2.2.2.2.1))).trans (hHeld.2.2.2.2.1)
          have HS5_:=(hb.cell (World.block_lt_of_cell? _ _ (hHeld.2.2.2.2.2.1))).trans (hHeld.2.2.2.2.2.1)
          have HS6_:=(hb.cell (World.block_lt_of_cell? _ _ (hHeld.2.2.2.2.2.2))).trans (hHeld.2.2.2.2.2.2)
          refine ⟨_,rfl,?_⟩
          have n0_:=am_ (Kd.S_below HO_7.out hb)
          have n1_:=am_ (Kd.S_below HO_8.out hb)
          have n2_:=am_ (Kd.R_below HO_9.out hb)
          have n3_:=am_ (Kd.R_below HO_10.out hb)
          have n4_:=am_ (Kd.R_below HO_11.out hb)
          have n5_:=am_ (blk_below BK315.out hb)
          have n6_:=am_ (Kd.C_below (by exact HR331_0.out) hb)
          have n7_:=am_ (blk_below (g:=gb333) (o:=.cells #[.int .i64 ((rd_T79 (rd_L4 t320 x12_3) x58_4).f0),.bool ((rd_T79 (rd_L4 t320 x12_3) x58_4).f1)] 79 (0,0)) BK333.out hb)
          have n8_:=am_ (below_step HB.out hb)
          clear HO_7
          clear HO_8
          clear HO_9
          clear HO_10
          clear HO_11
          clear BK315
          clear HR331_0
          clear BK333
          clear HB
          have HO_7:=n0_
          have HO_8:=n1_
          have HO_9:=n2_
          have HO_10:=n3_
          have HO_11:=n4_
          have BK315:=n5_
          have HR331_0:=n6_
          have BK333:=n7_
          have HB:=n8_
          clear n0_ n1_ n2_ n3_ n4_ n5_ n6_ n7_ n8_
          (try clear hb)
          (skip)
          (skip)
          (skip)
          refine hK.out _ _ ⟨(blk_cell BK333.out 0).trans rfl,(blk_cell BK333.out 1).trans rfl,(blk_cell BK315.out 0).trans rfl,(blk_cell BK315.out 1).trans rfl,HS4_,HS5_,HS6_⟩ (fun hHeld=>?_)
          clear hK K
          refine norm_ (a':=?_) ?_ ?_
          rotate_left
          ·show Act.put _ (some 71) _ = _
           simp only [Act.put,List.setIfInBounds_toArray,List.set_cons_zero,List.set_cons_succ,i64_w,i32_w]
           rfl
          refine pure_ (i:=4) (N:=some 72) (v:=?_) (a':=?_) fl9_5_ rfl rfl (any_of HT_.out (by kernel_rfl)) (fun _ _ _ h=>h) (Or.inl ⟨by rfl,?_⟩) ?_ ?_
          rotate_left
          ·intro w'
           go_simp
           with_reducible rfl
          rotate_left
          ·simp only [Act.put,List.setIfInBounds_toArray,List.set_cons_zero,List.set_cons_succ,i64_w,i32_w]
           rfl
          refine pure_ (i:=5) (N:=some 73) (v:=?_) (a':=?_) fl9_6_ rfl rfl (any_of HT_.out (by kernel_rfl)) (fun _ _ _ h=>h) (Or.inl ⟨by rfl,?_⟩) ?_ ?_
          rotate_left
          ·intro w'
           go_simp
           with_reducible rfl
          rotate_left
          ·simp only [Act.put,List.setIfInBounds_toArray,List.set_cons_zero,List.set_cons_succ,i64_w,i32_w]
           rfl
          refine pure_ (i:=6) (N:=some 74) (v:=?_) (a':=?_) fl9_7_ rfl rfl (any_of HT_.out (by kernel_rfl)) (fun _ _ _ h=>h) (Or.inl ⟨by rfl,?_⟩) ?_ ?_
          rotate_left
          ·intro w'
           go_simp
           with_reducible rfl
          rotate_left
          ·simp only [Act.put,List.setIfInBounds_toArray,List.set_cons_zero,List.set_cons_succ,i64_w,i32_w]
           rfl
          refine pure_ (i:=7) (N:=some 75) (v:=?_) (a':=?_) fl9_8_ rfl rfl (any_of HT_.out (by kernel_rfl)) (fun _ _ _ h=>h) (Or.inl ⟨by rfl,?_⟩) ?_ ?_
          rotate_left
          ·intro w'
           go_simp
           with_reducible rfl
          rotate_left
          ·simp only [Act.put,List.setIfInBounds_toArray,List.set_cons_zero,List.set_cons_succ,i64_w,i32_w]
           rfl
          refine pure_ (i:=8) (N:=some 76) (v:=?_) (a':=?_) fl9_9_ rfl rfl (any_of HT_.out (by kernel_rfl)) (fun _ _ _ h=>h) (Or.inl ⟨by rfl,?_⟩) ?_ ?_
          rotate_left
          ·intro w'
           go_simp
           with_reducible rfl
          rotate_left
          ·simp only [Act.put,List.setIfInBounds_toArray,List.set_cons_zero,List.set_cons_succ,i64_w,i32_w]
           rfl
          refine take_ (i:=9) (N:=some 77) (v:=?_) (a':=?_) fl9_10_ rfl rfl (take_ofW HT_.out HW_.out (by kernel_rfl)) (fun _ _ _ h=>h) (Or.inl ⟨by rfl,?_⟩) hHeld ?_ ?_
          rotate_left
          ·rintro w' ⟨s0,s1,s2,s3,s4,s5,s6⟩
           go_simp
           with_reducible rfl
          rotate_left
          ·simp only [Act.put,List.setIfInBounds_toArray,List.set_cons_zero,List.set_cons_succ,i64_w,i32_w]
           rfl
          refine pure_ (i:=10) (N:=some 78) (v:=?_) (a':=?_) fl9_11_ rfl rfl (any_of HT_.out (by kernel_rfl)) (fun _ _ _ h=>h) (Or.inl ⟨by rfl,?_⟩) ?_ ?_
          rotate_left
          ·intro w'
           go_simp
           with_reducible rfl
          rotate_left
          ·simp only [Act.put,List.setIfInBounds_toArray,List.set_cons_zero,List.set_cons_succ,i64_w,i32_w]
           rfl
          refine pure_ (i:=11) (N:=some 79) (v:=?_) (a':=?_) fl9_12_ rfl rfl (any_of HT_.out (by kernel_rfl)) (fun _ _ _ h=>h) (Or.inl ⟨by rfl,?_⟩) ?_ ?_
          rotate_left
          ·intro w'
           go_simp
           with_reducible rfl
          rotate_left
          ·simp only [Act.put,List.setIfInBounds_toArray,List.set_cons_zero,List.set_cons_succ,i64_w,i32_w]
           rfl
          refine pure_ (i:=12) (N:=some 80) (v:=?_) (a':=?_) fl9_13_ rfl rfl (any_of HT_.out (by kernel_rfl)) (fun _ _ _ h=>h) (Or.inl ⟨by rfl,?_⟩) ?_ ?_
          rotate_left
          ·intro w'
           go_simp
           with_reducible rfl
          rotate_left
          ·simp only [Act.put,List.setIfInBounds_toArray,List.set_cons_zero,List.set_cons_succ,i64_w,i32_w]
           rfl
          refine pure_ (i:=13) (N:=some 81) (v:=?_) (a':=?_) fl9_14_ rfl rfl (any_of HT_.out (by kernel_rfl)) (fun _ _ _ h=>h) (Or.inl ⟨by rfl,?_⟩) ?_ ?_
          rotate_left
          ·intro w'
           go_simp
           with_reducible rfl
          rotate_left
          ·simp only [Act.put,List.setIfInBounds_toArray,List.set_cons_zero,List.set_cons_succ,i64_w,i32_w]
           rfl
          refine pure_ (i:=14) (N:=some 82) (v:=?_) (a':=?_) fl9_15_ rfl rfl (any_of HT_.out (by kernel_rfl)) (fun _ _ _ h=>h) (Or.inl ⟨by rfl,?_⟩) ?_ ?_
          rotate_left
          ·intro w'
           go_simp
           with_reducible rfl
          rotate_left
          ·simp only [Act.put,List.setIfInBounds_toArray,List.set_cons_zero,List.set_cons_succ,i64_w,i32_w]
           rfl
          refine pure_ (i:=15) (N:=some 83) (v:=?_) (a':=?_) fl9_16_ rfl rfl (any_of HT_.out (by kernel_rfl)) (fun _ _ _ h=>h) (Or.inl ⟨by rfl,?_⟩) ?_ ?_
          rotate_left
          ·intro w'
           go_simp
           with_reducible rfl
          rotate_left
          ·simp only [Act.put,List.setIfInBounds_toArray,List.set_cons_zero,List.set_cons_succ,i64_w,i32_w]
           rfl
          refine pure_ (i:=21) (N:=some 89) (v:=?_) (a':=?_) fl9_28_ rfl rfl (any_of HT_.out (by kernel_rfl)) (fun _ _ _ h=>h) (Or.inl ⟨by rfl,?_⟩) ?_ ?_
          rotate_left
          ·intro w'
           go_simp
           with_reducible rfl
          rotate_left
          ·simp only [Act.put,List.setIfInBounds_toArray,List.set_cons_zero,List.set_cons_succ,i64_w,i32_w]
           rfl
          refine pure_ (i:=22) (N:=some 90) (v:=?_) (a':=?_) fl9_29_ rfl rfl (any_of HT_.out (by kernel_rfl)) (fun _ _ _ h=>h) (Or.inl ⟨by rfl,?_⟩) ?_ ?_
          rotate_left
          ·intro w'
           go_simp
           with_reducible rfl
          rotate_left
          ·simp only [Act.put,List.setIfInBounds_toArray,List.set_cons_zero,List.set_cons_succ,i64_w,i32_w]
           rfl
          refine pure_ (i:=23) (N:=some 91) (v:=?_) (a':=?_) fl9_30_ rfl rfl (any_of HT_.out (by kernel_rfl)) (fun _ _ _ h=>h) (Or.inl ⟨by rfl,?_⟩) ?_ ?_
          rotate_left
          ·intro w'
           go_simp
           with_reducible rfl
          rotate_left
          ·simp only [Act.put,List.setIfInBounds_toArray,List.set_cons_zero,List.set_cons_succ,i64_w,i32_w]
           rfl
          refine take_ (i:=16) (N:=some 84) (v:=?_) (a':=?_) fl9_31_ rfl rfl (take_ofW HT_.out HW_.out (by kernel_rfl)) (fun _ _ _ h=>h) (Or.inl ⟨by rfl,?_⟩) hHeld ?_ ?_
          rotate_left
          ·rintro w' ⟨s0,s1,s2,s3,s4,s5,s6⟩
           go_simp
           with_reducible rfl
          rotate_left
          ·simp only [Act.put,List.setIfInBounds_toArray,List.set_cons_zero,List.set_cons_succ,i64_w,i32_w]
           rfl
          refine take_ (i:=17) (N:=some 85) (v:=?_) (a':=?_) fl9_32_ rfl rfl (take_ofW HT_.out HW_.out (by kernel_rfl)) (fun _ _ _ h=>h) (Or.inl ⟨by rfl,?_⟩) hHeld ?_ ?_
          rotate_left
          ·rintro w' ⟨s0,s1,s2,s3,s4,s5,s6⟩
           go_simp
           with_reducible rfl
          rotate_left
          ·simp only [Act.put,List.setIfInBounds_toArray,List.set_cons_zero,List.set_cons_succ,i64_w,i32_w]
           rfl
          refine take_ (i:=18) (N:=some 86) (v:=?_) (a':=?_) fl9_33_ rfl rfl (take_ofW HT_.out HW_.out (by kernel_rfl)) (fun _ _ _ h=>h) (Or.inl ⟨by rfl,?_⟩) hHeld ?_ ?_
          rotate_left
          ·rintro w' ⟨s0,s1,s2,s3,s4,s5,s6⟩
           go_simp
           with_reducible rfl
          rotate_left
          ·simp only [Act.put,List.setIfInBounds_toArray,List.set_cons_zero,List.set_cons_succ,i64_w,i32_w]
           rfl
          refine take_ (i:=24) (N:=some 92) (v:=?_) (a':=?_) fl9_34_ rfl rfl (take_ofW HT_.out HW_.out (by kernel_rfl)) (fun _ _ _ h=>h) (Or.inl ⟨by rfl,?_⟩) hHeld ?_ ?_
          rotate_left
          ·rintro w' ⟨s0,s1,s2,s3,s4,s5,s6⟩
           go_simp
           with_reducible rfl
          rotate_left
          ·simp only [Act.put,List.setIfInBounds_toArray,List.set_cons_zero,List.set_cons_succ,i64_w,i32_w]
           rfl
          refine one_ (i:=19) (N:=some 87) fl9_35_ rfl rfl (one_of HT_.out (by kernel_rfl)) (by decide) (fun K hK=>?_)
          refine goes_ Try.func67 (by kernel_rfl) rfl #[.agg #[.int .i64 ((rd_T79 (rd_L4 t320 x12_3) x58_4).f0),.bool ((rd_T79 (rd_L4 t320 x12_3) x58_4).f1)],.agg #[.int .i64 a0_0,.slice A0_1 l0_1.length c0_1]] (by rfl) rfl rfl (by (try simp only [List.map_toArray,List.map_cons,List.map_nil]);rfl) ?_
          with_reducible refine (impl_step_length.calls ((rd_T79 (rd_L4 t320 x12_3) x58_4).f0) ((rd_T79 (rd_L4 t320 x12_3) x58_4).f1) a0_0 _ _ l0_1 t339 _ ?side1 ?side2 A61.out).mono ?_
          (case side1=>exact (Kd.C_below HR0_1.out HB.out))
          (case side2=>exact HC0_1.out)
          rintro e w83 ⟨rfl,hb⟩
          have HS4_:=(hb.cell (World.block_lt_of_cell? _ _ (hHeld.2.2.2.2.1))).trans (hHeld.2.2.2.2.1)
          have HS5_:=(hb.cell (World.block_lt_of_cell? _ _ (hHeld.2.2.2.2.2.1))).trans (hHeld.2.2.2.2.2.1)
          have HS6_:=(hb.cell (World.block_lt_of_cell? _ _ (hHeld.2.2.2.2.2.2))).trans (hHeld.2.2.2.2.2.2)
          refine ⟨_,rfl,?_⟩
          have n0_:=am_ (Kd.S_below HO_7.out hb)
          have n1_:=am_ (Kd.S_below HO_8.out hb)
          have n2_:=am_ (Kd.R_below HO_9.out hb)
          have n3_:=am_ (Kd.R_below HO_10.out hb)
          have n4_:=am_ (Kd.R_below HO_11.out hb)
          have n5_:=am_ (blk_below BK315.out hb)
          have n6_:=am_ (Kd.C_below (by exact HR331_0.out) hb)
          have n7_:=am_ (blk_below (g:=gb333) (o:=.cells #[.int .i64 ((rd_T79 (rd_L4 t320 x12_3) x58_4).f0),.bool ((rd_T79 (rd_L4 t320 x12_3) x58_4).f1)] 79 (0,0)) BK333.out hb)
          have n8_:=am_ (below_step HB.out hb)
          clear HO_7
          clear HO_8
          clear HO_9
          clear HO_10
          clear HO_11
          clear BK315
          clear HR331_0
          clear BK333
          clear HB
          have HO_7:=n0_
          have HO_8:=n1_
          have HO_9:=n2_
          have HO_10:=n3_
          have HO_11:=n4_
          have BK315:=n5_
          have HR331_0:=n6_
          have BK333:=n7_
          have HB:=n8_
          clear n0_ n1_ n2_ n3_ n4_ n5_ n6_ n7_ n8_
          (try clear hb)
          (skip)
          (skip)
          (skip)
          refine hK.out _ _ ⟨(blk_cell BK333.out 0).trans rfl,(blk_cell BK333.out 1).trans rfl,(blk_cell BK315.out 0).trans rfl,(blk_cell BK315.out 1).trans rfl,HS4_,HS5_,HS6_⟩ (fun hHeld=>?_)
          clear hK K
          refine norm_ (a':=?_) ?_ ?_
          rotate_left
          ·show Act.put _ (some 87) _ = _
           simp only [Act.put,List.setIfInBounds_toArray,List.set_cons_zero,List.set_cons_succ,i64_w,i32_w]
           rfl
          refine pure_ (i:=20) (N:=some 88) (v:=?_) (a':=?_) fl9_25_ rfl rfl (any_of HT_.out (by kernel_rfl)) (fun _ _ _ h=>h) (Or.inl ⟨by rfl,?_⟩) ?_ ?_
          rotate_left
          ·intro w'
           go_simp
           with_reducible rfl
          rotate_left
          ·simp only [Act.put,List.setIfInBounds_toArray,List.set_cons_zero,List.set_cons_succ,i64_w,i32_w]
           rfl
          refine pure_ (i:=25) (N:=some 93) (v:=?_) (a':=?_) fl9_26_ rfl rfl (any_of HT_.out (by kernel_rfl)) (fun _ _ _ h=>h) (Or.inl ⟨by rfl,?_⟩) ?_ ?_
          rotate_left
          ·intro w'
           go_simp
           with_reducible rfl
          rotate_left
          ·simp only [Act.put,List.setIfInBounds_toArray,List.set_cons_zero,List.set_cons_succ,i64_w,i32_w]
           rfl
          refine pure_ (i:=26) (N:=some 94) (v:=?_) (a':=?_) fl9_27_ rfl rfl (any_of HT_.out (by kernel_rfl)) (fun _ _ _ h=>h) (Or.inl ⟨by rfl,?_⟩) ?_ ?_
          rotate_left
          ·intro w'
           go_simp
           with_reducible rfl
          rotate_left
          ·simp only [Act.put,List.setIfInBounds_toArray,List.set_cons_zero,List.set_cons_succ,i64_w,i32_w]
           rfl
          refine done_ (done_of HT_.out (by kernel_rfl)) ?_
          try go_wp2
          go_roundg k4
          case measure=>have:=HJ2.out;have:=HK2.out;have:=HK3.out;have:=HK4.out;omega
          case rel=>exact ⟨(x11_4),(x12_4),(wrap64 (x58_4 + 1)),(by rfl),(by rfl),H',⟨by have:=HJ2.out;have:=HK2.out;have:=HK3.out;have:=HK4.out;omega⟩,⟨by exact Kd.S_mono HO_7.out (fun _ hk=>⟨hk.1.1,hk.1.2⟩)⟩,⟨by exact Kd.S_mono HO_8.out (fun _ hk=>⟨hk.1.1,hk.1.2⟩)⟩,⟨by exact HO_9.out⟩,⟨by exact HO_10.out⟩,⟨by exact Kd.R_mono HO_11.out (fun _ hk=>trivial)⟩,⟨by exact BK315.out⟩,⟨by exact HR331_0.out⟩,⟨by exact HB.out⟩⟩
         rw [if_pos c64] at H
         have c64b0 : ((wrap64 ((rd t327 t334) + t339)) == (rd t327 x12_4)) = true:=beq_iff_eq.mpr c64
         have c64b1 : ((wrap64 ((rd t327 t334) + t339)) != (rd t327 x12_4)) = false:=bne_eq_false_iff_eq.mpr c64
         clear c64
         by_cases c65 : x11_4.length < 8796093022208
         rotate_left
         ·rw [if_neg c65] at H
          exact absurd H (by simp)
         rw [if_pos c65] at H
         have LMc65:=am_ c65
         clear c65
         obtain ⟨y341,hy341⟩ : ∃ y_ : List (S79),y_ = (x11_4 ++ [(⟨(rd_T79 (rd_L4 t320 x12_3) x58_4).f0,(rd_T79 (rd_L4 t320 x12_3) x58_4).f1⟩ : S79)]):=⟨_,rfl⟩
         replace H : (impl_Cheapest.l1 k4 x1_2 t317 t320 x9_2 t327 y341 t334 a0_0 l0_1) = some (r1,r2,r3):=by (rw [hy341];with_reducible exact H)
         have Ny341:=am_ hy341
         clear hy341
         have H':=am_ H
         clear H
         have p332 : 0 ≤ (x58_4 : Int):=of_decide_eq_true (by (with_reducible assumption))
         have q332 : x58_4 < ((rd_L4 t320 x12_3).length : Int):=of_decide_eq_true (by (with_reducible assumption))
         obtain ⟨ad332,e332,hx332_0,hx332_1⟩:=at_T79 HR331_0.out x58_4 p332 q332
         cases e332
         replace p332:=eq_true p332
         replace q332:=eq_true q332
         try go_wp2_with (first|((with_reducible refine gate_dst (N:=14) rfl ?_);refine box_event ?hg (N:=14) ?hd (cs:=#[.int .i64 0,.bool false]) (t:=79) ?hr ?_;(case hd=>rfl);(case hg=>rfl);(case hr=>(go_simp;done));intro gb333 hg w66 hbox hb;have NA_:=am_ (seen_new (d:=k79) (by decide) (Nat.le_of_eq hg.symm) (by exact HR331_0.out));have n0_:=am_ (Kd.S_below (Kd.S_elderB HO_7.out gb333 (Nat.le_of_eq hg.symm)) hb);have n1_:=am_ (Kd.S_below (Kd.S_elderB HO_8.out gb333 (Nat.le_of_eq hg.symm)) hb);have n2_:=am_ (Kd.R_below HO_9.out hb);have n3_:=am_ (Kd.R_below HO_10.out hb);have n4_:=am_ (Kd.R_below (Kd.R_elderB HO_11.out gb333 (Nat.le_of_eq hg.symm)) hb);have n5_:=am_ (blk_below BK315.out hb);have n6_:=am_ (Kd.C_below (by exact HR331_0.out) hb);have n7_:=am_ (below_step HB.out hb);have n8_:=am_ (hbox);have n9_:=am_ ((by rw [hg];exact (below_size HB.out) : w.heap.size ≤ gb333));have n10_:=n9_;have n11_:=am_ ((by rw [hg];exact Nat.ne_of_lt (blk_lt (g:=gb315) (o:=.cells #[.int .i64 a0_0,.slice A0_1 l0_1.length c0_1] 30 (0,0)) BK315.out) : gb315 ≠ gb333));have n12_:=am_ ((by rw [hg];exact Nat.ne_of_gt (blk_lt (g:=gb315) (o:=.cells #[.int .i64 a0_0,.slice A0_1 l0_1.length c0_1] 30 (0,0)) BK315.out) : gb333 ≠ gb315));clear HO_7 HO_8 HO_9 HO_10 HO_11 BK315 HR331_0 HB;have HO_7:=n0_;have HO_8:=n1_;have HO_9:=n2_;have HO_10:=n3_;have HO_11:=n4_;have BK315:=n5_;have HR331_0:=n6_;have HB:=n7_;have BK333:=n8_;have GW333:=n9_;have GE333:=n10_;have NB315_333:=n11_;have NB333_315:=n12_;clear n0_ n1_ n2_ n3_ n4_ n5_ n6_ n7_ n8_ n9_ n10_ n11_ n12_ hb hbox hg;have hnb67:=NB333_315.out;have hnc67:=NB315_333.out;have hcz68_0 : w66.cell? ⟨gb333,0,none⟩ = some (.int .i64 0):=(blk_cell BK333.out 0).trans rfl;have hcz68_1 : w66.cell? ⟨gb333,1,none⟩ = some (.bool false):=(blk_cell BK333.out 1).trans rfl;have hfz68_0:=blk_frozen BK333.out 0;have hfz68_1:=blk_frozen BK333.out 1;have hcz69_0 : w66.cell? ⟨gb315,0,none⟩ = some (.int .i64 a0_0):=(blk_cell BK315.out 0).trans rfl;have hcz69_1 : w66.cell? ⟨gb315,1,none⟩ = some (.slice A0_1 l0_1.length c0_1):=(blk_cell BK315.out 1).trans rfl;have hfz69_0:=blk_frozen BK315.out 0;have hfz69_1:=blk_frozen BK315.out 1)|((with_reducible refine gate_callee (f:=55) rfl ?_);refine goesL_ (some 65) rfl rfl Try.func55 (by kernel_rfl) rfl #[.agg #[.int .i64 ((rd_T79 (rd_L4 t320 x12_3) x58_4).f0),.bool ((rd_T79 (rd_L4 t320 x12_3) x58_4).f1)],.agg #[.int .i64 a0_0,.slice A0_1 l0_1.length c0_1]] rfl (by (try simp only [List.map_toArray,List.map_cons,List.map_nil]);rfl) ?_;(with_reducible refine (impl_step_ends.calls ((rd_T79 (rd_L4 t320 x12_3) x58_4).f0) ((rd_T79 (rd_L4 t320 x12_3) x58_4).f1) a0_0 _ _ l0_1 t334 t335 _ ?side1 ?side2 A55.out).mono ?_);(case side1=>exact Kd.C_below HR0_1.out (by repeat ((with_reducible first|exact HB.out|refine below_set ?_ GE333.out))));(case side2=>exact HC0_1.out);rintro e w70 ⟨rfl,hb⟩;refine ⟨_,rfl,?_⟩;have n0_:=am_ (Kd.S_below (by exact (Kd.S_mono (Kd.S_far (p:=⟨gb333,1,none⟩) (Kd.S_far (p:=⟨gb333,0,none⟩) (Kd.S_mono HO_7.out (fun k_ hk=>(⟨hk,hk.2⟩ : _ ∧ k_ ≠ gb333))) (fun _ hk=>hk.2) (.int .i64 ((rd_T79 (rd_L4 t320 x12_3) x58_4).f0))) (fun _ hk=>hk.2) (.bool ((rd_T79 (rd_L4 t320 x12_3) x58_4).f1))) (fun _ h_=>h_.1))) hb);have n1_:=am_ (Kd.S_below (by exact (Kd.S_mono (Kd.S_far (p:=⟨gb333,1,none⟩) (Kd.S_far (p:=⟨gb333,0,none⟩) (Kd.S_mono HO_8.out (fun k_ hk=>(⟨hk,hk.2⟩ : _ ∧ k_ ≠ gb333))) (fun _ hk=>hk.2) (.int .i64 ((rd_T79 (rd_L4 t320 x12_3) x58_4).f0))) (fun _ hk=>hk.2) (.bool ((rd_T79 (rd_L4 t320 x12_3) x58_4).f1))) (fun _ h_=>h_.1))) hb);have n2_:=am_ (Kd.R_below (by exact (Kd.R_mono (Kd.R_far (p:=⟨gb333,1,none⟩) (Kd.R_far (p:=⟨gb333,0,none⟩) (Kd.R_types HO_9.out BK333.out (by decide)) (fun _ hk=>hk.2) (.int .i64 ((rd_T79 (rd_L4 t320 x12_3) x58_4).f0))) (fun _ hk=>hk.2) (.bool ((rd_T79 (rd_L4 t320 x12_3) x58_4).f1))) (fun _ h_=>h_.1))) hb);have n3_:=am_ (Kd.R_below (by exact (Kd.R_mono (Kd.R_far (p:=⟨gb333,1,none⟩) (Kd.R_far (p:=⟨gb333,0,none⟩) (Kd.R_types HO_10.out BK333.out (by decide)) (fun _ hk=>hk.2) (.int .i64 ((rd_T79 (rd_L4 t320 x12_3) x58_4).f0))) (fun _ hk=>hk.2) (.bool ((rd_T79 (rd_L4 t320 x12_3) x58_4).f1))) (fun _ h_=>h_.1))) hb);have n4_:=am_ (Kd.R_below (by exact (Kd.R_mono (Kd.R_far (p:=⟨gb333,1,none⟩) (Kd.R_far (p:=⟨gb333,0,none⟩) (Kd.R_mono HO_11.out (fun k_ hk=>(⟨hk,hk.2⟩ : _ ∧ k_ ≠ gb333))) (fun _ hk=>hk.2) (.int .i64 ((rd_T79 (rd_L4 t320 x12_3) x58_4).f0))) (fun _ hk=>hk.2) (.bool ((rd_T79 (rd_L4 t320 x12_3) x58_4).f1))) (fun _ h_=>h_.1))) hb);have n5_:=am_ (blk_below (g:=gb315) (o:=.cells #[.int .i64 a0_0,.slice A0_1 l0_1.length c0_1] 30 (0,0)) (by refine blk_far ?_ NB315_333.out _;refine blk_far ?_ NB315_333.out _;exact BK315.out) hb);have n6_:=am_ (Kd.C_below (seen_far (seen_far HR331_0.out NA_.out _) NA_.out _) hb);have n7_:=am_ (blk_below (g:=gb333) (o:=.cells #[.int .i64 ((rd_T79 (rd_L4 t320 x12_3) x58_4).f0),.bool ((rd_T79 (rd_L4 t320 x12_3) x58_4).f1)] 79 (0,0)) (by refine blk_put (cs:=#[.int .i64 ((rd_T79 (rd_L4 t320 x12_3) x58_4).f0),.bool false]) ?_ 1 _ rfl;refine blk_put (cs:=#[.int .i64 0,.bool false]) ?_ 0 _ rfl;exact BK333.out) hb);have n8_:=am_ (below_step (by repeat ((with_reducible first|exact HB.out|refine below_set ?_ GE333.out))) hb);clear HO_7 HO_8 HO_9 HO_10 HO_11 BK315 HR331_0 BK333 HB;have HO_7:=n0_;have HO_8:=n1_;have HO_9:=n2_;have HO_10:=n3_;have HO_11:=n4_;have BK315:=n5_;have HR331_0:=n6_;have BK333:=n7_;have HB:=n8_;clear n0_ n1_ n2_ n3_ n4_ n5_ n6_ n7_ n8_;(try clear hb)))
         have n0_:=am_ (Kd.S_drew HO_7.out)
         have n1_:=am_ (Kd.S_drew HO_8.out)
         have n2_:=am_ (Kd.R_drew HO_9.out)
         have n3_:=am_ (Kd.R_drew HO_10.out)
         have n4_:=am_ (Kd.R_drew HO_11.out)
         have n5_:=am_ (blk_drew BK315.out)
         have n6_:=am_ (blk_drew BK333.out)
         have n7_:=am_ (Kd.C_drew HR331_0.out)
         have n8_:=am_ (below_drew1 HB.out)
         clear HO_7
         clear HO_8
         clear HO_9
         clear HO_10
         clear HO_11
         clear BK315
         clear BK333
         clear HR331_0
         clear HB
         have HO_7:=n0_
         have HO_8:=n1_
         have HO_9:=n2_
         have HO_10:=n3_
         have HO_11:=n4_
         have BK315:=n5_
         have BK333:=n6_
         have HR331_0:=n7_
         have HB:=n8_
         clear n0_ n1_ n2_ n3_ n4_ n5_ n6_ n7_ n8_
         have p337 : 0 ≤ (t334 : Int):=of_decide_eq_true (by (with_reducible assumption))
         have q337 : t334 < (t327.length : Int):=of_decide_eq_true (by (with_reducible assumption))
         obtain ⟨ad337,e337,hx337_0⟩:=Kd.at_int (Kd.R_reads' HO_10.out).2.2 t334 p337 q337
         obtain rfl : ad330 = ad337:=(by injection e337)
         replace p337:=eq_true p337
         replace q337:=eq_true q337
         have p338 : 0 ≤ (t334 : Int):=of_decide_eq_true (by (with_reducible assumption))
         have q338 : t334 < (t327.length : Int):=of_decide_eq_true (by (with_reducible assumption))
         obtain ⟨ad338,e338,hx338_0⟩:=Kd.at_int (Kd.R_reads' HO_10.out).2.2 t334 p338 q338
         obtain rfl : ad330 = ad338:=(by injection e338)
         replace p338:=eq_true p338
         replace q338:=eq_true q338
         have p340 : 0 ≤ (x12_4 : Int):=of_decide_eq_true (by (with_reducible assumption))
         have q340 : x12_4 < (t327.length : Int):=of_decide_eq_true (by (with_reducible assumption))
         obtain ⟨ad340,e340,hx340_0⟩:=Kd.at_int (Kd.R_reads' HO_10.out).2.2 x12_4 p340 q340
         obtain rfl : ad330 = ad340:=(by injection e340)
         replace p340:=eq_true p340
         replace q340:=eq_true q340
         refine start_ (n:=27) (S:=fun w'=>w'.cell? ⟨gb333,0,none⟩ = some (.int .i64 ((rd_T79 (rd_L4 t320 x12_3) x58_4).f0)) ∧ w'.cell? ⟨gb333,1,none⟩ = some (.bool ((rd_T79 (rd_L4 t320 x12_3) x58_4).f1)) ∧ w'.cell? ⟨gb315,0,none⟩ = some (.int .i64 a0_0) ∧ w'.cell? ⟨gb315,1,none⟩ = some (.slice A0_1 l0_1.length c0_1) ∧ w'.cell? (ad330.add (t334).toNat) = some (.int .i64 (rd t327 t334)) ∧ w'.cell? (ad330.add (t334).toNat) = some (.int .i64 (rd t327 t334)) ∧ w'.cell? (ad330.add (x12_4).toNat) = some (.int .i64 (rd t327 x12_4))) (ds:=[]) fl9_0_ (by kernel_rfl) rfl rfl ⟨(blk_cell BK333.out 0).trans rfl,(blk_cell BK333.out 1).trans rfl,(blk_cell BK315.out 0).trans rfl,(blk_cell BK315.out 1).trans rfl,hx337_0,hx338_0,hx340_0⟩ (fun hHeld=>?_);refine with_tabW impl_Cheapest.tab17 impl_Cheapest.bits17 (fun HT_ HW_=>?_)
         generalize w70.drew = w71 at HO_7 HO_8 HO_9 HO_10 HO_11 BK315 BK333 HR331_0 HB hx337_0 hx338_0 hx340_0 hHeld ⊢
         refine pure_ (i:=2) (N:=some 70) (v:=?_) (a':=?_) fl9_1_ rfl rfl (any_of HT_.out (by kernel_rfl)) (fun _ _ _ h=>h) (Or.inl ⟨by rfl,?_⟩) ?_ ?_
         rotate_left
         ·intro w'
          go_simp
          with_reducible rfl
         rotate_left
         ·simp only [Act.put,List.setIfInBounds_toArray,List.set_cons_zero,List.set_cons_succ,i64_w,i32_w]
          rfl
         refine take_ (i:=0) (N:=some 68) (v:=?_) (a':=?_) fl9_2_ rfl rfl (take_ofW HT_.out HW_.out (by kernel_rfl)) (fun _ _ _ h=>h) (Or.inl ⟨by rfl,?_⟩) hHeld ?_ ?_
         rotate_left
         ·rintro w' ⟨s0,s1,s2,s3,s4,s5,s6⟩
          go_simp
          with_reducible rfl
         rotate_left
         ·simp only [Act.put,List.setIfInBounds_toArray,List.set_cons_zero,List.set_cons_succ,i64_w,i32_w]
          rfl
         refine take_ (i:=1) (N:=some 69) (v:=?_) (a':=?_) fl9_3_ rfl rfl (take_ofW HT_.out HW_.out (by kernel_rfl)) (fun _ _ _ h=>h) (Or.inl ⟨by rfl,?_⟩) hHeld ?_ ?_
         rotate_left
         ·rintro w' ⟨s0,s1,s2,s3,s4,s5,s6⟩
          go_simp
          with_reducible rfl
         rotate_left
         ·simp only [Act.put,List.setIfInBounds_toArray,List.set_cons_zero,List.set_cons_succ,i64_w,i32_w]
          rfl
         refine one_ (i:=3) (N:=some 71) fl9_4_ rfl rfl (one_of HT_.out (by kernel_rfl)) (by decide) (fun K hK=>?_)
         refine goes_ Try.func56 (by kernel_rfl) rfl #[.agg #[.int .i64 ((rd_T79 (rd_L4 t320 x12_3) x58_4).f0),.bool ((rd_T79 (rd_L4 t320 x12_3) x58_4).f1)],.agg #[.int .i64 a0_0,.slice A0_1 l0_1.length c0_1],.slice Ao34 x9_2.length co34] (by rfl) rfl rfl (by (try simp only [List.map_toArray,List.map_cons,List.map_nil]);rfl) ?_
         with_reducible refine (impl_step_room.calls ((rd_T79 (rd_L4 t320 x12_3) x58_4).f0) ((rd_T79 (rd_L4 t320 x12_3) x58_4).f1) a0_0 _ _ l0_1 _ _ x9_2 t336 _ ?side1 ?side2 ?side3 ?side4 A56.out).mono ?_
         (case side1=>exact (Kd.C_below HR0_1.out HB.out))
         (case side2=>exact HC0_1.out)
         (case side3=>repeat (exact (Kd.R_reads' HO_9.out).2.2))
         (case side4=>exact (Kd.R_reads' HO_9.out).2.1)
         rintro e w72 ⟨rfl,hb⟩
         have HS4_:=(hb.cell (World.block_lt_of_cell? _ _ (hHeld.2.2.2.2.1))).trans (hHeld.2.2.2.2.1)
         have HS5_:=(hb.cell (World.block_lt_of_cell? _ _ (hHeld.2.2.2.2.2.1))).trans (hHeld.2.2.2.2.2.1)
         have HS6_:=(hb.cell (World.block_lt_of_cell? _ _ (hHeld.2.2.2.2.2.2))).trans (hHeld.2.2.2.2.2.2)
         refine ⟨_,rfl,?_⟩
         have n0_:=am_ (Kd.S_below HO_7.out hb)
         have n1_:=am_ (Kd.S_below HO_8.out hb)
         have n2_:=am_ (Kd.R_below HO_9.out hb)
         have n3_:=am_ (Kd.R_below HO_10.out hb)
         have n4_:=am_ (Kd.R_below HO_11.out hb)
         have n5_:=am_ (blk_below BK315.out hb)
         have n6_:=am_ (Kd.C_below (by exact HR331_0.out) hb)
         have n7_:=am_ (blk_below (g:=gb333) (o:=.cells #[.int .i64 ((rd_T79 (rd_L4 t320 x12_3) x58_4).f0),.bool ((rd_T79 (rd_L4 t320 x12_3) x58_4).f1)] 79 (0,0)) BK333.out hb)
         have n8_:=am_ (below_step HB.out hb)
         clear HO_7
         clear HO_8
         clear HO_9
         clear HO_10
         clear HO_11
         clear BK315
         clear HR331_0
         clear BK333
         clear HB
         have HO_7:=n0_
         have HO_8:=n1_
         have HO_9:=n2_
         have HO_10:=n3_
         have HO_11:=n4_
         have BK315:=n5_
         have HR331_0:=n6_
         have BK333:=n7_
         have HB:=n8_
         clear n0_ n1_ n2_ n3_ n4_ n5_ n6_ n7_ n8_
         (try clear hb)
         (skip)
         (skip)
         (skip)
         refine hK.out _ _ ⟨(blk_cell BK333.out 0).trans rfl,(blk_cell BK333.out 1).trans rfl,(blk_cell BK315.out 0).trans rfl,(blk_cell BK315.out 1).trans rfl,HS4_,HS5_,HS6_⟩ (fun hHeld=>?_)
         clear hK K
         refine norm_ (a':=?_) ?_ ?_
         rotate_left
         ·show Act.put _ (some 71) _ = _
          simp only [Act.put,List.setIfInBounds_toArray,List.set_cons_zero,List.set_cons_succ,i64_w,i32_w]
          rfl
         refine pure_ (i:=4) (N:=some 72) (v:=?_) (a':=?_) fl9_5_ rfl rfl (any_of HT_.out (by kernel_rfl)) (fun _ _ _ h=>h) (Or.inl ⟨by rfl,?_⟩) ?_ ?_
         rotate_left
         ·intro w'
          go_simp
          with_reducible rfl
         rotate_left
         ·simp only [Act.put,List.setIfInBounds_toArray,List.set_cons_zero,List.set_cons_succ,i64_w,i32_w]
          rfl
         refine pure_ (i:=5) (N:=some 73) (v:=?_) (a':=?_) fl9_6_ rfl rfl (any_of HT_.out (by kernel_rfl)) (fun _ _ _ h=>h) (Or.inl ⟨by rfl,?_⟩) ?_ ?_
         rotate_left
         ·intro w'
          go_simp
          with_reducible rfl
         rotate_left
         ·simp only [Act.put,List.setIfInBounds_toArray,List.set_cons_zero,List.set_cons_succ,i64_w,i32_w]
          rfl
         refine pure_ (i:=6) (N:=some 74) (v:=?_) (a':=?_) fl9_7_ rfl rfl (any_of HT_.out (by kernel_rfl)) (fun _ _ _ h=>h) (Or.inl ⟨by rfl,?_⟩) ?_ ?_
         rotate_left
         ·intro w'
          go_simp
          with_reducible rfl
         rotate_left
         ·simp only [Act.put,List.setIfInBounds_toArray,List.set_cons_zero,List.set_cons_succ,i64_w,i32_w]
          rfl
         refine pure_ (i:=7) (N:=some 75) (v:=?_) (a':=?_) fl9_8_ rfl rfl (any_of HT_.out (by kernel_rfl)) (fun _ _ _ h=>h) (Or.inl ⟨by rfl,?_⟩) ?_ ?_
         rotate_left
         ·intro w'
          go_simp
          with_reducible rfl
         rotate_left
         ·simp only [Act.put,List.setIfInBounds_toArray,List.set_cons_zero,List.set_cons_succ,i64_w,i32_w]
          rfl
         refine pure_ (i:=8) (N:=some 76) (v:=?_) (a':=?_) fl9_9_ rfl rfl (any_of HT_.out (by kernel_rfl)) (fun _ _ _ h=>h) (Or.inl ⟨by rfl,?_⟩) ?_ ?_
         rotate_left
         ·intro w'
          go_simp
          with_reducible rfl
         rotate_left
         ·simp only [Act.put,List.setIfInBounds_toArray,List.set_cons_zero,List.set_cons_succ,i64_w,i32_w]
          rfl
         refine take_ (i:=9) (N:=some 77) (v:=?_) (a':=?_) fl9_10_ rfl rfl (take_ofW HT_.out HW_.out (by kernel_rfl)) (fun _ _ _ h=>h) (Or.inl ⟨by rfl,?_⟩) hHeld ?_ ?_
         rotate_left
         ·rintro w' ⟨s0,s1,s2,s3,s4,s5,s6⟩
          go_simp
          with_reducible rfl
         rotate_left
         ·simp only [Act.put,List.setIfInBounds_toArray,List.set_cons_zero,List.set_cons_succ,i64_w,i32_w]
          rfl
         refine pure_ (i:=10) (N:=some 78) (v:=?_) (a':=?_) fl9_11_ rfl rfl (any_of HT_.out (by kernel_rfl)) (fun _ _ _ h=>h) (Or.inl ⟨by rfl,?_⟩) ?_ ?_
         rotate_left
         ·intro w'
          go_simp
          with_reducible rfl
         rotate_left
         ·simp only [Act.put,List.setIfInBounds_toArray,List.set_cons_zero,List.set_cons_succ,i64_w,i32_w]
          rfl
         refine pure_ (i:=11) (N:=some 79) (v:=?_) (a':=?_) fl9_12_ rfl rfl (any_of HT_.out (by kernel_rfl)) (fun _ _ _ h=>h) (Or.inl ⟨by rfl,?_⟩) ?_ ?_
         rotate_left
         ·intro w'
          go_simp
          with_reducible rfl
         rotate_left
         ·simp only [Act.put,List.setIfInBounds_toArray,List.set_cons_zero,List.set_cons_succ,i64_w,i32_w]
          rfl
         refine pure_ (i:=12) (N:=some 80) (v:=?_) (a':=?_) fl9_13_ rfl rfl (any_of HT_.out (by kernel_rfl)) (fun _ _ _ h=>h) (Or.inl ⟨by rfl,?_⟩) ?_ ?_
         rotate_left
         ·intro w'
          go_simp
          with_reducible rfl
         rotate_left
         ·simp only [Act.put,List.setIfInBounds_toArray,List.set_cons_zero,List.set_cons_succ,i64_w,i32_w]
          rfl
         refine pure_ (i:=13) (N:=some 81) (v:=?_) (a':=?_) fl9_14_ rfl rfl (any_of HT_.out (by kernel_rfl)) (fun _ _ _ h=>h) (Or.inl ⟨by rfl,?_⟩) ?_ ?_
         rotate_left
         ·intro w'
          go_simp
          with_reducible rfl
         rotate_left
         ·simp only [Act.put,List.setIfInBounds_toArray,List.set_cons_zero,List.set_cons_succ,i64_w,i32_w]
          rfl
         refine pure_ (i:=14) (N:=some 82) (v:=?_) (a':=?_) fl9_15_ rfl rfl (any_of HT_.out (by kernel_rfl)) (fun _ _ _ h=>h) (Or.inl ⟨by rfl,?_⟩) ?_ ?_
         rotate_left
         ·intro w'
          go_simp
          with_reducible rfl
         rotate_left
         ·simp only [Act.put,List.setIfInBounds_toArray,List.set_cons_zero,List.set_cons_succ,i64_w,i32_w]
          rfl
         refine pure_ (i:=15) (N:=some 83) (v:=?_) (a':=?_) fl9_16_ rfl rfl (any_of HT_.out (by kernel_rfl)) (fun _ _ _ h=>h) (Or.inl ⟨by rfl,?_⟩) ?_ ?_
         rotate_left
         ·intro w'
          go_simp
          with_reducible rfl
         rotate_left
         ·simp only [Act.put,List.setIfInBounds_toArray,List.set_cons_zero,List.set_cons_succ,i64_w,i32_w]
          rfl
         refine pure_ (i:=21) (N:=some 89) (v:=?_) (a':=?_) fl9_28_ rfl rfl (any_of HT_.out (by kernel_rfl)) (fun _ _ _ h=>h) (Or.inl ⟨by rfl,?_⟩) ?_ ?_
         rotate_left
         ·intro w'
          go_simp
          with_reducible rfl
         rotate_left
         ·simp only [Act.put,List.setIfInBounds_toArray,List.set_cons_zero,List.set_cons_succ,i64_w,i32_w]
          rfl
         refine pure_ (i:=22) (N:=some 90) (v:=?_) (a':=?_) fl9_29_ rfl rfl (any_of HT_.out (by kernel_rfl)) (fun _ _ _ h=>h) (Or.inl ⟨by rfl,?_⟩) ?_ ?_
         rotate_left
         ·intro w'
          go_simp
          with_reducible rfl
         rotate_left
         ·simp only [Act.put,List.setIfInBounds_toArray,List.set_cons_zero,List.set_cons_succ,i64_w,i32_w]
          rfl
         refine pure_ (i:=23) (N:=some 91) (v:=?_) (a':=?_) fl9_30_ rfl rfl (any_of HT_.out (by kernel_rfl)) (fun _ _ _ h=>h) (Or.inl ⟨by rfl,?_⟩) ?_ ?_
         rotate_left
         ·intro w'
          go_simp
          with_reducible rfl
         rotate_left
         ·simp only [Act.put,List.setIfInBounds_toArray,List.set_cons_zero,List.set_cons_succ,i64_w,i32_w]
          rfl
         refine take_ (i:=16) (N:=some 84) (v:=?_) (a':=?_) fl9_31_ rfl rfl (take_ofW HT_.out HW_.out (by kernel_rfl)) (fun _ _ _ h=>h) (Or.inl ⟨by rfl,?_⟩) hHeld ?_ ?_
         rotate_left
         ·rintro w' ⟨s0,s1,s2,s3,s4,s5,s6⟩
          go_simp
          with_reducible rfl
         rotate_left
         ·simp only [Act.put,List.setIfInBounds_toArray,List.set_cons_zero,List.set_cons_succ,i64_w,i32_w]
          rfl
         refine take_ (i:=17) (N:=some 85) (v:=?_) (a':=?_) fl9_32_ rfl rfl (take_ofW HT_.out HW_.out (by kernel_rfl)) (fun _ _ _ h=>h) (Or.inl ⟨by rfl,?_⟩) hHeld ?_ ?_
         rotate_left
         ·rintro w' ⟨s0,s1,s2,s3,s4,s5,s6⟩
          go_simp
          with_reducible rfl
         rotate_left
         ·simp only [Act.put,List.setIfInBounds_toArray,List.set_cons_zero,List.set_cons_succ,i64_w,i32_w]
          rfl
         refine take_ (i:=18) (N:=some 86) (v:=?_) (a':=?_) fl9_33_ rfl rfl (take_ofW HT_.out HW_.out (by kernel_rfl)) (fun _ _ _ h=>h) (Or.inl ⟨by rfl,?_⟩) hHeld ?_ ?_
         rotate_left
         ·rintro w' ⟨s0,s1,s2,s3,s4,s5,s6⟩
          go_simp
          with_reducible rfl
         rotate_left
         ·simp only [Act.put,List.setIfInBounds_toArray,List.set_cons_zero,List.set_cons_succ,i64_w,i32_w]
          rfl
         refine take_ (i:=24) (N:=some 92) (v:=?_) (a':=?_) fl9_34_ rfl rfl (take_ofW HT_.out HW_.out (by kernel_rfl)) (fun _ _ _ h=>h) (Or.inl ⟨by rfl,?_⟩) hHeld ?_ ?_
         rotate_left
         ·rintro w' ⟨s0,s1,s2,s3,s4,s5,s6⟩
          go_simp
          with_reducible rfl
         rotate_left
         ·simp only [Act.put,List.setIfInBounds_toArray,List.set_cons_zero,List.set_cons_succ,i64_w,i32_w]
          rfl
         refine one_ (i:=19) (N:=some 87) fl9_35_ rfl rfl (one_of HT_.out (by kernel_rfl)) (by decide) (fun K hK=>?_)
         refine goes_ Try.func67 (by kernel_rfl) rfl #[.agg #[.int .i64 ((rd_T79 (rd_L4 t320 x12_3) x58_4).f0),.bool ((rd_T79 (rd_L4 t320 x12_3) x58_4).f1)],.agg #[.int .i64 a0_0,.slice A0_1 l0_1.length c0_1]] (by rfl) rfl rfl (by (try simp only [List.map_toArray,List.map_cons,List.map_nil]);rfl) ?_
         with_reducible refine (impl_step_length.calls ((rd_T79 (rd_L4 t320 x12_3) x58_4).f0) ((rd_T79 (rd_L4 t320 x12_3) x58_4).f1) a0_0 _ _ l0_1 t339 _ ?side1 ?side2 A61.out).mono ?_
         (case side1=>exact (Kd.C_below HR0_1.out HB.out))
         (case side2=>exact HC0_1.out)
         rintro e w73 ⟨rfl,hb⟩
         have HS4_:=(hb.cell (World.block_lt_of_cell? _ _ (hHeld.2.2.2.2.1))).trans (hHeld.2.2.2.2.1)
         have HS5_:=(hb.cell (World.block_lt_of_cell? _ _ (hHeld.2.2.2.2.2.1))).trans (hHeld.2.2.2.2.2.1)
         have HS6_:=(hb.cell (World.block_lt_of_cell? _ _ (hHeld.2.2.2.2.2.2))).trans (hHeld.2.2.2.2.2.2)
         refine ⟨_,rfl,?_⟩
         have n0_:=am_ (Kd.S_below HO_7.out hb)
         have n1_:=am_ (Kd.S_below HO_8.out hb)
         have n2_:=am_ (Kd.R_below HO_9.out hb)
         have n3_:=am_ (Kd.R_below HO_10.out hb)
         have n4_:=am_ (Kd.R_below HO_11.out hb)
         have n5_:=am_ (blk_below BK315.out hb)
         have n6_:=am_ (Kd.C_below (by exact HR331_0.out) hb)
         have n7_:=am_ (blk_below (g:=gb333) (o:=.cells #[.int .i64 ((rd_T79 (rd_L4 t320 x12_3) x58_4).f0),.bool ((rd_T79 (rd_L4 t320 x12_3) x58_4).f1)] 79 (0,0)) BK333.out hb)
         have n8_:=am_ (below_step HB.out hb)
         clear HO_7
         clear HO_8
         clear HO_9
         clear HO_10
         clear HO_11
         clear BK315
         clear HR331_0
         clear BK333
         clear HB
         have HO_7:=n0_
         have HO_8:=n1_
         have HO_9:=n2_
         have HO_10:=n3_
         have HO_11:=n4_
         have BK315:=n5_
         have HR331_0:=n6_
         have BK333:=n7_
         have HB:=n8_
         clear n0_ n1_ n2_ n3_ n4_ n5_ n6_ n7_ n8_
         (try clear hb)
         (skip)
         (skip)
         (skip)
         refine hK.out _ _ ⟨(blk_cell BK333.out 0).trans rfl,(blk_cell BK333.out 1).trans rfl,(blk_cell BK315.out 0).trans rfl,(blk_cell BK315.out 1).trans rfl,HS4_,HS5_,HS6_⟩ (fun hHeld=>?_)
         clear hK K
         refine norm_ (a':=?_) ?_ ?_
         rotate_left
         ·show Act.put _ (some 87) _ = _
          simp only [Act.put,List.setIfInBounds_toArray,List.set_cons_zero,List.set_cons_succ,i64_w,i32_w]
          rfl
         refine pure_ (i:=20) (N:=some 88) (v:=?_) (a':=?_) fl9_25_ rfl rfl (any_of HT_.out (by kernel_rfl)) (fun _ _ _ h=>h) (Or.inl ⟨by rfl,?_⟩) ?_ ?_
         rotate_left
         ·intro w'
          go_simp
          with_reducible rfl
         rotate_left
         ·simp only [Act.put,List.setIfInBounds_toArray,List.set_cons_zero,List.set_cons_succ,i64_w,i32_w]
          rfl
         refine pure_ (i:=25) (N:=some 93) (v:=?_) (a':=?_) fl9_26_ rfl rfl (any_of HT_.out (by kernel_rfl)) (fun _ _ _ h=>h) (Or.inl ⟨by rfl,?_⟩) ?_ ?_
         rotate_left
         ·intro w'
          go_simp
          with_reducible rfl
         rotate_left
         ·simp only [Act.put,List.setIfInBounds_toArray,List.set_cons_zero,List.set_cons_succ,i64_w,i32_w]
          rfl
         refine pure_ (i:=26) (N:=some 94) (v:=?_) (a':=?_) fl9_27_ rfl rfl (any_of HT_.out (by kernel_rfl)) (fun _ _ _ h=>h) (Or.inl ⟨by rfl,?_⟩) ?_ ?_
         rotate_left
         ·intro w'
          go_simp
          with_reducible rfl
         rotate_left
         ·simp only [Act.put,List.setIfInBounds_toArray,List.set_cons_zero,List.set_cons_succ,i64_w,i32_w]
          rfl
         refine done_ (done_of HT_.out (by kernel_rfl)) ?_
         have hcz74_0 : w73.cell? ⟨gb333,0,none⟩ = some (.int .i64 ((rd_T79 (rd_L4 t320 x12_3) x58_4).f0)):=(blk_cell BK333.out 0).trans rfl
         have hcz74_1 : w73.cell? ⟨gb333,1,none⟩ = some (.bool ((rd_T79 (rd_L4 t320 x12_3) x58_4).f1)):=(blk_cell BK333.out 1).trans rfl
         have hfz74_0:=blk_frozen BK333.out 0
         have hfz74_1:=blk_frozen BK333.out 1
         try go_wp2_with (((with_reducible refine gate_builtin (b:=.append) (xs:=#[.tmp 95,.tmp 97]) rfl ?_);at_builtin;refine Kd.R_append k79 (w0:=w) w.heap.size rfl (.tmp 95) (.tmp 97) 71 79 (.agg #[(.int .i64 0),(.bool false)]) 16 rfl Try.underlying71 info79 rfl (by decide) (by omega) u11 x11_4 (⟨(rd_T79 (rd_L4 t320 x12_3) x58_4).f0,(rd_T79 (rd_L4 t320 x12_3) x58_4).f1⟩ : S79) [.int .i64 ((rd_T79 (rd_L4 t320 x12_3) x58_4).f0),.bool ((rd_T79 (rd_L4 t320 x12_3) x58_4).f1)] (fun k_=>k_ ≠ gb333) (fun _=>False) rfl rfl ?aP (fun _ hk=>hk.elim) ?aF ?aO ?aB ?aS ?aL ?_;(case aP=>exact k79_mkM _ _ _ (⟨(rd_T79 (rd_L4 t320 x12_3) x58_4).f0,(rd_T79 (rd_L4 t320 x12_3) x58_4).f1⟩ : S79));(case aB=>exact HB.out);(case aF=>exact (fun k_ hk=>Kd.freshB (g:=gb333) (o:=.cells #[.int .i64 ((rd_T79 (rd_L4 t320 x12_3) x58_4).f0),.bool ((rd_T79 (rd_L4 t320 x12_3) x58_4).f1)] 79 (0,0)) BK333.out k_ hk));(case aO=>exact (by exact Kd.R_mono HO_11.out (fun _ hk=>hk.2)));(case aS=>exact (below_size HB.out));(case aL=>have:=LMc65.out;omega);intro v342 w75 ho hb hg hat;rw [← Ny341.out] at ho;have n0_:=am_ (Kd.S_after (ok:=(fun k_=>some k_ ≠ (.slice (some ad331) t320.length co51 : Value).ownBlock ∧ k_ ≠ gb333)) (by exact Kd.S_mono HO_7.out (fun _ hk=>⟨⟨hk.1.1,hk.2⟩,hk.1.2⟩)) hg hat);have n1_:=am_ (Kd.S_after (ok:=(fun k_=>some k_ ≠ (.slice Ao33 t317.length co33 : Value).ownBlock ∧ k_ ≠ gb333)) (by exact Kd.S_mono HO_8.out (fun _ hk=>⟨⟨hk.1.1,hk.2⟩,hk.1.2⟩)) hg hat);have n2_:=am_ (Kd.R_over' HO_9.out (Kd.R_typed HO_11.out) (by decide) hg);have n3_:=am_ (Kd.R_over' HO_10.out (Kd.R_typed HO_11.out) (by decide) hg);have n4_:=am_ (blk_grown (g:=gb315) (o:=.cells #[.int .i64 a0_0,.slice A0_1 l0_1.length c0_1] 30 (0,0)) BK315.out hg (Kd.R_ne HO_11.out BK315.out (by decide)));have n5_:=am_ (blk_grown (g:=gb333) (o:=.cells #[.int .i64 ((rd_T79 (rd_L4 t320 x12_3) x58_4).f0),.bool ((rd_T79 (rd_L4 t320 x12_3) x58_4).f1)] 79 (0,0)) BK333.out hg (Kd.R_away HO_11.out (fun _ hk=>hk.2)));have n6_:=am_ (hb);have n7_:=am_ (ho);clear HO_7 HO_8 HO_9 HO_10 BK315 BK333 HB HO_11;have HO_7:=n0_;have HO_8:=n1_;have HO_9:=n2_;have HO_10:=n3_;have BK315:=n4_;have BK333:=n5_;have HB:=n6_;have HO343:=n7_;clear n0_ n1_ n2_ n3_ n4_ n5_ n6_ n7_ ho hb hg hat))
         go_roundg k4
         case measure=>have:=HJ2.out;have:=HK2.out;have:=HK3.out;have:=HK4.out;omega
         case rel=>exact ⟨(y341),(t334),(by rfl),H',⟨by have:=HJ2.out;have:=HK2.out;have:=HK3.out;have:=HK4.out;omega⟩,⟨by exact Kd.S_mono HO_7.out (fun _ hk=>⟨hk.1.1,hk.2⟩)⟩,⟨by exact Kd.S_mono HO_8.out (fun _ hk=>⟨hk.1.1,hk.2⟩)⟩,⟨by exact HO_9.out⟩,⟨by exact HO_10.out⟩,⟨by exact Kd.R_mono HO343.out (fun _ hk=>trivial)⟩,⟨by exact BK315.out⟩,⟨by exact HB.out⟩⟩

end Go.Proofs.Ytgkpgigoonhgdaa.PFnCheapest
