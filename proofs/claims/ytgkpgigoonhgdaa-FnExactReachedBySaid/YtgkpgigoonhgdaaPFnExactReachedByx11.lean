-- Made by the session's wip/pp.py, a changed call of the kit's printer; Lean checks it.
import Derived.Test.YtgkpgigoonhgdaaPFnExactReachedByx0
import Derived.Test.YtgkpgigoonhgdaaPFnExactReachedByx9
import Derived.Test.YtgkpgigoonhgdaaPFnExactReachedByx10
namespace Go.Proofs.Ytgkpgigoonhgdaa.PFnExactReachedBy
open Go.RowKit Go.Proofs.YtgkpgigoonhgdaaW.PrintWords Go.Proofs.YtgkpgigoonhgdaaW.PrintLast Go.Proofs.YtgkpgigoonhgdaaW.PrintMore
attribute [local go_sem] max2_int min2_int max_two min_two max_three min_three max_four min_four   -- for this text's walks alone
set_option linter.unusedVariables false
set_option linter.unusedSimpArgs false

abbrev fl11_0_ : Array Bool := #[true, true, true, true, true, true, true, false]
/-! ### impl_step_room: function 56 -/
def impl_step_room.f (a0_0 : Int) (a0_1 : Bool) (a1_0 : Int) (l1_1 : List (S67)) (l2 : List Int) : Option (Int) := if a0_1 = true then (if 0 ≤ a0_0 then (if a0_0 < (l2.length : Int) then (some (rd l2 a0_0)) else (none)) else (none)) else (if 0 ≤ a0_0 then (if a0_0 < (l1_1.length : Int) then (if a0_0 < (l2.length : Int) then (some (wrap64 (((rd_T67 l1_1 a0_0).f2) - (rd l2 a0_0)))) else (none)) else (none)) else (none))
set_option maxHeartbeats 8000000 in
set_option maxRecDepth 100000 in
theorem impl_step_room.calls (a0_0 : Int) (a0_1 : Bool) (a1_0 : Int) (A1_1 : Option Addr) (c1_1 : Nat) (l1_1 : List (S67)) (A2 : Option Addr) (c2 : Nat) (l2 : List Int) (r : Int) (w : World) (hr1_1 : Kd.C k67 w A1_1 l1_1.length l1_1) (hc1_1 : l1_1.length ≤ c1_1) (hr2 : Kd.C (Kd.int .i64) w A2 l2.length l2) (hc2 : l2.length ≤ c2) (h : impl_step_room.f a0_0 a0_1 a1_0 l1_1 l2 = some r) :
  Calls Try.prog 56 #[.agg #[.int .i64 a0_0, .bool a0_1], .agg #[.int .i64 a1_0, .slice A1_1 l1_1.length c1_1], .slice A2 l2.length c2] w fun e w' => e = .returned (.int .i64 r) ∧ Below w.heap.size w w' := by
 have hu79 := Try.underlying79
 have hu30 := Try.underlying30
 have HR1_1 := Aside0.mk hr1_1
 have HC1_1 := Aside0.mk hc1_1
 clear hr1_1 hc1_1
 have HR2 := Aside0.mk hr2
 have HC2 := Aside0.mk hc2
 clear hr2 hc2
 have HB := Aside0.mk (Below.refl w.heap.size w)
 have H : (if a0_1 = true then (if 0 ≤ a0_0 then (if a0_0 < (l2.length : Int) then (some (rd l2 a0_0)) else (none)) else (none)) else (if 0 ≤ a0_0 then (if a0_0 < (l1_1.length : Int) then (if a0_0 < (l2.length : Int) then (some (wrap64 (((rd_T67 l1_1 a0_0).f2) - (rd l2 a0_0)))) else (none)) else (none)) else (none))) = some r := h
 clear h
 by_cases c4 : a0_1 = true
 ·subst c4
  have H1 : (if 0 ≤ a0_0 then (if a0_0 < (l2.length : Int) then (some (rd l2 a0_0)) else (none)) else (none)) = some r := by rw [if_pos rfl] at H; exact H
  clear H
  have H := H1
  clear H1
  by_cases c5 : 0 ≤ a0_0
  ·rw [if_pos c5] at H
   have c5b0 : decide (0 ≤ a0_0) = true := decide_eq_true c5
   clear c5
   by_cases c6 : a0_0 < (l2.length : Int)
   ·rw [if_pos c6] at H
    have c6b0 : decide (a0_0 < (l2.length : Int)) = true := decide_eq_true c6
    clear c6
    obtain rfl := Option.some.inj H
    go_enter Try.func56, Try.ntmps56
    go_wp2_with (first | ((with_reducible refine gate_dst (N := 3) rfl ?_); refine box_event ?hg (N := 3) ?hd (cs := #[.int .i64 a0_0, .bool true]) (t := 79) ?hr ?_; (case hd => rfl); (case hg => rfl); (case hr => (go_simp; done)); intro gb251 hg w7 hbox hb; have n0_ := Aside0.mk (below_step HB.out hb); have n1_ := Aside0.mk (hbox); have n2_ := Aside0.mk ((by rw [hg]; exact (below_size HB.out) : w.heap.size ≤ gb251)); have n3_ := n2_; clear HB; have HB := n0_; have BK251 := n1_; have GW251 := n2_; have GE251 := n3_; clear n0_ n1_ n2_ n3_ hb hbox hg) | ((with_reducible refine gate_dst (N := 4) rfl ?_); refine box_event ?hg (N := 4) ?hd (cs := #[.int .i64 a1_0, .slice A1_1 l1_1.length c1_1]) (t := 30) ?hr ?_; (case hd => rfl); (case hg => rfl); (case hr => (go_simp; done)); intro gb252 hg w8 hbox hb; have n0_ := Aside0.mk (blk_below BK251.out hb); have n1_ := Aside0.mk (below_step HB.out hb); have n2_ := Aside0.mk (hbox); have n3_ := Aside0.mk ((by rw [hg]; exact (below_size HB.out) : w.heap.size ≤ gb252)); have n4_ := n3_; have n5_ := Aside0.mk ((by rw [hg]; exact Nat.ne_of_lt (blk_lt (g := gb251) (o := .cells #[.int .i64 a0_0, .bool true] 79 (0, 0)) BK251.out) : gb251 ≠ gb252)); have n6_ := Aside0.mk ((by rw [hg]; exact Nat.ne_of_gt (blk_lt (g := gb251) (o := .cells #[.int .i64 a0_0, .bool true] 79 (0, 0)) BK251.out) : gb252 ≠ gb251)); clear BK251 HB; have BK251 := n0_; have HB := n1_; have BK252 := n2_; have GW252 := n3_; have GE252 := n4_; have NB251_252 := n5_; have NB252_251 := n6_; clear n0_ n1_ n2_ n3_ n4_ n5_ n6_ hb hbox hg; have hnb9 := NB251_252.out; have hnc9 := NB252_251.out; have hcz10_0 : w8.cell? ⟨gb251, 0, none⟩ = some (.int .i64 a0_0) := (blk_cell BK251.out 0).trans rfl; have hcz10_1 : w8.cell? ⟨gb251, 1, none⟩ = some (.bool true) := (blk_cell BK251.out 1).trans rfl; have hfz10_0 := blk_frozen BK251.out 0; have hfz10_1 := blk_frozen BK251.out 1; have p253 : 0 ≤ (a0_0 : Int) := of_decide_eq_true (by (with_reducible assumption)); have q253 : a0_0 < (l2.length : Int) := of_decide_eq_true (by (with_reducible assumption)); obtain ⟨ad253, e253, hx253_0⟩ := Kd.at_int HR2.out a0_0 p253 q253; cases e253; replace hx253_0 := (HB.out.cell (World.block_lt_of_cell? w _ hx253_0)).trans hx253_0; replace p253 := eq_true p253; replace q253 := eq_true q253))
    repeat (go_quiet (fail); try go_wp2_with (fail))
    go_ret
    exact ⟨by rfl, by exact HB.out⟩
   ·rw [if_neg c6] at H
    exact absurd H (by simp)
  ·rw [if_neg c5] at H
   exact absurd H (by simp)
 ·replace c4 := Bool.eq_false_iff.mpr c4
  subst c4
  have H1 : (if 0 ≤ a0_0 then (if a0_0 < (l1_1.length : Int) then (if a0_0 < (l2.length : Int) then (some (wrap64 (((rd_T67 l1_1 a0_0).f2) - (rd l2 a0_0)))) else (none)) else (none)) else (none)) = some r := by rw [if_neg (show ¬ (false = true) by decide)] at H; exact H
  clear H
  have H := H1
  clear H1
  by_cases c11 : 0 ≤ a0_0
  ·rw [if_pos c11] at H
   have c11b0 : decide (0 ≤ a0_0) = true := decide_eq_true c11
   clear c11
   by_cases c12 : a0_0 < (l1_1.length : Int)
   ·rw [if_pos c12] at H
    have c12b0 : decide (a0_0 < (l1_1.length : Int)) = true := decide_eq_true c12
    clear c12
    by_cases c13 : a0_0 < (l2.length : Int)
    ·rw [if_pos c13] at H
     have c13b0 : decide (a0_0 < (l2.length : Int)) = true := decide_eq_true c13
     clear c13
     obtain rfl := Option.some.inj H
     go_enter Try.func56, Try.ntmps56
     go_wp2_with (first | ((with_reducible refine gate_dst (N := 3) rfl ?_); refine box_event ?hg (N := 3) ?hd (cs := #[.int .i64 a0_0, .bool false]) (t := 79) ?hr ?_; (case hd => rfl); (case hg => rfl); (case hr => (go_simp; done)); intro gb251 hg w14 hbox hb; have n0_ := Aside0.mk (below_step HB.out hb); have n1_ := Aside0.mk (hbox); have n2_ := Aside0.mk ((by rw [hg]; exact (below_size HB.out) : w.heap.size ≤ gb251)); have n3_ := n2_; clear HB; have HB := n0_; have BK251 := n1_; have GW251 := n2_; have GE251 := n3_; clear n0_ n1_ n2_ n3_ hb hbox hg) | ((with_reducible refine gate_dst (N := 4) rfl ?_); refine box_event ?hg (N := 4) ?hd (cs := #[.int .i64 a1_0, .slice A1_1 l1_1.length c1_1]) (t := 30) ?hr ?_; (case hd => rfl); (case hg => rfl); (case hr => (go_simp; done)); intro gb252 hg w15 hbox hb; have n0_ := Aside0.mk (blk_below BK251.out hb); have n1_ := Aside0.mk (below_step HB.out hb); have n2_ := Aside0.mk (hbox); have n3_ := Aside0.mk ((by rw [hg]; exact (below_size HB.out) : w.heap.size ≤ gb252)); have n4_ := n3_; have n5_ := Aside0.mk ((by rw [hg]; exact Nat.ne_of_lt (blk_lt (g := gb251) (o := .cells #[.int .i64 a0_0, .bool false] 79 (0, 0)) BK251.out) : gb251 ≠ gb252)); have n6_ := Aside0.mk ((by rw [hg]; exact Nat.ne_of_gt (blk_lt (g := gb251) (o := .cells #[.int .i64 a0_0, .bool false] 79 (0, 0)) BK251.out) : gb252 ≠ gb251)); clear BK251 HB; have BK251 := n0_; have HB := n1_; have BK252 := n2_; have GW252 := n3_; have GE252 := n4_; have NB251_252 := n5_; have NB252_251 := n6_; clear n0_ n1_ n2_ n3_ n4_ n5_ n6_ hb hbox hg; have hnb16 := NB251_252.out; have hnc16 := NB252_251.out; have hcz17_0 : w15.cell? ⟨gb251, 0, none⟩ = some (.int .i64 a0_0) := (blk_cell BK251.out 0).trans rfl; have hcz17_1 : w15.cell? ⟨gb251, 1, none⟩ = some (.bool false) := (blk_cell BK251.out 1).trans rfl; have hfz17_0 := blk_frozen BK251.out 0; have hfz17_1 := blk_frozen BK251.out 1; have hcz18_0 : w15.cell? ⟨gb252, 0, none⟩ = some (.int .i64 a1_0) := (blk_cell BK252.out 0).trans rfl; have hcz18_1 : w15.cell? ⟨gb252, 1, none⟩ = some (.slice A1_1 l1_1.length c1_1) := (blk_cell BK252.out 1).trans rfl; have hfz18_0 := blk_frozen BK252.out 0; have hfz18_1 := blk_frozen BK252.out 1; have p254 : 0 ≤ (a0_0 : Int) := of_decide_eq_true (by (with_reducible assumption)); have q254 : a0_0 < (l1_1.length : Int) := of_decide_eq_true (by (with_reducible assumption)); obtain ⟨ad254, e254, hx254_0, hx254_1, hx254_2, hx254_3⟩ := at_T67 HR1_1.out a0_0 p254 q254; cases e254; replace hx254_0 := (HB.out.cell (World.block_lt_of_cell? w _ hx254_0)).trans hx254_0; replace hx254_1 := (HB.out.cell (World.block_lt_of_cell? w _ hx254_1)).trans hx254_1; replace hx254_2 := (HB.out.cell (World.block_lt_of_cell? w _ hx254_2)).trans hx254_2; replace hx254_3 := (HB.out.cell (World.block_lt_of_cell? w _ hx254_3)).trans hx254_3; replace p254 := eq_true p254; replace q254 := eq_true q254; have p255 : 0 ≤ (a0_0 : Int) := of_decide_eq_true (by (with_reducible assumption)); have q255 : a0_0 < (l2.length : Int) := of_decide_eq_true (by (with_reducible assumption)); obtain ⟨ad255, e255, hx255_0⟩ := Kd.at_int HR2.out a0_0 p255 q255; cases e255; replace hx255_0 := (HB.out.cell (World.block_lt_of_cell? w _ hx255_0)).trans hx255_0; replace p255 := eq_true p255; replace q255 := eq_true q255))
     repeat (go_quiet (fail); try go_wp2_with (fail))
     go_ret
     exact ⟨by rfl, by repeat ((with_reducible first | exact HB.out | apply pw_below_drewN))⟩
    ·rw [if_neg c13] at H
     exact absurd H (by simp)
   ·rw [if_neg c12] at H
    exact absurd H (by simp)
  ·rw [if_neg c11] at H
   exact absurd H (by simp)

/-! ### impl_reach: function 50 -/
mutual
def impl_reach.l0 : Nat → List (List (S79)) → List Int → List (S79) → List Bool → List Int → Int → Int → List (S67) → Option ((List (S79)) × List Bool)
 | 0, _, _, _, _, _, _, _, _ => none
 | k + 1, x1, x2, x8, x9, x10, x11, x257000, x257001 => if x11 < (x10.length : Int) then (if 0 ≤ x11 then (if 0 ≤ (rd x10 x11) then (if (rd x10 x11) < (x1.length : Int) then (impl_reach.l1 k x1 x2 x8 x9 x10 x11 (rd_L5 x1 (rd x10 x11)) ((rd_L5 x1 (rd x10 x11)).length : Int) 0 x257000 x257001) else (none)) else (none)) else (none)) else (some (x8, x9))
def impl_reach.l1 : Nat → List (List (S79)) → List Int → List (S79) → List Bool → List Int → Int → List (S79) → Int → Int → Int → List (S67) → Option ((List (S79)) × List Bool)
 | 0, _, _, _, _, _, _, _, _, _, _, _ => none
 | k + 1, x1, x2, x8, x9, x10, x11, x37, x38, x39, x257000, x257001 => if x39 < x38 then (if 0 ≤ x39 then (if x39 < (x37.length : Int) then ((impl_step_ends.f ((rd_T79 x37 x39).f0) ((rd_T79 x37 x39).f1) x257000 x257001).bind fun bt271 => (if 0 ≤ bt271.2 then (if bt271.2 < (x9.length : Int) then (if rdOf false x9 bt271.2 = true then (impl_reach.l1 k x1 x2 x8 x9 x10 x11 x37 x38 (wrap64 (x39 + 1)) x257000 x257001) else ((impl_step_room.f ((rd_T79 x37 x39).f0) ((rd_T79 x37 x39).f1) x257000 x257001 x2).bind fun t274 => (if t274 > 0 then (if bt271.2 < (x8.length : Int) then (if x10.length < 17592186044416 then (impl_reach.l1 k x1 x2 (x8.set (bt271.2 : Int).toNat (⟨(rd_T79 x37 x39).f0, (rd_T79 x37 x39).f1⟩ : S79)) (x9.set (bt271.2 : Int).toNat true) (x10 ++ [bt271.2]) x11 x37 x38 (wrap64 (x39 + 1)) x257000 x257001) else (none)) else (none)) else (impl_reach.l1 k x1 x2 x8 x9 x10 x11 x37 x38 (wrap64 (x39 + 1)) x257000 x257001)))) else (none)) else (none))) else (none)) else (none)) else (impl_reach.l0 k x1 x2 x8 x9 x10 (wrap64 (x11 + 1)) x257000 x257001)
end
def impl_reach.f (k : Nat) (a0_0 : Int) (l0_1 : List (S67)) (l1 : List (List (S79))) (l2 : List Int) : Option ((List (S79)) × List Bool) := if 0 ≤ a0_0 then (if (a0_0 : Int).toNat ≤ 17592186044416 then (if (a0_0 : Int).toNat ≤ 281474976710656 then ((some (List.replicate (a0_0 : Int).toNat false : List Bool)).bind fun y260 => (if 0 < (y260.length : Int) then (impl_reach.l0 k l1 l2 (List.replicate (a0_0 : Int).toNat z79) (y260.set (0 : Int).toNat true) (([0] : List Int)) 0 a0_0 l0_1) else (none))) else (none)) else (none)) else (none)
theorem impl_reach.mono_l : ∀ k, (∀ y0 y1 y2 y3 y4 y5 y6 y7, LeO (impl_reach.l0 k y0 y1 y2 y3 y4 y5 y6 y7) (impl_reach.l0 (k + 1) y0 y1 y2 y3 y4 y5 y6 y7)) ∧ (∀ y0 y1 y2 y3 y4 y5 y6 y7 y8 y9 y10, LeO (impl_reach.l1 k y0 y1 y2 y3 y4 y5 y6 y7 y8 y9 y10) (impl_reach.l1 (k + 1) y0 y1 y2 y3 y4 y5 y6 y7 y8 y9 y10))
 | 0 => ⟨fun _ _ _ _ _ _ _ _ r h => by simp [impl_reach.l0] at h, fun _ _ _ _ _ _ _ _ _ _ _ r h => by simp [impl_reach.l1] at h⟩
 | k + 1 => by
  obtain ⟨ih0, ih1⟩ := impl_reach.mono_l k
  refine ⟨?_, ?_⟩
  ·intro y0 y1 y2 y3 y4 y5 y6 y7
   unfold impl_reach.l0
   repeat' first
   | (with_reducible exact ih1 _ _ _ _ _ _ _ _ _ _ _)
   | (with_reducible exact LeO.refl _)
   | (with_reducible refine LeO.ite ?_ ?_)
  ·intro y0 y1 y2 y3 y4 y5 y6 y7 y8 y9 y10
   unfold impl_reach.l1
   repeat' first
   | (with_reducible exact ih0 _ _ _ _ _ _ _ _)
   | (with_reducible exact ih1 _ _ _ _ _ _ _ _ _ _ _)
   | (with_reducible exact LeO.refl _)
   | (with_reducible refine LeO.ite ?_ ?_)
   | (with_reducible refine LeO.bind ?_ (fun _ => ?_))
theorem impl_reach.mono : ∀ a0 a1 a2 a3 k, LeO (impl_reach.f k a0 a1 a2 a3) (impl_reach.f (k + 1) a0 a1 a2 a3) := by
 intro a0 a1 a2 a3 k
 obtain ⟨ih0, ih1⟩ := impl_reach.mono_l k
 unfold impl_reach.f
 repeat' first
   | (with_reducible exact ih0 _ _ _ _ _ _ _ _)
   | (with_reducible exact LeO.refl _)
   | (with_reducible refine LeO.ite ?_ ?_)
   | (with_reducible refine LeO.bind ?_ (fun _ => ?_))
def impl_reach.T1 : Bool × List (List Nat × List Nat) := (true, [([], []), ([0], [0]), ([1, 1], [1]), ([], []), ([3], [3]), ([4, 4], [4]), ([2, 0, 1, 2], [2]), ([5, 6, 0, 1, 2, 3, 4, 5, 6], [5])])
def impl_reach.B1 : List Nat := [0, 1, 3, 0, 8, 24, 7, 127]
theorem impl_reach.tab1 : rtab .any (opsOf Try.f50 1) = impl_reach.T1 := by kernel_rfl
theorem impl_reach.bits1 : waitsOk impl_reach.T1.2 impl_reach.B1 = true := by kernel_rfl
set_option maxHeartbeats 8000000 in
set_option maxRecDepth 100000 in
theorem impl_reach.calls (k : Nat) (a0_0 : Int) (A0_1 : Option Addr) (c0_1 : Nat) (l0_1 : List (S67)) (A1 : Option Addr) (c1 : Nat) (l1 : List (List (S79))) (A2 : Option Addr) (c2 : Nat) (l2 : List Int) (r1 : List (S79)) (r2 : List Bool) (w : World) (hr0_1 : Kd.C k67 w A0_1 l0_1.length l0_1) (hc0_1 : l0_1.length ≤ c0_1) (hr1 : Kd.C (Kd.slice 79 k79) w A1 l1.length l1) (hc1 : l1.length ≤ c1) (hr2 : Kd.C (Kd.int .i64) w A2 l2.length l2) (hc2 : l2.length ≤ c2) (h : impl_reach.f k a0_0 l0_1 l1 l2 = some (r1, r2)) :
  Calls Try.prog 50 #[.agg #[.int .i64 a0_0, .slice A0_1 l0_1.length c0_1], .slice A1 l1.length c1, .slice A2 l2.length c2] w fun e w' => ∃ v0_ v1_ : Value, e = .returned (.tuple #[v0_, v1_]) ∧ Kd.R k79 79 w' w.heap.size (fun _ => True) v0_ r1 ∧ Kd.R Kd.bool 4 w' w.heap.size (fun _ => True) v1_ r2 ∧ Below w.heap.size w w' := by
 have hu30 := Try.underlying30
 have hu79 := Try.underlying79
 have HR0_1 := Aside0.mk hr0_1
 have HC0_1 := Aside0.mk hc0_1
 clear hr0_1 hc0_1
 have HR1 := Aside0.mk hr1
 have HC1 := Aside0.mk hc1
 clear hr1 hc1
 have HR2 := Aside0.mk hr2
 have HC2 := Aside0.mk hc2
 clear hr2 hc2
 have HB := Aside0.mk (Below.refl w.heap.size w)
 have H : (if 0 ≤ a0_0 then (if (a0_0 : Int).toNat ≤ 17592186044416 then (if (a0_0 : Int).toNat ≤ 281474976710656 then ((some (List.replicate (a0_0 : Int).toNat false : List Bool)).bind fun y260 => (if 0 < (y260.length : Int) then (impl_reach.l0 k l1 l2 (List.replicate (a0_0 : Int).toNat z79) (y260.set (0 : Int).toNat true) (([0] : List Int)) 0 a0_0 l0_1) else (none))) else (none)) else (none)) else (none)) = some (r1, r2) := h
 clear h
 by_cases c4 : 0 ≤ a0_0
 ·rw [if_pos c4] at H
  have c4b0 := eq_true c4
  have c4b1 : decide (0 ≤ a0_0) = true := decide_eq_true c4
  clear c4
  by_cases c5 : (a0_0 : Int).toNat ≤ 17592186044416
  ·rw [if_pos c5] at H
   have c5b0 := eq_true c5
   have c5b1 : decide ((a0_0 : Int).toNat ≤ 17592186044416) = true := decide_eq_true c5
   clear c5
   obtain ⟨y257, hy257⟩ : ∃ y_ : List (S79), y_ = (List.replicate (a0_0 : Int).toNat z79) := ⟨_, rfl⟩
   replace H : (if (a0_0 : Int).toNat ≤ 281474976710656 then ((some (List.replicate (a0_0 : Int).toNat false : List Bool)).bind fun y260 => (if 0 < (y260.length : Int) then (impl_reach.l0 k l1 l2 y257 (y260.set (0 : Int).toNat true) (([0] : List Int)) 0 a0_0 l0_1) else (none))) else (none)) = some (r1, r2) := by (rw [hy257]; with_reducible exact H)
   have Ny257 := Aside0.mk hy257
   clear hy257
   by_cases c6 : (a0_0 : Int).toNat ≤ 281474976710656
   ·rw [if_pos c6] at H
    have c6b0 := eq_true c6
    have c6b1 : decide ((a0_0 : Int).toNat ≤ 281474976710656) = true := decide_eq_true c6
    clear c6
    obtain ⟨y260, hy260⟩ : ∃ y_ : List Bool, y_ = (List.replicate (a0_0 : Int).toNat false) := ⟨_, rfl⟩
    replace H : (if 0 < (y260.length : Int) then (impl_reach.l0 k l1 l2 y257 (y260.set (0 : Int).toNat true) (([0] : List Int)) 0 a0_0 l0_1) else (none)) = some (r1, r2) := by (have H2_ := (Option.bind_some _ _).symm.trans H; rw [hy260]; with_reducible exact H2_)
    have Ny260 := Aside0.mk hy260
    clear hy260
    by_cases c7 : 0 < (y260.length : Int)
    ·rw [if_pos c7] at H
     have c7b0 : decide (0 < (y260.length : Int)) = true := decide_eq_true c7
     have c7b1 : decide (0 < y260.length) = true := decide_eq_true (by omega)
     clear c7
     obtain ⟨y263, hy263⟩ : ∃ y_ : List Bool, y_ = (y260.set (0 : Int).toNat true) := ⟨_, rfl⟩
     replace H : (impl_reach.l0 k l1 l2 y257 y263 (([0] : List Int)) 0 a0_0 l0_1) = some (r1, r2) := by (rw [hy263]; with_reducible exact H)
     have Ny263 := Aside0.mk hy263
     clear hy263
     obtain ⟨y264, hy264⟩ : ∃ y_ : List Int, y_ = (([0] : List Int)) := ⟨_, rfl⟩
     replace H : (impl_reach.l0 k l1 l2 y257 y263 y264 0 a0_0 l0_1) = some (r1, r2) := by (rw [hy264]; with_reducible exact H)
     have Ny264 := Aside0.mk hy264
     clear hy264
     have H' := Aside0.mk H
     clear H
     go_enter Try.func50, Try.ntmps50
     try go_wp2_with (((with_reducible refine gate_dst (N := 3) rfl ?_); refine box_event ?hg (N := 3) ?hd (cs := #[.int .i64 a0_0, .slice A0_1 l0_1.length c0_1]) (t := 30) ?hr ?_; (case hd => rfl); (case hg => rfl); (case hr => (go_simp; done)); intro gb256 hg w9 hbox hb; have n0_ := Aside0.mk (below_step HB.out hb); have n1_ := Aside0.mk (hbox); have n2_ := Aside0.mk ((by rw [hg]; exact (below_size HB.out) : w.heap.size ≤ gb256)); have n3_ := n2_; clear HB; have HB := n0_; have BK256 := n1_; have GW256 := n2_; have GE256 := n3_; clear n0_ n1_ n2_ n3_ hb hbox hg))
     have n0_ := Aside0.mk (blk_drew BK256.out)
     have n1_ := Aside0.mk (below_drew1 HB.out)
     clear BK256
     clear HB
     have BK256 := n0_
     have HB := n1_
     clear n0_ n1_
     refine start_ (n := 8) (S := fun w' => w'.cell? ⟨gb256, 0, none⟩ = some (.int .i64 a0_0) ∧ w'.cell? ⟨gb256, 1, none⟩ = some (.slice A0_1 l0_1.length c0_1)) (ds := []) #[false, false, false, false, false, false, false, false] (by kernel_rfl) rfl rfl ⟨(blk_cell BK256.out 0).trans rfl, (blk_cell BK256.out 1).trans rfl⟩ (fun hHeld => ?_); refine with_tabW impl_reach.tab1 impl_reach.bits1 (fun HT_ HW_ => ?_)
     generalize w9.drew = w10 at BK256 HB hHeld ⊢
     refine pure_ (i := 0) (N := some 16) (v := ?_) (a' := ?_) #[true, false, false, false, false, false, false, false] rfl rfl (any_of HT_.out (by kernel_rfl)) (fun _ _ _ h => h) (Or.inl ⟨by rfl, ?_⟩) ?_ ?_
     rotate_left
     ·intro w'
      go_simp
      with_reducible rfl
     rotate_left
     ·simp only [Act.put, List.setIfInBounds_toArray, List.set_cons_zero, List.set_cons_succ, i64_w, i32_w]
      rfl
     refine pure_ (i := 3) (N := some 19) (v := ?_) (a' := ?_) #[true, false, false, true, false, false, false, false] rfl rfl (any_of HT_.out (by kernel_rfl)) (fun _ _ _ h => h) (Or.inl ⟨by rfl, ?_⟩) ?_ ?_
     rotate_left
     ·intro w'
      go_simp
      with_reducible rfl
     rotate_left
     ·simp only [Act.put, List.setIfInBounds_toArray, List.set_cons_zero, List.set_cons_succ, i64_w, i32_w]
      rfl
     refine take_ (i := 1) (N := some 17) (v := ?_) (a' := ?_) #[true, true, false, true, false, false, false, false] rfl rfl (take_ofW HT_.out HW_.out (by kernel_rfl)) (fun _ _ _ h => h) (Or.inl ⟨by rfl, ?_⟩) hHeld ?_ ?_
     rotate_left
     ·rintro w' ⟨s0, s1⟩
      go_simp
      with_reducible rfl
     rotate_left
     ·simp only [Act.put, List.setIfInBounds_toArray, List.set_cons_zero, List.set_cons_succ, i64_w, i32_w]
      rfl
     refine take_ (i := 4) (N := some 20) (v := ?_) (a' := ?_) #[true, true, false, true, true, false, false, false] rfl rfl (take_ofW HT_.out HW_.out (by kernel_rfl)) (fun _ _ _ h => h) (Or.inl ⟨by rfl, ?_⟩) hHeld ?_ ?_
     rotate_left
     ·rintro w' ⟨s0, s1⟩
      go_simp
      with_reducible rfl
     rotate_left
     ·simp only [Act.put, List.setIfInBounds_toArray, List.set_cons_zero, List.set_cons_succ, i64_w, i32_w]
      rfl
     refine join_ (σ := Value × Value) 1 fl11_0_ (fun s_ => [(18, s_.1), (21, s_.2), (8, s_.1)]) (fun s_ w' => (w'.cell? ⟨gb256, 0, none⟩ = some (.int .i64 a0_0) ∧ w'.cell? ⟨gb256, 1, none⟩ = some (.slice A0_1 l0_1.length c0_1)) ∧ (Kd.R k79 79 w' w.heap.size (fun _ => True) s_.1 y257) ∧ (Kd.R Kd.bool 4 w' w.heap.size (fun _ => True) s_.2 y260) ∧ (w'.heap[gb256]? = some (.cells #[.int .i64 a0_0, .slice A0_1 l0_1.length c0_1] 30 (0, 0))) ∧ (Below w.heap.size w w')) ?_ ?_
     rotate_left
     ·intro hCont
      refine two_ (i := 2) (j := 5) (Ni := some 18) (Nj := some 21) #[true, true, true, true, true, false, false, false] #[true, true, false, true, true, true, false, false] rfl rfl rfl rfl (two_of HT_.out (by kernel_rfl)) (by decide) (by decide) (fun K hK => ?_) (fun K hK => ?_)
      ·skip
       refine Kd.R_make_step k79 _ 79 (by rfl) (N := 18) rfl 71 _ _ rfl a0_0 rfl rfl Try.underlying71 (.agg #[(.int .i64 0), (.bool false)]) 16 info79 rfl (by decide) (by omega) z79 (ok := fun _ => True) (okp := fun _ => True) (k79_mkM _ _ _ z79 ) (fun _ hk => hk) trivial (of_decide_eq_true (by (with_reducible assumption))) (Nat.le_trans (Nat.mul_le_mul_right _ (of_decide_eq_true (by (with_reducible assumption)) : a0_0.toNat ≤ 17592186044416)) (by omega)) (Below.refl _ _) (Nat.le_refl _) ?_
       intro v258 w11 ho12 hb hg_ hnew_
       clear hg_ hnew_
       (rw [← Ny257.out] at ho12)
       have n0_ := Aside0.mk (Kd.R_lower ho12 (below_size HB.out))
       have n1_ := Aside0.mk (blk_below BK256.out hb)
       have n2_ := Aside0.mk (below_step HB.out hb)
       clear BK256
       clear HB
       have HO259 := n0_
       have BK256 := n1_
       have HB := n2_
       clear n0_ n1_ n2_
       clear hb ho12
       refine hK.out _ _ ⟨(blk_cell BK256.out 0).trans rfl, (blk_cell BK256.out 1).trans rfl⟩ (fun hHeld => ?_)
       clear hK K
       refine norm_ (a' := ?_) ?_ ?_
       rotate_left
       ·show Act.put _ (some 18) _ = _
        simp only [Act.put, List.setIfInBounds_toArray, List.set_cons_zero, List.set_cons_succ, i64_w, i32_w]
        rfl
       refine pure_ (i := 6) (N := some 8) (v := ?_) (a' := ?_) #[true, true, true, true, true, false, true, false] rfl rfl (any_of HT_.out (by kernel_rfl)) (fun _ _ _ h => h) (Or.inl ⟨by rfl, ?_⟩) ?_ ?_
       rotate_left
       ·intro w'
        go_simp
        with_reducible rfl
       rotate_left
       ·simp only [Act.put, List.setIfInBounds_toArray, List.set_cons_zero, List.set_cons_succ, i64_w, i32_w]
        rfl
       refine one_ (i := 5) (N := some 21) fl11_0_ rfl rfl (one_of HT_.out (by kernel_rfl)) (by decide) (fun K hK => ?_)
       refine Kd.R_make_step Kd.bool _ 4 (by rfl) (N := 21) rfl 38 _ _ rfl a0_0 rfl rfl Try.underlying38 (.bool false) 1 info4 rfl (by decide) (by omega) false (ok := fun _ => True) (okp := fun _ => True) rfl (fun _ hk => hk) trivial (of_decide_eq_true (by (with_reducible assumption))) (Nat.le_trans (Nat.mul_le_mul_right _ (of_decide_eq_true (by (with_reducible assumption)) : a0_0.toNat ≤ 281474976710656)) (by omega)) (Below.refl _ _) (Nat.le_refl _) ?_
       intro v261 w13 ho14 hb hg_ hnew_
       clear hg_ hnew_
       (rw [← Ny260.out] at ho14)
       have n0_ := Aside0.mk (Kd.R_below HO259.out hb)
       have n1_ := Aside0.mk (Kd.R_lower ho14 (below_size HB.out))
       have n2_ := Aside0.mk (blk_below BK256.out hb)
       have n3_ := Aside0.mk (below_step HB.out hb)
       clear HO259
       clear BK256
       clear HB
       have HO259 := n0_
       have HO262 := n1_
       have BK256 := n2_
       have HB := n3_
       clear n0_ n1_ n2_ n3_
       clear hb ho14
       refine hK.out _ _ ⟨(blk_cell BK256.out 0).trans rfl, (blk_cell BK256.out 1).trans rfl⟩ (fun hHeld => ?_)
       clear hK K
       refine norm_ (a' := ?_) ?_ ?_
       rotate_left
       ·show Act.put _ (some 21) _ = _
        simp only [Act.put, List.setIfInBounds_toArray, List.set_cons_zero, List.set_cons_succ, i64_w, i32_w]
        rfl
       exact norm_ (by simp only [putAll, Act.put, List.setIfInBounds_toArray, List.set_cons_zero, List.set_cons_succ]) (hCont (v258, v261) _ ⟨hHeld, HO259.out, HO262.out, BK256.out, HB.out⟩)
      ·skip
       refine Kd.R_make_step Kd.bool _ 4 (by rfl) (N := 21) rfl 38 _ _ rfl a0_0 rfl rfl Try.underlying38 (.bool false) 1 info4 rfl (by decide) (by omega) false (ok := fun _ => True) (okp := fun _ => True) rfl (fun _ hk => hk) trivial (of_decide_eq_true (by (with_reducible assumption))) (Nat.le_trans (Nat.mul_le_mul_right _ (of_decide_eq_true (by (with_reducible assumption)) : a0_0.toNat ≤ 281474976710656)) (by omega)) (Below.refl _ _) (Nat.le_refl _) ?_
       intro v261 w11 ho12 hb hg_ hnew_
       clear hg_ hnew_
       (rw [← Ny260.out] at ho12)
       have n0_ := Aside0.mk (Kd.R_lower ho12 (below_size HB.out))
       have n1_ := Aside0.mk (blk_below BK256.out hb)
       have n2_ := Aside0.mk (below_step HB.out hb)
       clear BK256
       clear HB
       have HO262 := n0_
       have BK256 := n1_
       have HB := n2_
       clear n0_ n1_ n2_
       clear hb ho12
       refine hK.out _ _ ⟨(blk_cell BK256.out 0).trans rfl, (blk_cell BK256.out 1).trans rfl⟩ (fun hHeld => ?_)
       clear hK K
       refine norm_ (a' := ?_) ?_ ?_
       rotate_left
       ·show Act.put _ (some 21) _ = _
        simp only [Act.put, List.setIfInBounds_toArray, List.set_cons_zero, List.set_cons_succ, i64_w, i32_w]
        rfl
       refine one_ (i := 2) (N := some 18) #[true, true, true, true, true, true, false, false] rfl rfl (one_of HT_.out (by kernel_rfl)) (by decide) (fun K hK => ?_)
       refine Kd.R_make_step k79 _ 79 (by rfl) (N := 18) rfl 71 _ _ rfl a0_0 rfl rfl Try.underlying71 (.agg #[(.int .i64 0), (.bool false)]) 16 info79 rfl (by decide) (by omega) z79 (ok := fun _ => True) (okp := fun _ => True) (k79_mkM _ _ _ z79 ) (fun _ hk => hk) trivial (of_decide_eq_true (by (with_reducible assumption))) (Nat.le_trans (Nat.mul_le_mul_right _ (of_decide_eq_true (by (with_reducible assumption)) : a0_0.toNat ≤ 17592186044416)) (by omega)) (Below.refl _ _) (Nat.le_refl _) ?_
       intro v258 w13 ho14 hb hg_ hnew_
       clear hg_ hnew_
       (rw [← Ny257.out] at ho14)
       have n0_ := Aside0.mk (Kd.R_below HO262.out hb)
       have n1_ := Aside0.mk (Kd.R_lower ho14 (below_size HB.out))
       have n2_ := Aside0.mk (blk_below BK256.out hb)
       have n3_ := Aside0.mk (below_step HB.out hb)
       clear HO262
       clear BK256
       clear HB
       have HO262 := n0_
       have HO259 := n1_
       have BK256 := n2_
       have HB := n3_
       clear n0_ n1_ n2_ n3_
       clear hb ho14
       refine hK.out _ _ ⟨(blk_cell BK256.out 0).trans rfl, (blk_cell BK256.out 1).trans rfl⟩ (fun hHeld => ?_)
       clear hK K
       refine norm_ (a' := ?_) ?_ ?_
       rotate_left
       ·show Act.put _ (some 18) _ = _
        simp only [Act.put, List.setIfInBounds_toArray, List.set_cons_zero, List.set_cons_succ, i64_w, i32_w]
        rfl
       refine pure_ (i := 6) (N := some 8) (v := ?_) (a' := ?_) fl11_0_ rfl rfl (any_of HT_.out (by kernel_rfl)) (fun _ _ _ h => h) (Or.inl ⟨by rfl, ?_⟩) ?_ ?_
       rotate_left
       ·intro w'
        go_simp
        with_reducible rfl
       rotate_left
       ·simp only [Act.put, List.setIfInBounds_toArray, List.set_cons_zero, List.set_cons_succ, i64_w, i32_w]
        rfl
       exact norm_ (by simp only [putAll, Act.put, List.setIfInBounds_toArray, List.set_cons_zero, List.set_cons_succ]) (hCont (v258, v261) _ ⟨hHeld, HO259.out, HO262.out, BK256.out, HB.out⟩)
     rintro ⟨v258, v261⟩ w15 ⟨hS_, h0_, h1_, h2_, h3_⟩
     have n0_ : Aside0 (Kd.R k79 79 w15 w.heap.size (fun _ => True) v258 y257) := ⟨h0_⟩
     have n1_ : Aside0 (Kd.R Kd.bool 4 w15 w.heap.size (fun _ => True) v261 y260) := ⟨h1_⟩
     have n2_ : Aside0 (w15.heap[gb256]? = some (.cells #[.int .i64 a0_0, .slice A0_1 l0_1.length c0_1] 30 (0, 0))) := ⟨h2_⟩
     have n3_ : Aside0 (Below w.heap.size w w15) := ⟨h3_⟩
     clear BK256
     clear HB
     clear h0_ h1_ h2_ h3_
     have HO259 := n0_
     have HO262 := n1_
     have BK256 := n2_
     have HB := n3_
     clear n0_ n1_ n2_ n3_
     have hHeld : w15.cell? ⟨gb256, 0, none⟩ = some (.int .i64 a0_0) ∧ w15.cell? ⟨gb256, 1, none⟩ = some (.slice A0_1 l0_1.length c0_1) := hS_
     refine norm_ (a' := ?_) ?_ ?_
     rotate_left
     ·simp only [putAll, Act.put, List.setIfInBounds_toArray, List.set_cons_zero, List.set_cons_succ]
      rfl
     refine pure_ (i := 7) (N := some 9) (v := ?_) (a' := ?_) #[true, true, true, true, true, true, true, true] rfl rfl (any_of HT_.out (by kernel_rfl)) (fun _ _ _ h => h) (Or.inl ⟨by rfl, ?_⟩) ?_ ?_
     rotate_left
     ·intro w'
      go_simp
      with_reducible rfl
     rotate_left
     ·simp only [Act.put, List.setIfInBounds_toArray, List.set_cons_zero, List.set_cons_succ, i64_w, i32_w]
      rfl
     refine done_ (done_of HT_.out (by kernel_rfl)) ?_
     have p8 : 0 ≤ (0 : Int) := (by omega)
     have q8 : (0 : Int) < ((y260.length : Int) : Int) := of_decide_eq_true (by (with_reducible assumption))
     have qi8 : (0 < y260.length) = True := eq_true (by omega)
     obtain ⟨go8, co8, eo8, gb8, gl8, cl8, HG8⟩ := Kd.R_form HO262.out (by omega)
     (cases eo8)
     have GB8 := Aside0.mk gb8
     have GG8 := Aside0.mk HG8
     clear gb8 gl8 HG8
     obtain ⟨hx8_0, hf8_0⟩ := Kd.R_celln false HO262.out (0 : Int) p8 q8
     (try rw [show ((0 : Int)).toNat = 0 from rfl] at hx8_0)
     (skip)
     (try rw [show ((0 : Int)).toNat = 0 from rfl] at hf8_0)
     (skip)
     replace p8 := eq_true p8
     replace q8 := eq_true q8
     obtain ⟨hy16_, hz16_⟩ := Kd.R_celln false HO262.out (0 : Int) (by omega) (of_decide_eq_true (by (with_reducible assumption)))
     (skip)
     (try rw [show ((0 : Int)).toNat = 0 from rfl] at hy16_)
     (try rw [show ((0 : Int)).toNat = 0 from rfl] at hz16_)
     have HP16 := Kd.R_putg HO262.out (0 : Int) true
     try go_wp2_with (first | ((with_reducible refine gate_store (t := 4) (p := 23) rfl ?_); refine store_event (t := 4) (p := 23) (v := ?vo_w17) (w1 := (w15.setCell ⟨go8, (0 : Int).toNat, none⟩ (.bool true))) ?hg ?ho ?hn ?hr ?_; (case ho => rfl); (case hg => rfl); (case hn => rfl); (case hr => (go_simp; done)); intro w17 hw; have hg : w15.grownBy w17 (some go8) := (by rw [hw]; exact HP16.2); have hp_ : Kd.R Kd.bool 4 w17 w.heap.size (fun _ => True) (.slice (some ⟨go8, 0, none⟩) y260.length co8) y263 := (by rw [hw, Ny263.out]; exact HP16.1); clear HP16; have n0_ := Aside0.mk (blk_grown (g := gb256) (o := .cells #[.int .i64 a0_0, .slice A0_1 l0_1.length c0_1] 30 (0, 0)) BK256.out hg (Kd.R_ne HO262.out BK256.out (by decide))); have n1_ := Aside0.mk (Kd.R_over' (v := (.slice (some ⟨go8, 0, none⟩) y260.length co8)) HO259.out (Kd.R_typed HO262.out) (by decide) hg); have n2_ := Aside0.mk (hp_); have n3_ := Aside0.mk ((by rw [hw]; exact below_set (HB.out) GB8.out : Below w.heap.size w w17)); clear BK256 HO259 HO262 HB; have BK256 := n0_; have HO259 := n1_; have HO262 := n2_; have HB := n3_; clear n0_ n1_ n2_ n3_ hg hw hp_) | ((with_reducible refine gate_dst (N := 24) rfl ?_); refine Kd.R_lit (Kd.int .i64) _ 3 ?hg (N := 24) ?hd (xs := ([0] : List Int)) (inner := [.int .i64 0]) (ok := fun _ => True) (okp := fun _ => True) ?hr ?hp (fun _ hk => hk) trivial (Below.refl _ _) (Nat.le_refl _) (by simp) ?_; (case hd => rfl); (case hg => rfl); (case hr => (go_simp; done)); (case hp => exact (Reps.one (show Kd.M (Kd.int .i64) _ _ _ 0 [.int .i64 0] from rfl) (Reps.none _ _))); intro v265 w18 ho19 hb hg_ hnew_; clear hg_ hnew_; (rw [← Ny264.out] at ho19); have n0_ := Aside0.mk (Kd.R_below HO259.out hb); have n1_ := Aside0.mk (Kd.R_below HO262.out hb); have n2_ := Aside0.mk (Kd.R_lower ho19 (below_size HB.out)); have n3_ := Aside0.mk (blk_below BK256.out hb); have n4_ := Aside0.mk (below_step HB.out hb); clear HO259 HO262 BK256 HB; have HO259 := n0_; have HO262 := n1_; have HO266 := n2_; have BK256 := n3_; have HB := n4_; clear n0_ n1_ n2_ n3_ n4_ hb ho19))
     go_loopg [10, 11] k (fun kq v10 v11 w' => ∃ (x8_1 : List (S79)) (x9_1 : List Bool) (x10_1 : List Int) (x11_1 : Int), v11 = .int .i64 x11_1 ∧ Aside0 (impl_reach.l0 kq l1 l2 x8_1 x9_1 x10_1 x11_1 a0_0 l0_1 = some (r1, r2)) ∧ Aside0 (kq ≤ k) ∧ Aside0 (Kd.R k79 79 w' w.heap.size (fun _ => True) v258 x8_1) ∧ Aside0 (Kd.R Kd.bool 4 w' w.heap.size (fun _ => True) (.slice (some ⟨go8, 0, none⟩) y260.length co8) x9_1) ∧ Aside0 (Kd.R (Kd.int .i64) 3 w' w.heap.size (fun _ => True) v10 x10_1) ∧ Aside0 (w'.heap[gb256]? = some (.cells #[.int .i64 a0_0, (.slice A0_1 l0_1.length c0_1)] 30 (0, 0))) ∧ Aside0 (Below w.heap.size w w'))
     case atStart => exact ⟨(y257), (y263), (y264), (0), (by rfl), H', ⟨Nat.le_refl _⟩, ⟨by exact HO259.out⟩, ⟨by exact HO262.out⟩, ⟨by exact HO266.out⟩, ⟨by exact BK256.out⟩, ⟨by exact HB.out⟩⟩
     case round =>
      clear H'
      try clear c1
      try clear c2
      try clear p2
      try clear c4
      try clear c4b0
      try clear c4b1
      try clear c5
      try clear c5b0
      try clear c5b1
      try clear c6
      try clear c6b0
      try clear c6b1
      try clear c7
      try clear c7b0
      try clear c7b1
      try clear p8
      try clear q8
      try clear hx8
      try clear qi8
      try clear hf8
      try clear hx8_0
      try clear p8
      try clear q8
      obtain ⟨x8_1, x9_1, x10_1, x11_1, rfl, HA, HK1, HO_8, HO_9, HO_10, BK256, HB⟩ := hrel
      have hl9_1 := (Kd.R_reads' HO_9.out).1
      rw [hl9_1] at HO_9
      (try simp only [hl9_1])
      (skip)
      (skip)
      (skip)
      cases gk with
      | zero => exact absurd HA.out (by simp [impl_reach.l0])
      | succ k1 =>
       have H := HA.out
       clear HA
       simp only [impl_reach.l0] at H
       by_cases c20 : x11_1 < (x10_1.length : Int)
       ·rw [if_pos c20] at H
        have c20b0 : decide (x11_1 < (x10_1.length : Int)) = true := decide_eq_true c20
        clear c20
        by_cases c21 : 0 ≤ x11_1
        ·rw [if_pos c21] at H
         have c21b0 : decide (0 ≤ x11_1) = true := decide_eq_true c21
         clear c21
         by_cases c22 : 0 ≤ (rd x10_1 x11_1)
         ·rw [if_pos c22] at H
          have c22b0 : decide (0 ≤ (rd x10_1 x11_1)) = true := decide_eq_true c22
          clear c22
          by_cases c23 : (rd x10_1 x11_1) < (l1.length : Int)
          ·rw [if_pos c23] at H
           have c23b0 : decide ((rd x10_1 x11_1) < (l1.length : Int)) = true := decide_eq_true c23
           clear c23
           have H' := Aside0.mk H
           clear H
           obtain ⟨Ao24, co24, eo24⟩ := Kd.R_slice HO_10.out
           subst eo24
           have p267 : 0 ≤ (x11_1 : Int) := of_decide_eq_true (by (with_reducible assumption))
           have q267 : x11_1 < (x10_1.length : Int) := of_decide_eq_true (by (with_reducible assumption))
           obtain ⟨ad267, e267, hx267_0⟩ := Kd.at_int (Kd.R_reads' HO_10.out).2.2 x11_1 p267 q267
           cases e267
           replace p267 := eq_true p267
           replace q267 := eq_true q267
           have p268 : 0 ≤ ((rd x10_1 x11_1) : Int) := of_decide_eq_true (by (with_reducible assumption))
           have q268 : (rd x10_1 x11_1) < (l1.length : Int) := of_decide_eq_true (by (with_reducible assumption))
           obtain ⟨ad268, A268_0, c268_0, e268, hx268_0, hl268_0, hi268_0⟩ := at_L5 HR1.out (rd x10_1 x11_1) p268 q268
           cases e268
           replace hx268_0 := (HB.out.cell (World.block_lt_of_cell? w _ hx268_0)).trans hx268_0
           have HR268_0 := Aside0.mk hi268_0
           have HC268_0 := Aside0.mk hl268_0
           clear hi268_0 hl268_0
           replace p268 := eq_true p268
           replace q268 := eq_true q268
           go_wp2
           go_loopg [10, 39] k1 (fun kq v10 v39 w' => ∃ (x8_2 : List (S79)) (x9_2 : List Bool) (x10_2 : List Int) (x39_2 : Int), v39 = .int .i64 x39_2 ∧ Aside0 (impl_reach.l1 kq l1 l2 x8_2 x9_2 x10_2 x11_1 (rd_L5 l1 (rd x10_1 x11_1)) ((rd_L5 l1 (rd x10_1 x11_1)).length : Int) x39_2 a0_0 l0_1 = some (r1, r2)) ∧ Aside0 (kq ≤ k1) ∧ Aside0 (Kd.R k79 79 w' w.heap.size (fun _ => True) v258 x8_2) ∧ Aside0 (Kd.R Kd.bool 4 w' w.heap.size (fun _ => True) (.slice (some ⟨go8, 0, none⟩) x9_1.length co8) x9_2) ∧ Aside0 (Kd.R (Kd.int .i64) 3 w' w.heap.size (fun _ => True) v10 x10_2) ∧ Aside0 (w'.heap[gb256]? = some (.cells #[.int .i64 a0_0, (.slice A0_1 l0_1.length c0_1)] 30 (0, 0))) ∧ Aside0 (Below w.heap.size w w'))
           case atStart => exact ⟨(x8_1), (x9_1), (x10_1), (0), (by rfl), H', ⟨Nat.le_refl _⟩, ⟨by exact HO_8.out⟩, ⟨by exact HO_9.out⟩, ⟨by exact HO_10.out⟩, ⟨by exact BK256.out⟩, ⟨by exact HB.out⟩⟩
           case round =>
            clear H'
            try clear c1
            try clear c2
            try clear p2
            try clear q2
            try clear hx2
            try clear c4
            try clear c4b0
            try clear c4b1
            try clear c5
            try clear c5b0
            try clear c5b1
            try clear c6
            try clear c6b0
            try clear c6b1
            try clear c7
            try clear c7b0
            try clear c7b1
            try clear p8
            try clear q8
            try clear hx8
            try clear qi8
            try clear hf8
            try clear c20
            try clear c20b0
            try clear c21
            try clear c21b0
            try clear c22
            try clear c22b0
            try clear c23
            try clear c23b0
            try clear hx267_0
            try clear hx268_0
            try clear hx8_0
            try clear p2
            try clear p267
            try clear p268
            try clear p8
            try clear q267
            try clear q268
            try clear q8
            obtain ⟨x8_2, x9_2, x10_2, x39_2, rfl, HA, HK2, HO_8, HO_9, HO_10, BK256, HB⟩ := hrel
            have hl9_2 := (Kd.R_reads' HO_9.out).1
            rw [hl9_2] at HO_9
            (try simp only [hl9_2])
            (skip)
            (skip)
            (skip)
            cases gk with
            | zero => exact absurd HA.out (by simp [impl_reach.l1])
            | succ k2 =>
             have H := HA.out
             clear HA
             simp only [impl_reach.l1] at H
             by_cases c25 : x39_2 < ((rd_L5 l1 (rd x10_1 x11_1)).length : Int)
             ·rw [if_pos c25] at H
              have c25b0 : decide (x39_2 < ((rd_L5 l1 (rd x10_1 x11_1)).length : Int)) = true := decide_eq_true c25
              clear c25
              by_cases c26 : 0 ≤ x39_2
              ·rw [if_pos c26] at H
               have c26b0 : decide (0 ≤ x39_2) = true := decide_eq_true c26
               clear c26
               by_cases c27 : x39_2 < ((rd_L5 l1 (rd x10_1 x11_1)).length : Int)
               ·rw [if_pos c27] at H
                have c27b0 : decide (x39_2 < ((rd_L5 l1 (rd x10_1 x11_1)).length : Int)) = true := decide_eq_true c27
                clear c27
                replace H := Option.bind_eq_some_iff.mp H
                obtain ⟨⟨t271, t272⟩, A280, H⟩ := H
                replace H : (if 0 ≤ t272 then (if t272 < (x9_2.length : Int) then (if rdOf false x9_2 t272 = true then (impl_reach.l1 k2 l1 l2 x8_2 x9_2 x10_2 x11_1 (rd_L5 l1 (rd x10_1 x11_1)) ((rd_L5 l1 (rd x10_1 x11_1)).length : Int) (wrap64 (x39_2 + 1)) a0_0 l0_1) else ((impl_step_room.f ((rd_T79 (rd_L5 l1 (rd x10_1 x11_1)) x39_2).f0) ((rd_T79 (rd_L5 l1 (rd x10_1 x11_1)) x39_2).f1) a0_0 l0_1 l2).bind fun t274 => (if t274 > 0 then (if t272 < (x8_2.length : Int) then (if x10_2.length < 17592186044416 then (impl_reach.l1 k2 l1 l2 (x8_2.set (t272 : Int).toNat (⟨(rd_T79 (rd_L5 l1 (rd x10_1 x11_1)) x39_2).f0, (rd_T79 (rd_L5 l1 (rd x10_1 x11_1)) x39_2).f1⟩ : S79)) (x9_2.set (t272 : Int).toNat true) (x10_2 ++ [t272]) x11_1 (rd_L5 l1 (rd x10_1 x11_1)) ((rd_L5 l1 (rd x10_1 x11_1)).length : Int) (wrap64 (x39_2 + 1)) a0_0 l0_1) else (none)) else (none)) else (impl_reach.l1 k2 l1 l2 x8_2 x9_2 x10_2 x11_1 (rd_L5 l1 (rd x10_1 x11_1)) ((rd_L5 l1 (rd x10_1 x11_1)).length : Int) (wrap64 (x39_2 + 1)) a0_0 l0_1)))) else (none)) else (none)) = some (r1, r2) := H
                have A28 := Aside0.mk A280
                clear A280
                by_cases c29 : 0 ≤ t272
                ·rw [if_pos c29] at H
                 have c29b0 : decide (0 ≤ t272) = true := decide_eq_true c29
                 clear c29
                 by_cases c30 : t272 < (x9_2.length : Int)
                 ·rw [if_pos c30] at H
                  have c30b0 : decide (t272 < (x9_2.length : Int)) = true := decide_eq_true c30
                  clear c30
                  obtain ⟨bq31, hbq31⟩ : ∃ b_ : Bool, b_ = (rdOf false x9_2 t272) := ⟨_, rfl⟩
                  replace H : (if bq31 = true then (impl_reach.l1 k2 l1 l2 x8_2 x9_2 x10_2 x11_1 (rd_L5 l1 (rd x10_1 x11_1)) ((rd_L5 l1 (rd x10_1 x11_1)).length : Int) (wrap64 (x39_2 + 1)) a0_0 l0_1) else ((impl_step_room.f ((rd_T79 (rd_L5 l1 (rd x10_1 x11_1)) x39_2).f0) ((rd_T79 (rd_L5 l1 (rd x10_1 x11_1)) x39_2).f1) a0_0 l0_1 l2).bind fun t274 => (if t274 > 0 then (if t272 < (x8_2.length : Int) then (if x10_2.length < 17592186044416 then (impl_reach.l1 k2 l1 l2 (x8_2.set (t272 : Int).toNat (⟨(rd_T79 (rd_L5 l1 (rd x10_1 x11_1)) x39_2).f0, (rd_T79 (rd_L5 l1 (rd x10_1 x11_1)) x39_2).f1⟩ : S79)) (x9_2.set (t272 : Int).toNat true) (x10_2 ++ [t272]) x11_1 (rd_L5 l1 (rd x10_1 x11_1)) ((rd_L5 l1 (rd x10_1 x11_1)).length : Int) (wrap64 (x39_2 + 1)) a0_0 l0_1) else (none)) else (none)) else (impl_reach.l1 k2 l1 l2 x8_2 x9_2 x10_2 x11_1 (rd_L5 l1 (rd x10_1 x11_1)) ((rd_L5 l1 (rd x10_1 x11_1)).length : Int) (wrap64 (x39_2 + 1)) a0_0 l0_1)))) = some (r1, r2) := by rw [← hbq31] at H; exact H
                  have Nbq31 := Aside0.mk hbq31
                  clear hbq31
                  by_cases c32 : bq31 = true
                  ·subst c32
                   have H1 : (impl_reach.l1 k2 l1 l2 x8_2 x9_2 x10_2 x11_1 (rd_L5 l1 (rd x10_1 x11_1)) ((rd_L5 l1 (rd x10_1 x11_1)).length : Int) (wrap64 (x39_2 + 1)) a0_0 l0_1) = some (r1, r2) := by rw [if_pos rfl] at H; exact H
                   clear H
                   have H := H1
                   clear H1
                   have H' := Aside0.mk H
                   clear H
                   have p269 : 0 ≤ (x39_2 : Int) := of_decide_eq_true (by (with_reducible assumption))
                   have q269 : x39_2 < ((rd_L5 l1 (rd x10_1 x11_1)).length : Int) := of_decide_eq_true (by (with_reducible assumption))
                   obtain ⟨ad269, e269, hx269_0, hx269_1⟩ := at_T79 HR268_0.out x39_2 p269 q269
                   (skip)
                   cases e269
                   replace hx269_0 := (HB.out.cell (World.block_lt_of_cell? w _ hx269_0)).trans hx269_0
                   replace hx269_1 := (HB.out.cell (World.block_lt_of_cell? w _ hx269_1)).trans hx269_1
                   replace p269 := eq_true p269
                   replace q269 := eq_true q269
                   go_wp2_with (first | ((with_reducible refine gate_dst (N := 13) rfl ?_); refine box_event ?hg (N := 13) ?hd (cs := #[.int .i64 0, .bool false]) (t := 79) ?hr ?_; (case hd => rfl); (case hg => rfl); (case hr => (go_simp; done)); intro gb270 hg w33 hbox hb; have n0_ := Aside0.mk (Kd.R_below (Kd.R_elderB HO_8.out gb270 (Nat.le_of_eq hg.symm)) hb); have n1_ := Aside0.mk (Kd.R_below HO_9.out hb); have n2_ := Aside0.mk (Kd.R_below HO_10.out hb); have n3_ := Aside0.mk (blk_below BK256.out hb); have n4_ := Aside0.mk (below_step HB.out hb); have n5_ := Aside0.mk (hbox); have n6_ := Aside0.mk ((by rw [hg]; exact (below_size HB.out) : w.heap.size ≤ gb270)); have n7_ := n6_; have n8_ := Aside0.mk ((by rw [hg]; exact Nat.ne_of_lt (blk_lt (g := gb256) (o := .cells #[.int .i64 a0_0, .slice A0_1 l0_1.length c0_1] 30 (0, 0)) BK256.out) : gb256 ≠ gb270)); have n9_ := Aside0.mk ((by rw [hg]; exact Nat.ne_of_gt (blk_lt (g := gb256) (o := .cells #[.int .i64 a0_0, .slice A0_1 l0_1.length c0_1] 30 (0, 0)) BK256.out) : gb270 ≠ gb256)); clear HO_8 HO_9 HO_10 BK256 HB; have HO_8 := n0_; have HO_9 := n1_; have HO_10 := n2_; have BK256 := n3_; have HB := n4_; have BK270 := n5_; have GW270 := n6_; have GE270 := n7_; have NB256_270 := n8_; have NB270_256 := n9_; clear n0_ n1_ n2_ n3_ n4_ n5_ n6_ n7_ n8_ n9_ hb hbox hg; have hnb34 := NB270_256.out; have hnc34 := NB256_270.out; have hcz35_0 : w33.cell? ⟨gb270, 0, none⟩ = some (.int .i64 0) := (blk_cell BK270.out 0).trans rfl; have hcz35_1 : w33.cell? ⟨gb270, 1, none⟩ = some (.bool false) := (blk_cell BK270.out 1).trans rfl; have hfz35_0 := blk_frozen BK270.out 0; have hfz35_1 := blk_frozen BK270.out 1; have hcz36_0 : w33.cell? ⟨gb256, 0, none⟩ = some (.int .i64 a0_0) := (blk_cell BK256.out 0).trans rfl; have hcz36_1 : w33.cell? ⟨gb256, 1, none⟩ = some (.slice A0_1 l0_1.length c0_1) := (blk_cell BK256.out 1).trans rfl; have hfz36_0 := blk_frozen BK256.out 0; have hfz36_1 := blk_frozen BK256.out 1) | ((with_reducible refine gate_callee (f := 55) rfl ?_); refine goesL_ (some 46) rfl rfl Try.func55 (by kernel_rfl) rfl #[.agg #[.int .i64 ((rd_T79 (rd_L5 l1 (rd x10_1 x11_1)) x39_2).f0), .bool ((rd_T79 (rd_L5 l1 (rd x10_1 x11_1)) x39_2).f1)], .agg #[.int .i64 a0_0, .slice A0_1 l0_1.length c0_1]] rfl (by (try simp only [List.map_toArray, List.map_cons, List.map_nil]); rfl) ?_; (with_reducible refine (impl_step_ends.calls ((rd_T79 (rd_L5 l1 (rd x10_1 x11_1)) x39_2).f0) ((rd_T79 (rd_L5 l1 (rd x10_1 x11_1)) x39_2).f1) a0_0 _ _ l0_1 t271 t272 _ ?side1 ?side2 A28.out).mono ?_); (case side1 => exact Kd.C_below HR0_1.out (by repeat ((with_reducible first | exact HB.out | refine below_set ?_ GE270.out)))); (case side2 => exact HC0_1.out); rintro e w37 ⟨rfl, hb⟩; refine ⟨_, rfl, ?_⟩; have n0_ := Aside0.mk (Kd.R_below (by exact (Kd.R_mono (Kd.R_far (p := ⟨gb270, 1, none⟩) (Kd.R_far (p := ⟨gb270, 0, none⟩) (Kd.R_mono HO_8.out (fun k_ hk => (⟨hk, hk.2⟩ : _ ∧ k_ ≠ gb270))) (fun _ hk => hk.2) (.int .i64 ((rd_T79 (rd_L5 l1 (rd x10_1 x11_1)) x39_2).f0))) (fun _ hk => hk.2) (.bool ((rd_T79 (rd_L5 l1 (rd x10_1 x11_1)) x39_2).f1))) (fun _ h_ => h_.1))) hb); have n1_ := Aside0.mk (Kd.R_below (by exact (Kd.R_mono (Kd.R_far (p := ⟨gb270, 1, none⟩) (Kd.R_far (p := ⟨gb270, 0, none⟩) (Kd.R_types HO_9.out BK270.out (by decide)) (fun _ hk => hk.2) (.int .i64 ((rd_T79 (rd_L5 l1 (rd x10_1 x11_1)) x39_2).f0))) (fun _ hk => hk.2) (.bool ((rd_T79 (rd_L5 l1 (rd x10_1 x11_1)) x39_2).f1))) (fun _ h_ => h_.1))) hb); have n2_ := Aside0.mk (Kd.R_below (by exact (Kd.R_mono (Kd.R_far (p := ⟨gb270, 1, none⟩) (Kd.R_far (p := ⟨gb270, 0, none⟩) (Kd.R_types HO_10.out BK270.out (by decide)) (fun _ hk => hk.2) (.int .i64 ((rd_T79 (rd_L5 l1 (rd x10_1 x11_1)) x39_2).f0))) (fun _ hk => hk.2) (.bool ((rd_T79 (rd_L5 l1 (rd x10_1 x11_1)) x39_2).f1))) (fun _ h_ => h_.1))) hb); have n3_ := Aside0.mk (blk_below (g := gb256) (o := .cells #[.int .i64 a0_0, .slice A0_1 l0_1.length c0_1] 30 (0, 0)) (by refine blk_far ?_ NB256_270.out _; refine blk_far ?_ NB256_270.out _; exact BK256.out) hb); have n4_ := Aside0.mk (blk_below (g := gb270) (o := .cells #[.int .i64 ((rd_T79 (rd_L5 l1 (rd x10_1 x11_1)) x39_2).f0), .bool ((rd_T79 (rd_L5 l1 (rd x10_1 x11_1)) x39_2).f1)] 79 (0, 0)) (by refine blk_put (cs := #[.int .i64 ((rd_T79 (rd_L5 l1 (rd x10_1 x11_1)) x39_2).f0), .bool false]) ?_ 1 _ rfl; refine blk_put (cs := #[.int .i64 0, .bool false]) ?_ 0 _ rfl; exact BK270.out) hb); have n5_ := Aside0.mk (below_step (by repeat ((with_reducible first | exact HB.out | refine below_set ?_ GE270.out))) hb); clear HO_8 HO_9 HO_10 BK256 BK270 HB; have HO_8 := n0_; have HO_9 := n1_; have HO_10 := n2_; have BK256 := n3_; have BK270 := n4_; have HB := n5_; clear n0_ n1_ n2_ n3_ n4_ n5_; (try clear hb); have p273 : 0 ≤ (t272 : Int) := of_decide_eq_true (by (with_reducible assumption)); have q273 : t272 < (x9_2.length : Int) := of_decide_eq_true (by (with_reducible assumption)); obtain ⟨ad273, e273, hx273_0⟩ := Kd.at_bool (Kd.R_reads' HO_9.out).2.2 t272 p273 q273; (try rw [← Nbq31.out] at hx273_0); obtain rfl : (⟨go8, 0, none⟩ : Addr) = ad273 := (by injection e273); (simp only [add_plain] at hx273_0); replace p273 := eq_true p273; replace q273 := eq_true q273))
                   (try simp only [← hl9_2])
                   go_roundg k2
                   case measure => have := HK1.out; have := HK2.out; omega
                   case rel => exact ⟨(x8_2), (x9_2), (x10_2), (wrap64 (x39_2 + 1)), (by rfl), H', ⟨by have := HK1.out; have := HK2.out; omega⟩, ⟨by exact Kd.R_mono HO_8.out (fun _ hk => trivial)⟩, ⟨by (try simp only [hl9_2]); exact HO_9.out⟩, ⟨by exact HO_10.out⟩, ⟨by exact BK256.out⟩, ⟨by exact HB.out⟩⟩
                  ·replace c32 := Bool.eq_false_iff.mpr c32
                   subst c32
                   have H1 : ((impl_step_room.f ((rd_T79 (rd_L5 l1 (rd x10_1 x11_1)) x39_2).f0) ((rd_T79 (rd_L5 l1 (rd x10_1 x11_1)) x39_2).f1) a0_0 l0_1 l2).bind fun t274 => (if t274 > 0 then (if t272 < (x8_2.length : Int) then (if x10_2.length < 17592186044416 then (impl_reach.l1 k2 l1 l2 (x8_2.set (t272 : Int).toNat (⟨(rd_T79 (rd_L5 l1 (rd x10_1 x11_1)) x39_2).f0, (rd_T79 (rd_L5 l1 (rd x10_1 x11_1)) x39_2).f1⟩ : S79)) (x9_2.set (t272 : Int).toNat true) (x10_2 ++ [t272]) x11_1 (rd_L5 l1 (rd x10_1 x11_1)) ((rd_L5 l1 (rd x10_1 x11_1)).length : Int) (wrap64 (x39_2 + 1)) a0_0 l0_1) else (none)) else (none)) else (impl_reach.l1 k2 l1 l2 x8_2 x9_2 x10_2 x11_1 (rd_L5 l1 (rd x10_1 x11_1)) ((rd_L5 l1 (rd x10_1 x11_1)).length : Int) (wrap64 (x39_2 + 1)) a0_0 l0_1))) = some (r1, r2) := by rw [if_neg (show ¬ (false = true) by decide)] at H; exact H
                   clear H
                   have H := H1
                   clear H1
                   replace H := Option.bind_eq_some_iff.mp H
                   obtain ⟨t274, A380, H⟩ := H
                   replace H : (if t274 > 0 then (if t272 < (x8_2.length : Int) then (if x10_2.length < 17592186044416 then (impl_reach.l1 k2 l1 l2 (x8_2.set (t272 : Int).toNat (⟨(rd_T79 (rd_L5 l1 (rd x10_1 x11_1)) x39_2).f0, (rd_T79 (rd_L5 l1 (rd x10_1 x11_1)) x39_2).f1⟩ : S79)) (x9_2.set (t272 : Int).toNat true) (x10_2 ++ [t272]) x11_1 (rd_L5 l1 (rd x10_1 x11_1)) ((rd_L5 l1 (rd x10_1 x11_1)).length : Int) (wrap64 (x39_2 + 1)) a0_0 l0_1) else (none)) else (none)) else (impl_reach.l1 k2 l1 l2 x8_2 x9_2 x10_2 x11_1 (rd_L5 l1 (rd x10_1 x11_1)) ((rd_L5 l1 (rd x10_1 x11_1)).length : Int) (wrap64 (x39_2 + 1)) a0_0 l0_1)) = some (r1, r2) := H
                   have A38 := Aside0.mk A380
                   clear A380
                   by_cases c39 : t274 > 0
                   ·rw [if_pos c39] at H
                    have c39b0 : decide (0 < t274) = true := decide_eq_true c39
                    clear c39
                    by_cases c40 : t272 < (x8_2.length : Int)
                    ·rw [if_pos c40] at H
                     have c40b0 : decide (t272 < (x8_2.length : Int)) = true := decide_eq_true c40
                     clear c40
                     obtain ⟨y275, hy275⟩ : ∃ y_ : List (S79), y_ = (x8_2.set (t272 : Int).toNat (⟨(rd_T79 (rd_L5 l1 (rd x10_1 x11_1)) x39_2).f0, (rd_T79 (rd_L5 l1 (rd x10_1 x11_1)) x39_2).f1⟩ : S79)) := ⟨_, rfl⟩
                     replace H : (if x10_2.length < 17592186044416 then (impl_reach.l1 k2 l1 l2 y275 (x9_2.set (t272 : Int).toNat true) (x10_2 ++ [t272]) x11_1 (rd_L5 l1 (rd x10_1 x11_1)) ((rd_L5 l1 (rd x10_1 x11_1)).length : Int) (wrap64 (x39_2 + 1)) a0_0 l0_1) else (none)) = some (r1, r2) := by (rw [hy275]; with_reducible exact H)
                     have Ny275 := Aside0.mk hy275
                     clear hy275
                     obtain ⟨y276, hy276⟩ : ∃ y_ : List Bool, y_ = (x9_2.set (t272 : Int).toNat true) := ⟨_, rfl⟩
                     replace H : (if x10_2.length < 17592186044416 then (impl_reach.l1 k2 l1 l2 y275 y276 (x10_2 ++ [t272]) x11_1 (rd_L5 l1 (rd x10_1 x11_1)) ((rd_L5 l1 (rd x10_1 x11_1)).length : Int) (wrap64 (x39_2 + 1)) a0_0 l0_1) else (none)) = some (r1, r2) := by (rw [hy276]; with_reducible exact H)
                     have Ny276 := Aside0.mk hy276
                     clear hy276
                     by_cases c43 : x10_2.length < 17592186044416
                     ·rw [if_pos c43] at H
                      have LMc43 := Aside0.mk c43
                      clear c43
                      obtain ⟨y277, hy277⟩ : ∃ y_ : List Int, y_ = (x10_2 ++ [t272]) := ⟨_, rfl⟩
                      replace H : (impl_reach.l1 k2 l1 l2 y275 y276 y277 x11_1 (rd_L5 l1 (rd x10_1 x11_1)) ((rd_L5 l1 (rd x10_1 x11_1)).length : Int) (wrap64 (x39_2 + 1)) a0_0 l0_1) = some (r1, r2) := by (rw [hy277]; with_reducible exact H)
                      have Ny277 := Aside0.mk hy277
                      clear hy277
                      have H' := Aside0.mk H
                      clear H
                      have p269 : 0 ≤ (x39_2 : Int) := of_decide_eq_true (by (with_reducible assumption))
                      have q269 : x39_2 < ((rd_L5 l1 (rd x10_1 x11_1)).length : Int) := of_decide_eq_true (by (with_reducible assumption))
                      obtain ⟨ad269, e269, hx269_0, hx269_1⟩ := at_T79 HR268_0.out x39_2 p269 q269
                      (skip)
                      cases e269
                      replace hx269_0 := (HB.out.cell (World.block_lt_of_cell? w _ hx269_0)).trans hx269_0
                      replace hx269_1 := (HB.out.cell (World.block_lt_of_cell? w _ hx269_1)).trans hx269_1
                      replace p269 := eq_true p269
                      replace q269 := eq_true q269
                      go_wp2_with (first | ((with_reducible refine gate_dst (N := 13) rfl ?_); refine box_event ?hg (N := 13) ?hd (cs := #[.int .i64 0, .bool false]) (t := 79) ?hr ?_; (case hd => rfl); (case hg => rfl); (case hr => (go_simp; done)); intro gb270 hg w44 hbox hb; have n0_ := Aside0.mk (Kd.R_below (Kd.R_elderB HO_8.out gb270 (Nat.le_of_eq hg.symm)) hb); have n1_ := Aside0.mk (Kd.R_below HO_9.out hb); have n2_ := Aside0.mk (Kd.R_below HO_10.out hb); have n3_ := Aside0.mk (blk_below BK256.out hb); have n4_ := Aside0.mk (below_step HB.out hb); have n5_ := Aside0.mk (hbox); have n6_ := Aside0.mk ((by rw [hg]; exact (below_size HB.out) : w.heap.size ≤ gb270)); have n7_ := n6_; have n8_ := Aside0.mk ((by rw [hg]; exact Nat.ne_of_lt (blk_lt (g := gb256) (o := .cells #[.int .i64 a0_0, .slice A0_1 l0_1.length c0_1] 30 (0, 0)) BK256.out) : gb256 ≠ gb270)); have n9_ := Aside0.mk ((by rw [hg]; exact Nat.ne_of_gt (blk_lt (g := gb256) (o := .cells #[.int .i64 a0_0, .slice A0_1 l0_1.length c0_1] 30 (0, 0)) BK256.out) : gb270 ≠ gb256)); clear HO_8 HO_9 HO_10 BK256 HB; have HO_8 := n0_; have HO_9 := n1_; have HO_10 := n2_; have BK256 := n3_; have HB := n4_; have BK270 := n5_; have GW270 := n6_; have GE270 := n7_; have NB256_270 := n8_; have NB270_256 := n9_; clear n0_ n1_ n2_ n3_ n4_ n5_ n6_ n7_ n8_ n9_ hb hbox hg; have hnb45 := NB270_256.out; have hnc45 := NB256_270.out; have hcz46_0 : w44.cell? ⟨gb270, 0, none⟩ = some (.int .i64 0) := (blk_cell BK270.out 0).trans rfl; have hcz46_1 : w44.cell? ⟨gb270, 1, none⟩ = some (.bool false) := (blk_cell BK270.out 1).trans rfl; have hfz46_0 := blk_frozen BK270.out 0; have hfz46_1 := blk_frozen BK270.out 1; have hcz47_0 : w44.cell? ⟨gb256, 0, none⟩ = some (.int .i64 a0_0) := (blk_cell BK256.out 0).trans rfl; have hcz47_1 : w44.cell? ⟨gb256, 1, none⟩ = some (.slice A0_1 l0_1.length c0_1) := (blk_cell BK256.out 1).trans rfl; have hfz47_0 := blk_frozen BK256.out 0; have hfz47_1 := blk_frozen BK256.out 1) | ((with_reducible refine gate_callee (f := 55) rfl ?_); refine goesL_ (some 46) rfl rfl Try.func55 (by kernel_rfl) rfl #[.agg #[.int .i64 ((rd_T79 (rd_L5 l1 (rd x10_1 x11_1)) x39_2).f0), .bool ((rd_T79 (rd_L5 l1 (rd x10_1 x11_1)) x39_2).f1)], .agg #[.int .i64 a0_0, .slice A0_1 l0_1.length c0_1]] rfl (by (try simp only [List.map_toArray, List.map_cons, List.map_nil]); rfl) ?_; (with_reducible refine (impl_step_ends.calls ((rd_T79 (rd_L5 l1 (rd x10_1 x11_1)) x39_2).f0) ((rd_T79 (rd_L5 l1 (rd x10_1 x11_1)) x39_2).f1) a0_0 _ _ l0_1 t271 t272 _ ?side1 ?side2 A28.out).mono ?_); (case side1 => exact Kd.C_below HR0_1.out (by repeat ((with_reducible first | exact HB.out | refine below_set ?_ GE270.out)))); (case side2 => exact HC0_1.out); rintro e w48 ⟨rfl, hb⟩; refine ⟨_, rfl, ?_⟩; have n0_ := Aside0.mk (Kd.R_below (by exact (Kd.R_mono (Kd.R_far (p := ⟨gb270, 1, none⟩) (Kd.R_far (p := ⟨gb270, 0, none⟩) (Kd.R_mono HO_8.out (fun k_ hk => (⟨hk, hk.2⟩ : _ ∧ k_ ≠ gb270))) (fun _ hk => hk.2) (.int .i64 ((rd_T79 (rd_L5 l1 (rd x10_1 x11_1)) x39_2).f0))) (fun _ hk => hk.2) (.bool ((rd_T79 (rd_L5 l1 (rd x10_1 x11_1)) x39_2).f1))) (fun _ h_ => h_.1))) hb); have n1_ := Aside0.mk (Kd.R_below (by exact (Kd.R_mono (Kd.R_far (p := ⟨gb270, 1, none⟩) (Kd.R_far (p := ⟨gb270, 0, none⟩) (Kd.R_types HO_9.out BK270.out (by decide)) (fun _ hk => hk.2) (.int .i64 ((rd_T79 (rd_L5 l1 (rd x10_1 x11_1)) x39_2).f0))) (fun _ hk => hk.2) (.bool ((rd_T79 (rd_L5 l1 (rd x10_1 x11_1)) x39_2).f1))) (fun _ h_ => h_.1))) hb); have n2_ := Aside0.mk (Kd.R_below (by exact (Kd.R_mono (Kd.R_far (p := ⟨gb270, 1, none⟩) (Kd.R_far (p := ⟨gb270, 0, none⟩) (Kd.R_types HO_10.out BK270.out (by decide)) (fun _ hk => hk.2) (.int .i64 ((rd_T79 (rd_L5 l1 (rd x10_1 x11_1)) x39_2).f0))) (fun _ hk => hk.2) (.bool ((rd_T79 (rd_L5 l1 (rd x10_1 x11_1)) x39_2).f1))) (fun _ h_ => h_.1))) hb); have n3_ := Aside0.mk (blk_below (g := gb256) (o := .cells #[.int .i64 a0_0, .slice A0_1 l0_1.length c0_1] 30 (0, 0)) (by refine blk_far ?_ NB256_270.out _; refine blk_far ?_ NB256_270.out _; exact BK256.out) hb); have n4_ := Aside0.mk (blk_below (g := gb270) (o := .cells #[.int .i64 ((rd_T79 (rd_L5 l1 (rd x10_1 x11_1)) x39_2).f0), .bool ((rd_T79 (rd_L5 l1 (rd x10_1 x11_1)) x39_2).f1)] 79 (0, 0)) (by refine blk_put (cs := #[.int .i64 ((rd_T79 (rd_L5 l1 (rd x10_1 x11_1)) x39_2).f0), .bool false]) ?_ 1 _ rfl; refine blk_put (cs := #[.int .i64 0, .bool false]) ?_ 0 _ rfl; exact BK270.out) hb); have n5_ := Aside0.mk (below_step (by repeat ((with_reducible first | exact HB.out | refine below_set ?_ GE270.out))) hb); clear HO_8 HO_9 HO_10 BK256 BK270 HB; have HO_8 := n0_; have HO_9 := n1_; have HO_10 := n2_; have BK256 := n3_; have BK270 := n4_; have HB := n5_; clear n0_ n1_ n2_ n3_ n4_ n5_; (try clear hb); have p273 : 0 ≤ (t272 : Int) := of_decide_eq_true (by (with_reducible assumption)); have q273 : t272 < (x9_2.length : Int) := of_decide_eq_true (by (with_reducible assumption)); obtain ⟨ad273, e273, hx273_0⟩ := Kd.at_bool (Kd.R_reads' HO_9.out).2.2 t272 p273 q273; (try rw [← Nbq31.out] at hx273_0); obtain rfl : (⟨go8, 0, none⟩ : Addr) = ad273 := (by injection e273); (simp only [add_plain] at hx273_0); replace p273 := eq_true p273; replace q273 := eq_true q273; have hcz49_0 : w48.cell? ⟨gb270, 0, none⟩ = some (.int .i64 ((rd_T79 (rd_L5 l1 (rd x10_1 x11_1)) x39_2).f0)) := (blk_cell BK270.out 0).trans rfl; have hcz49_1 : w48.cell? ⟨gb270, 1, none⟩ = some (.bool ((rd_T79 (rd_L5 l1 (rd x10_1 x11_1)) x39_2).f1)) := (blk_cell BK270.out 1).trans rfl; have hfz49_0 := blk_frozen BK270.out 0; have hfz49_1 := blk_frozen BK270.out 1; have hcz50_0 : w48.cell? ⟨gb256, 0, none⟩ = some (.int .i64 a0_0) := (blk_cell BK256.out 0).trans rfl; have hcz50_1 : w48.cell? ⟨gb256, 1, none⟩ = some (.slice A0_1 l0_1.length c0_1) := (blk_cell BK256.out 1).trans rfl; have hfz50_0 := blk_frozen BK256.out 0; have hfz50_1 := blk_frozen BK256.out 1) | (go_at_call 56; (with_reducible refine (impl_step_room.calls ((rd_T79 (rd_L5 l1 (rd x10_1 x11_1)) x39_2).f0) ((rd_T79 (rd_L5 l1 (rd x10_1 x11_1)) x39_2).f1) a0_0 _ _ l0_1 _ _ l2 t274 _ ?side1 ?side2 ?side3 ?side4 A38.out).mono ?_); (case side1 => exact (Kd.C_below HR0_1.out HB.out)); (case side2 => exact HC0_1.out); (case side3 => exact (Kd.C_below HR2.out HB.out)); (case side4 => exact HC2.out); rintro e w51 ⟨rfl, hb⟩; have n0_ := Aside0.mk (Kd.R_below HO_8.out hb); have n1_ := Aside0.mk (Kd.R_below HO_9.out hb); have n2_ := Aside0.mk (Kd.R_below HO_10.out hb); have n3_ := Aside0.mk (blk_below BK256.out hb); have n4_ := Aside0.mk (blk_below (g := gb270) (o := .cells #[.int .i64 ((rd_T79 (rd_L5 l1 (rd x10_1 x11_1)) x39_2).f0), .bool ((rd_T79 (rd_L5 l1 (rd x10_1 x11_1)) x39_2).f1)] 79 (0, 0)) BK270.out hb); have n5_ := Aside0.mk (below_step HB.out hb); clear HO_8 HO_9 HO_10 BK256 BK270 HB; have HO_8 := n0_; have HO_9 := n1_; have HO_10 := n2_; have BK256 := n3_; have BK270 := n4_; have HB := n5_; clear n0_ n1_ n2_ n3_ n4_ n5_; (try clear hb); have hcz52_0 : w51.cell? ⟨gb270, 0, none⟩ = some (.int .i64 ((rd_T79 (rd_L5 l1 (rd x10_1 x11_1)) x39_2).f0)) := (blk_cell BK270.out 0).trans rfl; have hcz52_1 : w51.cell? ⟨gb270, 1, none⟩ = some (.bool ((rd_T79 (rd_L5 l1 (rd x10_1 x11_1)) x39_2).f1)) := (blk_cell BK270.out 1).trans rfl; have hfz52_0 := blk_frozen BK270.out 0; have hfz52_1 := blk_frozen BK270.out 1; have p41 : 0 ≤ (t272 : Int) := of_decide_eq_true (by (with_reducible assumption)); have q41 : (t272 : Int) < ((x8_2.length : Int) : Int) := of_decide_eq_true (by (with_reducible assumption)); obtain ⟨go41, co41, eo41, gb41, gl41, cl41, HG41⟩ := Kd.R_form HO_8.out (by omega); (cases eo41); have GB41 := Aside0.mk gb41; have GG41 := Aside0.mk HG41; clear gb41 gl41 HG41; obtain ⟨ce41, hcl41, hM41, hcc41, hfr41⟩ := Kd.R_elem HO_8.out z79 (t272 : Int) p41 q41; obtain rfl := k79_openM hM41; have hx41_0 : w51.cell? ⟨go41, (t272 : Int).toNat * 2, none⟩ = some (.int .i64 ((rd_T79 x8_2 t272).f0)) := hcc41 0 _ rfl; have hx41_1 : w51.cell? ⟨go41, (t272 : Int).toNat * 2 + 1, none⟩ = some (.bool ((rd_T79 x8_2 t272).f1)) := hcc41 1 _ rfl; have hf41_0 : w51.frozen? ⟨go41, (t272 : Int).toNat * 2, none⟩ = false := hfr41 0; have hf41_1 : w51.frozen? ⟨go41, (t272 : Int).toNat * 2 + 1, none⟩ = false := hfr41 1; clear hcl41 hcc41 hfr41 hM41; replace p41 := eq_true p41; replace q41 := eq_true q41; have n_ := Aside0.mk (Kd.R_mono (ok' := (fun k_ => k_ ≠ gb270)) HO_8.out (fun k_ hk => hk.2)); clear HO_8; have HO_8 := n_; clear n_; have HX53 := Aside0.mk (show Kd.R k79 79 w51 w.heap.size (fun k_ => k_ ≠ gb270) (.slice (some ⟨go41, 0, none⟩) x8_2.length co41) x8_2 from HO_8.out); obtain ⟨ce53, hcl53, hM53, hcc53, hfr53⟩ := Kd.R_elem HX53.out z79 (t272 : Int) (of_decide_eq_true (by (with_reducible assumption))) (by have h_ : (t272 : Int) < ((x8_2.length : Int) : Int) := of_decide_eq_true (by (with_reducible assumption)); exact h_); obtain rfl := k79_openM hM53; have HP53 := Kd.R_seg HX53.out (t272 : Int) (of_decide_eq_true (by (with_reducible assumption))) (by have h_ : (t272 : Int) < ((x8_2.length : Int) : Int) := of_decide_eq_true (by (with_reducible assumption)); exact h_) (seg := [.int .i64 ((rd_T79 (rd_L5 l1 (rd x10_1 x11_1)) x39_2).f0), .bool ((rd_T79 (rd_L5 l1 (rd x10_1 x11_1)) x39_2).f1)]) (j := 0) hcl53 hcc53 (show 2 ≤ 2 from by decide) (x' := (⟨(rd_T79 (rd_L5 l1 (rd x10_1 x11_1)) x39_2).f0, (rd_T79 (rd_L5 l1 (rd x10_1 x11_1)) x39_2).f1⟩ : S79)) (k79_mkM _ _ _ (⟨(rd_T79 (rd_L5 l1 (rd x10_1 x11_1)) x39_2).f0, (rd_T79 (rd_L5 l1 (rd x10_1 x11_1)) x39_2).f1⟩ : S79) ) (fun _ hk => hk); have hx53_0 := hcc53 0 _ rfl; (try simp only [show (k79).sz = 2 from rfl, Nat.mul_one, Nat.add_zero] at hx53_0); have hf53_0 := hfr53 0; (try simp only [show (k79).sz = 2 from rfl, Nat.mul_one, Nat.add_zero] at hf53_0); have hx53_1 := hcc53 1 _ rfl; (try simp only [show (k79).sz = 2 from rfl, Nat.mul_one, Nat.add_zero] at hx53_1); have hf53_1 := hfr53 1; (try simp only [show (k79).sz = 2 from rfl, Nat.mul_one, Nat.add_zero] at hf53_1); clear hcl53 hcc53 hfr53 hM53) | ((with_reducible refine gate_store (t := 79) (p := 66) rfl ?_); refine store_event (t := 79) (p := 66) (v := ?vo_w54) (w1 := ((w51.setCell ⟨go41, (t272 : Int).toNat * 2, none⟩ (.int .i64 ((rd_T79 (rd_L5 l1 (rd x10_1 x11_1)) x39_2).f0))).setCell ⟨go41, (t272 : Int).toNat * 2 + 1, none⟩ (.bool ((rd_T79 (rd_L5 l1 (rd x10_1 x11_1)) x39_2).f1)))) ?hg ?ho ?hn ?hr ?_; (case ho => rfl); (case hg => rfl); (case hn => rfl); (case hr => (go_simp; done)); intro w54 hw; have hg : w51.grownBy w54 (some go41) := (by rw [hw]; exact HP53.2); have hp_ : Kd.R k79 79 w54 w.heap.size (fun k_ => k_ ≠ gb270) (.slice (some ⟨go41, 0, none⟩) x8_2.length co41) y275 := (by rw [hw, Ny275.out]; exact HP53.1); clear HP53; have n0_ := Aside0.mk (hp_); have n1_ := Aside0.mk (Kd.R_over' (v := (.slice (some ⟨go41, 0, none⟩) x8_2.length co41)) HO_9.out (Kd.R_typed HO_8.out) (by decide) hg); have n2_ := Aside0.mk (Kd.R_over' (v := (.slice (some ⟨go41, 0, none⟩) x8_2.length co41)) HO_10.out (Kd.R_typed HO_8.out) (by decide) hg); have n3_ := Aside0.mk (blk_grown (g := gb256) (o := .cells #[.int .i64 a0_0, .slice A0_1 l0_1.length c0_1] 30 (0, 0)) BK256.out hg (Kd.R_ne HO_8.out BK256.out (by decide))); have n4_ := Aside0.mk (blk_grown (g := gb270) (o := .cells #[.int .i64 ((rd_T79 (rd_L5 l1 (rd x10_1 x11_1)) x39_2).f0), .bool ((rd_T79 (rd_L5 l1 (rd x10_1 x11_1)) x39_2).f1)] 79 (0, 0)) BK270.out hg (Kd.R_away HO_8.out (fun _ hk => hk))); have n5_ := Aside0.mk ((by rw [hw]; exact below_set (below_set (HB.out) GB41.out) GB41.out : Below w.heap.size w w54)); clear HO_8 HO_9 HO_10 BK256 BK270 HB; have HO_8 := n0_; have HO_9 := n1_; have HO_10 := n2_; have BK256 := n3_; have BK270 := n4_; have HB := n5_; clear n0_ n1_ n2_ n3_ n4_ n5_ hg hw hp_; have p42 : 0 ≤ (t272 : Int) := of_decide_eq_true (by (with_reducible assumption)); have q42 : (t272 : Int) < ((x9_2.length : Int) : Int) := of_decide_eq_true (by (with_reducible assumption)); obtain ⟨hx42_0, hf42_0⟩ := Kd.R_celln false HO_9.out (t272 : Int) p42 q42; replace p42 := eq_true p42; replace q42 := eq_true q42; obtain ⟨hy55_, hz55_⟩ := Kd.R_celln false HO_9.out (t272 : Int) (of_decide_eq_true (by (with_reducible assumption))) (of_decide_eq_true (by (with_reducible assumption))); have HP55 := Kd.R_putg HO_9.out (t272 : Int) true) | ((with_reducible refine gate_store (t := 4) (p := 67) rfl ?_); refine store_event (t := 4) (p := 67) (v := ?vo_w56) (w1 := (w54.setCell ⟨go8, (t272 : Int).toNat, none⟩ (.bool true))) ?hg ?ho ?hn ?hr ?_; (case ho => rfl); (case hg => rfl); (case hn => rfl); (case hr => (go_simp; done)); intro w56 hw; have hg : w54.grownBy w56 (some go8) := (by rw [hw]; exact HP55.2); have hp_ : Kd.R Kd.bool 4 w56 w.heap.size (fun _ => True) (.slice (some ⟨go8, 0, none⟩) x9_2.length co8) y276 := (by rw [hw, Ny276.out]; exact HP55.1); clear HP55; have n0_ := Aside0.mk (Kd.R_over' (v := (.slice (some ⟨go8, 0, none⟩) x9_2.length co8)) HO_8.out (Kd.R_typed HO_9.out) (by decide) hg); have n1_ := Aside0.mk (hp_); have n2_ := Aside0.mk (Kd.R_over' (v := (.slice (some ⟨go8, 0, none⟩) x9_2.length co8)) HO_10.out (Kd.R_typed HO_9.out) (by decide) hg); have n3_ := Aside0.mk (blk_grown (g := gb256) (o := .cells #[.int .i64 a0_0, .slice A0_1 l0_1.length c0_1] 30 (0, 0)) BK256.out hg (Kd.R_ne HO_9.out BK256.out (by decide))); have n4_ := Aside0.mk (blk_grown (g := gb270) (o := .cells #[.int .i64 ((rd_T79 (rd_L5 l1 (rd x10_1 x11_1)) x39_2).f0), .bool ((rd_T79 (rd_L5 l1 (rd x10_1 x11_1)) x39_2).f1)] 79 (0, 0)) BK270.out hg (Kd.R_ne HO_9.out BK270.out (by decide))); have n5_ := Aside0.mk ((by rw [hw]; exact below_set (HB.out) GB8.out : Below w.heap.size w w56)); clear HO_8 HO_9 HO_10 BK256 BK270 HB; have HO_8 := n0_; have HO_9 := n1_; have HO_10 := n2_; have BK256 := n3_; have BK270 := n4_; have HB := n5_; clear n0_ n1_ n2_ n3_ n4_ n5_ hg hw hp_) | ((with_reducible refine gate_builtin (b := .append) (xs := #[.tmp 68, .tmp 70]) rfl ?_); at_builtin; refine Kd.R_append (Kd.int .i64) (w0 := w) w.heap.size rfl (.tmp 68) (.tmp 70) 25 3 (.int .i64 0) 8 rfl Try.underlying25 info3 rfl (by decide) (by omega) u10 x10_2 t272 [.int .i64 t272] (fun _ => True) (fun _ => False) rfl rfl ?aP (fun _ hk => hk.elim) ?aF ?aO ?aB ?aS ?aL ?_; (case aP => exact rfl); (case aB => exact HB.out); (case aF => exact (fun _ _ => trivial)); (case aO => exact HO_10.out); (case aS => exact (below_size HB.out)); (case aL => have := LMc43.out; omega); intro v278 w57 ho hb hg hat; rw [← Ny277.out] at ho; have n0_ := Aside0.mk (Kd.R_over' HO_8.out (Kd.R_typed HO_10.out) (by decide) hg); have n1_ := Aside0.mk (Kd.R_over' HO_9.out (Kd.R_typed HO_10.out) (by decide) hg); have n2_ := Aside0.mk (blk_grown (g := gb256) (o := .cells #[.int .i64 a0_0, .slice A0_1 l0_1.length c0_1] 30 (0, 0)) BK256.out hg (Kd.R_ne HO_10.out BK256.out (by decide))); have n3_ := Aside0.mk (blk_grown (g := gb270) (o := .cells #[.int .i64 ((rd_T79 (rd_L5 l1 (rd x10_1 x11_1)) x39_2).f0), .bool ((rd_T79 (rd_L5 l1 (rd x10_1 x11_1)) x39_2).f1)] 79 (0, 0)) BK270.out hg (Kd.R_ne HO_10.out BK270.out (by decide))); have n4_ := Aside0.mk (hb); have n5_ := Aside0.mk (ho); clear HO_8 HO_9 BK256 BK270 HB HO_10; have HO_8 := n0_; have HO_9 := n1_; have BK256 := n2_; have BK270 := n3_; have HB := n4_; have HO279 := n5_; clear n0_ n1_ n2_ n3_ n4_ n5_ ho hb hg hat))
                      (try simp only [← hl9_2])
                      go_roundg k2
                      case measure => have := HK1.out; have := HK2.out; omega
                      case rel => exact ⟨(y275), (y276), (y277), (wrap64 (x39_2 + 1)), (by rfl), H', ⟨by have := HK1.out; have := HK2.out; omega⟩, ⟨by exact Kd.R_mono HO_8.out (fun _ hk => trivial)⟩, ⟨by (try simp only [hl9_2]); exact HO_9.out⟩, ⟨by exact HO279.out⟩, ⟨by exact BK256.out⟩, ⟨by exact HB.out⟩⟩
                     ·rw [if_neg c43] at H
                      exact absurd H (by simp)
                    ·rw [if_neg c40] at H
                     exact absurd H (by simp)
                   ·rw [if_neg c39] at H
                    have c39b0 : decide (0 < t274) = false := decide_eq_false c39
                    clear c39
                    have H' := Aside0.mk H
                    clear H
                    have p269 : 0 ≤ (x39_2 : Int) := of_decide_eq_true (by (with_reducible assumption))
                    have q269 : x39_2 < ((rd_L5 l1 (rd x10_1 x11_1)).length : Int) := of_decide_eq_true (by (with_reducible assumption))
                    obtain ⟨ad269, e269, hx269_0, hx269_1⟩ := at_T79 HR268_0.out x39_2 p269 q269
                    (skip)
                    cases e269
                    replace hx269_0 := (HB.out.cell (World.block_lt_of_cell? w _ hx269_0)).trans hx269_0
                    replace hx269_1 := (HB.out.cell (World.block_lt_of_cell? w _ hx269_1)).trans hx269_1
                    replace p269 := eq_true p269
                    replace q269 := eq_true q269
                    go_wp2_with (first | ((with_reducible refine gate_dst (N := 13) rfl ?_); refine box_event ?hg (N := 13) ?hd (cs := #[.int .i64 0, .bool false]) (t := 79) ?hr ?_; (case hd => rfl); (case hg => rfl); (case hr => (go_simp; done)); intro gb270 hg w58 hbox hb; have n0_ := Aside0.mk (Kd.R_below (Kd.R_elderB HO_8.out gb270 (Nat.le_of_eq hg.symm)) hb); have n1_ := Aside0.mk (Kd.R_below HO_9.out hb); have n2_ := Aside0.mk (Kd.R_below HO_10.out hb); have n3_ := Aside0.mk (blk_below BK256.out hb); have n4_ := Aside0.mk (below_step HB.out hb); have n5_ := Aside0.mk (hbox); have n6_ := Aside0.mk ((by rw [hg]; exact (below_size HB.out) : w.heap.size ≤ gb270)); have n7_ := n6_; have n8_ := Aside0.mk ((by rw [hg]; exact Nat.ne_of_lt (blk_lt (g := gb256) (o := .cells #[.int .i64 a0_0, .slice A0_1 l0_1.length c0_1] 30 (0, 0)) BK256.out) : gb256 ≠ gb270)); have n9_ := Aside0.mk ((by rw [hg]; exact Nat.ne_of_gt (blk_lt (g := gb256) (o := .cells #[.int .i64 a0_0, .slice A0_1 l0_1.length c0_1] 30 (0, 0)) BK256.out) : gb270 ≠ gb256)); clear HO_8 HO_9 HO_10 BK256 HB; have HO_8 := n0_; have HO_9 := n1_; have HO_10 := n2_; have BK256 := n3_; have HB := n4_; have BK270 := n5_; have GW270 := n6_; have GE270 := n7_; have NB256_270 := n8_; have NB270_256 := n9_; clear n0_ n1_ n2_ n3_ n4_ n5_ n6_ n7_ n8_ n9_ hb hbox hg; have hnb59 := NB270_256.out; have hnc59 := NB256_270.out; have hcz60_0 : w58.cell? ⟨gb270, 0, none⟩ = some (.int .i64 0) := (blk_cell BK270.out 0).trans rfl; have hcz60_1 : w58.cell? ⟨gb270, 1, none⟩ = some (.bool false) := (blk_cell BK270.out 1).trans rfl; have hfz60_0 := blk_frozen BK270.out 0; have hfz60_1 := blk_frozen BK270.out 1; have hcz61_0 : w58.cell? ⟨gb256, 0, none⟩ = some (.int .i64 a0_0) := (blk_cell BK256.out 0).trans rfl; have hcz61_1 : w58.cell? ⟨gb256, 1, none⟩ = some (.slice A0_1 l0_1.length c0_1) := (blk_cell BK256.out 1).trans rfl; have hfz61_0 := blk_frozen BK256.out 0; have hfz61_1 := blk_frozen BK256.out 1) | ((with_reducible refine gate_callee (f := 55) rfl ?_); refine goesL_ (some 46) rfl rfl Try.func55 (by kernel_rfl) rfl #[.agg #[.int .i64 ((rd_T79 (rd_L5 l1 (rd x10_1 x11_1)) x39_2).f0), .bool ((rd_T79 (rd_L5 l1 (rd x10_1 x11_1)) x39_2).f1)], .agg #[.int .i64 a0_0, .slice A0_1 l0_1.length c0_1]] rfl (by (try simp only [List.map_toArray, List.map_cons, List.map_nil]); rfl) ?_; (with_reducible refine (impl_step_ends.calls ((rd_T79 (rd_L5 l1 (rd x10_1 x11_1)) x39_2).f0) ((rd_T79 (rd_L5 l1 (rd x10_1 x11_1)) x39_2).f1) a0_0 _ _ l0_1 t271 t272 _ ?side1 ?side2 A28.out).mono ?_); (case side1 => exact Kd.C_below HR0_1.out (by repeat ((with_reducible first | exact HB.out | refine below_set ?_ GE270.out)))); (case side2 => exact HC0_1.out); rintro e w62 ⟨rfl, hb⟩; refine ⟨_, rfl, ?_⟩; have n0_ := Aside0.mk (Kd.R_below (by exact (Kd.R_mono (Kd.R_far (p := ⟨gb270, 1, none⟩) (Kd.R_far (p := ⟨gb270, 0, none⟩) (Kd.R_mono HO_8.out (fun k_ hk => (⟨hk, hk.2⟩ : _ ∧ k_ ≠ gb270))) (fun _ hk => hk.2) (.int .i64 ((rd_T79 (rd_L5 l1 (rd x10_1 x11_1)) x39_2).f0))) (fun _ hk => hk.2) (.bool ((rd_T79 (rd_L5 l1 (rd x10_1 x11_1)) x39_2).f1))) (fun _ h_ => h_.1))) hb); have n1_ := Aside0.mk (Kd.R_below (by exact (Kd.R_mono (Kd.R_far (p := ⟨gb270, 1, none⟩) (Kd.R_far (p := ⟨gb270, 0, none⟩) (Kd.R_types HO_9.out BK270.out (by decide)) (fun _ hk => hk.2) (.int .i64 ((rd_T79 (rd_L5 l1 (rd x10_1 x11_1)) x39_2).f0))) (fun _ hk => hk.2) (.bool ((rd_T79 (rd_L5 l1 (rd x10_1 x11_1)) x39_2).f1))) (fun _ h_ => h_.1))) hb); have n2_ := Aside0.mk (Kd.R_below (by exact (Kd.R_mono (Kd.R_far (p := ⟨gb270, 1, none⟩) (Kd.R_far (p := ⟨gb270, 0, none⟩) (Kd.R_types HO_10.out BK270.out (by decide)) (fun _ hk => hk.2) (.int .i64 ((rd_T79 (rd_L5 l1 (rd x10_1 x11_1)) x39_2).f0))) (fun _ hk => hk.2) (.bool ((rd_T79 (rd_L5 l1 (rd x10_1 x11_1)) x39_2).f1))) (fun _ h_ => h_.1))) hb); have n3_ := Aside0.mk (blk_below (g := gb256) (o := .cells #[.int .i64 a0_0, .slice A0_1 l0_1.length c0_1] 30 (0, 0)) (by refine blk_far ?_ NB256_270.out _; refine blk_far ?_ NB256_270.out _; exact BK256.out) hb); have n4_ := Aside0.mk (blk_below (g := gb270) (o := .cells #[.int .i64 ((rd_T79 (rd_L5 l1 (rd x10_1 x11_1)) x39_2).f0), .bool ((rd_T79 (rd_L5 l1 (rd x10_1 x11_1)) x39_2).f1)] 79 (0, 0)) (by refine blk_put (cs := #[.int .i64 ((rd_T79 (rd_L5 l1 (rd x10_1 x11_1)) x39_2).f0), .bool false]) ?_ 1 _ rfl; refine blk_put (cs := #[.int .i64 0, .bool false]) ?_ 0 _ rfl; exact BK270.out) hb); have n5_ := Aside0.mk (below_step (by repeat ((with_reducible first | exact HB.out | refine below_set ?_ GE270.out))) hb); clear HO_8 HO_9 HO_10 BK256 BK270 HB; have HO_8 := n0_; have HO_9 := n1_; have HO_10 := n2_; have BK256 := n3_; have BK270 := n4_; have HB := n5_; clear n0_ n1_ n2_ n3_ n4_ n5_; (try clear hb); have p273 : 0 ≤ (t272 : Int) := of_decide_eq_true (by (with_reducible assumption)); have q273 : t272 < (x9_2.length : Int) := of_decide_eq_true (by (with_reducible assumption)); obtain ⟨ad273, e273, hx273_0⟩ := Kd.at_bool (Kd.R_reads' HO_9.out).2.2 t272 p273 q273; (try rw [← Nbq31.out] at hx273_0); obtain rfl : (⟨go8, 0, none⟩ : Addr) = ad273 := (by injection e273); (simp only [add_plain] at hx273_0); replace p273 := eq_true p273; replace q273 := eq_true q273; have hcz63_0 : w62.cell? ⟨gb270, 0, none⟩ = some (.int .i64 ((rd_T79 (rd_L5 l1 (rd x10_1 x11_1)) x39_2).f0)) := (blk_cell BK270.out 0).trans rfl; have hcz63_1 : w62.cell? ⟨gb270, 1, none⟩ = some (.bool ((rd_T79 (rd_L5 l1 (rd x10_1 x11_1)) x39_2).f1)) := (blk_cell BK270.out 1).trans rfl; have hfz63_0 := blk_frozen BK270.out 0; have hfz63_1 := blk_frozen BK270.out 1; have hcz64_0 : w62.cell? ⟨gb256, 0, none⟩ = some (.int .i64 a0_0) := (blk_cell BK256.out 0).trans rfl; have hcz64_1 : w62.cell? ⟨gb256, 1, none⟩ = some (.slice A0_1 l0_1.length c0_1) := (blk_cell BK256.out 1).trans rfl; have hfz64_0 := blk_frozen BK256.out 0; have hfz64_1 := blk_frozen BK256.out 1) | (go_at_call 56; (with_reducible refine (impl_step_room.calls ((rd_T79 (rd_L5 l1 (rd x10_1 x11_1)) x39_2).f0) ((rd_T79 (rd_L5 l1 (rd x10_1 x11_1)) x39_2).f1) a0_0 _ _ l0_1 _ _ l2 t274 _ ?side1 ?side2 ?side3 ?side4 A38.out).mono ?_); (case side1 => exact (Kd.C_below HR0_1.out HB.out)); (case side2 => exact HC0_1.out); (case side3 => exact (Kd.C_below HR2.out HB.out)); (case side4 => exact HC2.out); rintro e w65 ⟨rfl, hb⟩; have n0_ := Aside0.mk (Kd.R_below HO_8.out hb); have n1_ := Aside0.mk (Kd.R_below HO_9.out hb); have n2_ := Aside0.mk (Kd.R_below HO_10.out hb); have n3_ := Aside0.mk (blk_below BK256.out hb); have n4_ := Aside0.mk (blk_below (g := gb270) (o := .cells #[.int .i64 ((rd_T79 (rd_L5 l1 (rd x10_1 x11_1)) x39_2).f0), .bool ((rd_T79 (rd_L5 l1 (rd x10_1 x11_1)) x39_2).f1)] 79 (0, 0)) BK270.out hb); have n5_ := Aside0.mk (below_step HB.out hb); clear HO_8 HO_9 HO_10 BK256 BK270 HB; have HO_8 := n0_; have HO_9 := n1_; have HO_10 := n2_; have BK256 := n3_; have BK270 := n4_; have HB := n5_; clear n0_ n1_ n2_ n3_ n4_ n5_; (try clear hb)))
                    (try simp only [← hl9_2])
                    go_roundg k2
                    case measure => have := HK1.out; have := HK2.out; omega
                    case rel => exact ⟨(x8_2), (x9_2), (x10_2), (wrap64 (x39_2 + 1)), (by rfl), H', ⟨by have := HK1.out; have := HK2.out; omega⟩, ⟨by exact Kd.R_mono HO_8.out (fun _ hk => trivial)⟩, ⟨by (try simp only [hl9_2]); exact HO_9.out⟩, ⟨by exact HO_10.out⟩, ⟨by exact BK256.out⟩, ⟨by exact HB.out⟩⟩
                 ·rw [if_neg c30] at H
                  exact absurd H (by simp)
                ·rw [if_neg c29] at H
                 exact absurd H (by simp)
               ·rw [if_neg c27] at H
                exact absurd H (by simp)
              ·rw [if_neg c26] at H
               exact absurd H (by simp)
             ·rw [if_neg c25] at H
              have c25b0 : decide (x39_2 < ((rd_L5 l1 (rd x10_1 x11_1)).length : Int)) = false := decide_eq_false c25
              clear c25
              have H' := Aside0.mk H
              clear H
              go_wp2
              (try simp only [← hl9_1, ← hl9_2])
              go_roundg k2
              case measure => have := HK1.out; have := HK2.out; omega
              case rel => exact ⟨(x8_2), (x9_2), (x10_2), (wrap64 (x11_1 + 1)), (by rfl), H', ⟨by have := HK1.out; have := HK2.out; omega⟩, ⟨by exact HO_8.out⟩, ⟨by (try simp only [hl9_1]); (try simp only [hl9_2]); exact HO_9.out⟩, ⟨by exact HO_10.out⟩, ⟨by exact BK256.out⟩, ⟨by exact HB.out⟩⟩
          ·rw [if_neg c23] at H
           exact absurd H (by simp)
         ·rw [if_neg c22] at H
          exact absurd H (by simp)
        ·rw [if_neg c21] at H
         exact absurd H (by simp)
       ·rw [if_neg c20] at H
        have c20b0 : decide (x11_1 < (x10_1.length : Int)) = false := decide_eq_false c20
        clear c20
        simp only [Option.some.injEq, Prod.mk.injEq] at H
        obtain ⟨rfl, rfl⟩ := H
        obtain ⟨Ao66, co66, eo66⟩ := Kd.R_slice HO_10.out
        subst eo66
        go_wp2
        go_ret2
        exact ⟨_, _, by rfl, by exact HO_8.out, by exact HO_9.out, by exact HB.out⟩
    ·rw [if_neg c7] at H
     exact absurd H (by simp)
   ·rw [if_neg c6] at H
    exact absurd H (by simp)
  ·rw [if_neg c5] at H
   exact absurd H (by simp)
 ·rw [if_neg c4] at H
  exact absurd H (by simp)

/-! ### impl_ReachedBy: function 21 -/
def impl_ReachedBy.f (k : Nat) (a0_0 : Int) (l0_1 : List (S67)) (l1 : List Int) : Option (List Bool) := (impl_FlowOk.f k a0_0 l0_1 l1).bind fun t281 => (if t281 = true then ((impl_stepsOf.f k a0_0 l0_1).bind fun bt282 => ((impl_reach.f k a0_0 l0_1 bt282.1 l1).bind fun bt288 => (some bt288.2))) else (some ([] : List Bool)))
theorem impl_ReachedBy.mono : ∀ a0 a1 a2 k, LeO (impl_ReachedBy.f k a0 a1 a2) (impl_ReachedBy.f (k + 1) a0 a1 a2) := by
 intro a0 a1 a2 k
 unfold impl_ReachedBy.f
 repeat' first
   | (with_reducible exact impl_FlowOk.mono _ _ _ _)
   | (with_reducible exact impl_reach.mono _ _ _ _ _)
   | (with_reducible exact impl_stepsOf.mono _ _ _)
   | (with_reducible exact LeO.refl _)
   | (with_reducible refine LeO.ite ?_ ?_)
   | (with_reducible refine LeO.bind ?_ (fun _ => ?_))
set_option maxHeartbeats 8000000 in
set_option maxRecDepth 100000 in
theorem impl_ReachedBy.calls (k : Nat) (a0_0 : Int) (A0_1 : Option Addr) (c0_1 : Nat) (l0_1 : List (S67)) (A1 : Option Addr) (c1 : Nat) (l1 : List Int) (r : List Bool) (w : World) (hr0_1 : Kd.C k67 w A0_1 l0_1.length l0_1) (hc0_1 : l0_1.length ≤ c0_1) (hr1 : Kd.C (Kd.int .i64) w A1 l1.length l1) (hc1 : l1.length ≤ c1) (h : impl_ReachedBy.f k a0_0 l0_1 l1 = some r) :
  Calls Try.prog 21 #[.agg #[.int .i64 a0_0, .slice A0_1 l0_1.length c0_1], .slice A1 l1.length c1] w fun e w' => ∃ v0_ : Value, e = .returned (v0_) ∧ Kd.R Kd.bool 4 w' w.heap.size (fun _ => True) v0_ r ∧ Below w.heap.size w w' := by
 have hu30 := Try.underlying30
 have HR0_1 := Aside0.mk hr0_1
 have HC0_1 := Aside0.mk hc0_1
 clear hr0_1 hc0_1
 have HR1 := Aside0.mk hr1
 have HC1 := Aside0.mk hc1
 clear hr1 hc1
 have HB := Aside0.mk (Below.refl w.heap.size w)
 have H : ((impl_FlowOk.f k a0_0 l0_1 l1).bind fun t281 => (if t281 = true then ((impl_stepsOf.f k a0_0 l0_1).bind fun bt282 => ((impl_reach.f k a0_0 l0_1 bt282.1 l1).bind fun bt288 => (some bt288.2))) else (some ([] : List Bool)))) = some r := h
 clear h
 replace H := Option.bind_eq_some_iff.mp H
 obtain ⟨t281, A30, H⟩ := H
 replace H : (if t281 = true then ((impl_stepsOf.f k a0_0 l0_1).bind fun bt282 => ((impl_reach.f k a0_0 l0_1 bt282.1 l1).bind fun bt288 => (some bt288.2))) else (some ([] : List Bool))) = some r := H
 have A3 := Aside0.mk A30
 clear A30
 by_cases c4 : t281 = true
 ·subst c4
  have H1 : ((impl_stepsOf.f k a0_0 l0_1).bind fun bt282 => ((impl_reach.f k a0_0 l0_1 bt282.1 l1).bind fun bt288 => (some bt288.2))) = some r := by rw [if_pos rfl] at H; exact H
  clear H
  have H := H1
  clear H1
  replace H := Option.bind_eq_some_iff.mp H
  obtain ⟨⟨t282, t285⟩, A50, H⟩ := H
  replace H : ((impl_reach.f k a0_0 l0_1 t282 l1).bind fun bt288 => (some bt288.2)) = some r := H
  have A5 := Aside0.mk A50
  clear A50
  replace H := Option.bind_eq_some_iff.mp H
  obtain ⟨⟨t288, t291⟩, A60, H⟩ := H
  replace H : (some t291) = some r := H
  have A6 := Aside0.mk A60
  clear A60
  obtain rfl := Option.some.inj H
  go_enter Try.func21, Try.ntmps21
  go_wp2_with (first | ((with_reducible refine gate_dst (N := 2) rfl ?_); refine box_event ?hg (N := 2) ?hd (cs := #[.int .i64 a0_0, .slice A0_1 l0_1.length c0_1]) (t := 30) ?hr ?_; (case hd => rfl); (case hg => rfl); (case hr => (go_simp; done)); intro gb280 hg w7 hbox hb; have n0_ := Aside0.mk (below_step HB.out hb); have n1_ := Aside0.mk (hbox); have n2_ := Aside0.mk ((by rw [hg]; exact (below_size HB.out) : w.heap.size ≤ gb280)); have n3_ := n2_; clear HB; have HB := n0_; have BK280 := n1_; have GW280 := n2_; have GE280 := n3_; clear n0_ n1_ n2_ n3_ hb hbox hg; have hcz8_0 : w7.cell? ⟨gb280, 0, none⟩ = some (.int .i64 a0_0) := (blk_cell BK280.out 0).trans rfl; have hcz8_1 : w7.cell? ⟨gb280, 1, none⟩ = some (.slice A0_1 l0_1.length c0_1) := (blk_cell BK280.out 1).trans rfl; have hfz8_0 := blk_frozen BK280.out 0; have hfz8_1 := blk_frozen BK280.out 1) | ((with_reducible refine gate_callee (f := 31) rfl ?_); refine goesL_ (some 11) rfl rfl Try.func31 (by kernel_rfl) rfl #[.agg #[.int .i64 a0_0, .slice A0_1 l0_1.length c0_1], .slice A1 l1.length c1] rfl (by (try simp only [List.map_toArray, List.map_cons, List.map_nil]); rfl) ?_; (with_reducible refine (impl_FlowOk.calls k a0_0 _ _ l0_1 _ _ l1 true _ ?side1 ?side2 ?side3 ?side4 A3.out).mono ?_); (case side1 => exact (Kd.C_below HR0_1.out HB.out)); (case side2 => exact HC0_1.out); (case side3 => exact (Kd.C_below HR1.out HB.out)); (case side4 => exact HC1.out); rintro e w9 ⟨rfl, hb⟩; refine ⟨_, rfl, ?_⟩; have n0_ := Aside0.mk (blk_below BK280.out hb); have n1_ := Aside0.mk (below_step HB.out hb); clear BK280 HB; have BK280 := n0_; have HB := n1_; clear n0_ n1_; (try clear hb); have hcz10_0 : w9.cell? ⟨gb280, 0, none⟩ = some (.int .i64 a0_0) := (blk_cell BK280.out 0).trans rfl; have hcz10_1 : w9.cell? ⟨gb280, 1, none⟩ = some (.slice A0_1 l0_1.length c0_1) := (blk_cell BK280.out 1).trans rfl; have hfz10_0 := blk_frozen BK280.out 0; have hfz10_1 := blk_frozen BK280.out 1) | ((with_reducible refine gate_callee (f := 49) rfl ?_); refine goesL_ (some 15) rfl rfl Try.func49 (by kernel_rfl) rfl #[.agg #[.int .i64 a0_0, .slice A0_1 l0_1.length c0_1]] rfl (by (try simp only [List.map_toArray, List.map_cons, List.map_nil]); rfl) ?_; (with_reducible refine (impl_stepsOf.calls k a0_0 _ _ l0_1 t282 t285 _ ?side1 ?side2 A5.out).mono ?_); (case side1 => exact (Kd.C_below HR0_1.out HB.out)); (case side2 => exact HC0_1.out); rintro e w11 ⟨v283, v286, rfl, ho0, ho1, hb⟩; refine ⟨_, rfl, ?_⟩; have n0_ := Aside0.mk (Kd.S_lower ho0 (below_size HB.out)); have n1_ := Aside0.mk (Kd.S_lower ho1 (below_size HB.out)); have n2_ := Aside0.mk (blk_below BK280.out hb); have n3_ := Aside0.mk (below_step HB.out hb); clear BK280 HB; have HO284 := n0_; have HO287 := n1_; have BK280 := n2_; have HB := n3_; clear n0_ n1_ n2_ n3_; (try clear hb); (try clear ho0); (try clear ho1); have hcz12_0 : w11.cell? ⟨gb280, 0, none⟩ = some (.int .i64 a0_0) := (blk_cell BK280.out 0).trans rfl; have hcz12_1 : w11.cell? ⟨gb280, 1, none⟩ = some (.slice A0_1 l0_1.length c0_1) := (blk_cell BK280.out 1).trans rfl; have hfz12_0 := blk_frozen BK280.out 0; have hfz12_1 := blk_frozen BK280.out 1; obtain ⟨Ao13, co13, eo13⟩ := Kd.S_slice HO284.out; subst eo13) | ((with_reducible refine gate_callee (f := 50) rfl ?_); refine goesL_ (some 22) rfl rfl Try.func50 (by kernel_rfl) rfl #[.agg #[.int .i64 a0_0, .slice A0_1 l0_1.length c0_1], .slice Ao13 t282.length co13, .slice A1 l1.length c1] rfl (by (try simp only [List.map_toArray, List.map_cons, List.map_nil]); rfl) ?_; (with_reducible refine (impl_reach.calls k a0_0 _ _ l0_1 _ _ t282 _ _ l1 t288 t291 _ ?side1 ?side2 ?side3 ?side4 ?side5 ?side6 A6.out).mono ?_); (case side1 => exact (Kd.C_below HR0_1.out HB.out)); (case side2 => exact HC0_1.out); (case side3 => repeat (exact (Kd.S_reads' HO284.out).2.2)); (case side4 => exact (Kd.S_reads' HO284.out).2.1); (case side5 => exact (Kd.C_below HR1.out HB.out)); (case side6 => exact HC1.out); rintro e w14 ⟨v289, v292, rfl, ho0, ho1, hb⟩; refine ⟨_, rfl, ?_⟩; have n0_ := Aside0.mk (Kd.S_elder' HO284.out (Kd.R_base ho0) hb); have n1_ := Aside0.mk (Kd.S_elder' HO287.out (Kd.R_base ho0) hb); have n2_ := Aside0.mk (Kd.R_lower ho0 (below_size HB.out)); have n3_ := Aside0.mk (Kd.R_lower ho1 (below_size HB.out)); have n4_ := Aside0.mk (blk_below BK280.out hb); have n5_ := Aside0.mk (below_step HB.out hb); clear HO284 HO287 BK280 HB; have HO284 := n0_; have HO287 := n1_; have HO290 := n2_; have HO293 := n3_; have BK280 := n4_; have HB := n5_; clear n0_ n1_ n2_ n3_ n4_ n5_; (try clear hb); (try clear ho0); (try clear ho1)))
  go_ret
  exact ⟨_, by rfl, by exact HO293.out, by exact HB.out⟩
 ·replace c4 := Bool.eq_false_iff.mpr c4
  subst c4
  have H1 : (some ([] : List Bool)) = some r := by rw [if_neg (show ¬ (false = true) by decide)] at H; exact H
  clear H
  have H := H1
  clear H1
  obtain rfl := Option.some.inj H
  go_enter Try.func21, Try.ntmps21
  go_wp2_with (first | ((with_reducible refine gate_dst (N := 2) rfl ?_); refine box_event ?hg (N := 2) ?hd (cs := #[.int .i64 a0_0, .slice A0_1 l0_1.length c0_1]) (t := 30) ?hr ?_; (case hd => rfl); (case hg => rfl); (case hr => (go_simp; done)); intro gb280 hg w15 hbox hb; have n0_ := Aside0.mk (below_step HB.out hb); have n1_ := Aside0.mk (hbox); have n2_ := Aside0.mk ((by rw [hg]; exact (below_size HB.out) : w.heap.size ≤ gb280)); have n3_ := n2_; clear HB; have HB := n0_; have BK280 := n1_; have GW280 := n2_; have GE280 := n3_; clear n0_ n1_ n2_ n3_ hb hbox hg; have hcz16_0 : w15.cell? ⟨gb280, 0, none⟩ = some (.int .i64 a0_0) := (blk_cell BK280.out 0).trans rfl; have hcz16_1 : w15.cell? ⟨gb280, 1, none⟩ = some (.slice A0_1 l0_1.length c0_1) := (blk_cell BK280.out 1).trans rfl; have hfz16_0 := blk_frozen BK280.out 0; have hfz16_1 := blk_frozen BK280.out 1) | ((with_reducible refine gate_callee (f := 31) rfl ?_); refine goesL_ (some 11) rfl rfl Try.func31 (by kernel_rfl) rfl #[.agg #[.int .i64 a0_0, .slice A0_1 l0_1.length c0_1], .slice A1 l1.length c1] rfl (by (try simp only [List.map_toArray, List.map_cons, List.map_nil]); rfl) ?_; (with_reducible refine (impl_FlowOk.calls k a0_0 _ _ l0_1 _ _ l1 false _ ?side1 ?side2 ?side3 ?side4 A3.out).mono ?_); (case side1 => exact (Kd.C_below HR0_1.out HB.out)); (case side2 => exact HC0_1.out); (case side3 => exact (Kd.C_below HR1.out HB.out)); (case side4 => exact HC1.out); rintro e w17 ⟨rfl, hb⟩; refine ⟨_, rfl, ?_⟩; have n0_ := Aside0.mk (blk_below BK280.out hb); have n1_ := Aside0.mk (below_step HB.out hb); clear BK280 HB; have BK280 := n0_; have HB := n1_; clear n0_ n1_; (try clear hb)))
  go_ret
  exact ⟨_, by rfl, by exact Kd.R_nil _ _ _ _ _, by exact HB.out⟩

end Go.Proofs.Ytgkpgigoonhgdaa.PFnExactReachedBy
