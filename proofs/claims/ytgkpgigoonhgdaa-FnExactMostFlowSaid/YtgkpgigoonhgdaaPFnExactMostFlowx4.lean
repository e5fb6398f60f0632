-- Made by the session's wip/pp.py, a changed call of the kit's printer; Lean checks it.
import Derived.Test.YtgkpgigoonhgdaaPFnExactMostFlowx0
namespace Go.Proofs.Ytgkpgigoonhgdaa.PFnExactMostFlow
open Go.RowKit Go.Proofs.YtgkpgigoonhgdaaW.PrintWords Go.Proofs.YtgkpgigoonhgdaaW.PrintLast Go.Proofs.YtgkpgigoonhgdaaW.PrintMore
attribute [local go_sem] max2_int min2_int max_two min_two max_three min_three max_four min_four   -- for this text's walks alone
set_option linter.unusedVariables false
set_option linter.unusedSimpArgs false

abbrev fl4_0_ : Array Bool := #[false, false, false, false, false, false, false, false, false, false, false, false, false, false, false, false, false, false, false, false, false, false, false]
abbrev fl4_1_ : Array Bool := #[true, false, false, false, false, false, false, false, false, false, false, false, false, false, false, false, false, false, false, false, false, false, false]
abbrev fl4_2_ : Array Bool := #[true, true, false, false, false, false, false, false, false, false, false, false, false, false, false, false, false, false, false, false, false, false, false]
abbrev fl4_3_ : Array Bool := #[true, true, false, true, false, false, false, false, false, false, false, false, false, false, false, false, false, false, false, false, false, false, false]
abbrev fl4_4_ : Array Bool := #[true, true, false, true, false, false, false, true, false, false, false, false, false, false, false, false, false, false, false, false, false, false, false]
abbrev fl4_5_ : Array Bool := #[true, true, false, true, false, false, false, true, true, false, false, false, false, false, false, false, false, false, false, false, false, false, false]
abbrev fl4_6_ : Array Bool := #[true, true, false, true, false, false, false, true, true, false, true, false, false, false, false, false, false, false, false, false, false, false, false]
abbrev fl4_7_ : Array Bool := #[true, true, false, true, false, false, false, true, true, false, true, false, false, false, false, false, true, false, false, false, false, false, false]
abbrev fl4_8_ : Array Bool := #[true, true, false, true, false, false, false, true, true, false, true, false, false, false, false, false, true, true, false, false, false, false, false]
abbrev fl4_9_ : Array Bool := #[true, true, false, true, false, false, false, true, true, false, true, false, false, false, false, false, true, true, true, false, false, false, false]
abbrev fl4_10_ : Array Bool := #[true, true, true, true, false, false, false, true, true, false, true, false, false, false, false, false, true, true, true, false, false, false, false]
abbrev fl4_11_ : Array Bool := #[true, true, true, true, true, false, false, true, true, false, true, false, false, false, false, false, true, true, true, false, false, false, false]
abbrev fl4_12_ : Array Bool := #[true, true, true, true, true, true, false, true, true, false, true, false, false, false, false, false, true, true, true, false, false, false, false]
abbrev fl4_13_ : Array Bool := #[true, true, true, true, true, true, true, true, true, false, true, false, false, false, false, false, true, true, true, false, false, false, false]
abbrev fl4_14_ : Array Bool := #[true, true, true, true, true, true, true, true, true, true, true, false, false, false, false, false, true, true, true, false, false, false, false]
abbrev fl4_15_ : Array Bool := #[true, true, true, true, true, true, true, true, true, true, true, true, false, false, false, false, true, true, true, false, false, false, false]
abbrev fl4_16_ : Array Bool := #[true, true, true, true, true, true, true, true, true, true, true, true, true, false, false, false, true, true, true, false, false, false, false]
abbrev fl4_17_ : Array Bool := #[true, true, true, true, true, true, true, true, true, true, true, true, true, true, false, false, true, true, true, false, false, false, false]
abbrev fl4_18_ : Array Bool := #[true, true, true, true, true, true, true, true, true, true, true, true, true, true, true, false, true, true, true, false, false, false, false]
abbrev fl4_19_ : Array Bool := #[true, true, true, true, true, true, true, true, true, true, true, true, true, true, true, true, true, true, true, false, false, false, false]
abbrev fl4_20_ : Array Bool := #[true, true, true, true, true, true, true, true, true, true, true, true, true, true, true, true, true, true, true, true, false, false, false]
abbrev fl4_21_ : Array Bool := #[true, true, true, true, true, true, true, true, true, true, true, true, true, true, true, true, true, true, true, true, true, false, false]
abbrev fl4_22_ : Array Bool := #[true, true, true, true, true, true, true, true, true, true, true, true, true, true, true, true, true, true, true, true, true, true, false]
abbrev fl4_23_ : Array Bool := #[true, true, true, true, true, true, true, true, true, true, true, true, true, true, true, true, true, true, true, true, true, true, true]
/-! ### spec_l06Out: function 63 -/
def spec_l06Out.l0 : Nat → List Int → List Int → Int → Int → List (S67) → Option (List Int)
 | 0, _, _, _, _, _ => none
 | k + 1, x1, x5, x6, x149000, x149001 => if x6 < (x1.length : Int) then (if 0 ≤ x6 then (if x6 < (x149001.length : Int) then (if 0 ≤ ((rd_T67 x149001 x6).f0) then (if ((rd_T67 x149001 x6).f0) < (x5.length : Int) then ((some (x5.set (((rd_T67 x149001 x6).f0) : Int).toNat (wrap64 ((rd x5 ((rd_T67 x149001 x6).f0)) + (rd x1 x6))) : List Int)).bind fun y156 => (if 0 ≤ ((rd_T67 x149001 x6).f1) then (if ((rd_T67 x149001 x6).f1) < (x5.length : Int) then (spec_l06Out.l0 k x1 (y156.set (((rd_T67 x149001 x6).f1) : Int).toNat (wrap64 ((rd y156 ((rd_T67 x149001 x6).f1)) - (rd x1 x6)))) (wrap64 (x6 + 1)) x149000 x149001) else (none)) else (none))) else (none)) else (none)) else (none)) else (none)) else (some x5)
def spec_l06Out.f (k : Nat) (a0_0 : Int) (l0_1 : List (S67)) (l1 : List Int) : Option (List Int) := if 0 ≤ a0_0 then (if (a0_0 : Int).toNat ≤ 35184372088832 then (spec_l06Out.l0 k l1 (List.replicate (a0_0 : Int).toNat 0) 0 a0_0 l0_1) else (none)) else (none)
theorem spec_l06Out.mono_l : ∀ k, (∀ y0 y1 y2 y3 y4, LeO (spec_l06Out.l0 k y0 y1 y2 y3 y4) (spec_l06Out.l0 (k + 1) y0 y1 y2 y3 y4))
 | 0 => fun _ _ _ _ _ r h => by simp [spec_l06Out.l0] at h
 | k + 1 => by
  have ih0 := spec_l06Out.mono_l k
  ·intro y0 y1 y2 y3 y4
   unfold spec_l06Out.l0
   repeat' first
   | (with_reducible exact ih0 _ _ _ _ _)
   | (with_reducible exact LeO.refl _)
   | (with_reducible refine LeO.ite ?_ ?_)
   | (with_reducible refine LeO.bind ?_ (fun _ => ?_))
theorem spec_l06Out.mono : ∀ a0 a1 a2 k, LeO (spec_l06Out.f k a0 a1 a2) (spec_l06Out.f (k + 1) a0 a1 a2) := by
 intro a0 a1 a2 k
 have ih0 := spec_l06Out.mono_l k
 unfold spec_l06Out.f
 repeat' first
   | (with_reducible exact ih0 _ _ _ _ _)
   | (with_reducible exact LeO.refl _)
   | (with_reducible refine LeO.ite ?_ ?_)
def spec_l06Out.T5 : Bool × List (List Nat × List Nat) := (true, [([], []), ([], []), ([1], [1]), ([], []), ([2, 3], [2, 3]), ([4], [4]), ([5], [5]), ([], []), ([], []), ([8], [8]), ([], []), ([9, 10], [9, 10]), ([11], [11]), ([12], [12]), ([7, 13], [7, 13]), ([14], [14]), ([], []), ([], []), ([16, 17], [16, 17]), ([18], [18]), ([15, 19], [15, 19]), ([0, 6, 0, 1, 2, 3, 4, 5, 6, 7, 8, 9, 10, 11, 12, 13, 14, 15, 16, 17, 18, 19, 20], [0, 6]), ([21, 20, 0, 1, 2, 3, 4, 5, 6, 7, 8, 9, 10, 11, 12, 13, 14, 15, 16, 17, 18, 19, 20], [20, 21])])
def spec_l06Out.B5 : List Nat := [0, 0, 2, 0, 14, 30, 62, 0, 0, 256, 0, 1792, 3840, 7936, 16256, 32640, 0, 0, 196608, 458752, 1048448, 2097151, 4194303]
theorem spec_l06Out.tab5 : rtab .any (opsOf Try.f63 5) = spec_l06Out.T5 := by kernel_rfl
theorem spec_l06Out.bits5 : waitsOk spec_l06Out.T5.2 spec_l06Out.B5 = true := by kernel_rfl
def spec_l06Out.T6 : Bool × List (List Nat × List Nat) := (true, [([], []), ([], []), ([1], [1]), ([], []), ([2, 3], [2, 3]), ([4], [4]), ([5], [5]), ([], []), ([], []), ([8], [8]), ([], []), ([9, 10], [9, 10]), ([11], [11]), ([12], [12]), ([7, 13], [7, 13]), ([14], [14]), ([], []), ([], []), ([16, 17], [16, 17]), ([18], [18]), ([15, 19], [15, 19]), ([0, 6, 0, 1, 2, 3, 4, 5, 6, 7, 8, 9, 10, 11, 12, 13, 14, 15, 16, 17, 18, 19, 20], [0, 6]), ([21, 20, 0, 1, 2, 3, 4, 5, 6, 7, 8, 9, 10, 11, 12, 13, 14, 15, 16, 17, 18, 19, 20], [20, 21])])
def spec_l06Out.B6 : List Nat := [0, 0, 2, 0, 14, 30, 62, 0, 0, 256, 0, 1792, 3840, 7936, 16256, 32640, 0, 0, 196608, 458752, 1048448, 2097151, 4194303]
theorem spec_l06Out.tab6 : rtab .any (opsOf Try.f63 6) = spec_l06Out.T6 := by kernel_rfl
theorem spec_l06Out.bits6 : waitsOk spec_l06Out.T6.2 spec_l06Out.B6 = true := by kernel_rfl
set_option maxHeartbeats 8000000 in
set_option maxRecDepth 100000 in
theorem spec_l06Out.calls (k : Nat) (a0_0 : Int) (A0_1 : Option Addr) (c0_1 : Nat) (l0_1 : List (S67)) (A1 : Option Addr) (c1 : Nat) (l1 : List Int) (r : List Int) (w : World) (hr0_1 : Kd.C k67 w A0_1 l0_1.length l0_1) (hc0_1 : l0_1.length ≤ c0_1) (hr1 : Kd.C (Kd.int .i64) w A1 l1.length l1) (hc1 : l1.length ≤ c1) (h : spec_l06Out.f k a0_0 l0_1 l1 = some r) :
  Calls Try.prog 63 #[.agg #[.int .i64 a0_0, .slice A0_1 l0_1.length c0_1], .slice A1 l1.length c1] w fun e w' => ∃ v0_ : Value, e = .returned (v0_) ∧ Kd.R (Kd.int .i64) 3 w' w.heap.size (fun _ => True) v0_ r ∧ Below w.heap.size w w' := by
 have hu30 := Try.underlying30
 have HR0_1 := Aside0.mk hr0_1
 have HC0_1 := Aside0.mk hc0_1
 clear hr0_1 hc0_1
 have HR1 := Aside0.mk hr1
 have HC1 := Aside0.mk hc1
 clear hr1 hc1
 have HB := Aside0.mk (Below.refl w.heap.size w)
 have H : (if 0 ≤ a0_0 then (if (a0_0 : Int).toNat ≤ 35184372088832 then (spec_l06Out.l0 k l1 (List.replicate (a0_0 : Int).toNat 0) 0 a0_0 l0_1) else (none)) else (none)) = some r := h
 clear h
 by_cases c3 : 0 ≤ a0_0
 ·rw [if_pos c3] at H
  have c3b0 := eq_true c3
  have c3b1 : decide (0 ≤ a0_0) = true := decide_eq_true c3
  clear c3
  by_cases c4 : (a0_0 : Int).toNat ≤ 35184372088832
  ·rw [if_pos c4] at H
   have c4b0 := eq_true c4
   have c4b1 : decide ((a0_0 : Int).toNat ≤ 35184372088832) = true := decide_eq_true c4
   clear c4
   obtain ⟨y149, hy149⟩ : ∃ y_ : List Int, y_ = (List.replicate (a0_0 : Int).toNat 0) := ⟨_, rfl⟩
   replace H : (spec_l06Out.l0 k l1 y149 0 a0_0 l0_1) = some r := by (rw [hy149]; with_reducible exact H)
   have Ny149 := Aside0.mk hy149
   clear hy149
   have H' := Aside0.mk H
   clear H
   go_enter Try.func63, Try.ntmps63
   go_wp2_with (first | ((with_reducible refine gate_dst (N := 2) rfl ?_); refine box_event ?hg (N := 2) ?hd (cs := #[.int .i64 a0_0, .slice A0_1 l0_1.length c0_1]) (t := 30) ?hr ?_; (case hd => rfl); (case hg => rfl); (case hr => (go_simp; done)); intro gb148 hg w5 hbox hb; have n0_ := Aside0.mk (below_step HB.out hb); have n1_ := Aside0.mk (hbox); have n2_ := Aside0.mk ((by rw [hg]; exact (below_size HB.out) : w.heap.size ≤ gb148)); have n3_ := n2_; clear HB; have HB := n0_; have BK148 := n1_; have GW148 := n2_; have GE148 := n3_; clear n0_ n1_ n2_ n3_ hb hbox hg; have hcz6_0 : w5.cell? ⟨gb148, 0, none⟩ = some (.int .i64 a0_0) := (blk_cell BK148.out 0).trans rfl; have hcz6_1 : w5.cell? ⟨gb148, 1, none⟩ = some (.slice A0_1 l0_1.length c0_1) := (blk_cell BK148.out 1).trans rfl; have hfz6_0 := blk_frozen BK148.out 0; have hfz6_1 := blk_frozen BK148.out 1) | ((with_reducible refine gate_dst (N := 9) rfl ?_); refine Kd.R_make (Kd.int .i64) _ 3 rfl (N := 9) rfl 25 _ _ rfl a0_0 rfl rfl Try.underlying25 (.int .i64 0) 8 info3 rfl (by decide) (by omega) 0 (ok := fun _ => True) (okp := fun _ => True) rfl (fun _ hk => hk) trivial (of_decide_eq_true (by (with_reducible assumption))) (Nat.le_trans (Nat.mul_le_mul_right _ (of_decide_eq_true (by (with_reducible assumption)) : a0_0.toNat ≤ 35184372088832)) (by omega)) (Below.refl _ _) (Nat.le_refl _) ?_; intro v150 w7 ho8 hb hg_ hnew_; clear hg_ hnew_; (rw [← Ny149.out] at ho8); have n0_ := Aside0.mk (Kd.R_lower ho8 (below_size HB.out)); have n1_ := Aside0.mk (blk_below BK148.out hb); have n2_ := Aside0.mk (below_step HB.out hb); clear BK148 HB; have HO151 := n0_; have BK148 := n1_; have HB := n2_; clear n0_ n1_ n2_ hb ho8))
   go_loopg [6] k (fun kq v6 w' => ∃ (x5_1 : List Int) (x6_1 : Int), v6 = .int .i64 x6_1 ∧ Aside0 (spec_l06Out.l0 kq l1 x5_1 x6_1 a0_0 l0_1 = some r) ∧ Aside0 (kq ≤ k) ∧ Aside0 (Kd.R (Kd.int .i64) 3 w' w.heap.size (fun _ => True) v150 x5_1) ∧ Aside0 (w'.heap[gb148]? = some (.cells #[.int .i64 a0_0, (.slice A0_1 l0_1.length c0_1)] 30 (0, 0))) ∧ Aside0 (Below w.heap.size w w'))
   case atStart => exact ⟨(y149), (0), (by rfl), H', ⟨Nat.le_refl _⟩, ⟨by exact HO151.out⟩, ⟨by exact BK148.out⟩, ⟨by exact HB.out⟩⟩
   case round =>
    clear H'
    try clear c1
    try clear p2
    try clear c3
    try clear c3b0
    try clear c3b1
    try clear c4
    try clear c4b0
    try clear c4b1
    try clear c6
    try clear hcz6_0
    try clear hcz6_1
    try clear hfz6_0
    try clear hfz6_1
    obtain ⟨x5_1, x6_1, rfl, HA, HK1, HO_5, BK148, HB⟩ := hrel
    cases gk with
    | zero => exact absurd HA.out (by simp [spec_l06Out.l0])
    | succ k1 =>
     have H := HA.out
     clear HA
     simp only [spec_l06Out.l0] at H
     by_cases c9 : x6_1 < (l1.length : Int)
     ·rw [if_pos c9] at H
      have c9b0 : decide (x6_1 < (l1.length : Int)) = true := decide_eq_true c9
      clear c9
      by_cases c10 : 0 ≤ x6_1
      ·rw [if_pos c10] at H
       have c10b0 : decide (0 ≤ x6_1) = true := decide_eq_true c10
       clear c10
       by_cases c11 : x6_1 < (l0_1.length : Int)
       ·rw [if_pos c11] at H
        have c11b0 : decide (x6_1 < (l0_1.length : Int)) = true := decide_eq_true c11
        clear c11
        by_cases c12 : 0 ≤ ((rd_T67 l0_1 x6_1).f0)
        ·rw [if_pos c12] at H
         have c12b0 : decide (0 ≤ ((rd_T67 l0_1 x6_1).f0)) = true := decide_eq_true c12
         clear c12
         by_cases c13 : ((rd_T67 l0_1 x6_1).f0) < (x5_1.length : Int)
         ·rw [if_pos c13] at H
          have c13b0 : decide (((rd_T67 l0_1 x6_1).f0) < (x5_1.length : Int)) = true := decide_eq_true c13
          clear c13
          obtain ⟨y156, hy156⟩ : ∃ y_ : List Int, y_ = (x5_1.set (((rd_T67 l0_1 x6_1).f0) : Int).toNat (wrap64 ((rd x5_1 ((rd_T67 l0_1 x6_1).f0)) + (rd l1 x6_1)))) := ⟨_, rfl⟩
          replace H : (if 0 ≤ ((rd_T67 l0_1 x6_1).f1) then (if ((rd_T67 l0_1 x6_1).f1) < (x5_1.length : Int) then (spec_l06Out.l0 k1 l1 (y156.set (((rd_T67 l0_1 x6_1).f1) : Int).toNat (wrap64 ((rd y156 ((rd_T67 l0_1 x6_1).f1)) - (rd l1 x6_1)))) (wrap64 (x6_1 + 1)) a0_0 l0_1) else (none)) else (none)) = some r := by (have H2_ := (Option.bind_some _ _).symm.trans H; rw [hy156]; with_reducible exact H2_)
          have Ny156 := Aside0.mk hy156
          clear hy156
          by_cases c15 : 0 ≤ ((rd_T67 l0_1 x6_1).f1)
          ·rw [if_pos c15] at H
           have c15b0 : decide (0 ≤ ((rd_T67 l0_1 x6_1).f1)) = true := decide_eq_true c15
           clear c15
           by_cases c16 : ((rd_T67 l0_1 x6_1).f1) < (x5_1.length : Int)
           ·rw [if_pos c16] at H
            have c16b0 : decide (((rd_T67 l0_1 x6_1).f1) < (x5_1.length : Int)) = true := decide_eq_true c16
            clear c16
            obtain ⟨y161, hy161⟩ : ∃ y_ : List Int, y_ = (y156.set (((rd_T67 l0_1 x6_1).f1) : Int).toNat (wrap64 ((rd y156 ((rd_T67 l0_1 x6_1).f1)) - (rd l1 x6_1)))) := ⟨_, rfl⟩
            replace H : (spec_l06Out.l0 k1 l1 y161 (wrap64 (x6_1 + 1)) a0_0 l0_1) = some r := by (rw [hy161]; with_reducible exact H)
            have Ny161 := Aside0.mk hy161
            clear hy161
            have H' := Aside0.mk H
            clear H
            try go_wp2
            have n0_ := Aside0.mk (Kd.R_drew HO_5.out)
            have n1_ := Aside0.mk (blk_drew BK148.out)
            have n2_ := Aside0.mk (below_drew1 HB.out)
            clear HO_5
            clear BK148
            clear HB
            have HO_5 := n0_
            have BK148 := n1_
            have HB := n2_
            clear n0_ n1_ n2_
            have p152 : 0 ≤ (x6_1 : Int) := of_decide_eq_true (by (with_reducible assumption))
            have q152 : x6_1 < (l0_1.length : Int) := of_decide_eq_true (by (with_reducible assumption))
            obtain ⟨ad152, e152, hx152_0, hx152_1, hx152_2, hx152_3⟩ := at_T67 HR0_1.out x6_1 p152 q152
            have hw152_3 := hx152_3
            have hw152_2 := hx152_2
            have hw152_1 := hx152_1
            have hw152_0 := hx152_0
            cases e152
            replace hx152_0 := (HB.out.cell (World.block_lt_of_cell? w _ hx152_0)).trans hx152_0
            replace hx152_1 := (HB.out.cell (World.block_lt_of_cell? w _ hx152_1)).trans hx152_1
            replace hx152_2 := (HB.out.cell (World.block_lt_of_cell? w _ hx152_2)).trans hx152_2
            replace hx152_3 := (HB.out.cell (World.block_lt_of_cell? w _ hx152_3)).trans hx152_3
            replace p152 := eq_true p152
            replace q152 := eq_true q152
            have p153 : 0 ≤ (x6_1 : Int) := of_decide_eq_true (by (with_reducible assumption))
            have q153 : x6_1 < (l0_1.length : Int) := of_decide_eq_true (by (with_reducible assumption))
            obtain ⟨ad153, e153, hx153_0, hx153_1, hx153_2, hx153_3⟩ := at_T67 HR0_1.out x6_1 p153 q153
            have hw153_3 := hx153_3
            have hw153_2 := hx153_2
            have hw153_1 := hx153_1
            have hw153_0 := hx153_0
            obtain rfl : ad152 = ad153 := (by injection e153)
            replace hx153_0 := (HB.out.cell (World.block_lt_of_cell? w _ hx153_0)).trans hx153_0
            replace hx153_1 := (HB.out.cell (World.block_lt_of_cell? w _ hx153_1)).trans hx153_1
            replace hx153_2 := (HB.out.cell (World.block_lt_of_cell? w _ hx153_2)).trans hx153_2
            replace hx153_3 := (HB.out.cell (World.block_lt_of_cell? w _ hx153_3)).trans hx153_3
            replace p153 := eq_true p153
            replace q153 := eq_true q153
            obtain ⟨Ao19, co19, eo19⟩ := Kd.R_slice HO_5.out
            (subst eo19)
            have p154 : 0 ≤ (((rd_T67 l0_1 x6_1).f0) : Int) := of_decide_eq_true (by (with_reducible assumption))
            have q154 : ((rd_T67 l0_1 x6_1).f0) < (x5_1.length : Int) := of_decide_eq_true (by (with_reducible assumption))
            obtain ⟨ad154, e154, hx154_0⟩ := Kd.at_int (Kd.R_reads' HO_5.out).2.2 ((rd_T67 l0_1 x6_1).f0) p154 q154
            cases e154
            replace p154 := eq_true p154
            replace q154 := eq_true q154
            have p155 : 0 ≤ (x6_1 : Int) := of_decide_eq_true (by (with_reducible assumption))
            have q155 : x6_1 < (l1.length : Int) := of_decide_eq_true (by (with_reducible assumption))
            obtain ⟨ad155, e155, hx155_0⟩ := Kd.at_int HR1.out x6_1 p155 q155
            have hw155_0 := hx155_0
            cases e155
            replace hx155_0 := (HB.out.cell (World.block_lt_of_cell? w _ hx155_0)).trans hx155_0
            replace p155 := eq_true p155
            replace q155 := eq_true q155
            have p14 : 0 ≤ (((rd_T67 l0_1 x6_1).f0) : Int) := of_decide_eq_true (by (with_reducible assumption))
            have q14 : (((rd_T67 l0_1 x6_1).f0) : Int) < ((x5_1.length : Int) : Int) := of_decide_eq_true (by (with_reducible assumption))
            obtain ⟨go14, co14, eo14, gb14, gl14, cl14, HG14⟩ := Kd.R_form HO_5.out (by omega)
            (cases eo14)
            have GB14 := Aside0.mk gb14
            have GG14 := Aside0.mk HG14
            clear gb14 gl14 HG14
            (simp only [add_plain] at hx154_0)
            obtain ⟨hx14_0, hf14_0⟩ := Kd.R_celln 0 HO_5.out (((rd_T67 l0_1 x6_1).f0) : Int) p14 q14
            replace p14 := eq_true p14
            replace q14 := eq_true q14
            have HP20 := Kd.R_putn HO_5.out (((rd_T67 l0_1 x6_1).f0) : Int) (wrap64 ((rd x5_1 ((rd_T67 l0_1 x6_1).f0)) + (rd l1 x6_1)))
            rw [← Ny156.out] at HP20
            have HQ20 := Aside0.mk HP20
            clear HP20
            refine start_ (n := 23) (S := fun w' => w'.cell? ⟨gb148, 0, none⟩ = some (.int .i64 a0_0) ∧ w'.cell? ⟨gb148, 1, none⟩ = some (.slice (some ad152) l0_1.length c0_1) ∧ w'.cell? (ad152.add ((x6_1).toNat * 4)) = some (.int .i64 ((rd_T67 l0_1 x6_1).f0)) ∧ w'.cell? ⟨(ad152.add ((x6_1).toNat * 4)).block, (ad152.add ((x6_1).toNat * 4)).off + 1, none⟩ = some (.int .i64 ((rd_T67 l0_1 x6_1).f1)) ∧ w'.cell? ⟨(ad152.add ((x6_1).toNat * 4)).block, (ad152.add ((x6_1).toNat * 4)).off + 2, none⟩ = some (.int .i64 ((rd_T67 l0_1 x6_1).f2)) ∧ w'.cell? ⟨(ad152.add ((x6_1).toNat * 4)).block, (ad152.add ((x6_1).toNat * 4)).off + 3, none⟩ = some (.int .i64 ((rd_T67 l0_1 x6_1).f3)) ∧ w'.cell? (ad152.add ((x6_1).toNat * 4)) = some (.int .i64 ((rd_T67 l0_1 x6_1).f0)) ∧ w'.cell? ⟨(ad152.add ((x6_1).toNat * 4)).block, (ad152.add ((x6_1).toNat * 4)).off + 1, none⟩ = some (.int .i64 ((rd_T67 l0_1 x6_1).f1)) ∧ w'.cell? ⟨(ad152.add ((x6_1).toNat * 4)).block, (ad152.add ((x6_1).toNat * 4)).off + 2, none⟩ = some (.int .i64 ((rd_T67 l0_1 x6_1).f2)) ∧ w'.cell? ⟨(ad152.add ((x6_1).toNat * 4)).block, (ad152.add ((x6_1).toNat * 4)).off + 3, none⟩ = some (.int .i64 ((rd_T67 l0_1 x6_1).f3)) ∧ w'.cell? ⟨go14, (((rd_T67 l0_1 x6_1).f0)).toNat, none⟩ = some (.int .i64 (rd x5_1 ((rd_T67 l0_1 x6_1).f0))) ∧ w'.cell? (ad155.add (x6_1).toNat) = some (.int .i64 (rd l1 x6_1))) (ds := [22]) fl4_0_ (by kernel_rfl) rfl rfl ⟨(blk_cell BK148.out 0).trans rfl, (blk_cell BK148.out 1).trans rfl, ((HB.out.cell (World.block_lt_of_cell? w _ hw152_0)).trans hw152_0), ((HB.out.cell (World.block_lt_of_cell? w _ hw152_1)).trans hw152_1), ((HB.out.cell (World.block_lt_of_cell? w _ hw152_2)).trans hw152_2), ((HB.out.cell (World.block_lt_of_cell? w _ hw152_3)).trans hw152_3), ((HB.out.cell (World.block_lt_of_cell? w _ hw153_0)).trans hw153_0), ((HB.out.cell (World.block_lt_of_cell? w _ hw153_1)).trans hw153_1), ((HB.out.cell (World.block_lt_of_cell? w _ hw153_2)).trans hw153_2), ((HB.out.cell (World.block_lt_of_cell? w _ hw153_3)).trans hw153_3), hx154_0, ((HB.out.cell (World.block_lt_of_cell? w _ hw155_0)).trans hw155_0)⟩ (fun hHeld => ?_); refine with_tabW spec_l06Out.tab5 spec_l06Out.bits5 (fun HT_ HW_ => ?_)
            generalize wr.drew = w18 at HO_5 BK148 HB GG14 HQ20 hf14_0 hx14_0 hx152_0 hx152_1 hx152_2 hx152_3 hx153_0 hx153_1 hx153_2 hx153_3 hx154_0 hx155_0 hHeld ⊢
            refine pure_ (i := 0) (N := some 16) (v := ?_) (a' := ?_) fl4_1_ rfl rfl (any_of HT_.out (by kernel_rfl)) (fun _ _ _ h => h) (Or.inl ⟨by rfl, ?_⟩) ?_ ?_
            rotate_left
            ·intro w'
             go_simp
             with_reducible rfl
            rotate_left
            ·simp only [Act.put, List.setIfInBounds_toArray, List.set_cons_zero, List.set_cons_succ, i64_w, i32_w]
             rfl
            refine pure_ (i := 1) (N := some 17) (v := ?_) (a' := ?_) fl4_2_ rfl rfl (any_of HT_.out (by kernel_rfl)) (fun _ _ _ h => h) (Or.inl ⟨by rfl, ?_⟩) ?_ ?_
            rotate_left
            ·intro w'
             go_simp
             with_reducible rfl
            rotate_left
            ·simp only [Act.put, List.setIfInBounds_toArray, List.set_cons_zero, List.set_cons_succ, i64_w, i32_w]
             rfl
            refine pure_ (i := 3) (N := some 19) (v := ?_) (a' := ?_) fl4_3_ rfl rfl (any_of HT_.out (by kernel_rfl)) (fun _ _ _ h => h) (Or.inl ⟨by rfl, ?_⟩) ?_ ?_
            rotate_left
            ·intro w'
             go_simp
             with_reducible rfl
            rotate_left
            ·simp only [Act.put, List.setIfInBounds_toArray, List.set_cons_zero, List.set_cons_succ, i64_w, i32_w]
             rfl
            refine pure_ (i := 7) (N := some 23) (v := ?_) (a' := ?_) fl4_4_ rfl rfl (any_of HT_.out (by kernel_rfl)) (fun _ _ _ h => h) (Or.inl ⟨by rfl, ?_⟩) ?_ ?_
            rotate_left
            ·intro w'
             go_simp
             with_reducible rfl
            rotate_left
            ·simp only [Act.put, List.setIfInBounds_toArray, List.set_cons_zero, List.set_cons_succ, i64_w, i32_w]
             rfl
            refine pure_ (i := 8) (N := some 24) (v := ?_) (a' := ?_) fl4_5_ rfl rfl (any_of HT_.out (by kernel_rfl)) (fun _ _ _ h => h) (Or.inl ⟨by rfl, ?_⟩) ?_ ?_
            rotate_left
            ·intro w'
             go_simp
             with_reducible rfl
            rotate_left
            ·simp only [Act.put, List.setIfInBounds_toArray, List.set_cons_zero, List.set_cons_succ, i64_w, i32_w]
             rfl
            refine pure_ (i := 10) (N := some 26) (v := ?_) (a' := ?_) fl4_6_ rfl rfl (any_of HT_.out (by kernel_rfl)) (fun _ _ _ h => h) (Or.inl ⟨by rfl, ?_⟩) ?_ ?_
            rotate_left
            ·intro w'
             go_simp
             with_reducible rfl
            rotate_left
            ·simp only [Act.put, List.setIfInBounds_toArray, List.set_cons_zero, List.set_cons_succ, i64_w, i32_w]
             rfl
            refine pure_ (i := 16) (N := some 32) (v := ?_) (a' := ?_) fl4_7_ rfl rfl (any_of HT_.out (by kernel_rfl)) (fun _ _ _ h => h) (Or.inl ⟨by rfl, ?_⟩) ?_ ?_
            rotate_left
            ·intro w'
             go_simp
             with_reducible rfl
            rotate_left
            ·simp only [Act.put, List.setIfInBounds_toArray, List.set_cons_zero, List.set_cons_succ, i64_w, i32_w]
             rfl
            refine pure_ (i := 17) (N := some 33) (v := ?_) (a' := ?_) fl4_8_ rfl rfl (any_of HT_.out (by kernel_rfl)) (fun _ _ _ h => h) (Or.inl ⟨by rfl, ?_⟩) ?_ ?_
            rotate_left
            ·intro w'
             go_simp
             with_reducible rfl
            rotate_left
            ·simp only [Act.put, List.setIfInBounds_toArray, List.set_cons_zero, List.set_cons_succ, i64_w, i32_w]
             rfl
            refine pure_ (i := 18) (N := some 34) (v := ?_) (a' := ?_) fl4_9_ rfl rfl (any_of HT_.out (by kernel_rfl)) (fun _ _ _ h => h) (Or.inl ⟨by rfl, ?_⟩) ?_ ?_
            rotate_left
            ·intro w'
             go_simp
             with_reducible rfl
            rotate_left
            ·simp only [Act.put, List.setIfInBounds_toArray, List.set_cons_zero, List.set_cons_succ, i64_w, i32_w]
             rfl
            refine take_ (i := 2) (N := some 18) (v := ?_) (a' := ?_) fl4_10_ rfl rfl (take_ofW HT_.out HW_.out (by kernel_rfl)) (fun _ _ _ h => h) (Or.inl ⟨by rfl, ?_⟩) hHeld ?_ ?_
            rotate_left
            ·rintro w' ⟨s0, s1, s2, s3, s4, s5, s6, s7, s8, s9, s10, s11⟩
             go_simp
             with_reducible rfl
            rotate_left
            ·simp only [Act.put, List.setIfInBounds_toArray, List.set_cons_zero, List.set_cons_succ, i64_w, i32_w]
             rfl
            refine pure_ (i := 4) (N := some 20) (v := ?_) (a' := ?_) fl4_11_ rfl rfl (any_of HT_.out (by kernel_rfl)) (fun _ _ _ h => h) (Or.inl ⟨by rfl, ?_⟩) ?_ ?_
            rotate_left
            ·intro w'
             go_simp
             with_reducible rfl
            rotate_left
            ·simp only [Act.put, List.setIfInBounds_toArray, List.set_cons_zero, List.set_cons_succ, i64_w, i32_w]
             rfl
            refine pure_ (i := 5) (N := some 21) (v := ?_) (a' := ?_) fl4_12_ rfl rfl (any_of HT_.out (by kernel_rfl)) (fun _ _ _ h => h) (Or.inl ⟨by rfl, ?_⟩) ?_ ?_
            rotate_left
            ·intro w'
             go_simp
             with_reducible rfl
            rotate_left
            ·simp only [Act.put, List.setIfInBounds_toArray, List.set_cons_zero, List.set_cons_succ, i64_w, i32_w]
             rfl
            refine take_ (i := 6) (N := some 22) (v := ?_) (a' := ?_) fl4_13_ rfl rfl (take_ofW HT_.out HW_.out (by kernel_rfl)) (fun _ _ _ h => h) (Or.inl ⟨by rfl, ?_⟩) hHeld ?_ ?_
            rotate_left
            ·rintro w' ⟨s0, s1, s2, s3, s4, s5, s6, s7, s8, s9, s10, s11⟩
             go_simp
             with_reducible rfl
            rotate_left
            ·simp only [Act.put, List.setIfInBounds_toArray, List.set_cons_zero, List.set_cons_succ, i64_w, i32_w]
             rfl
            refine take_ (i := 9) (N := some 25) (v := ?_) (a' := ?_) fl4_14_ rfl rfl (take_ofW HT_.out HW_.out (by kernel_rfl)) (fun _ _ _ h => h) (Or.inl ⟨by rfl, ?_⟩) hHeld ?_ ?_
            rotate_left
            ·rintro w' ⟨s0, s1, s2, s3, s4, s5, s6, s7, s8, s9, s10, s11⟩
             go_simp
             with_reducible rfl
            rotate_left
            ·simp only [Act.put, List.setIfInBounds_toArray, List.set_cons_zero, List.set_cons_succ, i64_w, i32_w]
             rfl
            refine pure_ (i := 11) (N := some 27) (v := ?_) (a' := ?_) fl4_15_ rfl rfl (any_of HT_.out (by kernel_rfl)) (fun _ _ _ h => h) (Or.inl ⟨by rfl, ?_⟩) ?_ ?_
            rotate_left
            ·intro w'
             go_simp
             with_reducible rfl
            rotate_left
            ·simp only [Act.put, List.setIfInBounds_toArray, List.set_cons_zero, List.set_cons_succ, i64_w, i32_w]
             rfl
            refine pure_ (i := 12) (N := some 28) (v := ?_) (a' := ?_) fl4_16_ rfl rfl (any_of HT_.out (by kernel_rfl)) (fun _ _ _ h => h) (Or.inl ⟨by rfl, ?_⟩) ?_ ?_
            rotate_left
            ·intro w'
             go_simp
             with_reducible rfl
            rotate_left
            ·simp only [Act.put, List.setIfInBounds_toArray, List.set_cons_zero, List.set_cons_succ, i64_w, i32_w]
             rfl
            refine take_ (i := 13) (N := some 29) (v := ?_) (a' := ?_) fl4_17_ rfl rfl (take_ofW HT_.out HW_.out (by kernel_rfl)) (fun _ _ _ h => h) (Or.inl ⟨by rfl, ?_⟩) hHeld ?_ ?_
            rotate_left
            ·rintro w' ⟨s0, s1, s2, s3, s4, s5, s6, s7, s8, s9, s10, s11⟩
             go_simp
             with_reducible rfl
            rotate_left
            ·simp only [Act.put, List.setIfInBounds_toArray, List.set_cons_zero, List.set_cons_succ, i64_w, i32_w]
             rfl
            refine pure_ (i := 14) (N := some 30) (v := ?_) (a' := ?_) fl4_18_ rfl rfl (any_of HT_.out (by kernel_rfl)) (fun _ _ _ h => h) (Or.inl ⟨by rfl, ?_⟩) ?_ ?_
            rotate_left
            ·intro w'
             go_simp
             with_reducible rfl
            rotate_left
            ·simp only [Act.put, List.setIfInBounds_toArray, List.set_cons_zero, List.set_cons_succ, i64_w, i32_w]
             rfl
            refine take_ (i := 15) (N := some 31) (v := ?_) (a' := ?_) fl4_19_ rfl rfl (take_ofW HT_.out HW_.out (by kernel_rfl)) (fun _ _ _ h => h) (Or.inl ⟨by rfl, ?_⟩) hHeld ?_ ?_
            rotate_left
            ·rintro w' ⟨s0, s1, s2, s3, s4, s5, s6, s7, s8, s9, s10, s11⟩
             go_simp
             with_reducible rfl
            rotate_left
            ·simp only [Act.put, List.setIfInBounds_toArray, List.set_cons_zero, List.set_cons_succ, i64_w, i32_w]
             rfl
            refine take_ (i := 19) (N := some 35) (v := ?_) (a' := ?_) fl4_20_ rfl rfl (take_ofW HT_.out HW_.out (by kernel_rfl)) (fun _ _ _ h => h) (Or.inl ⟨by rfl, ?_⟩) hHeld ?_ ?_
            rotate_left
            ·rintro w' ⟨s0, s1, s2, s3, s4, s5, s6, s7, s8, s9, s10, s11⟩
             go_simp
             with_reducible rfl
            rotate_left
            ·simp only [Act.put, List.setIfInBounds_toArray, List.set_cons_zero, List.set_cons_succ, i64_w, i32_w]
             rfl
            refine pure_ (i := 20) (N := some 36) (v := ?_) (a' := ?_) fl4_21_ rfl rfl (any_of HT_.out (by kernel_rfl)) (fun _ _ _ h => h) (Or.inl ⟨by rfl, ?_⟩) ?_ ?_
            rotate_left
            ·intro w'
             go_simp
             with_reducible rfl
            rotate_left
            ·simp only [Act.put, List.setIfInBounds_toArray, List.set_cons_zero, List.set_cons_succ, i64_w, i32_w]
             rfl
            refine pure_ (i := 21) (N := some 37) (v := ?_) (a' := ?_) fl4_22_ rfl rfl (any_of HT_.out (by kernel_rfl)) (fun _ _ _ h => h) (Or.inl ⟨by rfl, ?_⟩) ?_ ?_
            rotate_left
            ·intro w'
             go_simp
             with_reducible rfl
            rotate_left
            ·simp only [Act.put, List.setIfInBounds_toArray, List.set_cons_zero, List.set_cons_succ, i64_w, i32_w]
             rfl
            refine last_ (i := 22) (N := none) fl4_23_ rfl rfl (one_of HT_.out (by kernel_rfl)) (by decide) (fun K hK => ?_)
            refine skip_ (w1 := ?_) (by rfl) rfl ?_ ?_
            rotate_left
            ·go_simp
             rfl
            refine hK.out _ _ ?_
            clear hK K
            refine done_ (done_of HT_.out (by kernel_rfl)) ?_
            try go_wp2
            have n0_ : Aside0 (Kd.R (Kd.int .i64) 3 (w18.setCell ⟨go14, (((rd_T67 l0_1 x6_1).f0) : Int).toNat, none⟩ (.int .i64 (wrap64 ((rd x5_1 ((rd_T67 l0_1 x6_1).f0)) + (rd l1 x6_1))))) w.heap.size (fun _ => True) (.slice (some ⟨go14, 0, none⟩) x5_1.length co19) y156) := ⟨by exact HQ20.out⟩
            have n1_ : Aside0 ((w18.setCell ⟨go14, (((rd_T67 l0_1 x6_1).f0) : Int).toNat, none⟩ (.int .i64 (wrap64 ((rd x5_1 ((rd_T67 l0_1 x6_1).f0)) + (rd l1 x6_1))))).heap[gb148]? = some (.cells #[.int .i64 a0_0, .slice (some ad152) l0_1.length c0_1] 30 (0, 0))) := ⟨by refine blk_far ?_ (by have h_ := Kd.R_ne HO_5.out BK148.out (by decide); intro e_; exact h_ (by rw [e_]; rfl)) _; exact BK148.out⟩
            have n2_ : Aside0 (Below w.heap.size w (w18.setCell ⟨go14, (((rd_T67 l0_1 x6_1).f0) : Int).toNat, none⟩ (.int .i64 (wrap64 ((rd x5_1 ((rd_T67 l0_1 x6_1).f0)) + (rd l1 x6_1)))))) := ⟨by repeat ((with_reducible first | exact HB.out | refine below_set ?_ GB14.out))⟩
            (try clear HO_5)
            (try clear BK148)
            (try clear HB)
            generalize (w18.setCell ⟨go14, (((rd_T67 l0_1 x6_1).f0) : Int).toNat, none⟩ (.int .i64 (wrap64 ((rd x5_1 ((rd_T67 l0_1 x6_1).f0)) + (rd l1 x6_1))))) = w21 at n0_ n1_ n2_ ⊢
            have HO_5 := n0_
            have BK148 := n1_
            have HB := n2_
            clear n0_ n1_ n2_
            have n0_ := Aside0.mk (Kd.R_drew HO_5.out)
            have n1_ := Aside0.mk (blk_drew BK148.out)
            have n2_ := Aside0.mk (below_drew1 HB.out)
            clear HO_5
            clear BK148
            clear HB
            have HO_5 := n0_
            have BK148 := n1_
            have HB := n2_
            clear n0_ n1_ n2_
            have p157 : 0 ≤ (x6_1 : Int) := of_decide_eq_true (by (with_reducible assumption))
            have q157 : x6_1 < (l0_1.length : Int) := of_decide_eq_true (by (with_reducible assumption))
            obtain ⟨ad157, e157, hx157_0, hx157_1, hx157_2, hx157_3⟩ := at_T67 HR0_1.out x6_1 p157 q157
            have hw157_3 := hx157_3
            have hw157_2 := hx157_2
            have hw157_1 := hx157_1
            have hw157_0 := hx157_0
            obtain rfl : ad152 = ad157 := (by injection e157)
            replace hx157_0 := (HB.out.cell (World.block_lt_of_cell? w _ hx157_0)).trans hx157_0
            replace hx157_1 := (HB.out.cell (World.block_lt_of_cell? w _ hx157_1)).trans hx157_1
            replace hx157_2 := (HB.out.cell (World.block_lt_of_cell? w _ hx157_2)).trans hx157_2
            replace hx157_3 := (HB.out.cell (World.block_lt_of_cell? w _ hx157_3)).trans hx157_3
            replace p157 := eq_true p157
            replace q157 := eq_true q157
            have p158 : 0 ≤ (x6_1 : Int) := of_decide_eq_true (by (with_reducible assumption))
            have q158 : x6_1 < (l0_1.length : Int) := of_decide_eq_true (by (with_reducible assumption))
            obtain ⟨ad158, e158, hx158_0, hx158_1, hx158_2, hx158_3⟩ := at_T67 HR0_1.out x6_1 p158 q158
            have hw158_3 := hx158_3
            have hw158_2 := hx158_2
            have hw158_1 := hx158_1
            have hw158_0 := hx158_0
            obtain rfl : ad152 = ad158 := (by injection e158)
            replace hx158_0 := (HB.out.cell (World.block_lt_of_cell? w _ hx158_0)).trans hx158_0
            replace hx158_1 := (HB.out.cell (World.block_lt_of_cell? w _ hx158_1)).trans hx158_1
            replace hx158_2 := (HB.out.cell (World.block_lt_of_cell? w _ hx158_2)).trans hx158_2
            replace hx158_3 := (HB.out.cell (World.block_lt_of_cell? w _ hx158_3)).trans hx158_3
            replace p158 := eq_true p158
            replace q158 := eq_true q158
            have p159 : 0 ≤ (((rd_T67 l0_1 x6_1).f1) : Int) := of_decide_eq_true (by (with_reducible assumption))
            have q159 : ((rd_T67 l0_1 x6_1).f1) < (y156.length : Int) := (by have h_ : (((rd_T67 l0_1 x6_1).f1) : Int) < ((x5_1.length : Int) : Int) := of_decide_eq_true (by (with_reducible assumption)); (have e_ := (Kd.R_reads' HO_5.out).1; omega))
            have ql159 : ((((rd_T67 l0_1 x6_1).f1) : Int) < ((x5_1.length : Int) : Int)) = True := eq_true (of_decide_eq_true (by (with_reducible assumption)))
            obtain ⟨ad159, e159, hx159_0⟩ := Kd.at_int (Kd.R_reads' HO_5.out).2.2 ((rd_T67 l0_1 x6_1).f1) p159 q159
            obtain rfl : (⟨go14, 0, none⟩ : Addr) = ad159 := (by injection e159)
            (simp only [add_plain] at hx159_0)
            replace p159 := eq_true p159
            replace q159 := eq_true q159
            have p160 : 0 ≤ (x6_1 : Int) := of_decide_eq_true (by (with_reducible assumption))
            have q160 : x6_1 < (l1.length : Int) := of_decide_eq_true (by (with_reducible assumption))
            obtain ⟨ad160, e160, hx160_0⟩ := Kd.at_int HR1.out x6_1 p160 q160
            have hw160_0 := hx160_0
            obtain rfl : ad155 = ad160 := (by injection e160)
            replace hx160_0 := (HB.out.cell (World.block_lt_of_cell? w _ hx160_0)).trans hx160_0
            replace p160 := eq_true p160
            replace q160 := eq_true q160
            have p17 : 0 ≤ (((rd_T67 l0_1 x6_1).f1) : Int) := of_decide_eq_true (by (with_reducible assumption))
            have q17 : (((rd_T67 l0_1 x6_1).f1) : Int) < ((x5_1.length : Int) : Int) := of_decide_eq_true (by (with_reducible assumption))
            obtain ⟨hx17_0, hf17_0⟩ := Kd.R_celln 0 HO_5.out (((rd_T67 l0_1 x6_1).f1) : Int) p17 q17
            replace p17 := eq_true p17
            replace q17 := eq_true q17
            have HP23 := Kd.R_putn HO_5.out (((rd_T67 l0_1 x6_1).f1) : Int) (wrap64 ((rd y156 ((rd_T67 l0_1 x6_1).f1)) - (rd l1 x6_1)))
            rw [← Ny161.out] at HP23
            have HQ23 := Aside0.mk HP23
            clear HP23
            refine start_ (n := 23) (S := fun w' => w'.cell? ⟨gb148, 0, none⟩ = some (.int .i64 a0_0) ∧ w'.cell? ⟨gb148, 1, none⟩ = some (.slice (some ad152) l0_1.length c0_1) ∧ w'.cell? (ad152.add ((x6_1).toNat * 4)) = some (.int .i64 ((rd_T67 l0_1 x6_1).f0)) ∧ w'.cell? ⟨(ad152.add ((x6_1).toNat * 4)).block, (ad152.add ((x6_1).toNat * 4)).off + 1, none⟩ = some (.int .i64 ((rd_T67 l0_1 x6_1).f1)) ∧ w'.cell? ⟨(ad152.add ((x6_1).toNat * 4)).block, (ad152.add ((x6_1).toNat * 4)).off + 2, none⟩ = some (.int .i64 ((rd_T67 l0_1 x6_1).f2)) ∧ w'.cell? ⟨(ad152.add ((x6_1).toNat * 4)).block, (ad152.add ((x6_1).toNat * 4)).off + 3, none⟩ = some (.int .i64 ((rd_T67 l0_1 x6_1).f3)) ∧ w'.cell? (ad152.add ((x6_1).toNat * 4)) = some (.int .i64 ((rd_T67 l0_1 x6_1).f0)) ∧ w'.cell? ⟨(ad152.add ((x6_1).toNat * 4)).block, (ad152.add ((x6_1).toNat * 4)).off + 1, none⟩ = some (.int .i64 ((rd_T67 l0_1 x6_1).f1)) ∧ w'.cell? ⟨(ad152.add ((x6_1).toNat * 4)).block, (ad152.add ((x6_1).toNat * 4)).off + 2, none⟩ = some (.int .i64 ((rd_T67 l0_1 x6_1).f2)) ∧ w'.cell? ⟨(ad152.add ((x6_1).toNat * 4)).block, (ad152.add ((x6_1).toNat * 4)).off + 3, none⟩ = some (.int .i64 ((rd_T67 l0_1 x6_1).f3)) ∧ w'.cell? ⟨go14, (((rd_T67 l0_1 x6_1).f1)).toNat, none⟩ = some (.int .i64 (rd y156 ((rd_T67 l0_1 x6_1).f1))) ∧ w'.cell? (ad155.add (x6_1).toNat) = some (.int .i64 (rd l1 x6_1))) (ds := [22]) fl4_0_ (by kernel_rfl) rfl rfl ⟨(blk_cell BK148.out 0).trans rfl, (blk_cell BK148.out 1).trans rfl, ((HB.out.cell (World.block_lt_of_cell? w _ hw157_0)).trans hw157_0), ((HB.out.cell (World.block_lt_of_cell? w _ hw157_1)).trans hw157_1), ((HB.out.cell (World.block_lt_of_cell? w _ hw157_2)).trans hw157_2), ((HB.out.cell (World.block_lt_of_cell? w _ hw157_3)).trans hw157_3), ((HB.out.cell (World.block_lt_of_cell? w _ hw158_0)).trans hw158_0), ((HB.out.cell (World.block_lt_of_cell? w _ hw158_1)).trans hw158_1), ((HB.out.cell (World.block_lt_of_cell? w _ hw158_2)).trans hw158_2), ((HB.out.cell (World.block_lt_of_cell? w _ hw158_3)).trans hw158_3), hx159_0, ((HB.out.cell (World.block_lt_of_cell? w _ hw160_0)).trans hw160_0)⟩ (fun hHeld => ?_); refine with_tabW spec_l06Out.tab6 spec_l06Out.bits6 (fun HT_ HW_ => ?_)
            generalize w21.drew = w22 at HO_5 BK148 HB HQ20 HQ23 hf17_0 hx157_0 hx157_1 hx157_2 hx157_3 hx158_0 hx158_1 hx158_2 hx158_3 hx159_0 hx160_0 hx17_0 hHeld ⊢
            refine pure_ (i := 0) (N := some 38) (v := ?_) (a' := ?_) fl4_1_ rfl rfl (any_of HT_.out (by kernel_rfl)) (fun _ _ _ h => h) (Or.inl ⟨by rfl, ?_⟩) ?_ ?_
            rotate_left
            ·intro w'
             go_simp
             with_reducible rfl
            rotate_left
            ·simp only [Act.put, List.setIfInBounds_toArray, List.set_cons_zero, List.set_cons_succ, i64_w, i32_w]
             rfl
            refine pure_ (i := 1) (N := some 39) (v := ?_) (a' := ?_) fl4_2_ rfl rfl (any_of HT_.out (by kernel_rfl)) (fun _ _ _ h => h) (Or.inl ⟨by rfl, ?_⟩) ?_ ?_
            rotate_left
            ·intro w'
             go_simp
             with_reducible rfl
            rotate_left
            ·simp only [Act.put, List.setIfInBounds_toArray, List.set_cons_zero, List.set_cons_succ, i64_w, i32_w]
             rfl
            refine pure_ (i := 3) (N := some 41) (v := ?_) (a' := ?_) fl4_3_ rfl rfl (any_of HT_.out (by kernel_rfl)) (fun _ _ _ h => h) (Or.inl ⟨by rfl, ?_⟩) ?_ ?_
            rotate_left
            ·intro w'
             go_simp
             with_reducible rfl
            rotate_left
            ·simp only [Act.put, List.setIfInBounds_toArray, List.set_cons_zero, List.set_cons_succ, i64_w, i32_w]
             rfl
            refine pure_ (i := 7) (N := some 45) (v := ?_) (a' := ?_) fl4_4_ rfl rfl (any_of HT_.out (by kernel_rfl)) (fun _ _ _ h => h) (Or.inl ⟨by rfl, ?_⟩) ?_ ?_
            rotate_left
            ·intro w'
             go_simp
             with_reducible rfl
            rotate_left
            ·simp only [Act.put, List.setIfInBounds_toArray, List.set_cons_zero, List.set_cons_succ, i64_w, i32_w]
             rfl
            refine pure_ (i := 8) (N := some 46) (v := ?_) (a' := ?_) fl4_5_ rfl rfl (any_of HT_.out (by kernel_rfl)) (fun _ _ _ h => h) (Or.inl ⟨by rfl, ?_⟩) ?_ ?_
            rotate_left
            ·intro w'
             go_simp
             with_reducible rfl
            rotate_left
            ·simp only [Act.put, List.setIfInBounds_toArray, List.set_cons_zero, List.set_cons_succ, i64_w, i32_w]
             rfl
            refine pure_ (i := 10) (N := some 48) (v := ?_) (a' := ?_) fl4_6_ rfl rfl (any_of HT_.out (by kernel_rfl)) (fun _ _ _ h => h) (Or.inl ⟨by rfl, ?_⟩) ?_ ?_
            rotate_left
            ·intro w'
             go_simp
             with_reducible rfl
            rotate_left
            ·simp only [Act.put, List.setIfInBounds_toArray, List.set_cons_zero, List.set_cons_succ, i64_w, i32_w]
             rfl
            refine pure_ (i := 16) (N := some 54) (v := ?_) (a' := ?_) fl4_7_ rfl rfl (any_of HT_.out (by kernel_rfl)) (fun _ _ _ h => h) (Or.inl ⟨by rfl, ?_⟩) ?_ ?_
            rotate_left
            ·intro w'
             go_simp
             with_reducible rfl
            rotate_left
            ·simp only [Act.put, List.setIfInBounds_toArray, List.set_cons_zero, List.set_cons_succ, i64_w, i32_w]
             rfl
            refine pure_ (i := 17) (N := some 55) (v := ?_) (a' := ?_) fl4_8_ rfl rfl (any_of HT_.out (by kernel_rfl)) (fun _ _ _ h => h) (Or.inl ⟨by rfl, ?_⟩) ?_ ?_
            rotate_left
            ·intro w'
             go_simp
             with_reducible rfl
            rotate_left
            ·simp only [Act.put, List.setIfInBounds_toArray, List.set_cons_zero, List.set_cons_succ, i64_w, i32_w]
             rfl
            refine pure_ (i := 18) (N := some 56) (v := ?_) (a' := ?_) fl4_9_ rfl rfl (any_of HT_.out (by kernel_rfl)) (fun _ _ _ h => h) (Or.inl ⟨by rfl, ?_⟩) ?_ ?_
            rotate_left
            ·intro w'
             go_simp
             with_reducible rfl
            rotate_left
            ·simp only [Act.put, List.setIfInBounds_toArray, List.set_cons_zero, List.set_cons_succ, i64_w, i32_w]
             rfl
            refine take_ (i := 2) (N := some 40) (v := ?_) (a' := ?_) fl4_10_ rfl rfl (take_ofW HT_.out HW_.out (by kernel_rfl)) (fun _ _ _ h => h) (Or.inl ⟨by rfl, ?_⟩) hHeld ?_ ?_
            rotate_left
            ·rintro w' ⟨s0, s1, s2, s3, s4, s5, s6, s7, s8, s9, s10, s11⟩
             go_simp
             with_reducible rfl
            rotate_left
            ·simp only [Act.put, List.setIfInBounds_toArray, List.set_cons_zero, List.set_cons_succ, i64_w, i32_w]
             rfl
            refine pure_ (i := 4) (N := some 42) (v := ?_) (a' := ?_) fl4_11_ rfl rfl (any_of HT_.out (by kernel_rfl)) (fun _ _ _ h => h) (Or.inl ⟨by rfl, ?_⟩) ?_ ?_
            rotate_left
            ·intro w'
             go_simp
             with_reducible rfl
            rotate_left
            ·simp only [Act.put, List.setIfInBounds_toArray, List.set_cons_zero, List.set_cons_succ, i64_w, i32_w]
             rfl
            refine pure_ (i := 5) (N := some 43) (v := ?_) (a' := ?_) fl4_12_ rfl rfl (any_of HT_.out (by kernel_rfl)) (fun _ _ _ h => h) (Or.inl ⟨by rfl, ?_⟩) ?_ ?_
            rotate_left
            ·intro w'
             go_simp
             with_reducible rfl
            rotate_left
            ·simp only [Act.put, List.setIfInBounds_toArray, List.set_cons_zero, List.set_cons_succ, i64_w, i32_w]
             rfl
            refine take_ (i := 6) (N := some 44) (v := ?_) (a' := ?_) fl4_13_ rfl rfl (take_ofW HT_.out HW_.out (by kernel_rfl)) (fun _ _ _ h => h) (Or.inl ⟨by rfl, ?_⟩) hHeld ?_ ?_
            rotate_left
            ·rintro w' ⟨s0, s1, s2, s3, s4, s5, s6, s7, s8, s9, s10, s11⟩
             go_simp
             with_reducible rfl
            rotate_left
            ·simp only [Act.put, List.setIfInBounds_toArray, List.set_cons_zero, List.set_cons_succ, i64_w, i32_w]
             rfl
            refine take_ (i := 9) (N := some 47) (v := ?_) (a' := ?_) fl4_14_ rfl rfl (take_ofW HT_.out HW_.out (by kernel_rfl)) (fun _ _ _ h => h) (Or.inl ⟨by rfl, ?_⟩) hHeld ?_ ?_
            rotate_left
            ·rintro w' ⟨s0, s1, s2, s3, s4, s5, s6, s7, s8, s9, s10, s11⟩
             go_simp
             with_reducible rfl
            rotate_left
            ·simp only [Act.put, List.setIfInBounds_toArray, List.set_cons_zero, List.set_cons_succ, i64_w, i32_w]
             rfl
            refine pure_ (i := 11) (N := some 49) (v := ?_) (a' := ?_) fl4_15_ rfl rfl (any_of HT_.out (by kernel_rfl)) (fun _ _ _ h => h) (Or.inl ⟨by rfl, ?_⟩) ?_ ?_
            rotate_left
            ·intro w'
             go_simp
             with_reducible rfl
            rotate_left
            ·simp only [Act.put, List.setIfInBounds_toArray, List.set_cons_zero, List.set_cons_succ, i64_w, i32_w]
             rfl
            refine pure_ (i := 12) (N := some 50) (v := ?_) (a' := ?_) fl4_16_ rfl rfl (any_of HT_.out (by kernel_rfl)) (fun _ _ _ h => h) (Or.inl ⟨by rfl, ?_⟩) ?_ ?_
            rotate_left
            ·intro w'
             go_simp
             with_reducible rfl
            rotate_left
            ·simp only [Act.put, List.setIfInBounds_toArray, List.set_cons_zero, List.set_cons_succ, i64_w, i32_w]
             rfl
            refine take_ (i := 13) (N := some 51) (v := ?_) (a' := ?_) fl4_17_ rfl rfl (take_ofW HT_.out HW_.out (by kernel_rfl)) (fun _ _ _ h => h) (Or.inl ⟨by rfl, ?_⟩) hHeld ?_ ?_
            rotate_left
            ·rintro w' ⟨s0, s1, s2, s3, s4, s5, s6, s7, s8, s9, s10, s11⟩
             go_simp
             with_reducible rfl
            rotate_left
            ·simp only [Act.put, List.setIfInBounds_toArray, List.set_cons_zero, List.set_cons_succ, i64_w, i32_w]
             rfl
            refine pure_ (i := 14) (N := some 52) (v := ?_) (a' := ?_) fl4_18_ rfl rfl (any_of HT_.out (by kernel_rfl)) (fun _ _ _ h => h) (Or.inl ⟨by rfl, ?_⟩) ?_ ?_
            rotate_left
            ·intro w'
             go_simp
             with_reducible rfl
            rotate_left
            ·simp only [Act.put, List.setIfInBounds_toArray, List.set_cons_zero, List.set_cons_succ, i64_w, i32_w]
             rfl
            refine take_ (i := 15) (N := some 53) (v := ?_) (a' := ?_) fl4_19_ rfl rfl (take_ofW HT_.out HW_.out (by kernel_rfl)) (fun _ _ _ h => h) (Or.inl ⟨by rfl, ?_⟩) hHeld ?_ ?_
            rotate_left
            ·rintro w' ⟨s0, s1, s2, s3, s4, s5, s6, s7, s8, s9, s10, s11⟩
             go_simp
             with_reducible rfl
            rotate_left
            ·simp only [Act.put, List.setIfInBounds_toArray, List.set_cons_zero, List.set_cons_succ, i64_w, i32_w]
             rfl
            refine take_ (i := 19) (N := some 57) (v := ?_) (a' := ?_) fl4_20_ rfl rfl (take_ofW HT_.out HW_.out (by kernel_rfl)) (fun _ _ _ h => h) (Or.inl ⟨by rfl, ?_⟩) hHeld ?_ ?_
            rotate_left
            ·rintro w' ⟨s0, s1, s2, s3, s4, s5, s6, s7, s8, s9, s10, s11⟩
             go_simp
             with_reducible rfl
            rotate_left
            ·simp only [Act.put, List.setIfInBounds_toArray, List.set_cons_zero, List.set_cons_succ, i64_w, i32_w]
             rfl
            refine pure_ (i := 20) (N := some 58) (v := ?_) (a' := ?_) fl4_21_ rfl rfl (any_of HT_.out (by kernel_rfl)) (fun _ _ _ h => h) (Or.inl ⟨by rfl, ?_⟩) ?_ ?_
            rotate_left
            ·intro w'
             go_simp
             with_reducible rfl
            rotate_left
            ·simp only [Act.put, List.setIfInBounds_toArray, List.set_cons_zero, List.set_cons_succ, i64_w, i32_w]
             rfl
            refine pure_ (i := 21) (N := some 59) (v := ?_) (a' := ?_) fl4_22_ rfl rfl (any_of HT_.out (by kernel_rfl)) (fun _ _ _ h => h) (Or.inl ⟨by rfl, ?_⟩) ?_ ?_
            rotate_left
            ·intro w'
             go_simp
             with_reducible rfl
            rotate_left
            ·simp only [Act.put, List.setIfInBounds_toArray, List.set_cons_zero, List.set_cons_succ, i64_w, i32_w]
             rfl
            refine last_ (i := 22) (N := none) fl4_23_ rfl rfl (one_of HT_.out (by kernel_rfl)) (by decide) (fun K hK => ?_)
            refine skip_ (w1 := ?_) (by rfl) rfl ?_ ?_
            rotate_left
            ·go_simp
             rfl
            refine hK.out _ _ ?_
            clear hK K
            refine done_ (done_of HT_.out (by kernel_rfl)) ?_
            try go_wp2
            go_roundg k1
            case measure => have := HK1.out; omega
            case rel => exact ⟨(y161), (wrap64 (x6_1 + 1)), (by rfl), H', ⟨by have := HK1.out; omega⟩, ⟨by exact HQ23.out⟩, ⟨by refine blk_far ?_ (by have h_ := Kd.R_ne HO_5.out BK148.out (by decide); intro e_; exact h_ (by rw [e_]; rfl)) _; exact BK148.out⟩, ⟨by repeat ((with_reducible first | exact HB.out | refine below_set ?_ GB14.out))⟩⟩
           ·rw [if_neg c16] at H
            exact absurd H (by simp)
          ·rw [if_neg c15] at H
           exact absurd H (by simp)
         ·rw [if_neg c13] at H
          exact absurd H (by simp)
        ·rw [if_neg c12] at H
         exact absurd H (by simp)
       ·rw [if_neg c11] at H
        exact absurd H (by simp)
      ·rw [if_neg c10] at H
       exact absurd H (by simp)
     ·rw [if_neg c9] at H
      have c9b0 : decide (x6_1 < (l1.length : Int)) = false := decide_eq_false c9
      clear c9
      obtain rfl := Option.some.inj H
      go_wp2
      go_ret
      exact ⟨_, by rfl, by exact HO_5.out, by exact HB.out⟩
  ·rw [if_neg c4] at H
   exact absurd H (by simp)
 ·rw [if_neg c3] at H
  exact absurd H (by simp)

end Go.Proofs.Ytgkpgigoonhgdaa.PFnExactMostFlow
