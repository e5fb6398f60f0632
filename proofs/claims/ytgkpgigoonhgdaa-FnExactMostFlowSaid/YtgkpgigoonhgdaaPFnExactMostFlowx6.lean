-- Made by the session's wip/pp.py, a changed call of the kit's printer; Lean checks it.
import Derived.Test.YtgkpgigoonhgdaaPFnExactMostFlowx0
import Derived.Test.YtgkpgigoonhgdaaPFnExactMostFlowx5
namespace Go.Proofs.Ytgkpgigoonhgdaa.PFnExactMostFlow
open Go.RowKit Go.Proofs.YtgkpgigoonhgdaaW.PrintWords Go.Proofs.YtgkpgigoonhgdaaW.PrintLast Go.Proofs.YtgkpgigoonhgdaaW.PrintMore
attribute [local go_sem] max2_int min2_int max_two min_two max_three min_three max_four min_four   -- for this text's walks alone
set_option linter.unusedVariables false
set_option linter.unusedSimpArgs false

/-! ### spec_ReachedBy: function 20 -/
mutual
def spec_ReachedBy.l0 : Nat → List Int → List Bool → Bool → Int → List (S67) → Option (List Bool)
 | 0, _, _, _, _, _ => none
 | k + 1, x1, x5, x6, x172000, x172001 => if x6 = true then (spec_ReachedBy.l1 k x1 x5 false 0 x172000 x172001) else (some x5)
def spec_ReachedBy.l1 : Nat → List Int → List Bool → Bool → Int → Int → List (S67) → Option (List Bool)
 | 0, _, _, _, _, _, _ => none
 | k + 1, x1, x5, x6, x7, x172000, x172001 => if x7 < (x1.length : Int) then (if 0 ≤ x7 then (if x7 < (x172001.length : Int) then (if 0 ≤ ((rd_T67 x172001 x7).f0) then (if ((rd_T67 x172001 x7).f0) < (x5.length : Int) then (if rdOf false x5 ((rd_T67 x172001 x7).f0) = true then (if 0 ≤ ((rd_T67 x172001 x7).f1) then (if ((rd_T67 x172001 x7).f1) < (x5.length : Int) then (if (rdOf false x5 ((rd_T67 x172001 x7).f1) = true) then (spec_ReachedBy.j2 k x1 x5 x6 x7 false x172000 x172001 ((rd_T67 x172001 x7).f0) ((rd_T67 x172001 x7).f1) ((rd_T67 x172001 x7).f2) ((rd_T67 x172001 x7).f3)) else (spec_ReachedBy.j2 k x1 x5 x6 x7 (decide ((rd x1 x7) < ((rd_T67 x172001 x7).f2))) x172000 x172001 ((rd_T67 x172001 x7).f0) ((rd_T67 x172001 x7).f1) ((rd_T67 x172001 x7).f2) ((rd_T67 x172001 x7).f3))) else (none)) else (none)) else (spec_ReachedBy.j2 k x1 x5 x6 x7 false x172000 x172001 ((rd_T67 x172001 x7).f0) ((rd_T67 x172001 x7).f1) ((rd_T67 x172001 x7).f2) ((rd_T67 x172001 x7).f3))) else (none)) else (none)) else (none)) else (none)) else (spec_ReachedBy.l0 k x1 x5 x6 x172000 x172001)
def spec_ReachedBy.j2 : Nat → List Int → List Bool → Bool → Int → Bool → Int → List (S67) → Int → Int → Int → Int → Option (List Bool)
 | 0, _, _, _, _, _, _, _, _, _, _, _ => none
 | k + 1, x1, x5, x6, x7, x52, x172000, x172001, x182000, x182001, x182002, x182003 => if x52 = true then (if 0 ≤ x182001 then (if x182001 < (x5.length : Int) then ((some (x5.set (x182001 : Int).toNat true : List Bool)).bind fun y185 => (if rdOf false y185 x182001 = true then (if 0 ≤ x182000 then (if x182000 < (x5.length : Int) then (if rdOf false y185 x182000 = true then (spec_ReachedBy.l1 k x1 y185 true (wrap64 (x7 + 1)) x172000 x172001) else (if 0 ≤ x7 then (if x7 < (x1.length : Int) then (if (rd x1 x7) > 0 then (spec_ReachedBy.l1 k x1 (y185.set (x182000 : Int).toNat true) true (wrap64 (x7 + 1)) x172000 x172001) else (spec_ReachedBy.l1 k x1 y185 true (wrap64 (x7 + 1)) x172000 x172001)) else (none)) else (none))) else (none)) else (none)) else (spec_ReachedBy.l1 k x1 y185 true (wrap64 (x7 + 1)) x172000 x172001))) else (none)) else (none)) else (if 0 ≤ x182001 then (if x182001 < (x5.length : Int) then (if rdOf false x5 x182001 = true then (if 0 ≤ x182000 then (if x182000 < (x5.length : Int) then (if rdOf false x5 x182000 = true then (spec_ReachedBy.l1 k x1 x5 x6 (wrap64 (x7 + 1)) x172000 x172001) else (if 0 ≤ x7 then (if x7 < (x1.length : Int) then (if (rd x1 x7) > 0 then (spec_ReachedBy.l1 k x1 (x5.set (x182000 : Int).toNat true) true (wrap64 (x7 + 1)) x172000 x172001) else (spec_ReachedBy.l1 k x1 x5 x6 (wrap64 (x7 + 1)) x172000 x172001)) else (none)) else (none))) else (none)) else (none)) else (spec_ReachedBy.l1 k x1 x5 x6 (wrap64 (x7 + 1)) x172000 x172001)) else (none)) else (none))
end
def spec_ReachedBy.f (k : Nat) (a0_0 : Int) (l0_1 : List (S67)) (l1 : List Int) : Option (List Bool) := (spec_FlowOk.f k a0_0 l0_1 l1).bind fun t172 => (if t172 = true then (if 0 ≤ a0_0 then (if (a0_0 : Int).toNat ≤ 281474976710656 then ((some (List.replicate (a0_0 : Int).toNat false : List Bool)).bind fun y176 => (if 0 < (y176.length : Int) then (spec_ReachedBy.l0 k l1 (y176.set (0 : Int).toNat true) true a0_0 l0_1) else (none))) else (none)) else (none)) else (some (([] : List Bool))))
theorem spec_ReachedBy.mono_l : ∀ k, (∀ y0 y1 y2 y3 y4, LeO (spec_ReachedBy.l0 k y0 y1 y2 y3 y4) (spec_ReachedBy.l0 (k + 1) y0 y1 y2 y3 y4)) ∧ (∀ y0 y1 y2 y3 y4 y5, LeO (spec_ReachedBy.l1 k y0 y1 y2 y3 y4 y5) (spec_ReachedBy.l1 (k + 1) y0 y1 y2 y3 y4 y5)) ∧ (∀ y0 y1 y2 y3 y4 y5 y6 y7 y8 y9 y10, LeO (spec_ReachedBy.j2 k y0 y1 y2 y3 y4 y5 y6 y7 y8 y9 y10) (spec_ReachedBy.j2 (k + 1) y0 y1 y2 y3 y4 y5 y6 y7 y8 y9 y10))
 | 0 => ⟨fun _ _ _ _ _ r h => by simp [spec_ReachedBy.l0] at h, fun _ _ _ _ _ _ r h => by simp [spec_ReachedBy.l1] at h, fun _ _ _ _ _ _ _ _ _ _ _ r h => by simp [spec_ReachedBy.j2] at h⟩
 | k + 1 => by
  obtain ⟨ih0, ih1, ih2⟩ := spec_ReachedBy.mono_l k
  refine ⟨?_, ?_, ?_⟩
  ·intro y0 y1 y2 y3 y4
   unfold spec_ReachedBy.l0
   repeat' first
   | (with_reducible exact ih1 _ _ _ _ _ _)
   | (with_reducible exact LeO.refl _)
   | (with_reducible refine LeO.ite ?_ ?_)
  ·intro y0 y1 y2 y3 y4 y5
   unfold spec_ReachedBy.l1
   repeat' first
   | (with_reducible exact ih0 _ _ _ _ _)
   | (with_reducible exact ih2 _ _ _ _ _ _ _ _ _ _ _)
   | (with_reducible exact LeO.refl _)
   | (with_reducible refine LeO.ite ?_ ?_)
  ·intro y0 y1 y2 y3 y4 y5 y6 y7 y8 y9 y10
   unfold spec_ReachedBy.j2
   repeat' first
   | (with_reducible exact ih1 _ _ _ _ _ _)
   | (with_reducible exact LeO.refl _)
   | (with_reducible refine LeO.ite ?_ ?_)
   | (with_reducible refine LeO.bind ?_ (fun _ => ?_))
theorem spec_ReachedBy.mono : ∀ a0 a1 a2 k, LeO (spec_ReachedBy.f k a0 a1 a2) (spec_ReachedBy.f (k + 1) a0 a1 a2) := by
 intro a0 a1 a2 k
 obtain ⟨ih0, ih1, ih2⟩ := spec_ReachedBy.mono_l k
 unfold spec_ReachedBy.f
 repeat' first
   | (with_reducible exact ih0 _ _ _ _ _)
   | (with_reducible exact spec_FlowOk.mono _ _ _ _)
   | (with_reducible exact LeO.refl _)
   | (with_reducible refine LeO.ite ?_ ?_)
   | (with_reducible refine LeO.bind ?_ (fun _ => ?_))
set_option maxHeartbeats 8000000 in
set_option maxRecDepth 100000 in
theorem spec_ReachedBy.calls (k : Nat) (a0_0 : Int) (A0_1 : Option Addr) (c0_1 : Nat) (l0_1 : List (S67)) (A1 : Option Addr) (c1 : Nat) (l1 : List Int) (r : List Bool) (w : World) (hr0_1 : Kd.C k67 w A0_1 l0_1.length l0_1) (hc0_1 : l0_1.length ≤ c0_1) (hr1 : Kd.C (Kd.int .i64) w A1 l1.length l1) (hc1 : l1.length ≤ c1) (h : spec_ReachedBy.f k a0_0 l0_1 l1 = some r) :
  Calls Try.prog 20 #[.agg #[.int .i64 a0_0, .slice A0_1 l0_1.length c0_1], .slice A1 l1.length c1] w fun e w' => ∃ v0_ : Value, e = .returned (v0_) ∧ Kd.R Kd.bool 4 w' w.heap.size (fun _ => True) v0_ r ∧ Below w.heap.size w w' := by
 have hu30 := Try.underlying30
 have hu67 := Try.underlying67
 have HR0_1 := Aside0.mk hr0_1
 have HC0_1 := Aside0.mk hc0_1
 clear hr0_1 hc0_1
 have HR1 := Aside0.mk hr1
 have HC1 := Aside0.mk hc1
 clear hr1 hc1
 have HB := Aside0.mk (Below.refl w.heap.size w)
 have H : ((spec_FlowOk.f k a0_0 l0_1 l1).bind fun t172 => (if t172 = true then (if 0 ≤ a0_0 then (if (a0_0 : Int).toNat ≤ 281474976710656 then ((some (List.replicate (a0_0 : Int).toNat false : List Bool)).bind fun y176 => (if 0 < (y176.length : Int) then (spec_ReachedBy.l0 k l1 (y176.set (0 : Int).toNat true) true a0_0 l0_1) else (none))) else (none)) else (none)) else (some (([] : List Bool))))) = some r := h
 clear h
 replace H := Option.bind_eq_some_iff.mp H
 obtain ⟨t172, A30, H⟩ := H
 replace H : (if t172 = true then (if 0 ≤ a0_0 then (if (a0_0 : Int).toNat ≤ 281474976710656 then ((some (List.replicate (a0_0 : Int).toNat false : List Bool)).bind fun y176 => (if 0 < (y176.length : Int) then (spec_ReachedBy.l0 k l1 (y176.set (0 : Int).toNat true) true a0_0 l0_1) else (none))) else (none)) else (none)) else (some (([] : List Bool)))) = some r := H
 have A3 := Aside0.mk A30
 clear A30
 by_cases c4 : t172 = true
 ·subst c4
  have H1 : (if 0 ≤ a0_0 then (if (a0_0 : Int).toNat ≤ 281474976710656 then ((some (List.replicate (a0_0 : Int).toNat false : List Bool)).bind fun y176 => (if 0 < (y176.length : Int) then (spec_ReachedBy.l0 k l1 (y176.set (0 : Int).toNat true) true a0_0 l0_1) else (none))) else (none)) else (none)) = some r := by rw [if_pos rfl] at H; exact H
  clear H
  have H := H1
  clear H1
  by_cases c5 : 0 ≤ a0_0
  ·rw [if_pos c5] at H
   have c5b0 := eq_true c5
   have c5b1 : decide (0 ≤ a0_0) = true := decide_eq_true c5
   clear c5
   by_cases c6 : (a0_0 : Int).toNat ≤ 281474976710656
   ·rw [if_pos c6] at H
    have c6b0 := eq_true c6
    have c6b1 : decide ((a0_0 : Int).toNat ≤ 281474976710656) = true := decide_eq_true c6
    clear c6
    obtain ⟨y176, hy176⟩ : ∃ y_ : List Bool, y_ = (List.replicate (a0_0 : Int).toNat false) := ⟨_, rfl⟩
    replace H : (if 0 < (y176.length : Int) then (spec_ReachedBy.l0 k l1 (y176.set (0 : Int).toNat true) true a0_0 l0_1) else (none)) = some r := by (have H2_ := (Option.bind_some _ _).symm.trans H; rw [hy176]; with_reducible exact H2_)
    have Ny176 := Aside0.mk hy176
    clear hy176
    by_cases c7 : 0 < (y176.length : Int)
    ·rw [if_pos c7] at H
     have c7b0 : decide (0 < (y176.length : Int)) = true := decide_eq_true c7
     have c7b1 : decide (0 < y176.length) = true := decide_eq_true (by omega)
     clear c7
     obtain ⟨y179, hy179⟩ : ∃ y_ : List Bool, y_ = (y176.set (0 : Int).toNat true) := ⟨_, rfl⟩
     replace H : (spec_ReachedBy.l0 k l1 y179 true a0_0 l0_1) = some r := by (rw [hy179]; with_reducible exact H)
     have Ny179 := Aside0.mk hy179
     clear hy179
     have H' := Aside0.mk H
     clear H
     go_enter Try.func20, Try.ntmps20
     go_wp2_with (first | ((with_reducible refine gate_dst (N := 2) rfl ?_); refine box_event ?hg (N := 2) ?hd (cs := #[.int .i64 a0_0, .slice A0_1 l0_1.length c0_1]) (t := 30) ?hr ?_; (case hd => rfl); (case hg => rfl); (case hr => (go_simp; done)); intro gb171 hg w9 hbox hb; have n0_ := Aside0.mk (below_step HB.out hb); have n1_ := Aside0.mk (hbox); have n2_ := Aside0.mk ((by rw [hg]; exact (below_size HB.out) : w.heap.size ≤ gb171)); have n3_ := n2_; clear HB; have HB := n0_; have BK171 := n1_; have GW171 := n2_; have GE171 := n3_; clear n0_ n1_ n2_ n3_ hb hbox hg; have hcz10_0 : w9.cell? ⟨gb171, 0, none⟩ = some (.int .i64 a0_0) := (blk_cell BK171.out 0).trans rfl; have hcz10_1 : w9.cell? ⟨gb171, 1, none⟩ = some (.slice A0_1 l0_1.length c0_1) := (blk_cell BK171.out 1).trans rfl; have hfz10_0 := blk_frozen BK171.out 0; have hfz10_1 := blk_frozen BK171.out 1) | (go_at_call 45; (with_reducible refine (spec_FlowOk.calls k a0_0 _ _ l0_1 _ _ l1 true _ ?side1 ?side2 ?side3 ?side4 A3.out).mono ?_); (case side1 => exact (Kd.C_below HR0_1.out HB.out)); (case side2 => exact HC0_1.out); (case side3 => exact (Kd.C_below HR1.out HB.out)); (case side4 => exact HC1.out); rintro e w11 ⟨rfl, hb⟩; have n0_ := Aside0.mk (blk_below BK171.out hb); have n1_ := Aside0.mk (below_step HB.out hb); clear BK171 HB; have BK171 := n0_; have HB := n1_; clear n0_ n1_; (try clear hb); have hcz12_0 : w11.cell? ⟨gb171, 0, none⟩ = some (.int .i64 a0_0) := (blk_cell BK171.out 0).trans rfl; have hcz12_1 : w11.cell? ⟨gb171, 1, none⟩ = some (.slice A0_1 l0_1.length c0_1) := (blk_cell BK171.out 1).trans rfl; have hfz12_0 := blk_frozen BK171.out 0; have hfz12_1 := blk_frozen BK171.out 1) | ((with_reducible refine gate_dst (N := 16) rfl ?_); refine Kd.R_make Kd.bool _ 4 rfl (N := 16) rfl 38 _ _ rfl a0_0 rfl rfl Try.underlying38 (.bool false) 1 info4 rfl (by decide) (by omega) false (ok := fun _ => True) (okp := fun _ => True) rfl (fun _ hk => hk) trivial (of_decide_eq_true (by (with_reducible assumption))) (Nat.le_trans (Nat.mul_le_mul_right _ (of_decide_eq_true (by (with_reducible assumption)) : a0_0.toNat ≤ 281474976710656)) (by omega)) (Below.refl _ _) (Nat.le_refl _) ?_; intro v177 w13 ho14 hb hg_ hnew_; clear hg_ hnew_; (rw [← Ny176.out] at ho14); have n0_ := Aside0.mk (Kd.R_lower ho14 (below_size HB.out)); have n1_ := Aside0.mk (blk_below BK171.out hb); have n2_ := Aside0.mk (below_step HB.out hb); clear BK171 HB; have HO178 := n0_; have BK171 := n1_; have HB := n2_; clear n0_ n1_ n2_ hb ho14; have p8 : 0 ≤ (0 : Int) := (by omega); have q8 : (0 : Int) < ((y176.length : Int) : Int) := of_decide_eq_true (by (with_reducible assumption)); have qi8 : (0 < y176.length) = True := eq_true (by omega); obtain ⟨go8, co8, eo8, gb8, gl8, cl8, HG8⟩ := Kd.R_form HO178.out (by omega); (cases eo8); have GB8 := Aside0.mk gb8; have GG8 := Aside0.mk HG8; clear gb8 gl8 HG8; obtain ⟨hx8_0, hf8_0⟩ := Kd.R_celln false HO178.out (0 : Int) p8 q8; (try rw [show ((0 : Int)).toNat = 0 from rfl] at hx8_0); (try rw [show ((0 : Int)).toNat = 0 from rfl] at hf8_0); replace p8 := eq_true p8; replace q8 := eq_true q8; obtain ⟨hy15_, hz15_⟩ := Kd.R_celln false HO178.out (0 : Int) (by omega) (of_decide_eq_true (by (with_reducible assumption))); (try rw [show ((0 : Int)).toNat = 0 from rfl] at hy15_); (try rw [show ((0 : Int)).toNat = 0 from rfl] at hz15_); have HP15 := Kd.R_putg HO178.out (0 : Int) true) | ((with_reducible refine gate_store (t := 4) (p := 18) rfl ?_); refine store_event (t := 4) (p := 18) (v := ?vo_w16) (w1 := (w13.setCell ⟨go8, (0 : Int).toNat, none⟩ (.bool true))) ?hg ?ho ?hn ?hr ?_; (case ho => rfl); (case hg => rfl); (case hn => rfl); (case hr => (go_simp; done)); intro w16 hw; have hg : w13.grownBy w16 (some go8) := (by rw [hw]; exact HP15.2); have hp_ : Kd.R Kd.bool 4 w16 w.heap.size (fun _ => True) (.slice (some ⟨go8, 0, none⟩) y176.length co8) y179 := (by rw [hw, Ny179.out]; exact HP15.1); clear HP15; have n0_ := Aside0.mk (blk_grown (g := gb171) (o := .cells #[.int .i64 a0_0, .slice A0_1 l0_1.length c0_1] 30 (0, 0)) BK171.out hg (Kd.R_ne HO178.out BK171.out (by decide))); have n1_ := Aside0.mk (hp_); have n2_ := Aside0.mk ((by rw [hw]; exact below_set (HB.out) GB8.out : Below w.heap.size w w16)); clear BK171 HO178 HB; have BK171 := n0_; have HO178 := n1_; have HB := n2_; clear n0_ n1_ n2_ hg hw hp_))
     repeat (go_quiet (fail); try go_wp2_with (fail))
     go_loopg [6] k (fun kq v6 w' => ∃ (x5_1 : List Bool) (x6_1 : Bool), v6 = .bool x6_1 ∧ Aside0 (spec_ReachedBy.l0 kq l1 x5_1 x6_1 a0_0 l0_1 = some r) ∧ Aside0 (kq ≤ k) ∧ Aside0 (Kd.R Kd.bool 4 w' w.heap.size (fun _ => True) (.slice (some ⟨go8, 0, none⟩) y176.length co8) x5_1) ∧ Aside0 (w'.heap[gb171]? = some (.cells #[.int .i64 a0_0, (.slice A0_1 l0_1.length c0_1)] 30 (0, 0))) ∧ Aside0 (Below w.heap.size w w'))
     case atStart => exact ⟨(y179), (true), (by rfl), H', ⟨Nat.le_refl _⟩, ⟨by exact HO178.out⟩, ⟨by exact BK171.out⟩, ⟨by exact HB.out⟩⟩
     case round =>
      clear H'
      try clear c1
      try clear c2
      try clear p2
      try clear c4
      try clear c5
      try clear c5b0
      try clear c5b1
      try clear c6
      try clear c6b0
      try clear c6b1
      try clear c7
      try clear c7b0
      try clear c7b1
      try clear p8
      try clear q8
      try clear hx8
      try clear qi8
      try clear hf8
      try clear hcz10_0
      try clear hcz10_1
      try clear hcz12_0
      try clear hcz12_1
      try clear hfz10_0
      try clear hfz10_1
      try clear hfz12_0
      try clear hfz12_1
      try clear hx8_0
      try clear p8
      try clear q8
      obtain ⟨x5_1, x6_1, rfl, HA, HK1, HO_5, BK171, HB⟩ := hrel
      have hl5_1 := (Kd.R_reads' HO_5.out).1
      rw [hl5_1] at HO_5
      (try simp only [hl5_1])
      (skip)
      cases gk with
      | zero => exact absurd HA.out (by simp [spec_ReachedBy.l0])
      | succ k1 =>
       have H := HA.out
       clear HA
       simp only [spec_ReachedBy.l0] at H
       by_cases c17 : x6_1 = true
       ·subst c17
        have H1 : (spec_ReachedBy.l1 k1 l1 x5_1 false 0 a0_0 l0_1) = some r := by rw [if_pos rfl] at H; exact H
        clear H
        have H := H1
        clear H1
        have H' := Aside0.mk H
        clear H
        go_wp2
        repeat (go_quiet (fail); try go_wp2)
        go_loopg [6, 7] k1 (fun kq v6 v7 w' => ∃ (x5_2 : List Bool) (x6_2 : Bool) (x7_2 : Int), v6 = .bool x6_2 ∧ v7 = .int .i64 x7_2 ∧ Aside0 (spec_ReachedBy.l1 kq l1 x5_2 x6_2 x7_2 a0_0 l0_1 = some r) ∧ Aside0 (kq ≤ k1) ∧ Aside0 (Kd.R Kd.bool 4 w' w.heap.size (fun _ => True) (.slice (some ⟨go8, 0, none⟩) x5_1.length co8) x5_2) ∧ Aside0 (w'.heap[gb171]? = some (.cells #[.int .i64 a0_0, (.slice A0_1 l0_1.length c0_1)] 30 (0, 0))) ∧ Aside0 (Below w.heap.size w w'))
        case atStart => exact ⟨(x5_1), (false), (0), (by rfl), (by rfl), H', ⟨Nat.le_refl _⟩, ⟨by exact HO_5.out⟩, ⟨by exact BK171.out⟩, ⟨by exact HB.out⟩⟩
        case round =>
         clear H'
         try clear c1
         try clear c2
         try clear p2
         try clear c4
         try clear c5
         try clear c5b0
         try clear c5b1
         try clear c6
         try clear c6b0
         try clear c6b1
         try clear c7
         try clear c7b0
         try clear c7b1
         try clear p8
         try clear q8
         try clear hx8
         try clear qi8
         try clear hf8
         try clear c17
         try clear hcz10_0
         try clear hcz10_1
         try clear hcz12_0
         try clear hcz12_1
         try clear hfz10_0
         try clear hfz10_1
         try clear hfz12_0
         try clear hfz12_1
         try clear hx8_0
         try clear p2
         try clear p8
         try clear q8
         obtain ⟨x5_2, x6_2, x7_2, rfl, rfl, HA, HK2, HO_5, BK171, HB⟩ := hrel
         have hl5_2 := (Kd.R_reads' HO_5.out).1
         rw [hl5_2] at HO_5
         (try simp only [hl5_2])
         (skip)
         cases gk with
         | zero => exact absurd HA.out (by simp [spec_ReachedBy.l1])
         | succ k2 =>
          have H := HA.out
          clear HA
          simp only [spec_ReachedBy.l1] at H
          by_cases c18 : x7_2 < (l1.length : Int)
          ·rw [if_pos c18] at H
           have c18b0 : decide (x7_2 < (l1.length : Int)) = true := decide_eq_true c18
           clear c18
           by_cases c19 : 0 ≤ x7_2
           ·rw [if_pos c19] at H
            have c19b0 : decide (0 ≤ x7_2) = true := decide_eq_true c19
            clear c19
            by_cases c20 : x7_2 < (l0_1.length : Int)
            ·rw [if_pos c20] at H
             have c20b0 : decide (x7_2 < (l0_1.length : Int)) = true := decide_eq_true c20
             clear c20
             have HC21 := Aside0.mk H
             clear H
             have hcz22_0 : wr.cell? ⟨gb171, 0, none⟩ = some (.int .i64 a0_0) := (blk_cell BK171.out 0).trans rfl
             have hcz22_1 : wr.cell? ⟨gb171, 1, none⟩ = some (.slice A0_1 l0_1.length c0_1) := (blk_cell BK171.out 1).trans rfl
             have hfz22_0 := blk_frozen BK171.out 0
             have hfz22_1 := blk_frozen BK171.out 1
             have p180 : 0 ≤ (x7_2 : Int) := of_decide_eq_true (by (with_reducible assumption))
             have q180 : x7_2 < (l0_1.length : Int) := of_decide_eq_true (by (with_reducible assumption))
             obtain ⟨ad180, e180, hx180_0, hx180_1, hx180_2, hx180_3⟩ := at_T67 HR0_1.out x7_2 p180 q180
             cases e180
             replace hx180_0 := (HB.out.cell (World.block_lt_of_cell? w _ hx180_0)).trans hx180_0
             replace hx180_1 := (HB.out.cell (World.block_lt_of_cell? w _ hx180_1)).trans hx180_1
             replace hx180_2 := (HB.out.cell (World.block_lt_of_cell? w _ hx180_2)).trans hx180_2
             replace hx180_3 := (HB.out.cell (World.block_lt_of_cell? w _ hx180_3)).trans hx180_3
             replace p180 := eq_true p180
             replace q180 := eq_true q180
             go_upto_region 12 with (((with_reducible refine gate_dst (N := 8) rfl ?_); refine box_event ?hg (N := 8) ?hd (cs := #[.int .i64 0, .int .i64 0, .int .i64 0, .int .i64 0]) (t := 67) ?hr ?_; (case hd => rfl); (case hg => rfl); (case hr => (go_simp; done)); intro gb181 hg w23 hbox hb; have n0_ := Aside0.mk (Kd.R_below HO_5.out hb); have n1_ := Aside0.mk (blk_below BK171.out hb); have n2_ := Aside0.mk (below_step HB.out hb); have n3_ := Aside0.mk (hbox); have n4_ := Aside0.mk ((by rw [hg]; exact (below_size HB.out) : w.heap.size ≤ gb181)); have n5_ := n4_; have n6_ := Aside0.mk ((by rw [hg]; exact Nat.ne_of_lt (blk_lt (g := gb171) (o := .cells #[.int .i64 a0_0, .slice (some ad180) l0_1.length c0_1] 30 (0, 0)) BK171.out) : gb171 ≠ gb181)); have n7_ := Aside0.mk ((by rw [hg]; exact Nat.ne_of_gt (blk_lt (g := gb171) (o := .cells #[.int .i64 a0_0, .slice (some ad180) l0_1.length c0_1] 30 (0, 0)) BK171.out) : gb181 ≠ gb171)); clear HO_5 BK171 HB; have HO_5 := n0_; have BK171 := n1_; have HB := n2_; have BK181 := n3_; have GW181 := n4_; have GE181 := n5_; have NB171_181 := n6_; have NB181_171 := n7_; clear n0_ n1_ n2_ n3_ n4_ n5_ n6_ n7_ hb hbox hg; have hnb24 := NB181_171.out; have hnc24 := NB171_181.out; have hcz25_0 : w23.cell? ⟨gb181, 0, none⟩ = some (.int .i64 0) := (blk_cell BK181.out 0).trans rfl; have hcz25_1 : w23.cell? ⟨gb181, 1, none⟩ = some (.int .i64 0) := (blk_cell BK181.out 1).trans rfl; have hcz25_2 : w23.cell? ⟨gb181, 2, none⟩ = some (.int .i64 0) := (blk_cell BK181.out 2).trans rfl; have hcz25_3 : w23.cell? ⟨gb181, 3, none⟩ = some (.int .i64 0) := (blk_cell BK181.out 3).trans rfl; have hfz25_0 := blk_frozen BK181.out 0; have hfz25_1 := blk_frozen BK181.out 1; have hfz25_2 := blk_frozen BK181.out 2; have hfz25_3 := blk_frozen BK181.out 3))
             repeat (go_quiet (fail); go_upto_region 12 with (fail))
             (skip)
             go_cut [52] (fun v52 wc => ∃ (kq : Nat) (x52_20 : Bool), v52 = .bool x52_20 ∧ Aside0 (spec_ReachedBy.j2 kq l1 x5_2 x6_2 x7_2 x52_20 a0_0 l0_1 ((rd_T67 l0_1 x7_2).f0) ((rd_T67 l0_1 x7_2).f1) ((rd_T67 l0_1 x7_2).f2) ((rd_T67 l0_1 x7_2).f3) = some r) ∧ Aside0 (kq ≤ k2) ∧ Aside0 (Kd.R Kd.bool 4 wc w.heap.size (fun _ => True) (.slice (some ⟨go8, 0, none⟩) x5_2.length co8) x5_2) ∧ Aside0 (wc.heap[gb171]? = some (.cells #[.int .i64 a0_0, (.slice (some ad180) l0_1.length c0_1)] 30 (0, 0))) ∧ Aside0 (wc.heap[gb181]? = some (.cells #[.int .i64 ((rd_T67 l0_1 x7_2).f0), .int .i64 ((rd_T67 l0_1 x7_2).f1), .int .i64 ((rd_T67 l0_1 x7_2).f2), .int .i64 ((rd_T67 l0_1 x7_2).f3)] 67 (0, 0))) ∧ Aside0 (Below w.heap.size w wc))
             case first =>
              have H := HC21.out
              clear HC21
              by_cases c26 : 0 ≤ ((rd_T67 l0_1 x7_2).f0)
              ·rw [if_pos c26] at H
               have c26b0 : decide (0 ≤ ((rd_T67 l0_1 x7_2).f0)) = true := decide_eq_true c26
               clear c26
               (skip)
               by_cases c27 : ((rd_T67 l0_1 x7_2).f0) < (x5_2.length : Int)
               ·rw [if_pos c27] at H
                have c27b0 : decide (((rd_T67 l0_1 x7_2).f0) < (x5_2.length : Int)) = true := decide_eq_true c27
                clear c27
                obtain ⟨bq28, hbq28⟩ : ∃ b_ : Bool, b_ = (rdOf false x5_2 ((rd_T67 l0_1 x7_2).f0)) := ⟨_, rfl⟩
                replace H : (if bq28 = true then (if 0 ≤ ((rd_T67 l0_1 x7_2).f1) then (if ((rd_T67 l0_1 x7_2).f1) < (x5_2.length : Int) then (if (rdOf false x5_2 ((rd_T67 l0_1 x7_2).f1) = true) then (spec_ReachedBy.j2 k2 l1 x5_2 x6_2 x7_2 false a0_0 l0_1 ((rd_T67 l0_1 x7_2).f0) ((rd_T67 l0_1 x7_2).f1) ((rd_T67 l0_1 x7_2).f2) ((rd_T67 l0_1 x7_2).f3)) else (spec_ReachedBy.j2 k2 l1 x5_2 x6_2 x7_2 (decide ((rd l1 x7_2) < ((rd_T67 l0_1 x7_2).f2))) a0_0 l0_1 ((rd_T67 l0_1 x7_2).f0) ((rd_T67 l0_1 x7_2).f1) ((rd_T67 l0_1 x7_2).f2) ((rd_T67 l0_1 x7_2).f3))) else (none)) else (none)) else (spec_ReachedBy.j2 k2 l1 x5_2 x6_2 x7_2 false a0_0 l0_1 ((rd_T67 l0_1 x7_2).f0) ((rd_T67 l0_1 x7_2).f1) ((rd_T67 l0_1 x7_2).f2) ((rd_T67 l0_1 x7_2).f3))) = some r := by rw [← hbq28] at H; exact H
                have Nbq28 := Aside0.mk hbq28
                clear hbq28
                by_cases c29 : bq28 = true
                ·subst c29
                 have H1 : (if 0 ≤ ((rd_T67 l0_1 x7_2).f1) then (if ((rd_T67 l0_1 x7_2).f1) < (x5_2.length : Int) then (if (rdOf false x5_2 ((rd_T67 l0_1 x7_2).f1) = true) then (spec_ReachedBy.j2 k2 l1 x5_2 x6_2 x7_2 false a0_0 l0_1 ((rd_T67 l0_1 x7_2).f0) ((rd_T67 l0_1 x7_2).f1) ((rd_T67 l0_1 x7_2).f2) ((rd_T67 l0_1 x7_2).f3)) else (spec_ReachedBy.j2 k2 l1 x5_2 x6_2 x7_2 (decide ((rd l1 x7_2) < ((rd_T67 l0_1 x7_2).f2))) a0_0 l0_1 ((rd_T67 l0_1 x7_2).f0) ((rd_T67 l0_1 x7_2).f1) ((rd_T67 l0_1 x7_2).f2) ((rd_T67 l0_1 x7_2).f3))) else (none)) else (none)) = some r := by rw [if_pos rfl] at H; exact H
                 clear H
                 have H := H1
                 clear H1
                 by_cases c30 : 0 ≤ ((rd_T67 l0_1 x7_2).f1)
                 ·rw [if_pos c30] at H
                  have c30b0 : decide (0 ≤ ((rd_T67 l0_1 x7_2).f1)) = true := decide_eq_true c30
                  clear c30
                  by_cases c31 : ((rd_T67 l0_1 x7_2).f1) < (x5_2.length : Int)
                  ·rw [if_pos c31] at H
                   have c31b0 : decide (((rd_T67 l0_1 x7_2).f1) < (x5_2.length : Int)) = true := decide_eq_true c31
                   clear c31
                   obtain ⟨bq32, hbq32⟩ : ∃ b_ : Bool, b_ = (rdOf false x5_2 ((rd_T67 l0_1 x7_2).f1)) := ⟨_, rfl⟩
                   replace H : (if (bq32 = true) then (spec_ReachedBy.j2 k2 l1 x5_2 x6_2 x7_2 false a0_0 l0_1 ((rd_T67 l0_1 x7_2).f0) ((rd_T67 l0_1 x7_2).f1) ((rd_T67 l0_1 x7_2).f2) ((rd_T67 l0_1 x7_2).f3)) else (spec_ReachedBy.j2 k2 l1 x5_2 x6_2 x7_2 (decide ((rd l1 x7_2) < ((rd_T67 l0_1 x7_2).f2))) a0_0 l0_1 ((rd_T67 l0_1 x7_2).f0) ((rd_T67 l0_1 x7_2).f1) ((rd_T67 l0_1 x7_2).f2) ((rd_T67 l0_1 x7_2).f3))) = some r := by rw [← hbq32] at H; exact H
                   have Nbq32 := Aside0.mk hbq32
                   clear hbq32
                   by_cases c33 : (bq32 = true)
                   ·subst c33
                    have H1 : (spec_ReachedBy.j2 k2 l1 x5_2 x6_2 x7_2 false a0_0 l0_1 ((rd_T67 l0_1 x7_2).f0) ((rd_T67 l0_1 x7_2).f1) ((rd_T67 l0_1 x7_2).f2) ((rd_T67 l0_1 x7_2).f3)) = some r := by rw [if_pos rfl] at H; exact H
                    clear H
                    have H := H1
                    clear H1
                    have H' := Aside0.mk H
                    clear H
                    have hnb34 := NB181_171.out
                    have hnc34 := NB171_181.out
                    have hcz35_0 : w23.cell? ⟨gb181, 0, none⟩ = some (.int .i64 0) := (blk_cell BK181.out 0).trans rfl
                    have hcz35_1 : w23.cell? ⟨gb181, 1, none⟩ = some (.int .i64 0) := (blk_cell BK181.out 1).trans rfl
                    have hcz35_2 : w23.cell? ⟨gb181, 2, none⟩ = some (.int .i64 0) := (blk_cell BK181.out 2).trans rfl
                    have hcz35_3 : w23.cell? ⟨gb181, 3, none⟩ = some (.int .i64 0) := (blk_cell BK181.out 3).trans rfl
                    have hfz35_0 := blk_frozen BK181.out 0
                    have hfz35_1 := blk_frozen BK181.out 1
                    have hfz35_2 := blk_frozen BK181.out 2
                    have hfz35_3 := blk_frozen BK181.out 3
                    have p182 : 0 ≤ (((rd_T67 l0_1 x7_2).f0) : Int) := of_decide_eq_true (by (with_reducible assumption))
                    have q182 : ((rd_T67 l0_1 x7_2).f0) < (x5_2.length : Int) := of_decide_eq_true (by (with_reducible assumption))
                    obtain ⟨ad182, e182, hx182_0⟩ := Kd.at_bool (Kd.R_reads' HO_5.out).2.2 ((rd_T67 l0_1 x7_2).f0) p182 q182
                    (try rw [← Nbq28.out] at hx182_0)
                    (skip)
                    obtain rfl : (⟨go8, 0, none⟩ : Addr) = ad182 := (by injection e182)
                    (simp only [add_plain] at hx182_0)
                    have hn182_0 : (⟨go8, 0, none⟩ : Addr).block ≠ gb181 := Kd.own_blk (Kd.R_ne HO_5.out BK181.out (by decide))
                    have hn182_1 : (⟨go8, 0, none⟩ : Addr).block ≠ gb181 := Kd.own_blk (Kd.R_ne HO_5.out BK181.out (by decide))
                    have hn182_2 : (⟨go8, 0, none⟩ : Addr).block ≠ gb181 := Kd.own_blk (Kd.R_ne HO_5.out BK181.out (by decide))
                    have hn182_3 : (⟨go8, 0, none⟩ : Addr).block ≠ gb181 := Kd.own_blk (Kd.R_ne HO_5.out BK181.out (by decide))
                    replace hx182_0 := (cell_far (p := ⟨gb181, 0, none⟩) (by exact hn182_0) (.int .i64 ((rd_T67 l0_1 x7_2).f0))).trans hx182_0
                    replace hx182_0 := (cell_far (p := ⟨gb181, 1, none⟩) (by exact hn182_1) (.int .i64 ((rd_T67 l0_1 x7_2).f1))).trans hx182_0
                    replace hx182_0 := (cell_far (p := ⟨gb181, 2, none⟩) (by exact hn182_2) (.int .i64 ((rd_T67 l0_1 x7_2).f2))).trans hx182_0
                    replace hx182_0 := (cell_far (p := ⟨gb181, 3, none⟩) (by exact hn182_3) (.int .i64 ((rd_T67 l0_1 x7_2).f3))).trans hx182_0
                    (try have hy182_0 := fun (n_ : Nat) => (show ((((((w23.drewN n_).setCell ⟨gb181, 0, none⟩ (.int .i64 ((rd_T67 l0_1 x7_2).f0))).setCell ⟨gb181, 1, none⟩ (.int .i64 ((rd_T67 l0_1 x7_2).f1))).setCell ⟨gb181, 2, none⟩ (.int .i64 ((rd_T67 l0_1 x7_2).f2))).setCell ⟨gb181, 3, none⟩ (.int .i64 ((rd_T67 l0_1 x7_2).f3)))).cell? _ = some _ from hx182_0))
                    clear hn182_0
                    clear hn182_1
                    clear hn182_2
                    clear hn182_3
                    replace p182 := eq_true p182
                    replace q182 := eq_true q182
                    have p183 : 0 ≤ (((rd_T67 l0_1 x7_2).f1) : Int) := of_decide_eq_true (by (with_reducible assumption))
                    have q183 : ((rd_T67 l0_1 x7_2).f1) < (x5_2.length : Int) := of_decide_eq_true (by (with_reducible assumption))
                    obtain ⟨ad183, e183, hx183_0⟩ := Kd.at_bool (Kd.R_reads' HO_5.out).2.2 ((rd_T67 l0_1 x7_2).f1) p183 q183
                    (skip)
                    (try rw [← Nbq32.out] at hx183_0)
                    obtain rfl : (⟨go8, 0, none⟩ : Addr) = ad183 := (by injection e183)
                    (simp only [add_plain] at hx183_0)
                    have hn183_0 : (⟨go8, 0, none⟩ : Addr).block ≠ gb181 := Kd.own_blk (Kd.R_ne HO_5.out BK181.out (by decide))
                    have hn183_1 : (⟨go8, 0, none⟩ : Addr).block ≠ gb181 := Kd.own_blk (Kd.R_ne HO_5.out BK181.out (by decide))
                    have hn183_2 : (⟨go8, 0, none⟩ : Addr).block ≠ gb181 := Kd.own_blk (Kd.R_ne HO_5.out BK181.out (by decide))
                    have hn183_3 : (⟨go8, 0, none⟩ : Addr).block ≠ gb181 := Kd.own_blk (Kd.R_ne HO_5.out BK181.out (by decide))
                    replace hx183_0 := (cell_far (p := ⟨gb181, 0, none⟩) (by exact hn183_0) (.int .i64 ((rd_T67 l0_1 x7_2).f0))).trans hx183_0
                    replace hx183_0 := (cell_far (p := ⟨gb181, 1, none⟩) (by exact hn183_1) (.int .i64 ((rd_T67 l0_1 x7_2).f1))).trans hx183_0
                    replace hx183_0 := (cell_far (p := ⟨gb181, 2, none⟩) (by exact hn183_2) (.int .i64 ((rd_T67 l0_1 x7_2).f2))).trans hx183_0
                    replace hx183_0 := (cell_far (p := ⟨gb181, 3, none⟩) (by exact hn183_3) (.int .i64 ((rd_T67 l0_1 x7_2).f3))).trans hx183_0
                    (try have hy183_0 := fun (n_ : Nat) => (show ((((((w23.drewN n_).setCell ⟨gb181, 0, none⟩ (.int .i64 ((rd_T67 l0_1 x7_2).f0))).setCell ⟨gb181, 1, none⟩ (.int .i64 ((rd_T67 l0_1 x7_2).f1))).setCell ⟨gb181, 2, none⟩ (.int .i64 ((rd_T67 l0_1 x7_2).f2))).setCell ⟨gb181, 3, none⟩ (.int .i64 ((rd_T67 l0_1 x7_2).f3)))).cell? _ = some _ from hx183_0))
                    clear hn183_0
                    clear hn183_1
                    clear hn183_2
                    clear hn183_3
                    replace p183 := eq_true p183
                    replace q183 := eq_true q183
                    go_wp2
                    repeat (go_quiet (fail); try go_wp2)
                    go_meet
                    case rel => exact ⟨_, (false), (by rfl), H', ⟨by have := HK1.out; have := HK2.out; omega⟩, ⟨by (with_reducible repeat (apply Kd.R_drewN)); exact Kd.R_mono (Kd.R_far (p := ⟨gb181, 3, none⟩) (Kd.R_far (p := ⟨gb181, 2, none⟩) (Kd.R_far (p := ⟨gb181, 1, none⟩) (Kd.R_far (p := ⟨gb181, 0, none⟩) (Kd.R_types HO_5.out BK181.out (by decide)) (fun _ hk => hk.2) (.int .i64 ((rd_T67 l0_1 x7_2).f0))) (fun _ hk => hk.2) (.int .i64 ((rd_T67 l0_1 x7_2).f1))) (fun _ hk => hk.2) (.int .i64 ((rd_T67 l0_1 x7_2).f2))) (fun _ hk => hk.2) (.int .i64 ((rd_T67 l0_1 x7_2).f3))) (fun _ hk => trivial)⟩, ⟨by (with_reducible repeat (refine blk_drewN ?_ _)); refine blk_far ?_ NB171_181.out _; refine blk_far ?_ NB171_181.out _; refine blk_far ?_ NB171_181.out _; refine blk_far ?_ NB171_181.out _; exact BK171.out⟩, ⟨by (with_reducible repeat (refine blk_drewN ?_ _)); refine blk_put (cs := #[.int .i64 ((rd_T67 l0_1 x7_2).f0), .int .i64 ((rd_T67 l0_1 x7_2).f1), .int .i64 ((rd_T67 l0_1 x7_2).f2), .int .i64 0]) ?_ 3 _ rfl; refine blk_put (cs := #[.int .i64 ((rd_T67 l0_1 x7_2).f0), .int .i64 ((rd_T67 l0_1 x7_2).f1), .int .i64 0, .int .i64 0]) ?_ 2 _ rfl; refine blk_put (cs := #[.int .i64 ((rd_T67 l0_1 x7_2).f0), .int .i64 0, .int .i64 0, .int .i64 0]) ?_ 1 _ rfl; refine blk_put (cs := #[.int .i64 0, .int .i64 0, .int .i64 0, .int .i64 0]) ?_ 0 _ rfl; exact BK181.out⟩, ⟨by repeat ((with_reducible first | exact HB.out | apply pw_below_drewN | refine below_set ?_ GE181.out))⟩⟩
                   ·replace c33 := Bool.eq_false_iff.mpr c33
                    subst c33
                    have H1 : (spec_ReachedBy.j2 k2 l1 x5_2 x6_2 x7_2 (decide ((rd l1 x7_2) < ((rd_T67 l0_1 x7_2).f2))) a0_0 l0_1 ((rd_T67 l0_1 x7_2).f0) ((rd_T67 l0_1 x7_2).f1) ((rd_T67 l0_1 x7_2).f2) ((rd_T67 l0_1 x7_2).f3)) = some r := by rw [if_neg (show ¬ (false = true) by decide)] at H; exact H
                    clear H
                    have H := H1
                    clear H1
                    have H' := Aside0.mk H
                    clear H
                    have hnb36 := NB181_171.out
                    have hnc36 := NB171_181.out
                    have hcz37_0 : w23.cell? ⟨gb181, 0, none⟩ = some (.int .i64 0) := (blk_cell BK181.out 0).trans rfl
                    have hcz37_1 : w23.cell? ⟨gb181, 1, none⟩ = some (.int .i64 0) := (blk_cell BK181.out 1).trans rfl
                    have hcz37_2 : w23.cell? ⟨gb181, 2, none⟩ = some (.int .i64 0) := (blk_cell BK181.out 2).trans rfl
                    have hcz37_3 : w23.cell? ⟨gb181, 3, none⟩ = some (.int .i64 0) := (blk_cell BK181.out 3).trans rfl
                    have hfz37_0 := blk_frozen BK181.out 0
                    have hfz37_1 := blk_frozen BK181.out 1
                    have hfz37_2 := blk_frozen BK181.out 2
                    have hfz37_3 := blk_frozen BK181.out 3
                    have p182 : 0 ≤ (((rd_T67 l0_1 x7_2).f0) : Int) := of_decide_eq_true (by (with_reducible assumption))
                    have q182 : ((rd_T67 l0_1 x7_2).f0) < (x5_2.length : Int) := of_decide_eq_true (by (with_reducible assumption))
                    obtain ⟨ad182, e182, hx182_0⟩ := Kd.at_bool (Kd.R_reads' HO_5.out).2.2 ((rd_T67 l0_1 x7_2).f0) p182 q182
                    (try rw [← Nbq28.out] at hx182_0)
                    (skip)
                    obtain rfl : (⟨go8, 0, none⟩ : Addr) = ad182 := (by injection e182)
                    (simp only [add_plain] at hx182_0)
                    have hn182_0 : (⟨go8, 0, none⟩ : Addr).block ≠ gb181 := Kd.own_blk (Kd.R_ne HO_5.out BK181.out (by decide))
                    have hn182_1 : (⟨go8, 0, none⟩ : Addr).block ≠ gb181 := Kd.own_blk (Kd.R_ne HO_5.out BK181.out (by decide))
                    have hn182_2 : (⟨go8, 0, none⟩ : Addr).block ≠ gb181 := Kd.own_blk (Kd.R_ne HO_5.out BK181.out (by decide))
                    have hn182_3 : (⟨go8, 0, none⟩ : Addr).block ≠ gb181 := Kd.own_blk (Kd.R_ne HO_5.out BK181.out (by decide))
                    replace hx182_0 := (cell_far (p := ⟨gb181, 0, none⟩) (by exact hn182_0) (.int .i64 ((rd_T67 l0_1 x7_2).f0))).trans hx182_0
                    replace hx182_0 := (cell_far (p := ⟨gb181, 1, none⟩) (by exact hn182_1) (.int .i64 ((rd_T67 l0_1 x7_2).f1))).trans hx182_0
                    replace hx182_0 := (cell_far (p := ⟨gb181, 2, none⟩) (by exact hn182_2) (.int .i64 ((rd_T67 l0_1 x7_2).f2))).trans hx182_0
                    replace hx182_0 := (cell_far (p := ⟨gb181, 3, none⟩) (by exact hn182_3) (.int .i64 ((rd_T67 l0_1 x7_2).f3))).trans hx182_0
                    (try have hy182_0 := fun (n_ : Nat) => (show ((((((w23.drewN n_).setCell ⟨gb181, 0, none⟩ (.int .i64 ((rd_T67 l0_1 x7_2).f0))).setCell ⟨gb181, 1, none⟩ (.int .i64 ((rd_T67 l0_1 x7_2).f1))).setCell ⟨gb181, 2, none⟩ (.int .i64 ((rd_T67 l0_1 x7_2).f2))).setCell ⟨gb181, 3, none⟩ (.int .i64 ((rd_T67 l0_1 x7_2).f3)))).cell? _ = some _ from hx182_0))
                    clear hn182_0
                    clear hn182_1
                    clear hn182_2
                    clear hn182_3
                    replace p182 := eq_true p182
                    replace q182 := eq_true q182
                    have p183 : 0 ≤ (((rd_T67 l0_1 x7_2).f1) : Int) := of_decide_eq_true (by (with_reducible assumption))
                    have q183 : ((rd_T67 l0_1 x7_2).f1) < (x5_2.length : Int) := of_decide_eq_true (by (with_reducible assumption))
                    obtain ⟨ad183, e183, hx183_0⟩ := Kd.at_bool (Kd.R_reads' HO_5.out).2.2 ((rd_T67 l0_1 x7_2).f1) p183 q183
                    (skip)
                    (try rw [← Nbq32.out] at hx183_0)
                    obtain rfl : (⟨go8, 0, none⟩ : Addr) = ad183 := (by injection e183)
                    (simp only [add_plain] at hx183_0)
                    have hn183_0 : (⟨go8, 0, none⟩ : Addr).block ≠ gb181 := Kd.own_blk (Kd.R_ne HO_5.out BK181.out (by decide))
                    have hn183_1 : (⟨go8, 0, none⟩ : Addr).block ≠ gb181 := Kd.own_blk (Kd.R_ne HO_5.out BK181.out (by decide))
                    have hn183_2 : (⟨go8, 0, none⟩ : Addr).block ≠ gb181 := Kd.own_blk (Kd.R_ne HO_5.out BK181.out (by decide))
                    have hn183_3 : (⟨go8, 0, none⟩ : Addr).block ≠ gb181 := Kd.own_blk (Kd.R_ne HO_5.out BK181.out (by decide))
                    replace hx183_0 := (cell_far (p := ⟨gb181, 0, none⟩) (by exact hn183_0) (.int .i64 ((rd_T67 l0_1 x7_2).f0))).trans hx183_0
                    replace hx183_0 := (cell_far (p := ⟨gb181, 1, none⟩) (by exact hn183_1) (.int .i64 ((rd_T67 l0_1 x7_2).f1))).trans hx183_0
                    replace hx183_0 := (cell_far (p := ⟨gb181, 2, none⟩) (by exact hn183_2) (.int .i64 ((rd_T67 l0_1 x7_2).f2))).trans hx183_0
                    replace hx183_0 := (cell_far (p := ⟨gb181, 3, none⟩) (by exact hn183_3) (.int .i64 ((rd_T67 l0_1 x7_2).f3))).trans hx183_0
                    (try have hy183_0 := fun (n_ : Nat) => (show ((((((w23.drewN n_).setCell ⟨gb181, 0, none⟩ (.int .i64 ((rd_T67 l0_1 x7_2).f0))).setCell ⟨gb181, 1, none⟩ (.int .i64 ((rd_T67 l0_1 x7_2).f1))).setCell ⟨gb181, 2, none⟩ (.int .i64 ((rd_T67 l0_1 x7_2).f2))).setCell ⟨gb181, 3, none⟩ (.int .i64 ((rd_T67 l0_1 x7_2).f3)))).cell? _ = some _ from hx183_0))
                    clear hn183_0
                    clear hn183_1
                    clear hn183_2
                    clear hn183_3
                    replace p183 := eq_true p183
                    replace q183 := eq_true q183
                    have p184 : 0 ≤ (x7_2 : Int) := of_decide_eq_true (by (with_reducible assumption))
                    have q184 : x7_2 < (l1.length : Int) := of_decide_eq_true (by (with_reducible assumption))
                    obtain ⟨ad184, e184, hx184_0⟩ := Kd.at_int HR1.out x7_2 p184 q184
                    cases e184
                    have hn184_0 : ad184.block ≠ gb181 := Nat.ne_of_lt (Nat.lt_of_lt_of_le (by have := World.block_lt_of_cell? _ _ hx184_0; rwa [add_block] at this) GW181.out)
                    have hn184_1 : ad184.block ≠ gb181 := Nat.ne_of_lt (Nat.lt_of_lt_of_le (by have := World.block_lt_of_cell? _ _ hx184_0; rwa [add_block] at this) GW181.out)
                    have hn184_2 : ad184.block ≠ gb181 := Nat.ne_of_lt (Nat.lt_of_lt_of_le (by have := World.block_lt_of_cell? _ _ hx184_0; rwa [add_block] at this) GW181.out)
                    have hn184_3 : ad184.block ≠ gb181 := Nat.ne_of_lt (Nat.lt_of_lt_of_le (by have := World.block_lt_of_cell? _ _ hx184_0; rwa [add_block] at this) GW181.out)
                    replace hx184_0 := (HB.out.cell (World.block_lt_of_cell? w _ hx184_0)).trans hx184_0
                    replace hx184_0 := (cell_far (p := ⟨gb181, 0, none⟩) (by (rw [add_block]; exact hn184_0)) (.int .i64 ((rd_T67 l0_1 x7_2).f0))).trans hx184_0
                    replace hx184_0 := (cell_far (p := ⟨gb181, 1, none⟩) (by (rw [add_block]; exact hn184_1)) (.int .i64 ((rd_T67 l0_1 x7_2).f1))).trans hx184_0
                    replace hx184_0 := (cell_far (p := ⟨gb181, 2, none⟩) (by (rw [add_block]; exact hn184_2)) (.int .i64 ((rd_T67 l0_1 x7_2).f2))).trans hx184_0
                    replace hx184_0 := (cell_far (p := ⟨gb181, 3, none⟩) (by (rw [add_block]; exact hn184_3)) (.int .i64 ((rd_T67 l0_1 x7_2).f3))).trans hx184_0
                    (try have hy184_0 := fun (n_ : Nat) => (show ((((((w23.drewN n_).setCell ⟨gb181, 0, none⟩ (.int .i64 ((rd_T67 l0_1 x7_2).f0))).setCell ⟨gb181, 1, none⟩ (.int .i64 ((rd_T67 l0_1 x7_2).f1))).setCell ⟨gb181, 2, none⟩ (.int .i64 ((rd_T67 l0_1 x7_2).f2))).setCell ⟨gb181, 3, none⟩ (.int .i64 ((rd_T67 l0_1 x7_2).f3)))).cell? _ = some _ from hx184_0))
                    clear hn184_0
                    clear hn184_1
                    clear hn184_2
                    clear hn184_3
                    replace p184 := eq_true p184
                    replace q184 := eq_true q184
                    go_wp2
                    repeat (go_quiet (fail); try go_wp2)
                    go_meet
                    case rel => exact ⟨_, (decide ((rd l1 x7_2) < ((rd_T67 l0_1 x7_2).f2))), (by rfl), H', ⟨by have := HK1.out; have := HK2.out; omega⟩, ⟨by (with_reducible repeat (apply Kd.R_drewN)); exact Kd.R_mono (Kd.R_far (p := ⟨gb181, 3, none⟩) (Kd.R_far (p := ⟨gb181, 2, none⟩) (Kd.R_far (p := ⟨gb181, 1, none⟩) (Kd.R_far (p := ⟨gb181, 0, none⟩) (Kd.R_types HO_5.out BK181.out (by decide)) (fun _ hk => hk.2) (.int .i64 ((rd_T67 l0_1 x7_2).f0))) (fun _ hk => hk.2) (.int .i64 ((rd_T67 l0_1 x7_2).f1))) (fun _ hk => hk.2) (.int .i64 ((rd_T67 l0_1 x7_2).f2))) (fun _ hk => hk.2) (.int .i64 ((rd_T67 l0_1 x7_2).f3))) (fun _ hk => trivial)⟩, ⟨by (with_reducible repeat (refine blk_drewN ?_ _)); refine blk_far ?_ NB171_181.out _; refine blk_far ?_ NB171_181.out _; refine blk_far ?_ NB171_181.out _; refine blk_far ?_ NB171_181.out _; exact BK171.out⟩, ⟨by (with_reducible repeat (refine blk_drewN ?_ _)); refine blk_put (cs := #[.int .i64 ((rd_T67 l0_1 x7_2).f0), .int .i64 ((rd_T67 l0_1 x7_2).f1), .int .i64 ((rd_T67 l0_1 x7_2).f2), .int .i64 0]) ?_ 3 _ rfl; refine blk_put (cs := #[.int .i64 ((rd_T67 l0_1 x7_2).f0), .int .i64 ((rd_T67 l0_1 x7_2).f1), .int .i64 0, .int .i64 0]) ?_ 2 _ rfl; refine blk_put (cs := #[.int .i64 ((rd_T67 l0_1 x7_2).f0), .int .i64 0, .int .i64 0, .int .i64 0]) ?_ 1 _ rfl; refine blk_put (cs := #[.int .i64 0, .int .i64 0, .int .i64 0, .int .i64 0]) ?_ 0 _ rfl; exact BK181.out⟩, ⟨by repeat ((with_reducible first | exact HB.out | apply pw_below_drewN | refine below_set ?_ GE181.out))⟩⟩
                  ·rw [if_neg c31] at H
                   exact absurd H (by simp)
                 ·rw [if_neg c30] at H
                  exact absurd H (by simp)
                ·replace c29 := Bool.eq_false_iff.mpr c29
                 subst c29
                 have H1 : (spec_ReachedBy.j2 k2 l1 x5_2 x6_2 x7_2 false a0_0 l0_1 ((rd_T67 l0_1 x7_2).f0) ((rd_T67 l0_1 x7_2).f1) ((rd_T67 l0_1 x7_2).f2) ((rd_T67 l0_1 x7_2).f3)) = some r := by rw [if_neg (show ¬ (false = true) by decide)] at H; exact H
                 clear H
                 have H := H1
                 clear H1
                 have H' := Aside0.mk H
                 clear H
                 have hnb38 := NB181_171.out
                 have hnc38 := NB171_181.out
                 have hcz39_0 : w23.cell? ⟨gb181, 0, none⟩ = some (.int .i64 0) := (blk_cell BK181.out 0).trans rfl
                 have hcz39_1 : w23.cell? ⟨gb181, 1, none⟩ = some (.int .i64 0) := (blk_cell BK181.out 1).trans rfl
                 have hcz39_2 : w23.cell? ⟨gb181, 2, none⟩ = some (.int .i64 0) := (blk_cell BK181.out 2).trans rfl
                 have hcz39_3 : w23.cell? ⟨gb181, 3, none⟩ = some (.int .i64 0) := (blk_cell BK181.out 3).trans rfl
                 have hfz39_0 := blk_frozen BK181.out 0
                 have hfz39_1 := blk_frozen BK181.out 1
                 have hfz39_2 := blk_frozen BK181.out 2
                 have hfz39_3 := blk_frozen BK181.out 3
                 have p182 : 0 ≤ (((rd_T67 l0_1 x7_2).f0) : Int) := of_decide_eq_true (by (with_reducible assumption))
                 have q182 : ((rd_T67 l0_1 x7_2).f0) < (x5_2.length : Int) := of_decide_eq_true (by (with_reducible assumption))
                 obtain ⟨ad182, e182, hx182_0⟩ := Kd.at_bool (Kd.R_reads' HO_5.out).2.2 ((rd_T67 l0_1 x7_2).f0) p182 q182
                 (try rw [← Nbq28.out] at hx182_0)
                 obtain rfl : (⟨go8, 0, none⟩ : Addr) = ad182 := (by injection e182)
                 (simp only [add_plain] at hx182_0)
                 have hn182_0 : (⟨go8, 0, none⟩ : Addr).block ≠ gb181 := Kd.own_blk (Kd.R_ne HO_5.out BK181.out (by decide))
                 have hn182_1 : (⟨go8, 0, none⟩ : Addr).block ≠ gb181 := Kd.own_blk (Kd.R_ne HO_5.out BK181.out (by decide))
                 have hn182_2 : (⟨go8, 0, none⟩ : Addr).block ≠ gb181 := Kd.own_blk (Kd.R_ne HO_5.out BK181.out (by decide))
                 have hn182_3 : (⟨go8, 0, none⟩ : Addr).block ≠ gb181 := Kd.own_blk (Kd.R_ne HO_5.out BK181.out (by decide))
                 replace hx182_0 := (cell_far (p := ⟨gb181, 0, none⟩) (by exact hn182_0) (.int .i64 ((rd_T67 l0_1 x7_2).f0))).trans hx182_0
                 replace hx182_0 := (cell_far (p := ⟨gb181, 1, none⟩) (by exact hn182_1) (.int .i64 ((rd_T67 l0_1 x7_2).f1))).trans hx182_0
                 replace hx182_0 := (cell_far (p := ⟨gb181, 2, none⟩) (by exact hn182_2) (.int .i64 ((rd_T67 l0_1 x7_2).f2))).trans hx182_0
                 replace hx182_0 := (cell_far (p := ⟨gb181, 3, none⟩) (by exact hn182_3) (.int .i64 ((rd_T67 l0_1 x7_2).f3))).trans hx182_0
                 (try have hy182_0 := fun (n_ : Nat) => (show ((((((w23.drewN n_).setCell ⟨gb181, 0, none⟩ (.int .i64 ((rd_T67 l0_1 x7_2).f0))).setCell ⟨gb181, 1, none⟩ (.int .i64 ((rd_T67 l0_1 x7_2).f1))).setCell ⟨gb181, 2, none⟩ (.int .i64 ((rd_T67 l0_1 x7_2).f2))).setCell ⟨gb181, 3, none⟩ (.int .i64 ((rd_T67 l0_1 x7_2).f3)))).cell? _ = some _ from hx182_0))
                 clear hn182_0
                 clear hn182_1
                 clear hn182_2
                 clear hn182_3
                 replace p182 := eq_true p182
                 replace q182 := eq_true q182
                 go_wp2
                 repeat (go_quiet (fail); try go_wp2)
                 go_meet
                 case rel => exact ⟨_, (false), (by rfl), H', ⟨by have := HK1.out; have := HK2.out; omega⟩, ⟨by (with_reducible repeat (apply Kd.R_drewN)); exact Kd.R_mono (Kd.R_far (p := ⟨gb181, 3, none⟩) (Kd.R_far (p := ⟨gb181, 2, none⟩) (Kd.R_far (p := ⟨gb181, 1, none⟩) (Kd.R_far (p := ⟨gb181, 0, none⟩) (Kd.R_types HO_5.out BK181.out (by decide)) (fun _ hk => hk.2) (.int .i64 ((rd_T67 l0_1 x7_2).f0))) (fun _ hk => hk.2) (.int .i64 ((rd_T67 l0_1 x7_2).f1))) (fun _ hk => hk.2) (.int .i64 ((rd_T67 l0_1 x7_2).f2))) (fun _ hk => hk.2) (.int .i64 ((rd_T67 l0_1 x7_2).f3))) (fun _ hk => trivial)⟩, ⟨by (with_reducible repeat (refine blk_drewN ?_ _)); refine blk_far ?_ NB171_181.out _; refine blk_far ?_ NB171_181.out _; refine blk_far ?_ NB171_181.out _; refine blk_far ?_ NB171_181.out _; exact BK171.out⟩, ⟨by (with_reducible repeat (refine blk_drewN ?_ _)); refine blk_put (cs := #[.int .i64 ((rd_T67 l0_1 x7_2).f0), .int .i64 ((rd_T67 l0_1 x7_2).f1), .int .i64 ((rd_T67 l0_1 x7_2).f2), .int .i64 0]) ?_ 3 _ rfl; refine blk_put (cs := #[.int .i64 ((rd_T67 l0_1 x7_2).f0), .int .i64 ((rd_T67 l0_1 x7_2).f1), .int .i64 0, .int .i64 0]) ?_ 2 _ rfl; refine blk_put (cs := #[.int .i64 ((rd_T67 l0_1 x7_2).f0), .int .i64 0, .int .i64 0, .int .i64 0]) ?_ 1 _ rfl; refine blk_put (cs := #[.int .i64 0, .int .i64 0, .int .i64 0, .int .i64 0]) ?_ 0 _ rfl; exact BK181.out⟩, ⟨by repeat ((with_reducible first | exact HB.out | apply pw_below_drewN | refine below_set ?_ GE181.out))⟩⟩
               ·rw [if_neg c27] at H
                exact absurd H (by simp)
              ·rw [if_neg c26] at H
               exact absurd H (by simp)
             case rest =>
              clear HC21
              try clear c1
              try clear p1
              try clear q1
              try clear hx1
              try clear c2
              try clear p2
              try clear q2
              try clear c3
              try clear q3
              try clear c4
              try clear c5
              try clear c5b0
              try clear c5b1
              try clear c6
              try clear c6b0
              try clear c6b1
              try clear c7
              try clear c7b0
              try clear c7b1
              try clear p8
              try clear q8
              try clear hx8
              try clear qi8
              try clear hf8
              try clear c17
              try clear c18
              try clear c18b0
              try clear p18
              try clear q18
              try clear hx18
              try clear c19
              try clear c19b0
              try clear c20
              try clear c20b0
              try clear c24
              try clear c26
              try clear c26b0
              try clear c27
              try clear c27b0
              try clear q28
              try clear c29
              try clear c30
              try clear c30b0
              try clear c31
              try clear c31b0
              try clear q32
              try clear c33
              try clear c34
              try clear c36
              try clear c38
              try clear hcz10_0
              try clear hcz10_1
              try clear hcz12_0
              try clear hcz12_1
              try clear hcz22_0
              try clear hcz22_1
              try clear hcz25_0
              try clear hcz25_1
              try clear hcz25_2
              try clear hcz25_3
              try clear hcz35_0
              try clear hcz35_1
              try clear hcz35_2
              try clear hcz35_3
              try clear hcz37_0
              try clear hcz37_1
              try clear hcz37_2
              try clear hcz37_3
              try clear hcz39_0
              try clear hcz39_1
              try clear hcz39_2
              try clear hcz39_3
              try clear hfz10_0
              try clear hfz10_1
              try clear hfz12_0
              try clear hfz12_1
              try clear hfz22_0
              try clear hfz22_1
              try clear hfz25_0
              try clear hfz25_1
              try clear hfz25_2
              try clear hfz25_3
              try clear hfz35_0
              try clear hfz35_1
              try clear hfz35_2
              try clear hfz35_3
              try clear hfz37_0
              try clear hfz37_1
              try clear hfz37_2
              try clear hfz37_3
              try clear hfz39_0
              try clear hfz39_1
              try clear hfz39_2
              try clear hfz39_3
              try clear hx180_0
              try clear hx180_1
              try clear hx180_2
              try clear hx180_3
              try clear hx182_0
              try clear hx183_0
              try clear hx184_0
              try clear hx8_0
              try clear p180
              try clear p182
              try clear p183
              try clear p184
              try clear p2
              try clear p8
              try clear q180
              try clear q182
              try clear q183
              try clear q184
              try clear q8
              obtain ⟨kq, x52_20, rfl, HA, HJ20, HO_5, BK171, BK181, HB⟩ := hcut
              cases kq with
              | zero => exact absurd HA.out (by simp [spec_ReachedBy.j2])
              | succ kj20 =>
               have H := HA.out
               clear HA
               simp only [spec_ReachedBy.j2] at H
               by_cases c40 : x52_20 = true
               ·subst c40
                have H1 : (if 0 ≤ ((rd_T67 l0_1 x7_2).f1) then (if ((rd_T67 l0_1 x7_2).f1) < (x5_2.length : Int) then ((some (x5_2.set (((rd_T67 l0_1 x7_2).f1) : Int).toNat true : List Bool)).bind fun y185 => (if rdOf false y185 ((rd_T67 l0_1 x7_2).f1) = true then (if 0 ≤ ((rd_T67 l0_1 x7_2).f0) then (if ((rd_T67 l0_1 x7_2).f0) < (x5_2.length : Int) then (if rdOf false y185 ((rd_T67 l0_1 x7_2).f0) = true then (spec_ReachedBy.l1 kj20 l1 y185 true (wrap64 (x7_2 + 1)) a0_0 l0_1) else (if 0 ≤ x7_2 then (if x7_2 < (l1.length : Int) then (if (rd l1 x7_2) > 0 then (spec_ReachedBy.l1 kj20 l1 (y185.set (((rd_T67 l0_1 x7_2).f0) : Int).toNat true) true (wrap64 (x7_2 + 1)) a0_0 l0_1) else (spec_ReachedBy.l1 kj20 l1 y185 true (wrap64 (x7_2 + 1)) a0_0 l0_1)) else (none)) else (none))) else (none)) else (none)) else (spec_ReachedBy.l1 kj20 l1 y185 true (wrap64 (x7_2 + 1)) a0_0 l0_1))) else (none)) else (none)) = some r := by rw [if_pos rfl] at H; exact H
                clear H
                have H := H1
                clear H1
                by_cases c41 : 0 ≤ ((rd_T67 l0_1 x7_2).f1)
                ·rw [if_pos c41] at H
                 have c41b0 : decide (0 ≤ ((rd_T67 l0_1 x7_2).f1)) = true := decide_eq_true c41
                 clear c41
                 by_cases c42 : ((rd_T67 l0_1 x7_2).f1) < (x5_2.length : Int)
                 ·rw [if_pos c42] at H
                  have c42b0 : decide (((rd_T67 l0_1 x7_2).f1) < (x5_2.length : Int)) = true := decide_eq_true c42
                  clear c42
                  obtain ⟨y185, hy185⟩ : ∃ y_ : List Bool, y_ = (x5_2.set (((rd_T67 l0_1 x7_2).f1) : Int).toNat true) := ⟨_, rfl⟩
                  replace H : (if rdOf false y185 ((rd_T67 l0_1 x7_2).f1) = true then (if 0 ≤ ((rd_T67 l0_1 x7_2).f0) then (if ((rd_T67 l0_1 x7_2).f0) < (x5_2.length : Int) then (if rdOf false y185 ((rd_T67 l0_1 x7_2).f0) = true then (spec_ReachedBy.l1 kj20 l1 y185 true (wrap64 (x7_2 + 1)) a0_0 l0_1) else (if 0 ≤ x7_2 then (if x7_2 < (l1.length : Int) then (if (rd l1 x7_2) > 0 then (spec_ReachedBy.l1 kj20 l1 (y185.set (((rd_T67 l0_1 x7_2).f0) : Int).toNat true) true (wrap64 (x7_2 + 1)) a0_0 l0_1) else (spec_ReachedBy.l1 kj20 l1 y185 true (wrap64 (x7_2 + 1)) a0_0 l0_1)) else (none)) else (none))) else (none)) else (none)) else (spec_ReachedBy.l1 kj20 l1 y185 true (wrap64 (x7_2 + 1)) a0_0 l0_1)) = some r := by (have H2_ := (Option.bind_some _ _).symm.trans H; rw [hy185]; with_reducible exact H2_)
                  have Ny185 := Aside0.mk hy185
                  clear hy185
                  obtain ⟨bq44, hbq44⟩ : ∃ b_ : Bool, b_ = (rdOf false y185 ((rd_T67 l0_1 x7_2).f1)) := ⟨_, rfl⟩
                  replace H : (if bq44 = true then (if 0 ≤ ((rd_T67 l0_1 x7_2).f0) then (if ((rd_T67 l0_1 x7_2).f0) < (x5_2.length : Int) then (if rdOf false y185 ((rd_T67 l0_1 x7_2).f0) = true then (spec_ReachedBy.l1 kj20 l1 y185 true (wrap64 (x7_2 + 1)) a0_0 l0_1) else (if 0 ≤ x7_2 then (if x7_2 < (l1.length : Int) then (if (rd l1 x7_2) > 0 then (spec_ReachedBy.l1 kj20 l1 (y185.set (((rd_T67 l0_1 x7_2).f0) : Int).toNat true) true (wrap64 (x7_2 + 1)) a0_0 l0_1) else (spec_ReachedBy.l1 kj20 l1 y185 true (wrap64 (x7_2 + 1)) a0_0 l0_1)) else (none)) else (none))) else (none)) else (none)) else (spec_ReachedBy.l1 kj20 l1 y185 true (wrap64 (x7_2 + 1)) a0_0 l0_1)) = some r := by rw [← hbq44] at H; exact H
                  have Nbq44 := Aside0.mk hbq44
                  clear hbq44
                  by_cases c45 : bq44 = true
                  ·subst c45
                   have H1 : (if 0 ≤ ((rd_T67 l0_1 x7_2).f0) then (if ((rd_T67 l0_1 x7_2).f0) < (x5_2.length : Int) then (if rdOf false y185 ((rd_T67 l0_1 x7_2).f0) = true then (spec_ReachedBy.l1 kj20 l1 y185 true (wrap64 (x7_2 + 1)) a0_0 l0_1) else (if 0 ≤ x7_2 then (if x7_2 < (l1.length : Int) then (if (rd l1 x7_2) > 0 then (spec_ReachedBy.l1 kj20 l1 (y185.set (((rd_T67 l0_1 x7_2).f0) : Int).toNat true) true (wrap64 (x7_2 + 1)) a0_0 l0_1) else (spec_ReachedBy.l1 kj20 l1 y185 true (wrap64 (x7_2 + 1)) a0_0 l0_1)) else (none)) else (none))) else (none)) else (none)) = some r := by rw [if_pos rfl] at H; exact H
                   clear H
                   have H := H1
                   clear H1
                   by_cases c46 : 0 ≤ ((rd_T67 l0_1 x7_2).f0)
                   ·rw [if_pos c46] at H
                    have c46b0 : decide (0 ≤ ((rd_T67 l0_1 x7_2).f0)) = true := decide_eq_true c46
                    clear c46
                    by_cases c47 : ((rd_T67 l0_1 x7_2).f0) < (x5_2.length : Int)
                    ·rw [if_pos c47] at H
                     have c47b0 : decide (((rd_T67 l0_1 x7_2).f0) < (x5_2.length : Int)) = true := decide_eq_true c47
                     clear c47
                     obtain ⟨bq48, hbq48⟩ : ∃ b_ : Bool, b_ = (rdOf false y185 ((rd_T67 l0_1 x7_2).f0)) := ⟨_, rfl⟩
                     replace H : (if bq48 = true then (spec_ReachedBy.l1 kj20 l1 y185 true (wrap64 (x7_2 + 1)) a0_0 l0_1) else (if 0 ≤ x7_2 then (if x7_2 < (l1.length : Int) then (if (rd l1 x7_2) > 0 then (spec_ReachedBy.l1 kj20 l1 (y185.set (((rd_T67 l0_1 x7_2).f0) : Int).toNat true) true (wrap64 (x7_2 + 1)) a0_0 l0_1) else (spec_ReachedBy.l1 kj20 l1 y185 true (wrap64 (x7_2 + 1)) a0_0 l0_1)) else (none)) else (none))) = some r := by rw [← hbq48] at H; exact H
                     have Nbq48 := Aside0.mk hbq48
                     clear hbq48
                     by_cases c49 : bq48 = true
                     ·subst c49
                      have H1 : (spec_ReachedBy.l1 kj20 l1 y185 true (wrap64 (x7_2 + 1)) a0_0 l0_1) = some r := by rw [if_pos rfl] at H; exact H
                      clear H
                      have H := H1
                      clear H1
                      have H' := Aside0.mk H
                      clear H
                      have hnb50 := NB181_171.out
                      have hnc50 := NB171_181.out
                      have hcz51_0 : wc.cell? ⟨gb181, 0, none⟩ = some (.int .i64 ((rd_T67 l0_1 x7_2).f0)) := (blk_cell BK181.out 0).trans rfl
                      have hcz51_1 : wc.cell? ⟨gb181, 1, none⟩ = some (.int .i64 ((rd_T67 l0_1 x7_2).f1)) := (blk_cell BK181.out 1).trans rfl
                      have hcz51_2 : wc.cell? ⟨gb181, 2, none⟩ = some (.int .i64 ((rd_T67 l0_1 x7_2).f2)) := (blk_cell BK181.out 2).trans rfl
                      have hcz51_3 : wc.cell? ⟨gb181, 3, none⟩ = some (.int .i64 ((rd_T67 l0_1 x7_2).f3)) := (blk_cell BK181.out 3).trans rfl
                      have hfz51_0 := blk_frozen BK181.out 0
                      have hfz51_1 := blk_frozen BK181.out 1
                      have hfz51_2 := blk_frozen BK181.out 2
                      have hfz51_3 := blk_frozen BK181.out 3
                      have p43 : 0 ≤ (((rd_T67 l0_1 x7_2).f1) : Int) := of_decide_eq_true (by (with_reducible assumption))
                      have q43 : (((rd_T67 l0_1 x7_2).f1) : Int) < ((x5_2.length : Int) : Int) := of_decide_eq_true (by (with_reducible assumption))
                      obtain ⟨hx43_0, hf43_0⟩ := Kd.R_celln false HO_5.out (((rd_T67 l0_1 x7_2).f1) : Int) p43 q43
                      replace p43 := eq_true p43
                      replace q43 := eq_true q43
                      have HP52 := Kd.R_putg HO_5.out (((rd_T67 l0_1 x7_2).f1) : Int) true
                      go_wp2_with (((with_reducible refine gate_store (t := 4) (p := 56) rfl ?_); refine store_event (t := 4) (p := 56) (v := ?vo_w53) (w1 := (wc.setCell ⟨go8, (((rd_T67 l0_1 x7_2).f1) : Int).toNat, none⟩ (.bool true))) ?hg ?ho ?hn ?hr ?_; (case ho => rfl); (case hg => rfl); (case hn => rfl); (case hr => (go_simp; done)); intro w53 hw; have hg : wc.grownBy w53 (some go8) := (by rw [hw]; exact HP52.2); have hp_ : Kd.R Kd.bool 4 w53 w.heap.size (fun _ => True) (.slice (some ⟨go8, 0, none⟩) x5_2.length co8) y185 := (by rw [hw, Ny185.out]; exact HP52.1); clear HP52; have n0_ := Aside0.mk (hp_); have n1_ := Aside0.mk (blk_grown (g := gb171) (o := .cells #[.int .i64 a0_0, .slice (some ad180) l0_1.length c0_1] 30 (0, 0)) BK171.out hg (Kd.R_ne HO_5.out BK171.out (by decide))); have n2_ := Aside0.mk (blk_grown (g := gb181) (o := .cells #[.int .i64 ((rd_T67 l0_1 x7_2).f0), .int .i64 ((rd_T67 l0_1 x7_2).f1), .int .i64 ((rd_T67 l0_1 x7_2).f2), .int .i64 ((rd_T67 l0_1 x7_2).f3)] 67 (0, 0)) BK181.out hg (Kd.R_ne HO_5.out BK181.out (by decide))); have n3_ := Aside0.mk ((by rw [hw]; exact below_set (HB.out) GB8.out : Below w.heap.size w w53)); clear HO_5 BK171 BK181 HB; have HO_5 := n0_; have BK171 := n1_; have BK181 := n2_; have HB := n3_; clear n0_ n1_ n2_ n3_ hg hw hp_; have hcz54_0 : w53.cell? ⟨gb181, 0, none⟩ = some (.int .i64 ((rd_T67 l0_1 x7_2).f0)) := (blk_cell BK181.out 0).trans rfl; have hcz54_1 : w53.cell? ⟨gb181, 1, none⟩ = some (.int .i64 ((rd_T67 l0_1 x7_2).f1)) := (blk_cell BK181.out 1).trans rfl; have hcz54_2 : w53.cell? ⟨gb181, 2, none⟩ = some (.int .i64 ((rd_T67 l0_1 x7_2).f2)) := (blk_cell BK181.out 2).trans rfl; have hcz54_3 : w53.cell? ⟨gb181, 3, none⟩ = some (.int .i64 ((rd_T67 l0_1 x7_2).f3)) := (blk_cell BK181.out 3).trans rfl; have hfz54_0 := blk_frozen BK181.out 0; have hfz54_1 := blk_frozen BK181.out 1; have hfz54_2 := blk_frozen BK181.out 2; have hfz54_3 := blk_frozen BK181.out 3; have p186 : 0 ≤ (((rd_T67 l0_1 x7_2).f1) : Int) := of_decide_eq_true (by (with_reducible assumption)); have q186 : ((rd_T67 l0_1 x7_2).f1) < (y185.length : Int) := (by have h_ : (((rd_T67 l0_1 x7_2).f1) : Int) < ((x5_2.length : Int) : Int) := of_decide_eq_true (by (with_reducible assumption)); (have e_ := (Kd.R_reads' HO_5.out).1; omega)); have ql186 : ((((rd_T67 l0_1 x7_2).f1) : Int) < ((x5_2.length : Int) : Int)) = True := eq_true (of_decide_eq_true (by (with_reducible assumption))); obtain ⟨ad186, e186, hx186_0⟩ := Kd.at_bool (Kd.R_reads' HO_5.out).2.2 ((rd_T67 l0_1 x7_2).f1) p186 q186; (try rw [← Nbq44.out] at hx186_0); obtain rfl : (⟨go8, 0, none⟩ : Addr) = ad186 := (by injection e186); (simp only [add_plain] at hx186_0); replace p186 := eq_true p186; replace q186 := eq_true q186; have p187 : 0 ≤ (((rd_T67 l0_1 x7_2).f0) : Int) := of_decide_eq_true (by (with_reducible assumption)); have q187 : ((rd_T67 l0_1 x7_2).f0) < (y185.length : Int) := (by have h_ : (((rd_T67 l0_1 x7_2).f0) : Int) < ((x5_2.length : Int) : Int) := of_decide_eq_true (by (with_reducible assumption)); (have e_ := (Kd.R_reads' HO_5.out).1; omega)); have ql187 : ((((rd_T67 l0_1 x7_2).f0) : Int) < ((x5_2.length : Int) : Int)) = True := eq_true (of_decide_eq_true (by (with_reducible assumption))); obtain ⟨ad187, e187, hx187_0⟩ := Kd.at_bool (Kd.R_reads' HO_5.out).2.2 ((rd_T67 l0_1 x7_2).f0) p187 q187; (try rw [← Nbq48.out] at hx187_0); obtain rfl : (⟨go8, 0, none⟩ : Addr) = ad187 := (by injection e187); (simp only [add_plain] at hx187_0); replace p187 := eq_true p187; replace q187 := eq_true q187))
                      repeat (go_quiet (fail); try go_wp2_with (fail))
                      (try simp only [← hl5_2])
                      go_roundg kj20
                      case measure => have := HK1.out; have := HK2.out; have := HJ20.out; omega
                      case rel => exact ⟨(y185), (true), (wrap64 (x7_2 + 1)), (by rfl), (by rfl), H', ⟨by have := HK1.out; have := HK2.out; have := HJ20.out; omega⟩, ⟨by (try simp only [hl5_2]); exact HO_5.out⟩, ⟨by exact BK171.out⟩, ⟨by exact HB.out⟩⟩
                     ·replace c49 := Bool.eq_false_iff.mpr c49
                      subst c49
                      have H1 : (if 0 ≤ x7_2 then (if x7_2 < (l1.length : Int) then (if (rd l1 x7_2) > 0 then (spec_ReachedBy.l1 kj20 l1 (y185.set (((rd_T67 l0_1 x7_2).f0) : Int).toNat true) true (wrap64 (x7_2 + 1)) a0_0 l0_1) else (spec_ReachedBy.l1 kj20 l1 y185 true (wrap64 (x7_2 + 1)) a0_0 l0_1)) else (none)) else (none)) = some r := by rw [if_neg (show ¬ (false = true) by decide)] at H; exact H
                      clear H
                      have H := H1
                      clear H1
                      by_cases c55 : 0 ≤ x7_2
                      ·rw [if_pos c55] at H
                       have c55b0 : decide (0 ≤ x7_2) = true := decide_eq_true c55
                       clear c55
                       by_cases c56 : x7_2 < (l1.length : Int)
                       ·rw [if_pos c56] at H
                        have c56b0 : decide (x7_2 < (l1.length : Int)) = true := decide_eq_true c56
                        clear c56
                        by_cases c57 : (rd l1 x7_2) > 0
                        ·rw [if_pos c57] at H
                         have c57b0 : decide (0 < (rd l1 x7_2)) = true := decide_eq_true c57
                         clear c57
                         obtain ⟨y189, hy189⟩ : ∃ y_ : List Bool, y_ = (y185.set (((rd_T67 l0_1 x7_2).f0) : Int).toNat true) := ⟨_, rfl⟩
                         replace H : (spec_ReachedBy.l1 kj20 l1 y189 true (wrap64 (x7_2 + 1)) a0_0 l0_1) = some r := by (rw [hy189]; with_reducible exact H)
                         have Ny189 := Aside0.mk hy189
                         clear hy189
                         have H' := Aside0.mk H
                         clear H
                         have hnb59 := NB181_171.out
                         have hnc59 := NB171_181.out
                         have hcz60_0 : wc.cell? ⟨gb181, 0, none⟩ = some (.int .i64 ((rd_T67 l0_1 x7_2).f0)) := (blk_cell BK181.out 0).trans rfl
                         have hcz60_1 : wc.cell? ⟨gb181, 1, none⟩ = some (.int .i64 ((rd_T67 l0_1 x7_2).f1)) := (blk_cell BK181.out 1).trans rfl
                         have hcz60_2 : wc.cell? ⟨gb181, 2, none⟩ = some (.int .i64 ((rd_T67 l0_1 x7_2).f2)) := (blk_cell BK181.out 2).trans rfl
                         have hcz60_3 : wc.cell? ⟨gb181, 3, none⟩ = some (.int .i64 ((rd_T67 l0_1 x7_2).f3)) := (blk_cell BK181.out 3).trans rfl
                         have hfz60_0 := blk_frozen BK181.out 0
                         have hfz60_1 := blk_frozen BK181.out 1
                         have hfz60_2 := blk_frozen BK181.out 2
                         have hfz60_3 := blk_frozen BK181.out 3
                         have p43 : 0 ≤ (((rd_T67 l0_1 x7_2).f1) : Int) := of_decide_eq_true (by (with_reducible assumption))
                         have q43 : (((rd_T67 l0_1 x7_2).f1) : Int) < ((x5_2.length : Int) : Int) := of_decide_eq_true (by (with_reducible assumption))
                         obtain ⟨hx43_0, hf43_0⟩ := Kd.R_celln false HO_5.out (((rd_T67 l0_1 x7_2).f1) : Int) p43 q43
                         replace p43 := eq_true p43
                         replace q43 := eq_true q43
                         have HP61 := Kd.R_putg HO_5.out (((rd_T67 l0_1 x7_2).f1) : Int) true
                         go_wp2_with (first | ((with_reducible refine gate_store (t := 4) (p := 56) rfl ?_); refine store_event (t := 4) (p := 56) (v := ?vo_w62) (w1 := (wc.setCell ⟨go8, (((rd_T67 l0_1 x7_2).f1) : Int).toNat, none⟩ (.bool true))) ?hg ?ho ?hn ?hr ?_; (case ho => rfl); (case hg => rfl); (case hn => rfl); (case hr => (go_simp; done)); intro w62 hw; have hg : wc.grownBy w62 (some go8) := (by rw [hw]; exact HP61.2); have hp_ : Kd.R Kd.bool 4 w62 w.heap.size (fun _ => True) (.slice (some ⟨go8, 0, none⟩) x5_2.length co8) y185 := (by rw [hw, Ny185.out]; exact HP61.1); clear HP61; have n0_ := Aside0.mk (hp_); have n1_ := Aside0.mk (blk_grown (g := gb171) (o := .cells #[.int .i64 a0_0, .slice (some ad180) l0_1.length c0_1] 30 (0, 0)) BK171.out hg (Kd.R_ne HO_5.out BK171.out (by decide))); have n2_ := Aside0.mk (blk_grown (g := gb181) (o := .cells #[.int .i64 ((rd_T67 l0_1 x7_2).f0), .int .i64 ((rd_T67 l0_1 x7_2).f1), .int .i64 ((rd_T67 l0_1 x7_2).f2), .int .i64 ((rd_T67 l0_1 x7_2).f3)] 67 (0, 0)) BK181.out hg (Kd.R_ne HO_5.out BK181.out (by decide))); have n3_ := Aside0.mk ((by rw [hw]; exact below_set (HB.out) GB8.out : Below w.heap.size w w62)); clear HO_5 BK171 BK181 HB; have HO_5 := n0_; have BK171 := n1_; have BK181 := n2_; have HB := n3_; clear n0_ n1_ n2_ n3_ hg hw hp_; have hcz63_0 : w62.cell? ⟨gb181, 0, none⟩ = some (.int .i64 ((rd_T67 l0_1 x7_2).f0)) := (blk_cell BK181.out 0).trans rfl; have hcz63_1 : w62.cell? ⟨gb181, 1, none⟩ = some (.int .i64 ((rd_T67 l0_1 x7_2).f1)) := (blk_cell BK181.out 1).trans rfl; have hcz63_2 : w62.cell? ⟨gb181, 2, none⟩ = some (.int .i64 ((rd_T67 l0_1 x7_2).f2)) := (blk_cell BK181.out 2).trans rfl; have hcz63_3 : w62.cell? ⟨gb181, 3, none⟩ = some (.int .i64 ((rd_T67 l0_1 x7_2).f3)) := (blk_cell BK181.out 3).trans rfl; have hfz63_0 := blk_frozen BK181.out 0; have hfz63_1 := blk_frozen BK181.out 1; have hfz63_2 := blk_frozen BK181.out 2; have hfz63_3 := blk_frozen BK181.out 3; have p186 : 0 ≤ (((rd_T67 l0_1 x7_2).f1) : Int) := of_decide_eq_true (by (with_reducible assumption)); have q186 : ((rd_T67 l0_1 x7_2).f1) < (y185.length : Int) := (by have h_ : (((rd_T67 l0_1 x7_2).f1) : Int) < ((x5_2.length : Int) : Int) := of_decide_eq_true (by (with_reducible assumption)); (have e_ := (Kd.R_reads' HO_5.out).1; omega)); have ql186 : ((((rd_T67 l0_1 x7_2).f1) : Int) < ((x5_2.length : Int) : Int)) = True := eq_true (of_decide_eq_true (by (with_reducible assumption))); obtain ⟨ad186, e186, hx186_0⟩ := Kd.at_bool (Kd.R_reads' HO_5.out).2.2 ((rd_T67 l0_1 x7_2).f1) p186 q186; (try rw [← Nbq44.out] at hx186_0); obtain rfl : (⟨go8, 0, none⟩ : Addr) = ad186 := (by injection e186); (simp only [add_plain] at hx186_0); replace p186 := eq_true p186; replace q186 := eq_true q186; have p187 : 0 ≤ (((rd_T67 l0_1 x7_2).f0) : Int) := of_decide_eq_true (by (with_reducible assumption)); have q187 : ((rd_T67 l0_1 x7_2).f0) < (y185.length : Int) := (by have h_ : (((rd_T67 l0_1 x7_2).f0) : Int) < ((x5_2.length : Int) : Int) := of_decide_eq_true (by (with_reducible assumption)); (have e_ := (Kd.R_reads' HO_5.out).1; omega)); have ql187 : ((((rd_T67 l0_1 x7_2).f0) : Int) < ((x5_2.length : Int) : Int)) = True := eq_true (of_decide_eq_true (by (with_reducible assumption))); obtain ⟨ad187, e187, hx187_0⟩ := Kd.at_bool (Kd.R_reads' HO_5.out).2.2 ((rd_T67 l0_1 x7_2).f0) p187 q187; (try rw [← Nbq48.out] at hx187_0); obtain rfl : (⟨go8, 0, none⟩ : Addr) = ad187 := (by injection e187); (simp only [add_plain] at hx187_0); replace p187 := eq_true p187; replace q187 := eq_true q187; have p188 : 0 ≤ (x7_2 : Int) := of_decide_eq_true (by (with_reducible assumption)); have q188 : x7_2 < (l1.length : Int) := of_decide_eq_true (by (with_reducible assumption)); obtain ⟨ad188, e188, hx188_0⟩ := Kd.at_int HR1.out x7_2 p188 q188; cases e188; replace hx188_0 := (HB.out.cell (World.block_lt_of_cell? w _ hx188_0)).trans hx188_0; replace p188 := eq_true p188; replace q188 := eq_true q188; have p58 : 0 ≤ (((rd_T67 l0_1 x7_2).f0) : Int) := of_decide_eq_true (by (with_reducible assumption)); have q58 : (((rd_T67 l0_1 x7_2).f0) : Int) < ((x5_2.length : Int) : Int) := of_decide_eq_true (by (with_reducible assumption)); obtain ⟨hx58_0, hf58_0⟩ := Kd.R_celln false HO_5.out (((rd_T67 l0_1 x7_2).f0) : Int) p58 q58; replace p58 := eq_true p58; replace q58 := eq_true q58; obtain ⟨hy64_, hz64_⟩ := Kd.R_celln false HO_5.out (((rd_T67 l0_1 x7_2).f0) : Int) (of_decide_eq_true (by (with_reducible assumption))) (of_decide_eq_true (by (with_reducible assumption))); have HP64 := Kd.R_putg HO_5.out (((rd_T67 l0_1 x7_2).f0) : Int) true) | ((with_reducible refine gate_store (t := 4) (p := 80) rfl ?_); refine store_event (t := 4) (p := 80) (v := ?vo_w65) (w1 := (w62.setCell ⟨go8, (((rd_T67 l0_1 x7_2).f0) : Int).toNat, none⟩ (.bool true))) ?hg ?ho ?hn ?hr ?_; (case ho => rfl); (case hg => rfl); (case hn => rfl); (case hr => (go_simp; done)); intro w65 hw; have hg : w62.grownBy w65 (some go8) := (by rw [hw]; exact HP64.2); have hp_ : Kd.R Kd.bool 4 w65 w.heap.size (fun _ => True) (.slice (some ⟨go8, 0, none⟩) x5_2.length co8) y189 := (by rw [hw, Ny189.out]; exact HP64.1); clear HP64; have n0_ := Aside0.mk (hp_); have n1_ := Aside0.mk (blk_grown (g := gb171) (o := .cells #[.int .i64 a0_0, .slice (some ad180) l0_1.length c0_1] 30 (0, 0)) BK171.out hg (Kd.R_ne HO_5.out BK171.out (by decide))); have n2_ := Aside0.mk (blk_grown (g := gb181) (o := .cells #[.int .i64 ((rd_T67 l0_1 x7_2).f0), .int .i64 ((rd_T67 l0_1 x7_2).f1), .int .i64 ((rd_T67 l0_1 x7_2).f2), .int .i64 ((rd_T67 l0_1 x7_2).f3)] 67 (0, 0)) BK181.out hg (Kd.R_ne HO_5.out BK181.out (by decide))); have n3_ := Aside0.mk ((by rw [hw]; exact below_set (HB.out) GB8.out : Below w.heap.size w w65)); clear HO_5 BK171 BK181 HB; have HO_5 := n0_; have BK171 := n1_; have BK181 := n2_; have HB := n3_; clear n0_ n1_ n2_ n3_ hg hw hp_))
                         repeat (go_quiet (fail); try go_wp2_with (fail))
                         (try simp only [← hl5_2])
                         go_roundg kj20
                         case measure => have := HK1.out; have := HK2.out; have := HJ20.out; omega
                         case rel => exact ⟨(y189), (true), (wrap64 (x7_2 + 1)), (by rfl), (by rfl), H', ⟨by have := HK1.out; have := HK2.out; have := HJ20.out; omega⟩, ⟨by (try simp only [hl5_2]); exact HO_5.out⟩, ⟨by exact BK171.out⟩, ⟨by exact HB.out⟩⟩
                        ·rw [if_neg c57] at H
                         have c57b0 : decide (0 < (rd l1 x7_2)) = false := decide_eq_false c57
                         clear c57
                         have H' := Aside0.mk H
                         clear H
                         have hnb66 := NB181_171.out
                         have hnc66 := NB171_181.out
                         have hcz67_0 : wc.cell? ⟨gb181, 0, none⟩ = some (.int .i64 ((rd_T67 l0_1 x7_2).f0)) := (blk_cell BK181.out 0).trans rfl
                         have hcz67_1 : wc.cell? ⟨gb181, 1, none⟩ = some (.int .i64 ((rd_T67 l0_1 x7_2).f1)) := (blk_cell BK181.out 1).trans rfl
                         have hcz67_2 : wc.cell? ⟨gb181, 2, none⟩ = some (.int .i64 ((rd_T67 l0_1 x7_2).f2)) := (blk_cell BK181.out 2).trans rfl
                         have hcz67_3 : wc.cell? ⟨gb181, 3, none⟩ = some (.int .i64 ((rd_T67 l0_1 x7_2).f3)) := (blk_cell BK181.out 3).trans rfl
                         have hfz67_0 := blk_frozen BK181.out 0
                         have hfz67_1 := blk_frozen BK181.out 1
                         have hfz67_2 := blk_frozen BK181.out 2
                         have hfz67_3 := blk_frozen BK181.out 3
                         have p43 : 0 ≤ (((rd_T67 l0_1 x7_2).f1) : Int) := of_decide_eq_true (by (with_reducible assumption))
                         have q43 : (((rd_T67 l0_1 x7_2).f1) : Int) < ((x5_2.length : Int) : Int) := of_decide_eq_true (by (with_reducible assumption))
                         obtain ⟨hx43_0, hf43_0⟩ := Kd.R_celln false HO_5.out (((rd_T67 l0_1 x7_2).f1) : Int) p43 q43
                         replace p43 := eq_true p43
                         replace q43 := eq_true q43
                         have HP68 := Kd.R_putg HO_5.out (((rd_T67 l0_1 x7_2).f1) : Int) true
                         go_wp2_with (((with_reducible refine gate_store (t := 4) (p := 56) rfl ?_); refine store_event (t := 4) (p := 56) (v := ?vo_w69) (w1 := (wc.setCell ⟨go8, (((rd_T67 l0_1 x7_2).f1) : Int).toNat, none⟩ (.bool true))) ?hg ?ho ?hn ?hr ?_; (case ho => rfl); (case hg => rfl); (case hn => rfl); (case hr => (go_simp; done)); intro w69 hw; have hg : wc.grownBy w69 (some go8) := (by rw [hw]; exact HP68.2); have hp_ : Kd.R Kd.bool 4 w69 w.heap.size (fun _ => True) (.slice (some ⟨go8, 0, none⟩) x5_2.length co8) y185 := (by rw [hw, Ny185.out]; exact HP68.1); clear HP68; have n0_ := Aside0.mk (hp_); have n1_ := Aside0.mk (blk_grown (g := gb171) (o := .cells #[.int .i64 a0_0, .slice (some ad180) l0_1.length c0_1] 30 (0, 0)) BK171.out hg (Kd.R_ne HO_5.out BK171.out (by decide))); have n2_ := Aside0.mk (blk_grown (g := gb181) (o := .cells #[.int .i64 ((rd_T67 l0_1 x7_2).f0), .int .i64 ((rd_T67 l0_1 x7_2).f1), .int .i64 ((rd_T67 l0_1 x7_2).f2), .int .i64 ((rd_T67 l0_1 x7_2).f3)] 67 (0, 0)) BK181.out hg (Kd.R_ne HO_5.out BK181.out (by decide))); have n3_ := Aside0.mk ((by rw [hw]; exact below_set (HB.out) GB8.out : Below w.heap.size w w69)); clear HO_5 BK171 BK181 HB; have HO_5 := n0_; have BK171 := n1_; have BK181 := n2_; have HB := n3_; clear n0_ n1_ n2_ n3_ hg hw hp_; have hcz70_0 : w69.cell? ⟨gb181, 0, none⟩ = some (.int .i64 ((rd_T67 l0_1 x7_2).f0)) := (blk_cell BK181.out 0).trans rfl; have hcz70_1 : w69.cell? ⟨gb181, 1, none⟩ = some (.int .i64 ((rd_T67 l0_1 x7_2).f1)) := (blk_cell BK181.out 1).trans rfl; have hcz70_2 : w69.cell? ⟨gb181, 2, none⟩ = some (.int .i64 ((rd_T67 l0_1 x7_2).f2)) := (blk_cell BK181.out 2).trans rfl; have hcz70_3 : w69.cell? ⟨gb181, 3, none⟩ = some (.int .i64 ((rd_T67 l0_1 x7_2).f3)) := (blk_cell BK181.out 3).trans rfl; have hfz70_0 := blk_frozen BK181.out 0; have hfz70_1 := blk_frozen BK181.out 1; have hfz70_2 := blk_frozen BK181.out 2; have hfz70_3 := blk_frozen BK181.out 3; have p186 : 0 ≤ (((rd_T67 l0_1 x7_2).f1) : Int) := of_decide_eq_true (by (with_reducible assumption)); have q186 : ((rd_T67 l0_1 x7_2).f1) < (y185.length : Int) := (by have h_ : (((rd_T67 l0_1 x7_2).f1) : Int) < ((x5_2.length : Int) : Int) := of_decide_eq_true (by (with_reducible assumption)); (have e_ := (Kd.R_reads' HO_5.out).1; omega)); have ql186 : ((((rd_T67 l0_1 x7_2).f1) : Int) < ((x5_2.length : Int) : Int)) = True := eq_true (of_decide_eq_true (by (with_reducible assumption))); obtain ⟨ad186, e186, hx186_0⟩ := Kd.at_bool (Kd.R_reads' HO_5.out).2.2 ((rd_T67 l0_1 x7_2).f1) p186 q186; (try rw [← Nbq44.out] at hx186_0); obtain rfl : (⟨go8, 0, none⟩ : Addr) = ad186 := (by injection e186); (simp only [add_plain] at hx186_0); replace p186 := eq_true p186; replace q186 := eq_true q186; have p187 : 0 ≤ (((rd_T67 l0_1 x7_2).f0) : Int) := of_decide_eq_true (by (with_reducible assumption)); have q187 : ((rd_T67 l0_1 x7_2).f0) < (y185.length : Int) := (by have h_ : (((rd_T67 l0_1 x7_2).f0) : Int) < ((x5_2.length : Int) : Int) := of_decide_eq_true (by (with_reducible assumption)); (have e_ := (Kd.R_reads' HO_5.out).1; omega)); have ql187 : ((((rd_T67 l0_1 x7_2).f0) : Int) < ((x5_2.length : Int) : Int)) = True := eq_true (of_decide_eq_true (by (with_reducible assumption))); obtain ⟨ad187, e187, hx187_0⟩ := Kd.at_bool (Kd.R_reads' HO_5.out).2.2 ((rd_T67 l0_1 x7_2).f0) p187 q187; (try rw [← Nbq48.out] at hx187_0); obtain rfl : (⟨go8, 0, none⟩ : Addr) = ad187 := (by injection e187); (simp only [add_plain] at hx187_0); replace p187 := eq_true p187; replace q187 := eq_true q187; have p188 : 0 ≤ (x7_2 : Int) := of_decide_eq_true (by (with_reducible assumption)); have q188 : x7_2 < (l1.length : Int) := of_decide_eq_true (by (with_reducible assumption)); obtain ⟨ad188, e188, hx188_0⟩ := Kd.at_int HR1.out x7_2 p188 q188; cases e188; replace hx188_0 := (HB.out.cell (World.block_lt_of_cell? w _ hx188_0)).trans hx188_0; replace p188 := eq_true p188; replace q188 := eq_true q188))
                         repeat (go_quiet (fail); try go_wp2_with (fail))
                         (try simp only [← hl5_2])
                         go_roundg kj20
                         case measure => have := HK1.out; have := HK2.out; have := HJ20.out; omega
                         case rel => exact ⟨(y185), (true), (wrap64 (x7_2 + 1)), (by rfl), (by rfl), H', ⟨by have := HK1.out; have := HK2.out; have := HJ20.out; omega⟩, ⟨by (try simp only [hl5_2]); exact HO_5.out⟩, ⟨by exact BK171.out⟩, ⟨by exact HB.out⟩⟩
                       ·rw [if_neg c56] at H
                        exact absurd H (by simp)
                      ·rw [if_neg c55] at H
                       exact absurd H (by simp)
                    ·rw [if_neg c47] at H
                     exact absurd H (by simp)
                   ·rw [if_neg c46] at H
                    exact absurd H (by simp)
                  ·replace c45 := Bool.eq_false_iff.mpr c45
                   subst c45
                   have H1 : (spec_ReachedBy.l1 kj20 l1 y185 true (wrap64 (x7_2 + 1)) a0_0 l0_1) = some r := by rw [if_neg (show ¬ (false = true) by decide)] at H; exact H
                   clear H
                   have H := H1
                   clear H1
                   have H' := Aside0.mk H
                   clear H
                   have hnb71 := NB181_171.out
                   have hnc71 := NB171_181.out
                   have hcz72_0 : wc.cell? ⟨gb181, 0, none⟩ = some (.int .i64 ((rd_T67 l0_1 x7_2).f0)) := (blk_cell BK181.out 0).trans rfl
                   have hcz72_1 : wc.cell? ⟨gb181, 1, none⟩ = some (.int .i64 ((rd_T67 l0_1 x7_2).f1)) := (blk_cell BK181.out 1).trans rfl
                   have hcz72_2 : wc.cell? ⟨gb181, 2, none⟩ = some (.int .i64 ((rd_T67 l0_1 x7_2).f2)) := (blk_cell BK181.out 2).trans rfl
                   have hcz72_3 : wc.cell? ⟨gb181, 3, none⟩ = some (.int .i64 ((rd_T67 l0_1 x7_2).f3)) := (blk_cell BK181.out 3).trans rfl
                   have hfz72_0 := blk_frozen BK181.out 0
                   have hfz72_1 := blk_frozen BK181.out 1
                   have hfz72_2 := blk_frozen BK181.out 2
                   have hfz72_3 := blk_frozen BK181.out 3
                   have p43 : 0 ≤ (((rd_T67 l0_1 x7_2).f1) : Int) := of_decide_eq_true (by (with_reducible assumption))
                   have q43 : (((rd_T67 l0_1 x7_2).f1) : Int) < ((x5_2.length : Int) : Int) := of_decide_eq_true (by (with_reducible assumption))
                   obtain ⟨hx43_0, hf43_0⟩ := Kd.R_celln false HO_5.out (((rd_T67 l0_1 x7_2).f1) : Int) p43 q43
                   replace p43 := eq_true p43
                   replace q43 := eq_true q43
                   have HP73 := Kd.R_putg HO_5.out (((rd_T67 l0_1 x7_2).f1) : Int) true
                   go_wp2_with (((with_reducible refine gate_store (t := 4) (p := 56) rfl ?_); refine store_event (t := 4) (p := 56) (v := ?vo_w74) (w1 := (wc.setCell ⟨go8, (((rd_T67 l0_1 x7_2).f1) : Int).toNat, none⟩ (.bool true))) ?hg ?ho ?hn ?hr ?_; (case ho => rfl); (case hg => rfl); (case hn => rfl); (case hr => (go_simp; done)); intro w74 hw; have hg : wc.grownBy w74 (some go8) := (by rw [hw]; exact HP73.2); have hp_ : Kd.R Kd.bool 4 w74 w.heap.size (fun _ => True) (.slice (some ⟨go8, 0, none⟩) x5_2.length co8) y185 := (by rw [hw, Ny185.out]; exact HP73.1); clear HP73; have n0_ := Aside0.mk (hp_); have n1_ := Aside0.mk (blk_grown (g := gb171) (o := .cells #[.int .i64 a0_0, .slice (some ad180) l0_1.length c0_1] 30 (0, 0)) BK171.out hg (Kd.R_ne HO_5.out BK171.out (by decide))); have n2_ := Aside0.mk (blk_grown (g := gb181) (o := .cells #[.int .i64 ((rd_T67 l0_1 x7_2).f0), .int .i64 ((rd_T67 l0_1 x7_2).f1), .int .i64 ((rd_T67 l0_1 x7_2).f2), .int .i64 ((rd_T67 l0_1 x7_2).f3)] 67 (0, 0)) BK181.out hg (Kd.R_ne HO_5.out BK181.out (by decide))); have n3_ := Aside0.mk ((by rw [hw]; exact below_set (HB.out) GB8.out : Below w.heap.size w w74)); clear HO_5 BK171 BK181 HB; have HO_5 := n0_; have BK171 := n1_; have BK181 := n2_; have HB := n3_; clear n0_ n1_ n2_ n3_ hg hw hp_; have hcz75_0 : w74.cell? ⟨gb181, 0, none⟩ = some (.int .i64 ((rd_T67 l0_1 x7_2).f0)) := (blk_cell BK181.out 0).trans rfl; have hcz75_1 : w74.cell? ⟨gb181, 1, none⟩ = some (.int .i64 ((rd_T67 l0_1 x7_2).f1)) := (blk_cell BK181.out 1).trans rfl; have hcz75_2 : w74.cell? ⟨gb181, 2, none⟩ = some (.int .i64 ((rd_T67 l0_1 x7_2).f2)) := (blk_cell BK181.out 2).trans rfl; have hcz75_3 : w74.cell? ⟨gb181, 3, none⟩ = some (.int .i64 ((rd_T67 l0_1 x7_2).f3)) := (blk_cell BK181.out 3).trans rfl; have hfz75_0 := blk_frozen BK181.out 0; have hfz75_1 := blk_frozen BK181.out 1; have hfz75_2 := blk_frozen BK181.out 2; have hfz75_3 := blk_frozen BK181.out 3; have p186 : 0 ≤ (((rd_T67 l0_1 x7_2).f1) : Int) := of_decide_eq_true (by (with_reducible assumption)); have q186 : ((rd_T67 l0_1 x7_2).f1) < (y185.length : Int) := (by have h_ : (((rd_T67 l0_1 x7_2).f1) : Int) < ((x5_2.length : Int) : Int) := of_decide_eq_true (by (with_reducible assumption)); (have e_ := (Kd.R_reads' HO_5.out).1; omega)); have ql186 : ((((rd_T67 l0_1 x7_2).f1) : Int) < ((x5_2.length : Int) : Int)) = True := eq_true (of_decide_eq_true (by (with_reducible assumption))); obtain ⟨ad186, e186, hx186_0⟩ := Kd.at_bool (Kd.R_reads' HO_5.out).2.2 ((rd_T67 l0_1 x7_2).f1) p186 q186; (try rw [← Nbq44.out] at hx186_0); obtain rfl : (⟨go8, 0, none⟩ : Addr) = ad186 := (by injection e186); (simp only [add_plain] at hx186_0); replace p186 := eq_true p186; replace q186 := eq_true q186))
                   repeat (go_quiet (fail); try go_wp2_with (fail))
                   (try simp only [← hl5_2])
                   go_roundg kj20
                   case measure => have := HK1.out; have := HK2.out; have := HJ20.out; omega
                   case rel => exact ⟨(y185), (true), (wrap64 (x7_2 + 1)), (by rfl), (by rfl), H', ⟨by have := HK1.out; have := HK2.out; have := HJ20.out; omega⟩, ⟨by (try simp only [hl5_2]); exact HO_5.out⟩, ⟨by exact BK171.out⟩, ⟨by exact HB.out⟩⟩
                 ·rw [if_neg c42] at H
                  exact absurd H (by simp)
                ·rw [if_neg c41] at H
                 exact absurd H (by simp)
               ·replace c40 := Bool.eq_false_iff.mpr c40
                subst c40
                have H1 : (if 0 ≤ ((rd_T67 l0_1 x7_2).f1) then (if ((rd_T67 l0_1 x7_2).f1) < (x5_2.length : Int) then (if rdOf false x5_2 ((rd_T67 l0_1 x7_2).f1) = true then (if 0 ≤ ((rd_T67 l0_1 x7_2).f0) then (if ((rd_T67 l0_1 x7_2).f0) < (x5_2.length : Int) then (if rdOf false x5_2 ((rd_T67 l0_1 x7_2).f0) = true then (spec_ReachedBy.l1 kj20 l1 x5_2 x6_2 (wrap64 (x7_2 + 1)) a0_0 l0_1) else (if 0 ≤ x7_2 then (if x7_2 < (l1.length : Int) then (if (rd l1 x7_2) > 0 then (spec_ReachedBy.l1 kj20 l1 (x5_2.set (((rd_T67 l0_1 x7_2).f0) : Int).toNat true) true (wrap64 (x7_2 + 1)) a0_0 l0_1) else (spec_ReachedBy.l1 kj20 l1 x5_2 x6_2 (wrap64 (x7_2 + 1)) a0_0 l0_1)) else (none)) else (none))) else (none)) else (none)) else (spec_ReachedBy.l1 kj20 l1 x5_2 x6_2 (wrap64 (x7_2 + 1)) a0_0 l0_1)) else (none)) else (none)) = some r := by rw [if_neg (show ¬ (false = true) by decide)] at H; exact H
                clear H
                have H := H1
                clear H1
                by_cases c76 : 0 ≤ ((rd_T67 l0_1 x7_2).f1)
                ·rw [if_pos c76] at H
                 have c76b0 : decide (0 ≤ ((rd_T67 l0_1 x7_2).f1)) = true := decide_eq_true c76
                 clear c76
                 by_cases c77 : ((rd_T67 l0_1 x7_2).f1) < (x5_2.length : Int)
                 ·rw [if_pos c77] at H
                  have c77b0 : decide (((rd_T67 l0_1 x7_2).f1) < (x5_2.length : Int)) = true := decide_eq_true c77
                  clear c77
                  obtain ⟨bq78, hbq78⟩ : ∃ b_ : Bool, b_ = (rdOf false x5_2 ((rd_T67 l0_1 x7_2).f1)) := ⟨_, rfl⟩
                  replace H : (if bq78 = true then (if 0 ≤ ((rd_T67 l0_1 x7_2).f0) then (if ((rd_T67 l0_1 x7_2).f0) < (x5_2.length : Int) then (if rdOf false x5_2 ((rd_T67 l0_1 x7_2).f0) = true then (spec_ReachedBy.l1 kj20 l1 x5_2 x6_2 (wrap64 (x7_2 + 1)) a0_0 l0_1) else (if 0 ≤ x7_2 then (if x7_2 < (l1.length : Int) then (if (rd l1 x7_2) > 0 then (spec_ReachedBy.l1 kj20 l1 (x5_2.set (((rd_T67 l0_1 x7_2).f0) : Int).toNat true) true (wrap64 (x7_2 + 1)) a0_0 l0_1) else (spec_ReachedBy.l1 kj20 l1 x5_2 x6_2 (wrap64 (x7_2 + 1)) a0_0 l0_1)) else (none)) else (none))) else (none)) else (none)) else (spec_ReachedBy.l1 kj20 l1 x5_2 x6_2 (wrap64 (x7_2 + 1)) a0_0 l0_1)) = some r := by rw [← hbq78] at H; exact H
                  have Nbq78 := Aside0.mk hbq78
                  clear hbq78
                  by_cases c79 : bq78 = true
                  ·subst c79
                   have H1 : (if 0 ≤ ((rd_T67 l0_1 x7_2).f0) then (if ((rd_T67 l0_1 x7_2).f0) < (x5_2.length : Int) then (if rdOf false x5_2 ((rd_T67 l0_1 x7_2).f0) = true then (spec_ReachedBy.l1 kj20 l1 x5_2 x6_2 (wrap64 (x7_2 + 1)) a0_0 l0_1) else (if 0 ≤ x7_2 then (if x7_2 < (l1.length : Int) then (if (rd l1 x7_2) > 0 then (spec_ReachedBy.l1 kj20 l1 (x5_2.set (((rd_T67 l0_1 x7_2).f0) : Int).toNat true) true (wrap64 (x7_2 + 1)) a0_0 l0_1) else (spec_ReachedBy.l1 kj20 l1 x5_2 x6_2 (wrap64 (x7_2 + 1)) a0_0 l0_1)) else (none)) else (none))) else (none)) else (none)) = some r := by rw [if_pos rfl] at H; exact H
                   clear H
                   have H := H1
                   clear H1
                   by_cases c80 : 0 ≤ ((rd_T67 l0_1 x7_2).f0)
                   ·rw [if_pos c80] at H
                    have c80b0 : decide (0 ≤ ((rd_T67 l0_1 x7_2).f0)) = true := decide_eq_true c80
                    clear c80
                    by_cases c81 : ((rd_T67 l0_1 x7_2).f0) < (x5_2.length : Int)
                    ·rw [if_pos c81] at H
                     have c81b0 : decide (((rd_T67 l0_1 x7_2).f0) < (x5_2.length : Int)) = true := decide_eq_true c81
                     clear c81
                     obtain ⟨bq82, hbq82⟩ : ∃ b_ : Bool, b_ = (rdOf false x5_2 ((rd_T67 l0_1 x7_2).f0)) := ⟨_, rfl⟩
                     replace H : (if bq82 = true then (spec_ReachedBy.l1 kj20 l1 x5_2 x6_2 (wrap64 (x7_2 + 1)) a0_0 l0_1) else (if 0 ≤ x7_2 then (if x7_2 < (l1.length : Int) then (if (rd l1 x7_2) > 0 then (spec_ReachedBy.l1 kj20 l1 (x5_2.set (((rd_T67 l0_1 x7_2).f0) : Int).toNat true) true (wrap64 (x7_2 + 1)) a0_0 l0_1) else (spec_ReachedBy.l1 kj20 l1 x5_2 x6_2 (wrap64 (x7_2 + 1)) a0_0 l0_1)) else (none)) else (none))) = some r := by rw [← hbq82] at H; exact H
                     have Nbq82 := Aside0.mk hbq82
                     clear hbq82
                     by_cases c83 : bq82 = true
                     ·subst c83
                      have H1 : (spec_ReachedBy.l1 kj20 l1 x5_2 x6_2 (wrap64 (x7_2 + 1)) a0_0 l0_1) = some r := by rw [if_pos rfl] at H; exact H
                      clear H
                      have H := H1
                      clear H1
                      have H' := Aside0.mk H
                      clear H
                      have hnb84 := NB181_171.out
                      have hnc84 := NB171_181.out
                      have hcz85_0 : wc.cell? ⟨gb181, 0, none⟩ = some (.int .i64 ((rd_T67 l0_1 x7_2).f0)) := (blk_cell BK181.out 0).trans rfl
                      have hcz85_1 : wc.cell? ⟨gb181, 1, none⟩ = some (.int .i64 ((rd_T67 l0_1 x7_2).f1)) := (blk_cell BK181.out 1).trans rfl
                      have hcz85_2 : wc.cell? ⟨gb181, 2, none⟩ = some (.int .i64 ((rd_T67 l0_1 x7_2).f2)) := (blk_cell BK181.out 2).trans rfl
                      have hcz85_3 : wc.cell? ⟨gb181, 3, none⟩ = some (.int .i64 ((rd_T67 l0_1 x7_2).f3)) := (blk_cell BK181.out 3).trans rfl
                      have hfz85_0 := blk_frozen BK181.out 0
                      have hfz85_1 := blk_frozen BK181.out 1
                      have hfz85_2 := blk_frozen BK181.out 2
                      have hfz85_3 := blk_frozen BK181.out 3
                      have p190 : 0 ≤ (((rd_T67 l0_1 x7_2).f1) : Int) := of_decide_eq_true (by (with_reducible assumption))
                      have q190 : ((rd_T67 l0_1 x7_2).f1) < (x5_2.length : Int) := of_decide_eq_true (by (with_reducible assumption))
                      obtain ⟨ad190, e190, hx190_0⟩ := Kd.at_bool (Kd.R_reads' HO_5.out).2.2 ((rd_T67 l0_1 x7_2).f1) p190 q190
                      (try rw [← Nbq78.out] at hx190_0)
                      (skip)
                      obtain rfl : (⟨go8, 0, none⟩ : Addr) = ad190 := (by injection e190)
                      (simp only [add_plain] at hx190_0)
                      replace p190 := eq_true p190
                      replace q190 := eq_true q190
                      have p191 : 0 ≤ (((rd_T67 l0_1 x7_2).f0) : Int) := of_decide_eq_true (by (with_reducible assumption))
                      have q191 : ((rd_T67 l0_1 x7_2).f0) < (x5_2.length : Int) := of_decide_eq_true (by (with_reducible assumption))
                      obtain ⟨ad191, e191, hx191_0⟩ := Kd.at_bool (Kd.R_reads' HO_5.out).2.2 ((rd_T67 l0_1 x7_2).f0) p191 q191
                      (skip)
                      (try rw [← Nbq82.out] at hx191_0)
                      obtain rfl : (⟨go8, 0, none⟩ : Addr) = ad191 := (by injection e191)
                      (simp only [add_plain] at hx191_0)
                      replace p191 := eq_true p191
                      replace q191 := eq_true q191
                      go_wp2
                      repeat (go_quiet (fail); try go_wp2)
                      (try simp only [← hl5_2])
                      go_roundg kj20
                      case measure => have := HK1.out; have := HK2.out; have := HJ20.out; omega
                      case rel => exact ⟨(x5_2), (x6_2), (wrap64 (x7_2 + 1)), (by rfl), (by rfl), H', ⟨by have := HK1.out; have := HK2.out; have := HJ20.out; omega⟩, ⟨by (try simp only [hl5_2]); exact HO_5.out⟩, ⟨by exact BK171.out⟩, ⟨by exact HB.out⟩⟩
                     ·replace c83 := Bool.eq_false_iff.mpr c83
                      subst c83
                      have H1 : (if 0 ≤ x7_2 then (if x7_2 < (l1.length : Int) then (if (rd l1 x7_2) > 0 then (spec_ReachedBy.l1 kj20 l1 (x5_2.set (((rd_T67 l0_1 x7_2).f0) : Int).toNat true) true (wrap64 (x7_2 + 1)) a0_0 l0_1) else (spec_ReachedBy.l1 kj20 l1 x5_2 x6_2 (wrap64 (x7_2 + 1)) a0_0 l0_1)) else (none)) else (none)) = some r := by rw [if_neg (show ¬ (false = true) by decide)] at H; exact H
                      clear H
                      have H := H1
                      clear H1
                      by_cases c86 : 0 ≤ x7_2
                      ·rw [if_pos c86] at H
                       have c86b0 : decide (0 ≤ x7_2) = true := decide_eq_true c86
                       clear c86
                       by_cases c87 : x7_2 < (l1.length : Int)
                       ·rw [if_pos c87] at H
                        have c87b0 : decide (x7_2 < (l1.length : Int)) = true := decide_eq_true c87
                        clear c87
                        by_cases c88 : (rd l1 x7_2) > 0
                        ·rw [if_pos c88] at H
                         have c88b0 : decide (0 < (rd l1 x7_2)) = true := decide_eq_true c88
                         clear c88
                         obtain ⟨y193, hy193⟩ : ∃ y_ : List Bool, y_ = (x5_2.set (((rd_T67 l0_1 x7_2).f0) : Int).toNat true) := ⟨_, rfl⟩
                         replace H : (spec_ReachedBy.l1 kj20 l1 y193 true (wrap64 (x7_2 + 1)) a0_0 l0_1) = some r := by (rw [hy193]; with_reducible exact H)
                         have Ny193 := Aside0.mk hy193
                         clear hy193
                         have H' := Aside0.mk H
                         clear H
                         have hnb90 := NB181_171.out
                         have hnc90 := NB171_181.out
                         have hcz91_0 : wc.cell? ⟨gb181, 0, none⟩ = some (.int .i64 ((rd_T67 l0_1 x7_2).f0)) := (blk_cell BK181.out 0).trans rfl
                         have hcz91_1 : wc.cell? ⟨gb181, 1, none⟩ = some (.int .i64 ((rd_T67 l0_1 x7_2).f1)) := (blk_cell BK181.out 1).trans rfl
                         have hcz91_2 : wc.cell? ⟨gb181, 2, none⟩ = some (.int .i64 ((rd_T67 l0_1 x7_2).f2)) := (blk_cell BK181.out 2).trans rfl
                         have hcz91_3 : wc.cell? ⟨gb181, 3, none⟩ = some (.int .i64 ((rd_T67 l0_1 x7_2).f3)) := (blk_cell BK181.out 3).trans rfl
                         have hfz91_0 := blk_frozen BK181.out 0
                         have hfz91_1 := blk_frozen BK181.out 1
                         have hfz91_2 := blk_frozen BK181.out 2
                         have hfz91_3 := blk_frozen BK181.out 3
                         have p190 : 0 ≤ (((rd_T67 l0_1 x7_2).f1) : Int) := of_decide_eq_true (by (with_reducible assumption))
                         have q190 : ((rd_T67 l0_1 x7_2).f1) < (x5_2.length : Int) := of_decide_eq_true (by (with_reducible assumption))
                         obtain ⟨ad190, e190, hx190_0⟩ := Kd.at_bool (Kd.R_reads' HO_5.out).2.2 ((rd_T67 l0_1 x7_2).f1) p190 q190
                         (try rw [← Nbq78.out] at hx190_0)
                         (skip)
                         obtain rfl : (⟨go8, 0, none⟩ : Addr) = ad190 := (by injection e190)
                         (simp only [add_plain] at hx190_0)
                         replace p190 := eq_true p190
                         replace q190 := eq_true q190
                         have p191 : 0 ≤ (((rd_T67 l0_1 x7_2).f0) : Int) := of_decide_eq_true (by (with_reducible assumption))
                         have q191 : ((rd_T67 l0_1 x7_2).f0) < (x5_2.length : Int) := of_decide_eq_true (by (with_reducible assumption))
                         obtain ⟨ad191, e191, hx191_0⟩ := Kd.at_bool (Kd.R_reads' HO_5.out).2.2 ((rd_T67 l0_1 x7_2).f0) p191 q191
                         (skip)
                         (try rw [← Nbq82.out] at hx191_0)
                         obtain rfl : (⟨go8, 0, none⟩ : Addr) = ad191 := (by injection e191)
                         (simp only [add_plain] at hx191_0)
                         replace p191 := eq_true p191
                         replace q191 := eq_true q191
                         have p192 : 0 ≤ (x7_2 : Int) := of_decide_eq_true (by (with_reducible assumption))
                         have q192 : x7_2 < (l1.length : Int) := of_decide_eq_true (by (with_reducible assumption))
                         obtain ⟨ad192, e192, hx192_0⟩ := Kd.at_int HR1.out x7_2 p192 q192
                         cases e192
                         replace hx192_0 := (HB.out.cell (World.block_lt_of_cell? w _ hx192_0)).trans hx192_0
                         replace p192 := eq_true p192
                         replace q192 := eq_true q192
                         have p89 : 0 ≤ (((rd_T67 l0_1 x7_2).f0) : Int) := of_decide_eq_true (by (with_reducible assumption))
                         have q89 : (((rd_T67 l0_1 x7_2).f0) : Int) < ((x5_2.length : Int) : Int) := of_decide_eq_true (by (with_reducible assumption))
                         obtain ⟨hx89_0, hf89_0⟩ := Kd.R_celln false HO_5.out (((rd_T67 l0_1 x7_2).f0) : Int) p89 q89
                         replace p89 := eq_true p89
                         replace q89 := eq_true q89
                         have HP92 := Kd.R_putg HO_5.out (((rd_T67 l0_1 x7_2).f0) : Int) true
                         go_wp2_with (((with_reducible refine gate_store (t := 4) (p := 80) rfl ?_); refine store_event (t := 4) (p := 80) (v := ?vo_w93) (w1 := (wc.setCell ⟨go8, (((rd_T67 l0_1 x7_2).f0) : Int).toNat, none⟩ (.bool true))) ?hg ?ho ?hn ?hr ?_; (case ho => rfl); (case hg => rfl); (case hn => rfl); (case hr => (go_simp; done)); intro w93 hw; have hg : wc.grownBy w93 (some go8) := (by rw [hw]; exact HP92.2); have hp_ : Kd.R Kd.bool 4 w93 w.heap.size (fun _ => True) (.slice (some ⟨go8, 0, none⟩) x5_2.length co8) y193 := (by rw [hw, Ny193.out]; exact HP92.1); clear HP92; have n0_ := Aside0.mk (hp_); have n1_ := Aside0.mk (blk_grown (g := gb171) (o := .cells #[.int .i64 a0_0, .slice (some ad180) l0_1.length c0_1] 30 (0, 0)) BK171.out hg (Kd.R_ne HO_5.out BK171.out (by decide))); have n2_ := Aside0.mk (blk_grown (g := gb181) (o := .cells #[.int .i64 ((rd_T67 l0_1 x7_2).f0), .int .i64 ((rd_T67 l0_1 x7_2).f1), .int .i64 ((rd_T67 l0_1 x7_2).f2), .int .i64 ((rd_T67 l0_1 x7_2).f3)] 67 (0, 0)) BK181.out hg (Kd.R_ne HO_5.out BK181.out (by decide))); have n3_ := Aside0.mk ((by rw [hw]; exact below_set (HB.out) GB8.out : Below w.heap.size w w93)); clear HO_5 BK171 BK181 HB; have HO_5 := n0_; have BK171 := n1_; have BK181 := n2_; have HB := n3_; clear n0_ n1_ n2_ n3_ hg hw hp_))
                         repeat (go_quiet (fail); try go_wp2_with (fail))
                         (try simp only [← hl5_2])
                         go_roundg kj20
                         case measure => have := HK1.out; have := HK2.out; have := HJ20.out; omega
                         case rel => exact ⟨(y193), (true), (wrap64 (x7_2 + 1)), (by rfl), (by rfl), H', ⟨by have := HK1.out; have := HK2.out; have := HJ20.out; omega⟩, ⟨by (try simp only [hl5_2]); exact HO_5.out⟩, ⟨by exact BK171.out⟩, ⟨by exact HB.out⟩⟩
                        ·rw [if_neg c88] at H
                         have c88b0 : decide (0 < (rd l1 x7_2)) = false := decide_eq_false c88
                         clear c88
                         have H' := Aside0.mk H
                         clear H
                         have hnb94 := NB181_171.out
                         have hnc94 := NB171_181.out
                         have hcz95_0 : wc.cell? ⟨gb181, 0, none⟩ = some (.int .i64 ((rd_T67 l0_1 x7_2).f0)) := (blk_cell BK181.out 0).trans rfl
                         have hcz95_1 : wc.cell? ⟨gb181, 1, none⟩ = some (.int .i64 ((rd_T67 l0_1 x7_2).f1)) := (blk_cell BK181.out 1).trans rfl
                         have hcz95_2 : wc.cell? ⟨gb181, 2, none⟩ = some (.int .i64 ((rd_T67 l0_1 x7_2).f2)) := (blk_cell BK181.out 2).trans rfl
                         have hcz95_3 : wc.cell? ⟨gb181, 3, none⟩ = some (.int .i64 ((rd_T67 l0_1 x7_2).f3)) := (blk_cell BK181.out 3).trans rfl
                         have hfz95_0 := blk_frozen BK181.out 0
                         have hfz95_1 := blk_frozen BK181.out 1
                         have hfz95_2 := blk_frozen BK181.out 2
                         have hfz95_3 := blk_frozen BK181.out 3
                         have p190 : 0 ≤ (((rd_T67 l0_1 x7_2).f1) : Int) := of_decide_eq_true (by (with_reducible assumption))
                         have q190 : ((rd_T67 l0_1 x7_2).f1) < (x5_2.length : Int) := of_decide_eq_true (by (with_reducible assumption))
                         obtain ⟨ad190, e190, hx190_0⟩ := Kd.at_bool (Kd.R_reads' HO_5.out).2.2 ((rd_T67 l0_1 x7_2).f1) p190 q190
                         (try rw [← Nbq78.out] at hx190_0)
                         (skip)
                         obtain rfl : (⟨go8, 0, none⟩ : Addr) = ad190 := (by injection e190)
                         (simp only [add_plain] at hx190_0)
                         replace p190 := eq_true p190
                         replace q190 := eq_true q190
                         have p191 : 0 ≤ (((rd_T67 l0_1 x7_2).f0) : Int) := of_decide_eq_true (by (with_reducible assumption))
                         have q191 : ((rd_T67 l0_1 x7_2).f0) < (x5_2.length : Int) := of_decide_eq_true (by (with_reducible assumption))
                         obtain ⟨ad191, e191, hx191_0⟩ := Kd.at_bool (Kd.R_reads' HO_5.out).2.2 ((rd_T67 l0_1 x7_2).f0) p191 q191
                         (skip)
                         (try rw [← Nbq82.out] at hx191_0)
                         obtain rfl : (⟨go8, 0, none⟩ : Addr) = ad191 := (by injection e191)
                         (simp only [add_plain] at hx191_0)
                         replace p191 := eq_true p191
                         replace q191 := eq_true q191
                         have p192 : 0 ≤ (x7_2 : Int) := of_decide_eq_true (by (with_reducible assumption))
                         have q192 : x7_2 < (l1.length : Int) := of_decide_eq_true (by (with_reducible assumption))
                         obtain ⟨ad192, e192, hx192_0⟩ := Kd.at_int HR1.out x7_2 p192 q192
                         cases e192
                         replace hx192_0 := (HB.out.cell (World.block_lt_of_cell? w _ hx192_0)).trans hx192_0
                         replace p192 := eq_true p192
                         replace q192 := eq_true q192
                         go_wp2
                         repeat (go_quiet (fail); try go_wp2)
                         (try simp only [← hl5_2])
                         go_roundg kj20
                         case measure => have := HK1.out; have := HK2.out; have := HJ20.out; omega
                         case rel => exact ⟨(x5_2), (x6_2), (wrap64 (x7_2 + 1)), (by rfl), (by rfl), H', ⟨by have := HK1.out; have := HK2.out; have := HJ20.out; omega⟩, ⟨by (try simp only [hl5_2]); exact HO_5.out⟩, ⟨by exact BK171.out⟩, ⟨by exact HB.out⟩⟩
                       ·rw [if_neg c87] at H
                        exact absurd H (by simp)
                      ·rw [if_neg c86] at H
                       exact absurd H (by simp)
                    ·rw [if_neg c81] at H
                     exact absurd H (by simp)
                   ·rw [if_neg c80] at H
                    exact absurd H (by simp)
                  ·replace c79 := Bool.eq_false_iff.mpr c79
                   subst c79
                   have H1 : (spec_ReachedBy.l1 kj20 l1 x5_2 x6_2 (wrap64 (x7_2 + 1)) a0_0 l0_1) = some r := by rw [if_neg (show ¬ (false = true) by decide)] at H; exact H
                   clear H
                   have H := H1
                   clear H1
                   have H' := Aside0.mk H
                   clear H
                   have hnb96 := NB181_171.out
                   have hnc96 := NB171_181.out
                   have hcz97_0 : wc.cell? ⟨gb181, 0, none⟩ = some (.int .i64 ((rd_T67 l0_1 x7_2).f0)) := (blk_cell BK181.out 0).trans rfl
                   have hcz97_1 : wc.cell? ⟨gb181, 1, none⟩ = some (.int .i64 ((rd_T67 l0_1 x7_2).f1)) := (blk_cell BK181.out 1).trans rfl
                   have hcz97_2 : wc.cell? ⟨gb181, 2, none⟩ = some (.int .i64 ((rd_T67 l0_1 x7_2).f2)) := (blk_cell BK181.out 2).trans rfl
                   have hcz97_3 : wc.cell? ⟨gb181, 3, none⟩ = some (.int .i64 ((rd_T67 l0_1 x7_2).f3)) := (blk_cell BK181.out 3).trans rfl
                   have hfz97_0 := blk_frozen BK181.out 0
                   have hfz97_1 := blk_frozen BK181.out 1
                   have hfz97_2 := blk_frozen BK181.out 2
                   have hfz97_3 := blk_frozen BK181.out 3
                   have p190 : 0 ≤ (((rd_T67 l0_1 x7_2).f1) : Int) := of_decide_eq_true (by (with_reducible assumption))
                   have q190 : ((rd_T67 l0_1 x7_2).f1) < (x5_2.length : Int) := of_decide_eq_true (by (with_reducible assumption))
                   obtain ⟨ad190, e190, hx190_0⟩ := Kd.at_bool (Kd.R_reads' HO_5.out).2.2 ((rd_T67 l0_1 x7_2).f1) p190 q190
                   (try rw [← Nbq78.out] at hx190_0)
                   obtain rfl : (⟨go8, 0, none⟩ : Addr) = ad190 := (by injection e190)
                   (simp only [add_plain] at hx190_0)
                   replace p190 := eq_true p190
                   replace q190 := eq_true q190
                   go_wp2
                   repeat (go_quiet (fail); try go_wp2)
                   (try simp only [← hl5_2])
                   go_roundg kj20
                   case measure => have := HK1.out; have := HK2.out; have := HJ20.out; omega
                   case rel => exact ⟨(x5_2), (x6_2), (wrap64 (x7_2 + 1)), (by rfl), (by rfl), H', ⟨by have := HK1.out; have := HK2.out; have := HJ20.out; omega⟩, ⟨by (try simp only [hl5_2]); exact HO_5.out⟩, ⟨by exact BK171.out⟩, ⟨by exact HB.out⟩⟩
                 ·rw [if_neg c77] at H
                  exact absurd H (by simp)
                ·rw [if_neg c76] at H
                 exact absurd H (by simp)
            ·rw [if_neg c20] at H
             exact absurd H (by simp)
           ·rw [if_neg c19] at H
            exact absurd H (by simp)
          ·rw [if_neg c18] at H
           have c18b0 : decide (x7_2 < (l1.length : Int)) = false := decide_eq_false c18
           clear c18
           have H' := Aside0.mk H
           clear H
           go_wp2
           repeat (go_quiet (fail); try go_wp2)
           (try simp only [← hl5_1, ← hl5_2])
           go_roundg k2
           case measure => have := HK1.out; have := HK2.out; omega
           case rel => exact ⟨(x5_2), (x6_2), (by rfl), H', ⟨by have := HK1.out; have := HK2.out; omega⟩, ⟨by (try simp only [hl5_1]); (try simp only [hl5_2]); exact HO_5.out⟩, ⟨by exact BK171.out⟩, ⟨by exact HB.out⟩⟩
       ·replace c17 := Bool.eq_false_iff.mpr c17
        subst c17
        have H1 : (some x5_1) = some r := by rw [if_neg (show ¬ (false = true) by decide)] at H; exact H
        clear H
        have H := H1
        clear H1
        obtain rfl := Option.some.inj H
        go_wp2
        repeat (go_quiet (fail); try go_wp2)
        go_ret
        exact ⟨_, by rfl, by exact HO_5.out, by exact HB.out⟩
    ·rw [if_neg c7] at H
     exact absurd H (by simp)
   ·rw [if_neg c6] at H
    exact absurd H (by simp)
  ·rw [if_neg c5] at H
   exact absurd H (by simp)
 ·replace c4 := Bool.eq_false_iff.mpr c4
  subst c4
  have H1 : (some (([] : List Bool))) = some r := by rw [if_neg (show ¬ (false = true) by decide)] at H; exact H
  clear H
  have H := H1
  clear H1
  obtain ⟨y173, hy173⟩ : ∃ y_ : List Bool, y_ = (([] : List Bool)) := ⟨_, rfl⟩
  replace H : (some y173) = some r := by (rw [hy173]; with_reducible exact H)
  have Ny173 := Aside0.mk hy173
  clear hy173
  obtain rfl := Option.some.inj H
  go_enter Try.func20, Try.ntmps20
  go_wp2_with (first | ((with_reducible refine gate_dst (N := 2) rfl ?_); refine box_event ?hg (N := 2) ?hd (cs := #[.int .i64 a0_0, .slice A0_1 l0_1.length c0_1]) (t := 30) ?hr ?_; (case hd => rfl); (case hg => rfl); (case hr => (go_simp; done)); intro gb171 hg w98 hbox hb; have n0_ := Aside0.mk (below_step HB.out hb); have n1_ := Aside0.mk (hbox); have n2_ := Aside0.mk ((by rw [hg]; exact (below_size HB.out) : w.heap.size ≤ gb171)); have n3_ := n2_; clear HB; have HB := n0_; have BK171 := n1_; have GW171 := n2_; have GE171 := n3_; clear n0_ n1_ n2_ n3_ hb hbox hg; have hcz99_0 : w98.cell? ⟨gb171, 0, none⟩ = some (.int .i64 a0_0) := (blk_cell BK171.out 0).trans rfl; have hcz99_1 : w98.cell? ⟨gb171, 1, none⟩ = some (.slice A0_1 l0_1.length c0_1) := (blk_cell BK171.out 1).trans rfl; have hfz99_0 := blk_frozen BK171.out 0; have hfz99_1 := blk_frozen BK171.out 1) | (go_at_call 45; (with_reducible refine (spec_FlowOk.calls k a0_0 _ _ l0_1 _ _ l1 false _ ?side1 ?side2 ?side3 ?side4 A3.out).mono ?_); (case side1 => exact (Kd.C_below HR0_1.out HB.out)); (case side2 => exact HC0_1.out); (case side3 => exact (Kd.C_below HR1.out HB.out)); (case side4 => exact HC1.out); rintro e w100 ⟨rfl, hb⟩; have n0_ := Aside0.mk (blk_below BK171.out hb); have n1_ := Aside0.mk (below_step HB.out hb); clear BK171 HB; have BK171 := n0_; have HB := n1_; clear n0_ n1_; (try clear hb)) | ((with_reducible refine gate_dst (N := 13) rfl ?_); refine Kd.R_lit Kd.bool _ 4 ?hg (N := 13) ?hd (xs := ([] : List Bool)) (inner := []) (ok := fun _ => True) (okp := fun _ => True) ?hr ?hp (fun _ hk => hk) trivial (Below.refl _ _) (Nat.le_refl _) (by simp) ?_; (case hd => rfl); (case hg => rfl); (case hr => (go_simp; done)); (case hp => exact (Reps.none _ _)); intro v174 w101 ho102 hb hg_ hnew_; clear hg_ hnew_; (rw [← Ny173.out] at ho102); have n0_ := Aside0.mk (Kd.R_lower ho102 (below_size HB.out)); have n1_ := Aside0.mk (blk_below BK171.out hb); have n2_ := Aside0.mk (below_step HB.out hb); clear BK171 HB; have HO175 := n0_; have BK171 := n1_; have HB := n2_; clear n0_ n1_ n2_ hb ho102))
  repeat (go_quiet (fail); try go_wp2_with (fail))
  go_ret
  exact ⟨_, by rfl, by exact HO175.out, by exact HB.out⟩

end Go.Proofs.Ytgkpgigoonhgdaa.PFnExactMostFlow
