-- Made by the session's wip/pp.py, a changed call of the kit's printer; Lean checks it.
import Derived.Test.YtgkpgigoonhgdaaPFnExactMostFlowx0
import Derived.Test.YtgkpgigoonhgdaaPFnExactMostFlowx1
import Derived.Test.YtgkpgigoonhgdaaPFnExactMostFlowx2
import Derived.Test.YtgkpgigoonhgdaaPFnExactMostFlowx9
import Derived.Test.YtgkpgigoonhgdaaPFnExactMostFlowx14
namespace Go.Proofs.Ytgkpgigoonhgdaa.PFnExactMostFlow
open Go.RowKit Go.Proofs.YtgkpgigoonhgdaaW.PrintWords Go.Proofs.YtgkpgigoonhgdaaW.PrintLast Go.Proofs.YtgkpgigoonhgdaaW.PrintMore
attribute [local go_sem] max2_int min2_int max_two min_two max_three min_three max_four min_four   -- for this text's walks alone
set_option linter.unusedVariables false
set_option linter.unusedSimpArgs false

/-! ### laws_FnExactMostFlow: function 5 -/
mutual
def laws_FnExactMostFlow.j0 : Nat → Int → List Bool → Int → List Bool → Bool → Int → List (S91) → Int → List (S67) → Option (Bool)
 | 0, _, _, _, _, _, _, _, _, _ => none
 | k + 1, x4, x5, x7, x8, x40, x374000, x374001, x388000, x388001 => if x40 = true then (some false) else ((laws_toNet.f k x374000 x374001).bind fun bt393 => ((laws_eqNet.f k x388000 x388001 bt393.1 bt393.2).bind fun t397 => (if t397 = true then ((laws_markNet.f k x388000 x388001 1).bind fun bt398 => (if bt398.1 < 0 then (laws_FnExactMostFlow.j1 k x4 x5 x8 true x374000 x374001) else (if x7 = x4 then ((laws_eqBoolS.f k x8 x5).bind fun t400 => (laws_FnExactMostFlow.j1 k x4 x5 x8 (!t400) x374000 x374001)) else (laws_FnExactMostFlow.j1 k x4 x5 x8 true x374000 x374001)))) else (some false))))
def laws_FnExactMostFlow.j1 : Nat → Int → List Bool → List Bool → Bool → Int → List (S91) → Option (Bool)
 | 0, _, _, _, _, _, _ => none
 | k + 1, x4, x5, x8, x61, x374000, x374001 => if x61 = true then (some false) else ((laws_markBoolS.f k x8 1).bind fun bt401 => ((laws_heldBoolS.f k bt401.2 1).bind fun t403 => (if t403 < 0 then (some false) else (if t403 = bt401.1 then ((laws_toNet.f k x374000 x374001).bind fun bt404 => ((impl_MostFlow.f k bt404.1 bt404.2).bind fun bt408 => (if bt408.1 = x4 then ((laws_eqBoolS.f k bt408.2 x5).bind fun t412 => (laws_FnExactMostFlow.j2 k bt401.2 bt401.1 (!t412))) else (laws_FnExactMostFlow.j2 k bt401.2 bt401.1 true)))) else (some false)))))
def laws_FnExactMostFlow.j2 : Nat → List Bool → Int → Bool → Option (Bool)
 | 0, _, _, _ => none
 | k + 1, x8, x10, x87 => if x87 = true then (some false) else ((laws_heldBoolS.f k x8 1).bind fun t413 => (if t413 < 0 then (some false) else (if t413 = x10 then (some true) else (some false))))
end
def laws_FnExactMostFlow.f (k : Nat) (a0_0 : Int) (l0_1 : List (S91)) : Option (Bool) := (laws_szNet.f a0_0 l0_1 1048576).bind fun t374 => (if t374 < 0 then (some true) else ((laws_toNet.f k a0_0 l0_1).bind fun bt375 => ((spec_MostFlow.f k bt375.1 bt375.2).bind fun bt379 => ((laws_toNet.f k a0_0 l0_1).bind fun bt383 => ((impl_MostFlow.f k bt383.1 bt383.2).bind fun bt388 => (if bt388.1 = bt379.1 then ((laws_eqBoolS.f k bt388.2 bt379.2).bind fun t392 => (laws_FnExactMostFlow.j0 k bt379.1 bt379.2 bt388.1 bt388.2 (!t392) a0_0 l0_1 bt383.1 bt383.2)) else (laws_FnExactMostFlow.j0 k bt379.1 bt379.2 bt388.1 bt388.2 true a0_0 l0_1 bt383.1 bt383.2)))))))
theorem laws_FnExactMostFlow.mono_l : ∀ k, (∀ y0 y1 y2 y3 y4 y5 y6 y7 y8, LeO (laws_FnExactMostFlow.j0 k y0 y1 y2 y3 y4 y5 y6 y7 y8) (laws_FnExactMostFlow.j0 (k + 1) y0 y1 y2 y3 y4 y5 y6 y7 y8)) ∧ (∀ y0 y1 y2 y3 y4 y5, LeO (laws_FnExactMostFlow.j1 k y0 y1 y2 y3 y4 y5) (laws_FnExactMostFlow.j1 (k + 1) y0 y1 y2 y3 y4 y5)) ∧ (∀ y0 y1 y2, LeO (laws_FnExactMostFlow.j2 k y0 y1 y2) (laws_FnExactMostFlow.j2 (k + 1) y0 y1 y2))
 | 0 => ⟨fun _ _ _ _ _ _ _ _ _ r h => by simp [laws_FnExactMostFlow.j0] at h, fun _ _ _ _ _ _ r h => by simp [laws_FnExactMostFlow.j1] at h, fun _ _ _ r h => by simp [laws_FnExactMostFlow.j2] at h⟩
 | k + 1 => by
  obtain ⟨ih0, ih1, ih2⟩ := laws_FnExactMostFlow.mono_l k
  refine ⟨?_, ?_, ?_⟩
  ·intro y0 y1 y2 y3 y4 y5 y6 y7 y8
   unfold laws_FnExactMostFlow.j0
   repeat' first
   | (with_reducible exact ih1 _ _ _ _ _ _)
   | (with_reducible exact laws_eqBoolS.mono _ _ _)
   | (with_reducible exact laws_eqNet.mono _ _ _ _ _)
   | (with_reducible exact laws_markNet.mono _ _ _ _)
   | (with_reducible exact laws_toNet.mono _ _ _)
   | (with_reducible exact LeO.refl _)
   | (with_reducible refine LeO.ite ?_ ?_)
   | (with_reducible refine LeO.bind ?_ (fun _ => ?_))
  ·intro y0 y1 y2 y3 y4 y5
   unfold laws_FnExactMostFlow.j1
   repeat' first
   | (with_reducible exact ih2 _ _ _)
   | (with_reducible exact impl_MostFlow.mono _ _ _)
   | (with_reducible exact laws_eqBoolS.mono _ _ _)
   | (with_reducible exact laws_heldBoolS.mono _ _ _)
   | (with_reducible exact laws_markBoolS.mono _ _ _)
   | (with_reducible exact laws_toNet.mono _ _ _)
   | (with_reducible exact LeO.refl _)
   | (with_reducible refine LeO.ite ?_ ?_)
   | (with_reducible refine LeO.bind ?_ (fun _ => ?_))
  ·intro y0 y1 y2
   unfold laws_FnExactMostFlow.j2
   repeat' first
   | (with_reducible exact laws_heldBoolS.mono _ _ _)
   | (with_reducible exact LeO.refl _)
   | (with_reducible refine LeO.ite ?_ ?_)
   | (with_reducible refine LeO.bind ?_ (fun _ => ?_))
theorem laws_FnExactMostFlow.mono : ∀ a0 a1 k, LeO (laws_FnExactMostFlow.f k a0 a1) (laws_FnExactMostFlow.f (k + 1) a0 a1) := by
 intro a0 a1 k
 obtain ⟨ih0, ih1, ih2⟩ := laws_FnExactMostFlow.mono_l k
 unfold laws_FnExactMostFlow.f
 repeat' first
   | (with_reducible exact ih0 _ _ _ _ _ _ _ _ _)
   | (with_reducible exact impl_MostFlow.mono _ _ _)
   | (with_reducible exact laws_eqBoolS.mono _ _ _)
   | (with_reducible exact laws_toNet.mono _ _ _)
   | (with_reducible exact spec_MostFlow.mono _ _ _)
   | (with_reducible exact LeO.refl _)
   | (with_reducible refine LeO.ite ?_ ?_)
   | (with_reducible refine LeO.bind ?_ (fun _ => ?_))
set_option maxHeartbeats 8000000 in
set_option maxRecDepth 100000 in
theorem laws_FnExactMostFlow.calls (k : Nat) (a0_0 : Int) (A0_1 : Option Addr) (c0_1 : Nat) (l0_1 : List (S91)) (r : Bool) (w : World) (hr0_1 : Kd.C k91 w A0_1 l0_1.length l0_1) (hc0_1 : l0_1.length ≤ c0_1) (h : laws_FnExactMostFlow.f k a0_0 l0_1 = some r) (ht_ : Aside0 (r = true)) :
  Calls Try.prog 5 #[.agg #[.int .i64 a0_0, .slice A0_1 l0_1.length c0_1]] w fun e w' => e = .returned (.bool r) ∧ Below w.heap.size w w' := by
 have hu24 := Try.underlying24
 have hu30 := Try.underlying30
 have HR0_1 := Aside0.mk hr0_1
 have HC0_1 := Aside0.mk hc0_1
 clear hr0_1 hc0_1
 have HB := Aside0.mk (Below.refl w.heap.size w)
 have H : ((laws_szNet.f a0_0 l0_1 1048576).bind fun t374 => (if t374 < 0 then (some true) else ((laws_toNet.f k a0_0 l0_1).bind fun bt375 => ((spec_MostFlow.f k bt375.1 bt375.2).bind fun bt379 => ((laws_toNet.f k a0_0 l0_1).bind fun bt383 => ((impl_MostFlow.f k bt383.1 bt383.2).bind fun bt388 => (if bt388.1 = bt379.1 then ((laws_eqBoolS.f k bt388.2 bt379.2).bind fun t392 => (laws_FnExactMostFlow.j0 k bt379.1 bt379.2 bt388.1 bt388.2 (!t392) a0_0 l0_1 bt383.1 bt383.2)) else (laws_FnExactMostFlow.j0 k bt379.1 bt379.2 bt388.1 bt388.2 true a0_0 l0_1 bt383.1 bt383.2)))))))) = some r := h
 clear h
 replace H := Option.bind_eq_some_iff.mp H
 obtain ⟨t374, A20, H⟩ := H
 replace H : (if t374 < 0 then (some true) else ((laws_toNet.f k a0_0 l0_1).bind fun bt375 => ((spec_MostFlow.f k bt375.1 bt375.2).bind fun bt379 => ((laws_toNet.f k a0_0 l0_1).bind fun bt383 => ((impl_MostFlow.f k bt383.1 bt383.2).bind fun bt388 => (if bt388.1 = bt379.1 then ((laws_eqBoolS.f k bt388.2 bt379.2).bind fun t392 => (laws_FnExactMostFlow.j0 k bt379.1 bt379.2 bt388.1 bt388.2 (!t392) a0_0 l0_1 bt383.1 bt383.2)) else (laws_FnExactMostFlow.j0 k bt379.1 bt379.2 bt388.1 bt388.2 true a0_0 l0_1 bt383.1 bt383.2))))))) = some r := H
 have A2 := Aside0.mk A20
 clear A20
 by_cases c3 : t374 < 0
 ·rw [if_pos c3] at H
  have c3b0 : decide (t374 < 0) = true := decide_eq_true c3
  clear c3
  obtain rfl := Option.some.inj H
  go_enter Try.func5, Try.ntmps5
  go_wp2_with (first | ((with_reducible refine gate_dst (N := 1) rfl ?_); refine box_event ?hg (N := 1) ?hd (cs := #[.int .i64 a0_0, .slice A0_1 l0_1.length c0_1]) (t := 24) ?hr ?_; (case hd => rfl); (case hg => rfl); (case hr => (go_simp; done)); intro gb373 hg w4 hbox hb; have n0_ := Aside0.mk (below_step HB.out hb); have n1_ := Aside0.mk (hbox); have n2_ := Aside0.mk ((by rw [hg]; exact (below_size HB.out) : w.heap.size ≤ gb373)); have n3_ := n2_; clear HB; have HB := n0_; have BK373 := n1_; have GW373 := n2_; have GE373 := n3_; clear n0_ n1_ n2_ n3_ hb hbox hg; have hcz5_0 : w4.cell? ⟨gb373, 0, none⟩ = some (.int .i64 a0_0) := (blk_cell BK373.out 0).trans rfl; have hcz5_1 : w4.cell? ⟨gb373, 1, none⟩ = some (.slice A0_1 l0_1.length c0_1) := (blk_cell BK373.out 1).trans rfl; have hfz5_0 := blk_frozen BK373.out 0; have hfz5_1 := blk_frozen BK373.out 1) | ((with_reducible refine gate_callee (f := 10) rfl ?_); refine goesL_ (some 16) rfl rfl Try.func10 (by kernel_rfl) rfl #[.agg #[.int .i64 a0_0, .slice A0_1 l0_1.length c0_1], .int .i64 1048576] rfl (by (try simp only [List.map_toArray, List.map_cons, List.map_nil]); rfl) ?_; (with_reducible refine (laws_szNet.calls a0_0 _ _ l0_1 1048576 t374 _ ?side1 ?side2 A2.out).mono ?_); (case side1 => exact (Kd.C_below HR0_1.out HB.out)); (case side2 => exact HC0_1.out); rintro e w6 ⟨rfl, hb⟩; refine ⟨_, rfl, ?_⟩; have n0_ := Aside0.mk (blk_below BK373.out hb); have n1_ := Aside0.mk (below_step HB.out hb); clear BK373 HB; have BK373 := n0_; have HB := n1_; clear n0_ n1_; (try clear hb)))
  go_ret
  exact ⟨by rfl, by exact HB.out⟩
 ·rw [if_neg c3] at H
  have c3b0 : decide (t374 < 0) = false := decide_eq_false c3
  clear c3
  replace H := Option.bind_eq_some_iff.mp H
  obtain ⟨⟨t375, t376⟩, A70, H⟩ := H
  replace H : ((spec_MostFlow.f k t375 t376).bind fun bt379 => ((laws_toNet.f k a0_0 l0_1).bind fun bt383 => ((impl_MostFlow.f k bt383.1 bt383.2).bind fun bt388 => (if bt388.1 = bt379.1 then ((laws_eqBoolS.f k bt388.2 bt379.2).bind fun t392 => (laws_FnExactMostFlow.j0 k bt379.1 bt379.2 bt388.1 bt388.2 (!t392) a0_0 l0_1 bt383.1 bt383.2)) else (laws_FnExactMostFlow.j0 k bt379.1 bt379.2 bt388.1 bt388.2 true a0_0 l0_1 bt383.1 bt383.2))))) = some r := H
  have A7 := Aside0.mk A70
  clear A70
  replace H := Option.bind_eq_some_iff.mp H
  obtain ⟨⟨t379, t380⟩, A80, H⟩ := H
  replace H : ((laws_toNet.f k a0_0 l0_1).bind fun bt383 => ((impl_MostFlow.f k bt383.1 bt383.2).bind fun bt388 => (if bt388.1 = t379 then ((laws_eqBoolS.f k bt388.2 t380).bind fun t392 => (laws_FnExactMostFlow.j0 k t379 t380 bt388.1 bt388.2 (!t392) a0_0 l0_1 bt383.1 bt383.2)) else (laws_FnExactMostFlow.j0 k t379 t380 bt388.1 bt388.2 true a0_0 l0_1 bt383.1 bt383.2)))) = some r := H
  have A8 := Aside0.mk A80
  clear A80
  replace H := Option.bind_eq_some_iff.mp H
  obtain ⟨⟨t383, t384⟩, A90, H⟩ := H
  replace H : ((impl_MostFlow.f k t383 t384).bind fun bt388 => (if bt388.1 = t379 then ((laws_eqBoolS.f k bt388.2 t380).bind fun t392 => (laws_FnExactMostFlow.j0 k t379 t380 bt388.1 bt388.2 (!t392) a0_0 l0_1 t383 t384)) else (laws_FnExactMostFlow.j0 k t379 t380 bt388.1 bt388.2 true a0_0 l0_1 t383 t384))) = some r := H
  have A9 := Aside0.mk A90
  clear A90
  replace H := Option.bind_eq_some_iff.mp H
  obtain ⟨⟨t388, t389⟩, A100, H⟩ := H
  replace H : (if t388 = t379 then ((laws_eqBoolS.f k t389 t380).bind fun t392 => (laws_FnExactMostFlow.j0 k t379 t380 t388 t389 (!t392) a0_0 l0_1 t383 t384)) else (laws_FnExactMostFlow.j0 k t379 t380 t388 t389 true a0_0 l0_1 t383 t384)) = some r := H
  have A10 := Aside0.mk A100
  clear A100
  have HC11 := Aside0.mk H
  clear H
  go_enter Try.func5, Try.ntmps5
  go_upto_region 8 with (first | ((with_reducible refine gate_dst (N := 1) rfl ?_); refine box_event ?hg (N := 1) ?hd (cs := #[.int .i64 a0_0, .slice A0_1 l0_1.length c0_1]) (t := 24) ?hr ?_; (case hd => rfl); (case hg => rfl); (case hr => (go_simp; done)); intro gb373 hg w12 hbox hb; have n0_ := Aside0.mk (below_step HB.out hb); have n1_ := Aside0.mk (hbox); have n2_ := Aside0.mk ((by rw [hg]; exact (below_size HB.out) : w.heap.size ≤ gb373)); have n3_ := n2_; clear HB; have HB := n0_; have BK373 := n1_; have GW373 := n2_; have GE373 := n3_; clear n0_ n1_ n2_ n3_ hb hbox hg; have hcz13_0 : w12.cell? ⟨gb373, 0, none⟩ = some (.int .i64 a0_0) := (blk_cell BK373.out 0).trans rfl; have hcz13_1 : w12.cell? ⟨gb373, 1, none⟩ = some (.slice A0_1 l0_1.length c0_1) := (blk_cell BK373.out 1).trans rfl; have hfz13_0 := blk_frozen BK373.out 0; have hfz13_1 := blk_frozen BK373.out 1) | ((with_reducible refine gate_callee (f := 10) rfl ?_); refine goesL_ (some 16) rfl rfl Try.func10 (by kernel_rfl) rfl #[.agg #[.int .i64 a0_0, .slice A0_1 l0_1.length c0_1], .int .i64 1048576] rfl (by (try simp only [List.map_toArray, List.map_cons, List.map_nil]); rfl) ?_; (with_reducible refine (laws_szNet.calls a0_0 _ _ l0_1 1048576 t374 _ ?side1 ?side2 A2.out).mono ?_); (case side1 => exact (Kd.C_below HR0_1.out HB.out)); (case side2 => exact HC0_1.out); rintro e w14 ⟨rfl, hb⟩; refine ⟨_, rfl, ?_⟩; have n0_ := Aside0.mk (blk_below BK373.out hb); have n1_ := Aside0.mk (below_step HB.out hb); clear BK373 HB; have BK373 := n0_; have HB := n1_; clear n0_ n1_; (try clear hb); have hcz15_0 : w14.cell? ⟨gb373, 0, none⟩ = some (.int .i64 a0_0) := (blk_cell BK373.out 0).trans rfl; have hcz15_1 : w14.cell? ⟨gb373, 1, none⟩ = some (.slice A0_1 l0_1.length c0_1) := (blk_cell BK373.out 1).trans rfl; have hfz15_0 := blk_frozen BK373.out 0; have hfz15_1 := blk_frozen BK373.out 1) | ((with_reducible refine gate_callee (f := 12) rfl ?_); refine goesL_ (some 21) rfl rfl Try.func12 (by kernel_rfl) rfl #[.agg #[.int .i64 a0_0, .slice A0_1 l0_1.length c0_1]] rfl (by (try simp only [List.map_toArray, List.map_cons, List.map_nil]); rfl) ?_; (with_reducible refine (laws_toNet.calls k a0_0 _ _ l0_1 t375 t376 _ ?side1 ?side2 A7.out).mono ?_); (case side1 => exact (Kd.C_below HR0_1.out HB.out)); (case side2 => exact HC0_1.out); rintro e w16 ⟨v377, rfl, ho0, hb⟩; refine ⟨_, rfl, ?_⟩; have n0_ := Aside0.mk (Kd.R_lower ho0 (below_size HB.out)); have n1_ := Aside0.mk (blk_below BK373.out hb); have n2_ := Aside0.mk (below_step HB.out hb); clear BK373 HB; have HO378 := n0_; have BK373 := n1_; have HB := n2_; clear n0_ n1_ n2_; (try clear hb); (try clear ho0); obtain ⟨Ao17, co17, eo17⟩ := Kd.R_slice HO378.out; subst eo17) | ((with_reducible refine gate_callee (f := 25) rfl ?_); refine goesL_ (some 22) rfl rfl Try.func25 (by kernel_rfl) rfl #[.agg #[.int .i64 t375, .slice Ao17 t376.length co17]] rfl (by (try simp only [List.map_toArray, List.map_cons, List.map_nil]); rfl) ?_; (with_reducible refine (spec_MostFlow.calls k t375 _ _ t376 t379 t380 _ ?side1 ?side2 A8.out).mono ?_); (case side1 => repeat (exact (Kd.R_reads' HO378.out).2.2)); (case side2 => exact (Kd.R_reads' HO378.out).2.1); rintro e w18 ⟨v381, rfl, ho0, hb⟩; refine ⟨_, rfl, ?_⟩; have n0_ := Aside0.mk (Kd.R_below HO378.out hb); have n1_ := Aside0.mk (Kd.R_lower ho0 (below_size HB.out)); have n2_ := Aside0.mk (blk_below BK373.out hb); have n3_ := Aside0.mk (below_step HB.out hb); clear HO378 BK373 HB; have HO378 := n0_; have HO382 := n1_; have BK373 := n2_; have HB := n3_; clear n0_ n1_ n2_ n3_; (try clear hb); (try clear ho0); have hcz19_0 : w18.cell? ⟨gb373, 0, none⟩ = some (.int .i64 a0_0) := (blk_cell BK373.out 0).trans rfl; have hcz19_1 : w18.cell? ⟨gb373, 1, none⟩ = some (.slice A0_1 l0_1.length c0_1) := (blk_cell BK373.out 1).trans rfl; have hfz19_0 := blk_frozen BK373.out 0; have hfz19_1 := blk_frozen BK373.out 1) | ((with_reducible refine gate_callee (f := 12) rfl ?_); refine goesL_ (some 26) rfl rfl Try.func12 (by kernel_rfl) rfl #[.agg #[.int .i64 a0_0, .slice A0_1 l0_1.length c0_1]] rfl (by (try simp only [List.map_toArray, List.map_cons, List.map_nil]); rfl) ?_; (with_reducible refine (laws_toNet.calls k a0_0 _ _ l0_1 t383 t384 _ ?side1 ?side2 A9.out).mono ?_); (case side1 => exact (Kd.C_below HR0_1.out HB.out)); (case side2 => exact HC0_1.out); rintro e w20 ⟨v385, rfl, ho0, hb⟩; refine ⟨_, rfl, ?_⟩; have n0_ := Aside0.mk (Kd.R_elder' HO378.out (Kd.R_base ho0) hb); have n1_ := Aside0.mk (Kd.R_below HO382.out hb); have n2_ := Aside0.mk (Kd.R_lower (Kd.R_new' ho0 (Kd.R_lt HO378.out)) (below_size HB.out)); have n3_ := Aside0.mk (blk_below BK373.out hb); have n4_ := Aside0.mk (below_step HB.out hb); clear HO378 HO382 BK373 HB; have HO378 := n0_; have HO382 := n1_; have HO386 := n2_; have BK373 := n3_; have HB := n4_; clear n0_ n1_ n2_ n3_ n4_; (try clear hb); (try clear ho0)) | ((with_reducible refine gate_dst (N := 6) rfl ?_); refine box_event ?hg (N := 6) ?hd (cs := #[.int .i64 0, .slice none 0 0]) (t := 30) ?hr ?_; (case hd => rfl); (case hg => rfl); (case hr => (go_simp; done)); intro gb387 hg w21 hbox hb; have n0_ := Aside0.mk (Kd.R_below HO378.out hb); have n1_ := Aside0.mk (Kd.R_below HO382.out hb); have n2_ := Aside0.mk (Kd.R_below HO386.out hb); have n3_ := Aside0.mk (blk_below BK373.out hb); have n4_ := Aside0.mk (below_step HB.out hb); have n5_ := Aside0.mk (hbox); have n6_ := Aside0.mk ((by rw [hg]; exact (below_size HB.out) : w.heap.size ≤ gb387)); have n7_ := n6_; have n8_ := Aside0.mk ((by rw [hg]; exact Nat.ne_of_lt (blk_lt (g := gb373) (o := .cells #[.int .i64 a0_0, .slice A0_1 l0_1.length c0_1] 24 (0, 0)) BK373.out) : gb373 ≠ gb387)); have n9_ := Aside0.mk ((by rw [hg]; exact Nat.ne_of_gt (blk_lt (g := gb373) (o := .cells #[.int .i64 a0_0, .slice A0_1 l0_1.length c0_1] 24 (0, 0)) BK373.out) : gb387 ≠ gb373)); clear HO378 HO382 HO386 BK373 HB; have HO378 := n0_; have HO382 := n1_; have HO386 := n2_; have BK373 := n3_; have HB := n4_; have BK387 := n5_; have GW387 := n6_; have GE387 := n7_; have NB373_387 := n8_; have NB387_373 := n9_; clear n0_ n1_ n2_ n3_ n4_ n5_ n6_ n7_ n8_ n9_ hb hbox hg; have hnb22 := NB387_373.out; have hnc22 := NB373_387.out; have hcz23_0 : w21.cell? ⟨gb387, 0, none⟩ = some (.int .i64 0) := (blk_cell BK387.out 0).trans rfl; have hcz23_1 : w21.cell? ⟨gb387, 1, none⟩ = some (.slice none 0 0) := (blk_cell BK387.out 1).trans rfl; have hfz23_0 := blk_frozen BK387.out 0; have hfz23_1 := blk_frozen BK387.out 1; obtain ⟨Ao24, co24, eo24⟩ := Kd.R_slice HO386.out; subst eo24) | ((with_reducible refine gate_callee (f := 26) rfl ?_); refine goesL_ (some 29) rfl rfl Try.func26 (by kernel_rfl) rfl #[.agg #[.int .i64 t383, .slice Ao24 t384.length co24]] rfl (by (try simp only [List.map_toArray, List.map_cons, List.map_nil]); rfl) ?_; (with_reducible refine (impl_MostFlow.calls k t383 _ _ t384 t388 t389 _ ?side1 ?side2 A10.out).mono ?_); (case side1 => refine (Kd.R_reads' (e := 67) (base := w.heap.size) (ok := fun k_ => (True ∧ some k_ ≠ (.slice Ao17 t376.length co17 : Value).ownBlock)) (n := t384.length) (c := co24) ?_).2.2; exact (by exact (Kd.R_mono (Kd.R_far (p := ⟨gb387, 1, none⟩) (Kd.R_far (p := ⟨gb387, 0, none⟩) (Kd.R_types HO386.out BK387.out (by decide)) (fun _ hk => hk.2) (.int .i64 t383)) (fun _ hk => hk.2) (.slice Ao24 t384.length co24)) (fun _ h_ => h_.1)))); (case side2 => exact (Kd.R_reads' HO386.out).2.1); rintro e w25 ⟨v390, rfl, ho0, hb⟩; refine ⟨_, rfl, ?_⟩; have n0_ := Aside0.mk (Kd.R_below (by exact (Kd.R_mono (Kd.R_far (p := ⟨gb387, 1, none⟩) (Kd.R_far (p := ⟨gb387, 0, none⟩) (Kd.R_types HO378.out BK387.out (by decide)) (fun _ hk => hk.2) (.int .i64 t383)) (fun _ hk => hk.2) (.slice Ao24 t384.length co24)) (fun _ h_ => h_.1))) hb); have n1_ := Aside0.mk (Kd.R_elder' (by exact (Kd.R_mono (Kd.R_far (p := ⟨gb387, 1, none⟩) (Kd.R_far (p := ⟨gb387, 0, none⟩) (Kd.R_types HO382.out BK387.out (by decide)) (fun _ hk => hk.2) (.int .i64 t383)) (fun _ hk => hk.2) (.slice Ao24 t384.length co24)) (fun _ h_ => h_.1))) (Kd.R_base ho0) hb); have n2_ := Aside0.mk (Kd.R_below (by exact (Kd.R_mono (Kd.R_far (p := ⟨gb387, 1, none⟩) (Kd.R_far (p := ⟨gb387, 0, none⟩) (Kd.R_types HO386.out BK387.out (by decide)) (fun _ hk => hk.2) (.int .i64 t383)) (fun _ hk => hk.2) (.slice Ao24 t384.length co24)) (fun _ h_ => h_.1))) hb); have n3_ := Aside0.mk (Kd.R_lower (Kd.R_new' ho0 (Kd.R_lt (by exact (Kd.R_mono (Kd.R_far (p := ⟨gb387, 1, none⟩) (Kd.R_far (p := ⟨gb387, 0, none⟩) (Kd.R_types HO382.out BK387.out (by decide)) (fun _ hk => hk.2) (.int .i64 t383)) (fun _ hk => hk.2) (.slice Ao24 t384.length co24)) (fun _ h_ => h_.1))))) (below_size (by repeat ((with_reducible first | exact HB.out | refine below_set ?_ GE387.out))))); have n4_ := Aside0.mk (blk_below (g := gb373) (o := .cells #[.int .i64 a0_0, .slice A0_1 l0_1.length c0_1] 24 (0, 0)) (by refine blk_far ?_ NB373_387.out _; refine blk_far ?_ NB373_387.out _; exact BK373.out) hb); have n5_ := Aside0.mk (blk_below (g := gb387) (o := .cells #[.int .i64 t383, .slice Ao24 t384.length co24] 30 (0, 0)) (by refine blk_put (cs := #[.int .i64 t383, .slice none 0 0]) ?_ 1 _ rfl; refine blk_put (cs := #[.int .i64 0, .slice none 0 0]) ?_ 0 _ rfl; exact BK387.out) hb); have n6_ := Aside0.mk (below_step (by repeat ((with_reducible first | exact HB.out | refine below_set ?_ GE387.out))) hb); clear HO378 HO382 HO386 BK373 BK387 HB; have HO378 := n0_; have HO382 := n1_; have HO386 := n2_; have HO391 := n3_; have BK373 := n4_; have BK387 := n5_; have HB := n6_; clear n0_ n1_ n2_ n3_ n4_ n5_ n6_; (try clear hb); (try clear ho0)))
  (skip)
  go_cut [40] (fun v40 wc => ∃ (kq : Nat) (x40_10 : Bool), v40 = .bool x40_10 ∧ Aside0 (laws_FnExactMostFlow.j0 kq t379 t380 t388 t389 x40_10 a0_0 l0_1 t383 t384 = some r) ∧ Aside0 (kq ≤ k) ∧ Aside0 (Kd.R Kd.bool 4 wc w.heap.size (fun k_ => some k_ ≠ (v390 : Value).ownBlock) v381 t380) ∧ Aside0 (Kd.R Kd.bool 4 wc w.heap.size (fun k_ => some k_ ≠ (v381 : Value).ownBlock) v390 t389) ∧ Aside0 (Kd.R k67 67 wc w.heap.size (fun _ => True) (.slice Ao24 t384.length co24) t384) ∧ Aside0 (wc.heap[gb373]? = some (.cells #[.int .i64 a0_0, (.slice A0_1 l0_1.length c0_1)] 24 (0, 0))) ∧ Aside0 (wc.heap[gb387]? = some (.cells #[.int .i64 t383, (.slice Ao24 t384.length co24)] 30 (0, 0))) ∧ Aside0 (Below w.heap.size w wc))
  case first =>
   have H := HC11.out
   clear HC11
   by_cases c26 : t388 = t379
   ·rw [if_pos c26] at H
    have c26b0 : (t388 == t379) = true := beq_iff_eq.mpr c26
    have c26b1 : (t388 != t379) = false := bne_eq_false_iff_eq.mpr c26
    clear c26
    (skip)
    replace H := Option.bind_eq_some_iff.mp H
    obtain ⟨t392, A270, H⟩ := H
    replace H : (laws_FnExactMostFlow.j0 k t379 t380 t388 t389 (!t392) a0_0 l0_1 t383 t384) = some r := H
    have A27 := Aside0.mk A270
    clear A270
    have H' := Aside0.mk H
    clear H
    obtain ⟨Ao28, co28, eo28⟩ := Kd.R_slice HO391.out
    subst eo28
    obtain ⟨Ao29, co29, eo29⟩ := Kd.R_slice HO382.out
    subst eo29
    go_wp2_with ((go_at_call 22; (with_reducible refine (laws_eqBoolS.calls k _ _ t389 _ _ t380 t392 _ ?side1 ?side2 ?side3 ?side4 A27.out).mono ?_); (case side1 => repeat (exact (Kd.R_reads' HO391.out).2.2)); (case side2 => exact (Kd.R_reads' HO391.out).2.1); (case side3 => repeat (exact (Kd.R_reads' HO382.out).2.2)); (case side4 => exact (Kd.R_reads' HO382.out).2.1); rintro e w' ⟨rfl, ⟨nd, rfl⟩⟩))
    go_meet
    case rel => exact ⟨_, (!t392), (by rfl), H', ⟨by omega⟩, ⟨by (with_reducible repeat (apply Kd.R_drewN)); exact Kd.R_mono HO382.out (fun _ hk => hk.2)⟩, ⟨by (with_reducible repeat (apply Kd.R_drewN)); exact Kd.R_mono HO391.out (fun _ hk => hk.2)⟩, ⟨by (with_reducible repeat (apply Kd.R_drewN)); exact Kd.R_mono HO386.out (fun _ hk => trivial)⟩, ⟨by (with_reducible repeat (refine blk_drewN ?_ _)); exact BK373.out⟩, ⟨by (with_reducible repeat (refine blk_drewN ?_ _)); exact BK387.out⟩, ⟨by repeat ((with_reducible first | exact HB.out | apply pw_below_drewN))⟩⟩
   ·rw [if_neg c26] at H
    have c26b0 : (t388 == t379) = false := beq_eq_false_iff_ne.mpr c26
    have c26b1 : (t388 != t379) = true := bne_iff_ne.mpr c26
    (skip)
    exact absurd H (by cases k with | zero => simp [laws_FnExactMostFlow.j0] | succ k_ => rw [laws_FnExactMostFlow.j0, if_pos rfl, ht_.out]; simp)
  case rest =>
   clear HC11
   try clear c1
   try clear c2
   try clear p2
   try clear c3
   try clear c3b0
   try clear c5
   try clear c10
   try clear c12
   try clear c22
   try clear c25
   try clear c26
   try clear c26b0
   try clear c26b1
   try clear hcz13_0
   try clear hcz13_1
   try clear hcz15_0
   try clear hcz15_1
   try clear hcz19_0
   try clear hcz19_1
   try clear hcz23_0
   try clear hcz23_1
   try clear hcz5_0
   try clear hcz5_1
   try clear hfz13_0
   try clear hfz13_1
   try clear hfz15_0
   try clear hfz15_1
   try clear hfz19_0
   try clear hfz19_1
   try clear hfz23_0
   try clear hfz23_1
   try clear hfz5_0
   try clear hfz5_1
   obtain ⟨kq, x40_10, rfl, HA, HJ10, HO_5, HO_8, HO_388001, BK373, BK387, HB⟩ := hcut
   cases kq with
   | zero => exact absurd HA.out (by simp [laws_FnExactMostFlow.j0])
   | succ kj10 =>
    have H := HA.out
    clear HA
    simp only [laws_FnExactMostFlow.j0] at H
    by_cases c30 : x40_10 = true
    ·subst c30
     have H1 : (some false) = some r := by rw [if_pos rfl] at H; exact H
     clear H
     have H := H1
     clear H1
     exact absurd (Option.some.inj H) (by rw [ht_.out]; simp)
    ·replace c30 := Bool.eq_false_iff.mpr c30
     subst c30
     have H1 : ((laws_toNet.f kj10 a0_0 l0_1).bind fun bt393 => ((laws_eqNet.f kj10 t383 t384 bt393.1 bt393.2).bind fun t397 => (if t397 = true then ((laws_markNet.f kj10 t383 t384 1).bind fun bt398 => (if bt398.1 < 0 then (laws_FnExactMostFlow.j1 kj10 t379 t380 t389 true a0_0 l0_1) else (if t388 = t379 then ((laws_eqBoolS.f kj10 t389 t380).bind fun t400 => (laws_FnExactMostFlow.j1 kj10 t379 t380 t389 (!t400) a0_0 l0_1)) else (laws_FnExactMostFlow.j1 kj10 t379 t380 t389 true a0_0 l0_1)))) else (some false)))) = some r := by rw [if_neg (show ¬ (false = true) by decide)] at H; exact H
     clear H
     have H := H1
     clear H1
     replace H := Option.bind_eq_some_iff.mp H
     obtain ⟨⟨t393, t394⟩, A310, H⟩ := H
     replace H : ((laws_eqNet.f kj10 t383 t384 t393 t394).bind fun t397 => (if t397 = true then ((laws_markNet.f kj10 t383 t384 1).bind fun bt398 => (if bt398.1 < 0 then (laws_FnExactMostFlow.j1 kj10 t379 t380 t389 true a0_0 l0_1) else (if t388 = t379 then ((laws_eqBoolS.f kj10 t389 t380).bind fun t400 => (laws_FnExactMostFlow.j1 kj10 t379 t380 t389 (!t400) a0_0 l0_1)) else (laws_FnExactMostFlow.j1 kj10 t379 t380 t389 true a0_0 l0_1)))) else (some false))) = some r := H
     have A31 := Aside0.mk A310
     clear A310
     replace H := Option.bind_eq_some_iff.mp H
     obtain ⟨t397, A320, H⟩ := H
     replace H : (if t397 = true then ((laws_markNet.f kj10 t383 t384 1).bind fun bt398 => (if bt398.1 < 0 then (laws_FnExactMostFlow.j1 kj10 t379 t380 t389 true a0_0 l0_1) else (if t388 = t379 then ((laws_eqBoolS.f kj10 t389 t380).bind fun t400 => (laws_FnExactMostFlow.j1 kj10 t379 t380 t389 (!t400) a0_0 l0_1)) else (laws_FnExactMostFlow.j1 kj10 t379 t380 t389 true a0_0 l0_1)))) else (some false)) = some r := H
     have A32 := Aside0.mk A320
     clear A320
     by_cases c33 : t397 = true
     ·subst c33
      have H1 : ((laws_markNet.f kj10 t383 t384 1).bind fun bt398 => (if bt398.1 < 0 then (laws_FnExactMostFlow.j1 kj10 t379 t380 t389 true a0_0 l0_1) else (if t388 = t379 then ((laws_eqBoolS.f kj10 t389 t380).bind fun t400 => (laws_FnExactMostFlow.j1 kj10 t379 t380 t389 (!t400) a0_0 l0_1)) else (laws_FnExactMostFlow.j1 kj10 t379 t380 t389 true a0_0 l0_1)))) = some r := by rw [if_pos rfl] at H; exact H
      clear H
      have H := H1
      clear H1
      replace H := Option.bind_eq_some_iff.mp H
      obtain ⟨⟨t398, t399⟩, A340, H⟩ := H
      replace H : (if t398 < 0 then (laws_FnExactMostFlow.j1 kj10 t379 t380 t389 true a0_0 l0_1) else (if t388 = t379 then ((laws_eqBoolS.f kj10 t389 t380).bind fun t400 => (laws_FnExactMostFlow.j1 kj10 t379 t380 t389 (!t400) a0_0 l0_1)) else (laws_FnExactMostFlow.j1 kj10 t379 t380 t389 true a0_0 l0_1))) = some r := H
      have A34 := Aside0.mk A340
      clear A340
      have HC35 := Aside0.mk H
      clear H
      try go_wp2
      have n0_ := Aside0.mk (Kd.R_drew HO_5.out)
      have n1_ := Aside0.mk (Kd.R_drew HO_8.out)
      have n2_ := Aside0.mk (Kd.R_drew HO_388001.out)
      have n3_ := Aside0.mk (blk_drew BK373.out)
      have n4_ := Aside0.mk (blk_drew BK387.out)
      have n5_ := Aside0.mk (below_drew1 HB.out)
      clear HO_5
      clear HO_8
      clear HO_388001
      clear BK373
      clear BK387
      clear HB
      have HO_5 := n0_
      have HO_8 := n1_
      have HO_388001 := n2_
      have BK373 := n3_
      have BK387 := n4_
      have HB := n5_
      clear n0_ n1_ n2_ n3_ n4_ n5_
      refine start_ (n := 5) (S := fun w' => w'.cell? ⟨gb387, 0, none⟩ = some (.int .i64 t383) ∧ w'.cell? ⟨gb387, 1, none⟩ = some (.slice Ao24 t384.length co24) ∧ w'.cell? ⟨gb373, 0, none⟩ = some (.int .i64 a0_0) ∧ w'.cell? ⟨gb373, 1, none⟩ = some (.slice A0_1 l0_1.length c0_1)) (ds := []) #[false, false, false, false, false] (by kernel_rfl) rfl rfl ⟨(blk_cell BK387.out 0).trans rfl, (blk_cell BK387.out 1).trans rfl, (blk_cell BK373.out 0).trans rfl, (blk_cell BK373.out 1).trans rfl⟩ (fun hHeld => ?_)
      generalize wc.drew = w36 at HO_5 HO_8 HO_388001 BK373 BK387 HB hHeld ⊢
      refine take_ (i := 0) (N := some 41) (v := ?_) (a' := ?_) #[true, false, false, false, false] rfl rfl (by kernel_rfl) (fun _ _ _ h => h) (Or.inl ⟨by rfl, ?_⟩) hHeld ?_ ?_
      rotate_left
      ·rintro w' ⟨s0, s1, s2, s3⟩
       go_simp
       with_reducible rfl
      rotate_left
      ·simp only [Act.put, List.setIfInBounds_toArray, List.set_cons_zero, List.set_cons_succ, i64_w, i32_w]
       rfl
      refine take_ (i := 1) (N := some 42) (v := ?_) (a' := ?_) #[true, true, false, false, false] rfl rfl (by kernel_rfl) (fun _ _ _ h => h) (Or.inl ⟨by rfl, ?_⟩) hHeld ?_ ?_
      rotate_left
      ·rintro w' ⟨s0, s1, s2, s3⟩
       go_simp
       with_reducible rfl
      rotate_left
      ·simp only [Act.put, List.setIfInBounds_toArray, List.set_cons_zero, List.set_cons_succ, i64_w, i32_w]
       rfl
      refine one_ (i := 2) (N := some 43) #[true, true, true, false, false] rfl rfl (by kernel_rfl) (by decide) (fun K hK => ?_)
      refine goes_ Try.func12 (by kernel_rfl) rfl #[.agg #[.int .i64 a0_0, .slice A0_1 l0_1.length c0_1]] (by rfl) rfl rfl (by (try simp only [List.map_toArray, List.map_cons, List.map_nil]); rfl) ?_
      with_reducible refine (laws_toNet.calls kj10 a0_0 _ _ l0_1 t393 t394 _ ?side1 ?side2 A31.out).mono ?_
      (case side1 => exact (Kd.C_below HR0_1.out HB.out))
      (case side2 => exact HC0_1.out)
      rintro e w37 ⟨v395, rfl, ho0, hb⟩
      refine ⟨_, rfl, ?_⟩
      have n0_ := Aside0.mk (Kd.R_below HO_5.out hb)
      have n1_ := Aside0.mk (Kd.R_below HO_8.out hb)
      have n2_ := Aside0.mk (Kd.R_elder' HO_388001.out (Kd.R_base ho0) hb)
      have n3_ := Aside0.mk (Kd.R_lower (Kd.R_new' ho0 (Kd.R_lt HO_388001.out)) (below_size HB.out))
      have n4_ := Aside0.mk (blk_below BK373.out hb)
      have n5_ := Aside0.mk (blk_below BK387.out hb)
      have n6_ := Aside0.mk (below_step HB.out hb)
      clear HO_5
      clear HO_8
      clear HO_388001
      clear BK373
      clear BK387
      clear HB
      have HO_5 := n0_
      have HO_8 := n1_
      have HO_388001 := n2_
      have HO396 := n3_
      have BK373 := n4_
      have BK387 := n5_
      have HB := n6_
      clear n0_ n1_ n2_ n3_ n4_ n5_ n6_
      (try clear hb)
      (skip)
      (skip)
      (skip)
      (try clear ho0)
      obtain ⟨Ao38, co38, eo38⟩ := Kd.R_slice HO396.out
      (subst eo38)
      refine hK.out _ _ ⟨(blk_cell BK387.out 0).trans rfl, (blk_cell BK387.out 1).trans rfl, (blk_cell BK373.out 0).trans rfl, (blk_cell BK373.out 1).trans rfl⟩ (fun hHeld => ?_)
      clear hK K
      refine norm_ (a' := ?_) ?_ ?_
      rotate_left
      ·show Act.put _ (some 43) _ = _
       simp only [Act.put, List.setIfInBounds_toArray, List.set_cons_zero, List.set_cons_succ, i64_w, i32_w]
       rfl
      refine one_ (i := 3) (N := some 44) #[true, true, true, true, false] rfl rfl (by kernel_rfl) (by decide) (fun K hK => ?_)
      refine goes_ Try.func16 (by kernel_rfl) rfl #[.agg #[.int .i64 t383, .slice Ao24 t384.length co24], .agg #[.int .i64 t393, .slice Ao38 t394.length co38]] (by rfl) rfl rfl (by (try simp only [List.map_toArray, List.map_cons, List.map_nil]); rfl) ?_
      with_reducible refine (laws_eqNet.calls kj10 t383 _ _ t384 t393 _ _ t394 true _ ?side1 ?side2 ?side3 ?side4 A32.out).mono ?_
      (case side1 => repeat (exact (Kd.R_reads' HO_388001.out).2.2))
      (case side2 => exact (Kd.R_reads' HO_388001.out).2.1)
      (case side3 => repeat (exact (Kd.R_reads' HO396.out).2.2))
      (case side4 => exact (Kd.R_reads' HO396.out).2.1)
      rintro e w39 ⟨rfl, hb⟩
      refine ⟨_, rfl, ?_⟩
      have n0_ := Aside0.mk (Kd.R_below HO_5.out hb)
      have n1_ := Aside0.mk (Kd.R_below HO_8.out hb)
      have n2_ := Aside0.mk (Kd.R_below HO_388001.out hb)
      have n3_ := Aside0.mk (Kd.R_below HO396.out hb)
      have n4_ := Aside0.mk (blk_below BK373.out hb)
      have n5_ := Aside0.mk (blk_below BK387.out hb)
      have n6_ := Aside0.mk (below_step HB.out hb)
      clear HO_5
      clear HO_8
      clear HO_388001
      clear HO396
      clear BK373
      clear BK387
      clear HB
      have HO_5 := n0_
      have HO_8 := n1_
      have HO_388001 := n2_
      have HO396 := n3_
      have BK373 := n4_
      have BK387 := n5_
      have HB := n6_
      clear n0_ n1_ n2_ n3_ n4_ n5_ n6_
      (try clear hb)
      (skip)
      (skip)
      (skip)
      refine hK.out _ _ ⟨(blk_cell BK387.out 0).trans rfl, (blk_cell BK387.out 1).trans rfl, (blk_cell BK373.out 0).trans rfl, (blk_cell BK373.out 1).trans rfl⟩ (fun hHeld => ?_)
      clear hK K
      refine norm_ (a' := ?_) ?_ ?_
      rotate_left
      ·show Act.put _ (some 44) _ = _
       simp only [Act.put, List.setIfInBounds_toArray, List.set_cons_zero, List.set_cons_succ, i64_w, i32_w]
       rfl
      refine pure_ (i := 4) (N := some 45) (v := ?_) (a' := ?_) #[true, true, true, true, true] rfl rfl (by kernel_rfl) (fun _ _ _ h => h) (Or.inl ⟨by rfl, ?_⟩) ?_ ?_
      rotate_left
      ·intro w'
       go_simp
       with_reducible rfl
      rotate_left
      ·simp only [Act.put, List.setIfInBounds_toArray, List.set_cons_zero, List.set_cons_succ, i64_w, i32_w]
       rfl
      refine done_ (by kernel_rfl) ?_
      have hnb40 := NB387_373.out
      have hnc40 := NB373_387.out
      have hcz41_0 : w39.cell? ⟨gb387, 0, none⟩ = some (.int .i64 t383) := (blk_cell BK387.out 0).trans rfl
      have hcz41_1 : w39.cell? ⟨gb387, 1, none⟩ = some (.slice Ao24 t384.length co24) := (blk_cell BK387.out 1).trans rfl
      have hfz41_0 := blk_frozen BK387.out 0
      have hfz41_1 := blk_frozen BK387.out 1
      go_upto_region 14 with (((with_reducible refine gate_callee (f := 17) rfl ?_); refine goesL_ (some 48) rfl rfl Try.func17 (by kernel_rfl) rfl #[.agg #[.int .i64 t383, .slice Ao24 t384.length co24], .int .i64 1] rfl (by (try simp only [List.map_toArray, List.map_cons, List.map_nil]); rfl) ?_; (with_reducible refine (laws_markNet.calls kj10 t383 (fun k_ => some k_ = (.slice Ao24 t384.length co24 : Value).ownBlock) (.slice Ao24 t384.length co24) t384 1 t398 t399 w _ ?side1 ?side2 A34.out).mono ?_); (case side1 => exact HB.out); (case side2 => exact Kd.R_tight rfl HO_388001.out); rintro e w42 ⟨rfl, hy0, hb, hkp⟩; refine ⟨_, rfl, ?_⟩; have n0_ := Aside0.mk (Kd.R_mono (ok' := fun k_ => some k_ ≠ (v390 : Value).ownBlock) (Kd.R_keptB ((Kd.R_apart' HO_5.out (Kd.R_typed HO_388001.out) (by decide))) hkp (fun k_ hk_ hs_ => (hk_.2) hs_)) (fun k_ hk_ => hk_.1.1)); have n1_ := Aside0.mk (Kd.R_mono (ok' := fun k_ => some k_ ≠ (v381 : Value).ownBlock) (Kd.R_keptB ((Kd.R_apart' HO_8.out (Kd.R_typed HO_388001.out) (by decide))) hkp (fun k_ hk_ hs_ => (hk_.2) hs_)) (fun k_ hk_ => hk_.1.1)); have n2_ := Aside0.mk (Kd.R_reok rfl hy0 (fun k_ e_ => HO_388001.out.1 k_ e_)); have n3_ := Aside0.mk (blk_kept BK373.out hkp (fun hs_ => (fun e_ => (Kd.R_ne HO_388001.out BK373.out (by decide)) e_) hs_)); have n4_ := Aside0.mk (blk_kept BK387.out hkp (fun hs_ => (fun e_ => (Kd.R_ne HO_388001.out BK387.out (by decide)) e_) hs_)); have n5_ := Aside0.mk (Kd.R_mono (ok' := fun k_ => some k_ ≠ (.slice Ao24 t384.length co24 : Value).ownBlock) (Kd.R_keptB (HO396.out) hkp (fun k_ hk_ hs_ => (hk_.2) hs_)) (fun k_ hk_ => hk_.1.2)); have n6_ := Aside0.mk (hb); clear HO_5 HO_8 HO_388001 BK373 BK387 HO396 HB; have HO_5 := n0_; have HO_8 := n1_; have HO_388001 := n2_; have BK373 := n3_; have BK387 := n4_; have HO396 := n5_; have HB := n6_; clear n0_ n1_ n2_ n3_ n4_ n5_ n6_; (try clear hb); (try clear hkp); (try clear hy0)))
      (skip)
      go_cut [61] (fun v61 wc => ∃ (kq : Nat) (x61_34 : Bool), v61 = .bool x61_34 ∧ Aside0 (laws_FnExactMostFlow.j1 kq t379 t380 t389 x61_34 a0_0 l0_1 = some r) ∧ Aside0 (kq ≤ kj10) ∧ Aside0 (Kd.R Kd.bool 4 wc w.heap.size (fun k_ => some k_ ≠ (v390 : Value).ownBlock) v381 t380) ∧ Aside0 (Kd.R Kd.bool 4 wc w.heap.size (fun k_ => some k_ ≠ (v381 : Value).ownBlock) v390 t389) ∧ Aside0 (Kd.R k67 67 wc w.heap.size (fun _ => True) (.slice Ao24 t384.length co24) t399) ∧ Aside0 (wc.heap[gb373]? = some (.cells #[.int .i64 a0_0, (.slice A0_1 l0_1.length c0_1)] 24 (0, 0))) ∧ Aside0 (wc.heap[gb387]? = some (.cells #[.int .i64 t383, (.slice Ao24 t384.length co24)] 30 (0, 0))) ∧ Aside0 (Below w.heap.size w wc))
      case first =>
       have H := HC35.out
       clear HC35
       by_cases c43 : t398 < 0
       ·rw [if_pos c43] at H
        have c43b0 : decide (t398 < 0) = true := decide_eq_true c43
        clear c43
        (skip)
        exact absurd H (by cases kj10 with | zero => simp [laws_FnExactMostFlow.j1] | succ k_ => rw [laws_FnExactMostFlow.j1, if_pos rfl, ht_.out]; simp)
       ·rw [if_neg c43] at H
        have c43b0 : decide (t398 < 0) = false := decide_eq_false c43
        clear c43
        (skip)
        by_cases c44 : t388 = t379
        ·rw [if_pos c44] at H
         have c44b0 : (t388 == t379) = true := beq_iff_eq.mpr c44
         have c44b1 : (t388 != t379) = false := bne_eq_false_iff_eq.mpr c44
         clear c44
         replace H := Option.bind_eq_some_iff.mp H
         obtain ⟨t400, A450, H⟩ := H
         replace H : (laws_FnExactMostFlow.j1 kj10 t379 t380 t389 (!t400) a0_0 l0_1) = some r := H
         have A45 := Aside0.mk A450
         clear A450
         have H' := Aside0.mk H
         clear H
         obtain ⟨Ao46, co46, eo46⟩ := Kd.R_slice HO_8.out
         subst eo46
         obtain ⟨Ao47, co47, eo47⟩ := Kd.R_slice HO_5.out
         subst eo47
         go_wp2_with ((go_at_call 22; (with_reducible refine (laws_eqBoolS.calls kj10 _ _ t389 _ _ t380 t400 _ ?side1 ?side2 ?side3 ?side4 A45.out).mono ?_); (case side1 => repeat (exact (Kd.R_reads' HO_8.out).2.2)); (case side2 => exact (Kd.R_reads' HO_8.out).2.1); (case side3 => repeat (exact (Kd.R_reads' HO_5.out).2.2)); (case side4 => exact (Kd.R_reads' HO_5.out).2.1); rintro e w' ⟨rfl, ⟨nd, rfl⟩⟩))
         go_meet
         case rel => exact ⟨_, (!t400), (by rfl), H', ⟨by have := HJ10.out; omega⟩, ⟨by (with_reducible repeat (apply Kd.R_drewN)); exact HO_5.out⟩, ⟨by (with_reducible repeat (apply Kd.R_drewN)); exact HO_8.out⟩, ⟨by (with_reducible repeat (apply Kd.R_drewN)); exact Kd.R_mono HO_388001.out (fun _ hk => trivial)⟩, ⟨by (with_reducible repeat (refine blk_drewN ?_ _)); exact BK373.out⟩, ⟨by (with_reducible repeat (refine blk_drewN ?_ _)); exact BK387.out⟩, ⟨by repeat ((with_reducible first | exact HB.out | apply pw_below_drewN))⟩⟩
        ·rw [if_neg c44] at H
         have c44b0 : (t388 == t379) = false := beq_eq_false_iff_ne.mpr c44
         have c44b1 : (t388 != t379) = true := bne_iff_ne.mpr c44
         exact absurd H (by cases kj10 with | zero => simp [laws_FnExactMostFlow.j1] | succ k_ => rw [laws_FnExactMostFlow.j1, if_pos rfl, ht_.out]; simp)
      case rest =>
       clear HC35
       try clear c1
       try clear c2
       try clear p2
       try clear c3
       try clear c3b0
       try clear c4
       try clear c5
       try clear c10
       try clear c12
       try clear c16
       try clear c17
       try clear c22
       try clear c25
       try clear c26
       try clear c26b0
       try clear c26b1
       try clear c30
       try clear c33
       try clear c40
       try clear c43
       try clear c43b0
       try clear c44
       try clear c44b0
       try clear c44b1
       try clear hcz13_0
       try clear hcz13_1
       try clear hcz15_0
       try clear hcz15_1
       try clear hcz19_0
       try clear hcz19_1
       try clear hcz23_0
       try clear hcz23_1
       try clear hcz41_0
       try clear hcz41_1
       try clear hcz5_0
       try clear hcz5_1
       try clear hfz13_0
       try clear hfz13_1
       try clear hfz15_0
       try clear hfz15_1
       try clear hfz19_0
       try clear hfz19_1
       try clear hfz23_0
       try clear hfz23_1
       try clear hfz41_0
       try clear hfz41_1
       try clear hfz5_0
       try clear hfz5_1
       try clear p2
       obtain ⟨kq, x61_34, rfl, HA, HJ34, HO_5, HO_8, HO_388001, BK373, BK387, HB⟩ := hcut
       have hl388001_34 := (Kd.R_reads' HO_388001.out).1
       rw [hl388001_34] at HO_388001
       (skip)
       (skip)
       (try simp only [hl388001_34] at BK387)
       (skip)
       (skip)
       cases kq with
       | zero => exact absurd HA.out (by simp [laws_FnExactMostFlow.j1])
       | succ kj34 =>
        have H := HA.out
        clear HA
        simp only [laws_FnExactMostFlow.j1] at H
        by_cases c48 : x61_34 = true
        ·subst c48
         have H1 : (some false) = some r := by rw [if_pos rfl] at H; exact H
         clear H
         have H := H1
         clear H1
         exact absurd (Option.some.inj H) (by rw [ht_.out]; simp)
        ·replace c48 := Bool.eq_false_iff.mpr c48
         subst c48
         have H1 : ((laws_markBoolS.f kj34 t389 1).bind fun bt401 => ((laws_heldBoolS.f kj34 bt401.2 1).bind fun t403 => (if t403 < 0 then (some false) else (if t403 = bt401.1 then ((laws_toNet.f kj34 a0_0 l0_1).bind fun bt404 => ((impl_MostFlow.f kj34 bt404.1 bt404.2).bind fun bt408 => (if bt408.1 = t379 then ((laws_eqBoolS.f kj34 bt408.2 t380).bind fun t412 => (laws_FnExactMostFlow.j2 kj34 bt401.2 bt401.1 (!t412))) else (laws_FnExactMostFlow.j2 kj34 bt401.2 bt401.1 true)))) else (some false))))) = some r := by rw [if_neg (show ¬ (false = true) by decide)] at H; exact H
         clear H
         have H := H1
         clear H1
         replace H := Option.bind_eq_some_iff.mp H
         obtain ⟨⟨t401, t402⟩, A490, H⟩ := H
         replace H : ((laws_heldBoolS.f kj34 t402 1).bind fun t403 => (if t403 < 0 then (some false) else (if t403 = t401 then ((laws_toNet.f kj34 a0_0 l0_1).bind fun bt404 => ((impl_MostFlow.f kj34 bt404.1 bt404.2).bind fun bt408 => (if bt408.1 = t379 then ((laws_eqBoolS.f kj34 bt408.2 t380).bind fun t412 => (laws_FnExactMostFlow.j2 kj34 t402 t401 (!t412))) else (laws_FnExactMostFlow.j2 kj34 t402 t401 true)))) else (some false)))) = some r := H
         have A49 := Aside0.mk A490
         clear A490
         replace H := Option.bind_eq_some_iff.mp H
         obtain ⟨t403, A500, H⟩ := H
         replace H : (if t403 < 0 then (some false) else (if t403 = t401 then ((laws_toNet.f kj34 a0_0 l0_1).bind fun bt404 => ((impl_MostFlow.f kj34 bt404.1 bt404.2).bind fun bt408 => (if bt408.1 = t379 then ((laws_eqBoolS.f kj34 bt408.2 t380).bind fun t412 => (laws_FnExactMostFlow.j2 kj34 t402 t401 (!t412))) else (laws_FnExactMostFlow.j2 kj34 t402 t401 true)))) else (some false))) = some r := H
         have A50 := Aside0.mk A500
         clear A500
         by_cases c51 : t403 < 0
         ·rw [if_pos c51] at H
          have c51b0 : decide (t403 < 0) = true := decide_eq_true c51
          clear c51
          exact absurd (Option.some.inj H) (by rw [ht_.out]; simp)
         ·rw [if_neg c51] at H
          have c51b0 : decide (t403 < 0) = false := decide_eq_false c51
          clear c51
          by_cases c52 : t403 = t401
          ·rw [if_pos c52] at H
           have c52b0 : (t403 == t401) = true := beq_iff_eq.mpr c52
           have c52b1 : (t403 != t401) = false := bne_eq_false_iff_eq.mpr c52
           clear c52
           replace H := Option.bind_eq_some_iff.mp H
           obtain ⟨⟨t404, t405⟩, A530, H⟩ := H
           replace H : ((impl_MostFlow.f kj34 t404 t405).bind fun bt408 => (if bt408.1 = t379 then ((laws_eqBoolS.f kj34 bt408.2 t380).bind fun t412 => (laws_FnExactMostFlow.j2 kj34 t402 t401 (!t412))) else (laws_FnExactMostFlow.j2 kj34 t402 t401 true))) = some r := H
           have A53 := Aside0.mk A530
           clear A530
           replace H := Option.bind_eq_some_iff.mp H
           obtain ⟨⟨t408, t409⟩, A540, H⟩ := H
           replace H : (if t408 = t379 then ((laws_eqBoolS.f kj34 t409 t380).bind fun t412 => (laws_FnExactMostFlow.j2 kj34 t402 t401 (!t412))) else (laws_FnExactMostFlow.j2 kj34 t402 t401 true)) = some r := H
           have A54 := Aside0.mk A540
           clear A540
           have HC55 := Aside0.mk H
           clear H
           obtain ⟨Ao56, co56, eo56⟩ := Kd.R_slice HO_8.out
           subst eo56
           go_upto_region 25 with (first | ((with_reducible refine gate_callee (f := 23) rfl ?_); refine goesL_ (some 64) rfl rfl Try.func23 (by kernel_rfl) rfl #[.slice Ao56 t389.length co56, .int .i64 1] rfl (by (try simp only [List.map_toArray, List.map_cons, List.map_nil]); rfl) ?_; (with_reducible refine (laws_markBoolS.calls kj34 (fun k_ => some k_ = (.slice Ao56 t389.length co56 : Value).ownBlock) (.slice Ao56 t389.length co56) t389 1 t401 t402 w _ ?side1 ?side2 A49.out).mono ?_); (case side1 => exact HB.out); (case side2 => exact Kd.R_tight rfl HO_8.out); rintro e w57 ⟨rfl, hy0, hb, hkp⟩; refine ⟨_, rfl, ?_⟩; have n0_ := Aside0.mk (Kd.R_mono (ok' := fun k_ => some k_ ≠ (.slice Ao56 t389.length co56 : Value).ownBlock) (Kd.R_keptB (HO_5.out) hkp (fun k_ hk_ hs_ => (hk_) hs_)) (fun k_ hk_ => hk_.1)); have n1_ := Aside0.mk (Kd.R_reok rfl hy0 (fun k_ e_ => HO_8.out.1 k_ e_)); have n2_ := Aside0.mk (Kd.R_mono (ok' := fun k_ => True) (Kd.R_keptB ((Kd.R_apart' HO_388001.out (Kd.R_typed HO_8.out) (by decide))) hkp (fun k_ hk_ hs_ => (hk_.2) hs_)) (fun k_ hk_ => trivial)); have n3_ := Aside0.mk (blk_kept BK373.out hkp (fun hs_ => (fun e_ => (Kd.R_ne HO_8.out BK373.out (by decide)) e_) hs_)); have n4_ := Aside0.mk (blk_kept BK387.out hkp (fun hs_ => (fun e_ => (Kd.R_ne HO_8.out BK387.out (by decide)) e_) hs_)); have n5_ := Aside0.mk (hb); clear HO_5 HO_8 HO_388001 BK373 BK387 HB; have HO_5 := n0_; have HO_8 := n1_; have HO_388001 := n2_; have BK373 := n3_; have BK387 := n4_; have HB := n5_; clear n0_ n1_ n2_ n3_ n4_ n5_; (try clear hb); (try clear hkp); (try clear hy0)) | ((with_reducible refine gate_callee (f := 24) rfl ?_); refine goesL_ (some 67) rfl rfl Try.func24 (by kernel_rfl) rfl #[.slice Ao56 t402.length co56, .int .i64 1] rfl (by (try simp only [List.map_toArray, List.map_cons, List.map_nil]); (rw [show t402.length = t389.length from (Kd.R_reads' HO_8.out).1.symm] <;> rfl)) ?_; (with_reducible refine (laws_heldBoolS.calls kj34 _ _ t402 1 t403 _ ?side1 ?side2 A50.out).mono ?_); (case side1 => repeat (exact (Kd.R_reads' HO_8.out).2.2)); (case side2 => rw [show t402.length = t389.length from (Kd.R_reads' HO_8.out).1.symm]; exact (Kd.R_reads' HO_8.out).2.1); rintro e w' ⟨rfl, ⟨nd, rfl⟩⟩; refine ⟨_, rfl, ?_⟩; have hnb58 := NB373_387.out; have hnc58 := NB387_373.out; have hcz59_0 : w57.cell? ⟨gb373, 0, none⟩ = some (.int .i64 a0_0) := (blk_cell BK373.out 0).trans rfl; have hcz59_1 : w57.cell? ⟨gb373, 1, none⟩ = some (.slice A0_1 l0_1.length c0_1) := (blk_cell BK373.out 1).trans rfl; have hfz59_0 := blk_frozen BK373.out 0; have hfz59_1 := blk_frozen BK373.out 1) | ((with_reducible refine gate_callee (f := 12) rfl ?_); refine goesL_ (some 75) rfl rfl Try.func12 (by kernel_rfl) rfl #[.agg #[.int .i64 a0_0, .slice A0_1 l0_1.length c0_1]] rfl (by (try simp only [List.map_toArray, List.map_cons, List.map_nil]); rfl) ?_; (with_reducible refine (laws_toNet.calls kj34 a0_0 _ _ l0_1 t404 t405 _ ?side1 ?side2 A53.out).mono ?_); (case side1 => repeat (exact (Kd.C_below HR0_1.out (by repeat ((with_reducible first | exact HB.out | apply pw_below_drewN)))))); (case side2 => exact HC0_1.out); rintro e w60 ⟨v406, rfl, ho0, hb⟩; refine ⟨_, rfl, ?_⟩; have n0_ := Aside0.mk (Kd.R_below (by (with_reducible repeat (apply Kd.R_drewN)); exact HO_5.out) hb); have n1_ := Aside0.mk (Kd.R_below (by (with_reducible repeat (apply Kd.R_drewN)); exact HO_8.out) hb); have n2_ := Aside0.mk (Kd.R_elder' (by (with_reducible repeat (apply Kd.R_drewN)); exact HO_388001.out) (Kd.R_base ho0) hb); have n3_ := Aside0.mk (Kd.R_lower (Kd.R_new' ho0 (Kd.R_lt (by (with_reducible repeat (apply Kd.R_drewN)); exact HO_388001.out))) (below_size (by repeat ((with_reducible first | exact HB.out | apply pw_below_drewN))))); have n4_ := Aside0.mk (blk_below (g := gb373) (o := .cells #[.int .i64 a0_0, .slice A0_1 l0_1.length c0_1] 24 (0, 0)) (by (with_reducible repeat (refine blk_drewN ?_ _)); exact BK373.out) hb); have n5_ := Aside0.mk (blk_below (g := gb387) (o := .cells #[.int .i64 t383, .slice Ao24 t399.length co24] 30 (0, 0)) (by (with_reducible repeat (refine blk_drewN ?_ _)); exact BK387.out) hb); have n6_ := Aside0.mk (below_step (by repeat ((with_reducible first | exact HB.out | apply pw_below_drewN))) hb); clear HO_5 HO_8 HO_388001 BK373 BK387 HB; have HO_5 := n0_; have HO_8 := n1_; have HO_388001 := n2_; have HO407 := n3_; have BK373 := n4_; have BK387 := n5_; have HB := n6_; clear n0_ n1_ n2_ n3_ n4_ n5_ n6_; (try clear hb); (try clear ho0); obtain ⟨Ao61, co61, eo61⟩ := Kd.R_slice HO407.out; subst eo61) | ((with_reducible refine gate_callee (f := 26) rfl ?_); refine goesL_ (some 76) rfl rfl Try.func26 (by kernel_rfl) rfl #[.agg #[.int .i64 t404, .slice Ao61 t405.length co61]] rfl (by (try simp only [List.map_toArray, List.map_cons, List.map_nil]); rfl) ?_; (with_reducible refine (impl_MostFlow.calls kj34 t404 _ _ t405 t408 t409 _ ?side1 ?side2 A54.out).mono ?_); (case side1 => repeat (exact (Kd.R_reads' HO407.out).2.2)); (case side2 => exact (Kd.R_reads' HO407.out).2.1); rintro e w62 ⟨v410, rfl, ho0, hb⟩; refine ⟨_, rfl, ?_⟩; have n0_ := Aside0.mk (Kd.R_elder' HO_5.out (Kd.R_base ho0) hb); have n1_ := Aside0.mk (Kd.R_elder' HO_8.out (Kd.R_base ho0) hb); have n2_ := Aside0.mk (Kd.R_below HO_388001.out hb); have n3_ := Aside0.mk (Kd.R_below HO407.out hb); have n4_ := Aside0.mk (Kd.R_lower (Kd.R_new' (Kd.R_new' ho0 (Kd.R_lt HO_5.out)) (Kd.R_lt HO_8.out)) (below_size HB.out)); have n5_ := Aside0.mk (blk_below BK373.out hb); have n6_ := Aside0.mk (blk_below BK387.out hb); have n7_ := Aside0.mk (below_step HB.out hb); clear HO_5 HO_8 HO_388001 HO407 BK373 BK387 HB; have HO_5 := n0_; have HO_8 := n1_; have HO_388001 := n2_; have HO407 := n3_; have HO411 := n4_; have BK373 := n5_; have BK387 := n6_; have HB := n7_; clear n0_ n1_ n2_ n3_ n4_ n5_ n6_ n7_; (try clear hb); (try clear ho0)))
           (skip)
           go_cut [87] (fun v87 wc => ∃ (kq : Nat) (x87_54 : Bool), v87 = .bool x87_54 ∧ Aside0 (laws_FnExactMostFlow.j2 kq t402 t401 x87_54 = some r) ∧ Aside0 (kq ≤ kj34) ∧ Aside0 (Kd.R Kd.bool 4 wc w.heap.size (fun _ => True) (.slice Ao56 t389.length co56) t402) ∧ Aside0 (Kd.R k67 67 wc w.heap.size (fun _ => True) (.slice Ao24 t399.length co24) t399) ∧ Aside0 (wc.heap[gb373]? = some (.cells #[.int .i64 a0_0, (.slice A0_1 l0_1.length c0_1)] 24 (0, 0))) ∧ Aside0 (wc.heap[gb387]? = some (.cells #[.int .i64 t383, (.slice Ao24 t399.length co24)] 30 (0, 0))) ∧ Aside0 (Below w.heap.size w wc))
           case first =>
            have H := HC55.out
            clear HC55
            by_cases c63 : t408 = t379
            ·rw [if_pos c63] at H
             have c63b0 : (t408 == t379) = true := beq_iff_eq.mpr c63
             have c63b1 : (t408 != t379) = false := bne_eq_false_iff_eq.mpr c63
             clear c63
             (skip)
             replace H := Option.bind_eq_some_iff.mp H
             obtain ⟨t412, A640, H⟩ := H
             replace H : (laws_FnExactMostFlow.j2 kj34 t402 t401 (!t412)) = some r := H
             have A64 := Aside0.mk A640
             clear A640
             have H' := Aside0.mk H
             clear H
             obtain ⟨Ao65, co65, eo65⟩ := Kd.R_slice HO411.out
             subst eo65
             obtain ⟨Ao66, co66, eo66⟩ := Kd.R_slice HO_5.out
             subst eo66
             go_wp2_with ((go_at_call 22; (with_reducible refine (laws_eqBoolS.calls kj34 _ _ t409 _ _ t380 t412 _ ?side1 ?side2 ?side3 ?side4 A64.out).mono ?_); (case side1 => repeat (exact (Kd.R_reads' HO411.out).2.2)); (case side2 => exact (Kd.R_reads' HO411.out).2.1); (case side3 => repeat (exact (Kd.R_reads' HO_5.out).2.2)); (case side4 => exact (Kd.R_reads' HO_5.out).2.1); rintro e w' ⟨rfl, ⟨nd, rfl⟩⟩))
             go_meet
             case rel => exact ⟨_, (!t412), (by rfl), H', ⟨by have := HJ10.out; have := HJ34.out; omega⟩, ⟨by (with_reducible repeat (apply Kd.R_drewN)); exact Kd.R_mono HO_8.out (fun _ hk => trivial)⟩, ⟨by (with_reducible repeat (apply Kd.R_drewN)); exact Kd.R_mono HO_388001.out (fun _ hk => trivial)⟩, ⟨by (with_reducible repeat (refine blk_drewN ?_ _)); exact BK373.out⟩, ⟨by (with_reducible repeat (refine blk_drewN ?_ _)); exact BK387.out⟩, ⟨by repeat ((with_reducible first | exact HB.out | apply pw_below_drewN))⟩⟩
            ·rw [if_neg c63] at H
             have c63b0 : (t408 == t379) = false := beq_eq_false_iff_ne.mpr c63
             have c63b1 : (t408 != t379) = true := bne_iff_ne.mpr c63
             (skip)
             exact absurd H (by cases kj34 with | zero => simp [laws_FnExactMostFlow.j2] | succ k_ => rw [laws_FnExactMostFlow.j2, if_pos rfl, ht_.out]; simp)
           case rest =>
            clear HC55
            try clear c1
            try clear c2
            try clear p2
            try clear c3
            try clear c3b0
            try clear c4
            try clear c5
            try clear c6
            try clear c10
            try clear c12
            try clear c16
            try clear c17
            try clear c22
            try clear c23
            try clear c24
            try clear c25
            try clear c26
            try clear c26b0
            try clear c26b1
            try clear c30
            try clear c33
            try clear c40
            try clear c43
            try clear c43b0
            try clear c44
            try clear c44b0
            try clear c44b1
            try clear c48
            try clear c51
            try clear c51b0
            try clear c52
            try clear c52b0
            try clear c52b1
            try clear c58
            try clear c63
            try clear c63b0
            try clear c63b1
            try clear hcz13_0
            try clear hcz13_1
            try clear hcz15_0
            try clear hcz15_1
            try clear hcz19_0
            try clear hcz19_1
            try clear hcz23_0
            try clear hcz23_1
            try clear hcz41_0
            try clear hcz41_1
            try clear hcz59_0
            try clear hcz59_1
            try clear hcz5_0
            try clear hcz5_1
            try clear hfz13_0
            try clear hfz13_1
            try clear hfz15_0
            try clear hfz15_1
            try clear hfz19_0
            try clear hfz19_1
            try clear hfz23_0
            try clear hfz23_1
            try clear hfz41_0
            try clear hfz41_1
            try clear hfz59_0
            try clear hfz59_1
            try clear hfz5_0
            try clear hfz5_1
            try clear p2
            obtain ⟨kq, x87_54, rfl, HA, HJ54, HO_8, HO_388001, BK373, BK387, HB⟩ := hcut
            have hl8_54 := (Kd.R_reads' HO_8.out).1
            rw [hl8_54] at HO_8
            (try simp only [hl8_54])
            (skip)
            (skip)
            (skip)
            cases kq with
            | zero => exact absurd HA.out (by simp [laws_FnExactMostFlow.j2])
            | succ kj54 =>
             have H := HA.out
             clear HA
             simp only [laws_FnExactMostFlow.j2] at H
             by_cases c67 : x87_54 = true
             ·subst c67
              have H1 : (some false) = some r := by rw [if_pos rfl] at H; exact H
              clear H
              have H := H1
              clear H1
              exact absurd (Option.some.inj H) (by rw [ht_.out]; simp)
             ·replace c67 := Bool.eq_false_iff.mpr c67
              subst c67
              have H1 : ((laws_heldBoolS.f kj54 t402 1).bind fun t413 => (if t413 < 0 then (some false) else (if t413 = t401 then (some true) else (some false)))) = some r := by rw [if_neg (show ¬ (false = true) by decide)] at H; exact H
              clear H
              have H := H1
              clear H1
              replace H := Option.bind_eq_some_iff.mp H
              obtain ⟨t413, A680, H⟩ := H
              replace H : (if t413 < 0 then (some false) else (if t413 = t401 then (some true) else (some false))) = some r := H
              have A68 := Aside0.mk A680
              clear A680
              by_cases c69 : t413 < 0
              ·rw [if_pos c69] at H
               have c69b0 : decide (t413 < 0) = true := decide_eq_true c69
               clear c69
               exact absurd (Option.some.inj H) (by rw [ht_.out]; simp)
              ·rw [if_neg c69] at H
               have c69b0 : decide (t413 < 0) = false := decide_eq_false c69
               clear c69
               by_cases c70 : t413 = t401
               ·rw [if_pos c70] at H
                have c70b0 : (t413 == t401) = true := beq_iff_eq.mpr c70
                have c70b1 : (t413 != t401) = false := bne_eq_false_iff_eq.mpr c70
                clear c70
                obtain rfl := Option.some.inj H
                go_wp2_with (((with_reducible refine gate_callee (f := 24) rfl ?_); refine goesL_ (some 90) rfl rfl Try.func24 (by kernel_rfl) rfl #[.slice Ao56 t402.length co56, .int .i64 1] rfl (by (try simp only [List.map_toArray, List.map_cons, List.map_nil]); rfl) ?_; (with_reducible refine (laws_heldBoolS.calls kj54 _ _ t402 1 t413 _ ?side1 ?side2 A68.out).mono ?_); (case side1 => repeat (exact (Kd.R_reads' HO_8.out).2.2)); (case side2 => exact (Kd.R_reads' HO_8.out).2.1); rintro e w' ⟨rfl, ⟨nd, rfl⟩⟩; refine ⟨_, rfl, ?_⟩))
                go_ret
                exact ⟨by rfl, by repeat ((with_reducible first | exact HB.out | apply pw_below_drewN))⟩
               ·rw [if_neg c70] at H
                have c70b0 : (t413 == t401) = false := beq_eq_false_iff_ne.mpr c70
                have c70b1 : (t413 != t401) = true := bne_iff_ne.mpr c70
                exact absurd (Option.some.inj H) (by rw [ht_.out]; simp)
          ·rw [if_neg c52] at H
           have c52b0 : (t403 == t401) = false := beq_eq_false_iff_ne.mpr c52
           have c52b1 : (t403 != t401) = true := bne_iff_ne.mpr c52
           exact absurd (Option.some.inj H) (by rw [ht_.out]; simp)
     ·replace c33 := Bool.eq_false_iff.mpr c33
      subst c33
      have H1 : (some false) = some r := by rw [if_neg (show ¬ (false = true) by decide)] at H; exact H
      clear H
      have H := H1
      clear H1
      exact absurd (Option.some.inj H) (by rw [ht_.out]; simp)

end Go.Proofs.Ytgkpgigoonhgdaa.PFnExactMostFlow
