-- Made by the session's wip/pp.py, a changed call of the kit's printer; Lean checks it.
import Derived.Test.YtgkpgigoonhgdaaPFnExactReachedByx0
import Derived.Test.YtgkpgigoonhgdaaPFnExactReachedByx1
import Derived.Test.YtgkpgigoonhgdaaPFnExactReachedByx2
import Derived.Test.YtgkpgigoonhgdaaPFnExactReachedByx6
import Derived.Test.YtgkpgigoonhgdaaPFnExactReachedByx11
import Derived.Test.YtgkpgigoonhgdaaPFnExactReachedByx12
namespace Go.Proofs.Ytgkpgigoonhgdaa.PFnExactReachedBy
open Go.RowKit Go.Proofs.YtgkpgigoonhgdaaW.PrintWords Go.Proofs.YtgkpgigoonhgdaaW.PrintLast Go.Proofs.YtgkpgigoonhgdaaW.PrintMore
attribute [local go_sem] max2_int min2_int max_two min_two max_three min_three max_four min_four   -- for this text's walks alone
set_option linter.unusedVariables false
set_option linter.unusedSimpArgs false

/-! ### laws_FnExactReachedBy: function 4 -/
def laws_FnExactReachedBy.j0 : Nat → List Int → List Bool → List Bool → Bool → Int → List (S91) → Option (Bool)
 | 0, _, _, _, _, _, _ => none
 | k + 1, x1, x6, x9, x61, x299000, x299001 => if x61 = true then (some false) else ((laws_markBoolS.f k x9 1).bind fun bt336 => ((laws_heldBoolS.f k bt336.2 1).bind fun t338 => (if t338 < 0 then (some false) else (if t338 = bt336.1 then ((laws_toNet.f k x299000 x299001).bind fun bt339 => ((laws_toIntS.f k x1).bind fun t343 => ((impl_ReachedBy.f k bt339.1 bt339.2 t343).bind fun t346 => ((laws_eqBoolS.f k t346 x6).bind fun t349 => (if t349 = true then ((laws_heldBoolS.f k bt336.2 1).bind fun t350 => (if t350 < 0 then (some false) else (if t350 = bt336.1 then (some true) else (some false)))) else (some false)))))) else (some false)))))
def laws_FnExactReachedBy.f (k : Nat) (a0_0 : Int) (l0_1 : List (S91)) (l1 : List Int) : Option (Bool) := if (l1.length : Int) > 1048576 then (some true) else ((laws_szNet.f a0_0 l0_1 1048576).bind fun t299 => (if t299 < 0 then (some true) else ((laws_toNet.f k a0_0 l0_1).bind fun bt300 => ((laws_toIntS.f k l1).bind fun t304 => ((spec_ReachedBy.f k bt300.1 bt300.2 t304).bind fun t307 => ((laws_toNet.f k a0_0 l0_1).bind fun bt310 => ((laws_toIntS.f k l1).bind fun t315 => ((impl_ReachedBy.f k bt310.1 bt310.2 t315).bind fun t318 => ((laws_eqBoolS.f k t318 t307).bind fun t321 => (if t321 = true then ((laws_toNet.f k a0_0 l0_1).bind fun bt322 => ((laws_eqNet.f k bt310.1 bt310.2 bt322.1 bt322.2).bind fun t326 => (if t326 = true then ((laws_toIntS.f k l1).bind fun t327 => ((laws_eqIntS.f k t315 t327).bind fun t330 => (if t330 = true then ((laws_markNet.f k bt310.1 bt310.2 1).bind fun bt331 => ((laws_markIntS.f k t315 bt331.1).bind fun bt333 => (if bt333.1 < 0 then (laws_FnExactReachedBy.j0 k l1 t307 t318 true a0_0 l0_1) else ((laws_eqBoolS.f k t318 t307).bind fun t335 => (laws_FnExactReachedBy.j0 k l1 t307 t318 (!t335) a0_0 l0_1))))) else (some false)))) else (some false)))) else (some false)))))))))))
theorem laws_FnExactReachedBy.mono_l : ∀ k, (∀ y0 y1 y2 y3 y4 y5, LeO (laws_FnExactReachedBy.j0 k y0 y1 y2 y3 y4 y5) (laws_FnExactReachedBy.j0 (k + 1) y0 y1 y2 y3 y4 y5))
 | 0 => fun _ _ _ _ _ _ r h => by simp [laws_FnExactReachedBy.j0] at h
 | k + 1 => by
  have ih0 := laws_FnExactReachedBy.mono_l k
  ·intro y0 y1 y2 y3 y4 y5
   unfold laws_FnExactReachedBy.j0
   repeat' first
   | (with_reducible exact impl_ReachedBy.mono _ _ _ _)
   | (with_reducible exact laws_eqBoolS.mono _ _ _)
   | (with_reducible exact laws_heldBoolS.mono _ _ _)
   | (with_reducible exact laws_markBoolS.mono _ _ _)
   | (with_reducible exact laws_toIntS.mono _ _)
   | (with_reducible exact laws_toNet.mono _ _ _)
   | (with_reducible exact LeO.refl _)
   | (with_reducible refine LeO.ite ?_ ?_)
   | (with_reducible refine LeO.bind ?_ (fun _ => ?_))
theorem laws_FnExactReachedBy.mono : ∀ a0 a1 a2 k, LeO (laws_FnExactReachedBy.f k a0 a1 a2) (laws_FnExactReachedBy.f (k + 1) a0 a1 a2) := by
 intro a0 a1 a2 k
 have ih0 := laws_FnExactReachedBy.mono_l k
 unfold laws_FnExactReachedBy.f
 repeat' first
   | (with_reducible exact ih0 _ _ _ _ _ _)
   | (with_reducible exact impl_ReachedBy.mono _ _ _ _)
   | (with_reducible exact laws_eqBoolS.mono _ _ _)
   | (with_reducible exact laws_eqIntS.mono _ _ _)
   | (with_reducible exact laws_eqNet.mono _ _ _ _ _)
   | (with_reducible exact laws_markIntS.mono _ _ _)
   | (with_reducible exact laws_markNet.mono _ _ _ _)
   | (with_reducible exact laws_toIntS.mono _ _)
   | (with_reducible exact laws_toNet.mono _ _ _)
   | (with_reducible exact spec_ReachedBy.mono _ _ _ _)
   | (with_reducible exact LeO.refl _)
   | (with_reducible refine LeO.ite ?_ ?_)
   | (with_reducible refine LeO.bind ?_ (fun _ => ?_))
set_option maxHeartbeats 8000000 in
set_option maxRecDepth 100000 in
theorem laws_FnExactReachedBy.calls (k : Nat) (a0_0 : Int) (A0_1 : Option Addr) (c0_1 : Nat) (l0_1 : List (S91)) (A1 : Option Addr) (c1 : Nat) (l1 : List Int) (r : Bool) (w : World) (hr0_1 : Kd.C k91 w A0_1 l0_1.length l0_1) (hc0_1 : l0_1.length ≤ c0_1) (hr1 : Kd.C (Kd.int .i64) w A1 l1.length l1) (hc1 : l1.length ≤ c1) (h : laws_FnExactReachedBy.f k a0_0 l0_1 l1 = some r) (ht_ : Aside0 (r = true)) :
  Calls Try.prog 4 #[.agg #[.int .i64 a0_0, .slice A0_1 l0_1.length c0_1], .slice A1 l1.length c1] w fun e w' => e = .returned (.bool r) ∧ Below w.heap.size w w' := by
 have hu24 := Try.underlying24
 have hu30 := Try.underlying30
 have HR0_1 := Aside0.mk hr0_1
 have HC0_1 := Aside0.mk hc0_1
 clear hr0_1 hc0_1
 have HR1 := Aside0.mk hr1
 have HC1 := Aside0.mk hc1
 clear hr1 hc1
 have HB := Aside0.mk (Below.refl w.heap.size w)
 have H : (if (l1.length : Int) > 1048576 then (some true) else ((laws_szNet.f a0_0 l0_1 1048576).bind fun t299 => (if t299 < 0 then (some true) else ((laws_toNet.f k a0_0 l0_1).bind fun bt300 => ((laws_toIntS.f k l1).bind fun t304 => ((spec_ReachedBy.f k bt300.1 bt300.2 t304).bind fun t307 => ((laws_toNet.f k a0_0 l0_1).bind fun bt310 => ((laws_toIntS.f k l1).bind fun t315 => ((impl_ReachedBy.f k bt310.1 bt310.2 t315).bind fun t318 => ((laws_eqBoolS.f k t318 t307).bind fun t321 => (if t321 = true then ((laws_toNet.f k a0_0 l0_1).bind fun bt322 => ((laws_eqNet.f k bt310.1 bt310.2 bt322.1 bt322.2).bind fun t326 => (if t326 = true then ((laws_toIntS.f k l1).bind fun t327 => ((laws_eqIntS.f k t315 t327).bind fun t330 => (if t330 = true then ((laws_markNet.f k bt310.1 bt310.2 1).bind fun bt331 => ((laws_markIntS.f k t315 bt331.1).bind fun bt333 => (if bt333.1 < 0 then (laws_FnExactReachedBy.j0 k l1 t307 t318 true a0_0 l0_1) else ((laws_eqBoolS.f k t318 t307).bind fun t335 => (laws_FnExactReachedBy.j0 k l1 t307 t318 (!t335) a0_0 l0_1))))) else (some false)))) else (some false)))) else (some false)))))))))))) = some r := h
 clear h
 by_cases c3 : (l1.length : Int) > 1048576
 ·rw [if_pos c3] at H
  have c3b0 : decide (1048576 < (l1.length : Int)) = true := decide_eq_true c3
  have c3b1 : decide (1048576 < l1.length) = true := decide_eq_true (by omega)
  clear c3
  obtain rfl := Option.some.inj H
  go_enter Try.func4, Try.ntmps4
  go_wp2_with (((with_reducible refine gate_dst (N := 2) rfl ?_); refine box_event ?hg (N := 2) ?hd (cs := #[.int .i64 a0_0, .slice A0_1 l0_1.length c0_1]) (t := 24) ?hr ?_; (case hd => rfl); (case hg => rfl); (case hr => (go_simp; done)); intro gb298 hg w4 hbox hb; have n0_ := Aside0.mk (below_step HB.out hb); have n1_ := Aside0.mk (hbox); have n2_ := Aside0.mk ((by rw [hg]; exact (below_size HB.out) : w.heap.size ≤ gb298)); have n3_ := n2_; clear HB; have HB := n0_; have BK298 := n1_; have GW298 := n2_; have GE298 := n3_; clear n0_ n1_ n2_ n3_ hb hbox hg))
  go_ret
  exact ⟨by rfl, by exact HB.out⟩
 ·rw [if_neg c3] at H
  have c3b0 : decide (1048576 < (l1.length : Int)) = false := decide_eq_false c3
  have c3b1 : decide (1048576 < l1.length) = false := decide_eq_false (by omega)
  clear c3
  replace H := Option.bind_eq_some_iff.mp H
  obtain ⟨t299, A50, H⟩ := H
  replace H : (if t299 < 0 then (some true) else ((laws_toNet.f k a0_0 l0_1).bind fun bt300 => ((laws_toIntS.f k l1).bind fun t304 => ((spec_ReachedBy.f k bt300.1 bt300.2 t304).bind fun t307 => ((laws_toNet.f k a0_0 l0_1).bind fun bt310 => ((laws_toIntS.f k l1).bind fun t315 => ((impl_ReachedBy.f k bt310.1 bt310.2 t315).bind fun t318 => ((laws_eqBoolS.f k t318 t307).bind fun t321 => (if t321 = true then ((laws_toNet.f k a0_0 l0_1).bind fun bt322 => ((laws_eqNet.f k bt310.1 bt310.2 bt322.1 bt322.2).bind fun t326 => (if t326 = true then ((laws_toIntS.f k l1).bind fun t327 => ((laws_eqIntS.f k t315 t327).bind fun t330 => (if t330 = true then ((laws_markNet.f k bt310.1 bt310.2 1).bind fun bt331 => ((laws_markIntS.f k t315 bt331.1).bind fun bt333 => (if bt333.1 < 0 then (laws_FnExactReachedBy.j0 k l1 t307 t318 true a0_0 l0_1) else ((laws_eqBoolS.f k t318 t307).bind fun t335 => (laws_FnExactReachedBy.j0 k l1 t307 t318 (!t335) a0_0 l0_1))))) else (some false)))) else (some false)))) else (some false)))))))))) = some r := H
  have A5 := Aside0.mk A50
  clear A50
  by_cases c6 : t299 < 0
  ·rw [if_pos c6] at H
   have c6b0 : decide (t299 < 0) = true := decide_eq_true c6
   clear c6
   obtain rfl := Option.some.inj H
   go_enter Try.func4, Try.ntmps4
   go_wp2_with (first | ((with_reducible refine gate_dst (N := 2) rfl ?_); refine box_event ?hg (N := 2) ?hd (cs := #[.int .i64 a0_0, .slice A0_1 l0_1.length c0_1]) (t := 24) ?hr ?_; (case hd => rfl); (case hg => rfl); (case hr => (go_simp; done)); intro gb298 hg w7 hbox hb; have n0_ := Aside0.mk (below_step HB.out hb); have n1_ := Aside0.mk (hbox); have n2_ := Aside0.mk ((by rw [hg]; exact (below_size HB.out) : w.heap.size ≤ gb298)); have n3_ := n2_; clear HB; have HB := n0_; have BK298 := n1_; have GW298 := n2_; have GE298 := n3_; clear n0_ n1_ n2_ n3_ hb hbox hg; have hcz8_0 : w7.cell? ⟨gb298, 0, none⟩ = some (.int .i64 a0_0) := (blk_cell BK298.out 0).trans rfl; have hcz8_1 : w7.cell? ⟨gb298, 1, none⟩ = some (.slice A0_1 l0_1.length c0_1) := (blk_cell BK298.out 1).trans rfl; have hfz8_0 := blk_frozen BK298.out 0; have hfz8_1 := blk_frozen BK298.out 1) | ((with_reducible refine gate_callee (f := 10) rfl ?_); refine goesL_ (some 19) rfl rfl Try.func10 (by kernel_rfl) rfl #[.agg #[.int .i64 a0_0, .slice A0_1 l0_1.length c0_1], .int .i64 1048576] rfl (by (try simp only [List.map_toArray, List.map_cons, List.map_nil]); rfl) ?_; (with_reducible refine (laws_szNet.calls a0_0 _ _ l0_1 1048576 t299 _ ?side1 ?side2 A5.out).mono ?_); (case side1 => exact (Kd.C_below HR0_1.out HB.out)); (case side2 => exact HC0_1.out); rintro e w9 ⟨rfl, hb⟩; refine ⟨_, rfl, ?_⟩; have n0_ := Aside0.mk (blk_below BK298.out hb); have n1_ := Aside0.mk (below_step HB.out hb); clear BK298 HB; have BK298 := n0_; have HB := n1_; clear n0_ n1_; (try clear hb)))
   go_ret
   exact ⟨by rfl, by exact HB.out⟩
  ·rw [if_neg c6] at H
   have c6b0 : decide (t299 < 0) = false := decide_eq_false c6
   clear c6
   replace H := Option.bind_eq_some_iff.mp H
   obtain ⟨⟨t300, t301⟩, A100, H⟩ := H
   replace H : ((laws_toIntS.f k l1).bind fun t304 => ((spec_ReachedBy.f k t300 t301 t304).bind fun t307 => ((laws_toNet.f k a0_0 l0_1).bind fun bt310 => ((laws_toIntS.f k l1).bind fun t315 => ((impl_ReachedBy.f k bt310.1 bt310.2 t315).bind fun t318 => ((laws_eqBoolS.f k t318 t307).bind fun t321 => (if t321 = true then ((laws_toNet.f k a0_0 l0_1).bind fun bt322 => ((laws_eqNet.f k bt310.1 bt310.2 bt322.1 bt322.2).bind fun t326 => (if t326 = true then ((laws_toIntS.f k l1).bind fun t327 => ((laws_eqIntS.f k t315 t327).bind fun t330 => (if t330 = true then ((laws_markNet.f k bt310.1 bt310.2 1).bind fun bt331 => ((laws_markIntS.f k t315 bt331.1).bind fun bt333 => (if bt333.1 < 0 then (laws_FnExactReachedBy.j0 k l1 t307 t318 true a0_0 l0_1) else ((laws_eqBoolS.f k t318 t307).bind fun t335 => (laws_FnExactReachedBy.j0 k l1 t307 t318 (!t335) a0_0 l0_1))))) else (some false)))) else (some false)))) else (some false)))))))) = some r := H
   have A10 := Aside0.mk A100
   clear A100
   replace H := Option.bind_eq_some_iff.mp H
   obtain ⟨t304, A110, H⟩ := H
   replace H : ((spec_ReachedBy.f k t300 t301 t304).bind fun t307 => ((laws_toNet.f k a0_0 l0_1).bind fun bt310 => ((laws_toIntS.f k l1).bind fun t315 => ((impl_ReachedBy.f k bt310.1 bt310.2 t315).bind fun t318 => ((laws_eqBoolS.f k t318 t307).bind fun t321 => (if t321 = true then ((laws_toNet.f k a0_0 l0_1).bind fun bt322 => ((laws_eqNet.f k bt310.1 bt310.2 bt322.1 bt322.2).bind fun t326 => (if t326 = true then ((laws_toIntS.f k l1).bind fun t327 => ((laws_eqIntS.f k t315 t327).bind fun t330 => (if t330 = true then ((laws_markNet.f k bt310.1 bt310.2 1).bind fun bt331 => ((laws_markIntS.f k t315 bt331.1).bind fun bt333 => (if bt333.1 < 0 then (laws_FnExactReachedBy.j0 k l1 t307 t318 true a0_0 l0_1) else ((laws_eqBoolS.f k t318 t307).bind fun t335 => (laws_FnExactReachedBy.j0 k l1 t307 t318 (!t335) a0_0 l0_1))))) else (some false)))) else (some false)))) else (some false))))))) = some r := H
   have A11 := Aside0.mk A110
   clear A110
   replace H := Option.bind_eq_some_iff.mp H
   obtain ⟨t307, A120, H⟩ := H
   replace H : ((laws_toNet.f k a0_0 l0_1).bind fun bt310 => ((laws_toIntS.f k l1).bind fun t315 => ((impl_ReachedBy.f k bt310.1 bt310.2 t315).bind fun t318 => ((laws_eqBoolS.f k t318 t307).bind fun t321 => (if t321 = true then ((laws_toNet.f k a0_0 l0_1).bind fun bt322 => ((laws_eqNet.f k bt310.1 bt310.2 bt322.1 bt322.2).bind fun t326 => (if t326 = true then ((laws_toIntS.f k l1).bind fun t327 => ((laws_eqIntS.f k t315 t327).bind fun t330 => (if t330 = true then ((laws_markNet.f k bt310.1 bt310.2 1).bind fun bt331 => ((laws_markIntS.f k t315 bt331.1).bind fun bt333 => (if bt333.1 < 0 then (laws_FnExactReachedBy.j0 k l1 t307 t318 true a0_0 l0_1) else ((laws_eqBoolS.f k t318 t307).bind fun t335 => (laws_FnExactReachedBy.j0 k l1 t307 t318 (!t335) a0_0 l0_1))))) else (some false)))) else (some false)))) else (some false)))))) = some r := H
   have A12 := Aside0.mk A120
   clear A120
   replace H := Option.bind_eq_some_iff.mp H
   obtain ⟨⟨t310, t311⟩, A130, H⟩ := H
   replace H : ((laws_toIntS.f k l1).bind fun t315 => ((impl_ReachedBy.f k t310 t311 t315).bind fun t318 => ((laws_eqBoolS.f k t318 t307).bind fun t321 => (if t321 = true then ((laws_toNet.f k a0_0 l0_1).bind fun bt322 => ((laws_eqNet.f k t310 t311 bt322.1 bt322.2).bind fun t326 => (if t326 = true then ((laws_toIntS.f k l1).bind fun t327 => ((laws_eqIntS.f k t315 t327).bind fun t330 => (if t330 = true then ((laws_markNet.f k t310 t311 1).bind fun bt331 => ((laws_markIntS.f k t315 bt331.1).bind fun bt333 => (if bt333.1 < 0 then (laws_FnExactReachedBy.j0 k l1 t307 t318 true a0_0 l0_1) else ((laws_eqBoolS.f k t318 t307).bind fun t335 => (laws_FnExactReachedBy.j0 k l1 t307 t318 (!t335) a0_0 l0_1))))) else (some false)))) else (some false)))) else (some false))))) = some r := H
   have A13 := Aside0.mk A130
   clear A130
   replace H := Option.bind_eq_some_iff.mp H
   obtain ⟨t315, A140, H⟩ := H
   replace H : ((impl_ReachedBy.f k t310 t311 t315).bind fun t318 => ((laws_eqBoolS.f k t318 t307).bind fun t321 => (if t321 = true then ((laws_toNet.f k a0_0 l0_1).bind fun bt322 => ((laws_eqNet.f k t310 t311 bt322.1 bt322.2).bind fun t326 => (if t326 = true then ((laws_toIntS.f k l1).bind fun t327 => ((laws_eqIntS.f k t315 t327).bind fun t330 => (if t330 = true then ((laws_markNet.f k t310 t311 1).bind fun bt331 => ((laws_markIntS.f k t315 bt331.1).bind fun bt333 => (if bt333.1 < 0 then (laws_FnExactReachedBy.j0 k l1 t307 t318 true a0_0 l0_1) else ((laws_eqBoolS.f k t318 t307).bind fun t335 => (laws_FnExactReachedBy.j0 k l1 t307 t318 (!t335) a0_0 l0_1))))) else (some false)))) else (some false)))) else (some false)))) = some r := H
   have A14 := Aside0.mk A140
   clear A140
   replace H := Option.bind_eq_some_iff.mp H
   obtain ⟨t318, A150, H⟩ := H
   replace H : ((laws_eqBoolS.f k t318 t307).bind fun t321 => (if t321 = true then ((laws_toNet.f k a0_0 l0_1).bind fun bt322 => ((laws_eqNet.f k t310 t311 bt322.1 bt322.2).bind fun t326 => (if t326 = true then ((laws_toIntS.f k l1).bind fun t327 => ((laws_eqIntS.f k t315 t327).bind fun t330 => (if t330 = true then ((laws_markNet.f k t310 t311 1).bind fun bt331 => ((laws_markIntS.f k t315 bt331.1).bind fun bt333 => (if bt333.1 < 0 then (laws_FnExactReachedBy.j0 k l1 t307 t318 true a0_0 l0_1) else ((laws_eqBoolS.f k t318 t307).bind fun t335 => (laws_FnExactReachedBy.j0 k l1 t307 t318 (!t335) a0_0 l0_1))))) else (some false)))) else (some false)))) else (some false))) = some r := H
   have A15 := Aside0.mk A150
   clear A150
   replace H := Option.bind_eq_some_iff.mp H
   obtain ⟨t321, A160, H⟩ := H
   replace H : (if t321 = true then ((laws_toNet.f k a0_0 l0_1).bind fun bt322 => ((laws_eqNet.f k t310 t311 bt322.1 bt322.2).bind fun t326 => (if t326 = true then ((laws_toIntS.f k l1).bind fun t327 => ((laws_eqIntS.f k t315 t327).bind fun t330 => (if t330 = true then ((laws_markNet.f k t310 t311 1).bind fun bt331 => ((laws_markIntS.f k t315 bt331.1).bind fun bt333 => (if bt333.1 < 0 then (laws_FnExactReachedBy.j0 k l1 t307 t318 true a0_0 l0_1) else ((laws_eqBoolS.f k t318 t307).bind fun t335 => (laws_FnExactReachedBy.j0 k l1 t307 t318 (!t335) a0_0 l0_1))))) else (some false)))) else (some false)))) else (some false)) = some r := H
   have A16 := Aside0.mk A160
   clear A160
   by_cases c17 : t321 = true
   ·subst c17
    have H1 : ((laws_toNet.f k a0_0 l0_1).bind fun bt322 => ((laws_eqNet.f k t310 t311 bt322.1 bt322.2).bind fun t326 => (if t326 = true then ((laws_toIntS.f k l1).bind fun t327 => ((laws_eqIntS.f k t315 t327).bind fun t330 => (if t330 = true then ((laws_markNet.f k t310 t311 1).bind fun bt331 => ((laws_markIntS.f k t315 bt331.1).bind fun bt333 => (if bt333.1 < 0 then (laws_FnExactReachedBy.j0 k l1 t307 t318 true a0_0 l0_1) else ((laws_eqBoolS.f k t318 t307).bind fun t335 => (laws_FnExactReachedBy.j0 k l1 t307 t318 (!t335) a0_0 l0_1))))) else (some false)))) else (some false)))) = some r := by rw [if_pos rfl] at H; exact H
    clear H
    have H := H1
    clear H1
    replace H := Option.bind_eq_some_iff.mp H
    obtain ⟨⟨t322, t323⟩, A180, H⟩ := H
    replace H : ((laws_eqNet.f k t310 t311 t322 t323).bind fun t326 => (if t326 = true then ((laws_toIntS.f k l1).bind fun t327 => ((laws_eqIntS.f k t315 t327).bind fun t330 => (if t330 = true then ((laws_markNet.f k t310 t311 1).bind fun bt331 => ((laws_markIntS.f k t315 bt331.1).bind fun bt333 => (if bt333.1 < 0 then (laws_FnExactReachedBy.j0 k l1 t307 t318 true a0_0 l0_1) else ((laws_eqBoolS.f k t318 t307).bind fun t335 => (laws_FnExactReachedBy.j0 k l1 t307 t318 (!t335) a0_0 l0_1))))) else (some false)))) else (some false))) = some r := H
    have A18 := Aside0.mk A180
    clear A180
    replace H := Option.bind_eq_some_iff.mp H
    obtain ⟨t326, A190, H⟩ := H
    replace H : (if t326 = true then ((laws_toIntS.f k l1).bind fun t327 => ((laws_eqIntS.f k t315 t327).bind fun t330 => (if t330 = true then ((laws_markNet.f k t310 t311 1).bind fun bt331 => ((laws_markIntS.f k t315 bt331.1).bind fun bt333 => (if bt333.1 < 0 then (laws_FnExactReachedBy.j0 k l1 t307 t318 true a0_0 l0_1) else ((laws_eqBoolS.f k t318 t307).bind fun t335 => (laws_FnExactReachedBy.j0 k l1 t307 t318 (!t335) a0_0 l0_1))))) else (some false)))) else (some false)) = some r := H
    have A19 := Aside0.mk A190
    clear A190
    by_cases c20 : t326 = true
    ·subst c20
     have H1 : ((laws_toIntS.f k l1).bind fun t327 => ((laws_eqIntS.f k t315 t327).bind fun t330 => (if t330 = true then ((laws_markNet.f k t310 t311 1).bind fun bt331 => ((laws_markIntS.f k t315 bt331.1).bind fun bt333 => (if bt333.1 < 0 then (laws_FnExactReachedBy.j0 k l1 t307 t318 true a0_0 l0_1) else ((laws_eqBoolS.f k t318 t307).bind fun t335 => (laws_FnExactReachedBy.j0 k l1 t307 t318 (!t335) a0_0 l0_1))))) else (some false)))) = some r := by rw [if_pos rfl] at H; exact H
     clear H
     have H := H1
     clear H1
     replace H := Option.bind_eq_some_iff.mp H
     obtain ⟨t327, A210, H⟩ := H
     replace H : ((laws_eqIntS.f k t315 t327).bind fun t330 => (if t330 = true then ((laws_markNet.f k t310 t311 1).bind fun bt331 => ((laws_markIntS.f k t315 bt331.1).bind fun bt333 => (if bt333.1 < 0 then (laws_FnExactReachedBy.j0 k l1 t307 t318 true a0_0 l0_1) else ((laws_eqBoolS.f k t318 t307).bind fun t335 => (laws_FnExactReachedBy.j0 k l1 t307 t318 (!t335) a0_0 l0_1))))) else (some false))) = some r := H
     have A21 := Aside0.mk A210
     clear A210
     replace H := Option.bind_eq_some_iff.mp H
     obtain ⟨t330, A220, H⟩ := H
     replace H : (if t330 = true then ((laws_markNet.f k t310 t311 1).bind fun bt331 => ((laws_markIntS.f k t315 bt331.1).bind fun bt333 => (if bt333.1 < 0 then (laws_FnExactReachedBy.j0 k l1 t307 t318 true a0_0 l0_1) else ((laws_eqBoolS.f k t318 t307).bind fun t335 => (laws_FnExactReachedBy.j0 k l1 t307 t318 (!t335) a0_0 l0_1))))) else (some false)) = some r := H
     have A22 := Aside0.mk A220
     clear A220
     by_cases c23 : t330 = true
     ·subst c23
      have H1 : ((laws_markNet.f k t310 t311 1).bind fun bt331 => ((laws_markIntS.f k t315 bt331.1).bind fun bt333 => (if bt333.1 < 0 then (laws_FnExactReachedBy.j0 k l1 t307 t318 true a0_0 l0_1) else ((laws_eqBoolS.f k t318 t307).bind fun t335 => (laws_FnExactReachedBy.j0 k l1 t307 t318 (!t335) a0_0 l0_1))))) = some r := by rw [if_pos rfl] at H; exact H
      clear H
      have H := H1
      clear H1
      replace H := Option.bind_eq_some_iff.mp H
      obtain ⟨⟨t331, t332⟩, A240, H⟩ := H
      replace H : ((laws_markIntS.f k t315 t331).bind fun bt333 => (if bt333.1 < 0 then (laws_FnExactReachedBy.j0 k l1 t307 t318 true a0_0 l0_1) else ((laws_eqBoolS.f k t318 t307).bind fun t335 => (laws_FnExactReachedBy.j0 k l1 t307 t318 (!t335) a0_0 l0_1)))) = some r := H
      have A24 := Aside0.mk A240
      clear A240
      replace H := Option.bind_eq_some_iff.mp H
      obtain ⟨⟨t333, t334⟩, A250, H⟩ := H
      replace H : (if t333 < 0 then (laws_FnExactReachedBy.j0 k l1 t307 t318 true a0_0 l0_1) else ((laws_eqBoolS.f k t318 t307).bind fun t335 => (laws_FnExactReachedBy.j0 k l1 t307 t318 (!t335) a0_0 l0_1))) = some r := H
      have A25 := Aside0.mk A250
      clear A250
      have HC26 := Aside0.mk H
      clear H
      go_enter Try.func4, Try.ntmps4
      try go_wp2_with (first | ((with_reducible refine gate_dst (N := 2) rfl ?_); refine box_event ?hg (N := 2) ?hd (cs := #[.int .i64 a0_0, .slice A0_1 l0_1.length c0_1]) (t := 24) ?hr ?_; (case hd => rfl); (case hg => rfl); (case hr => (go_simp; done)); intro gb298 hg w27 hbox hb; have n0_ := Aside0.mk (below_step HB.out hb); have n1_ := Aside0.mk (hbox); have n2_ := Aside0.mk ((by rw [hg]; exact (below_size HB.out) : w.heap.size ≤ gb298)); have n3_ := n2_; clear HB; have HB := n0_; have BK298 := n1_; have GW298 := n2_; have GE298 := n3_; clear n0_ n1_ n2_ n3_ hb hbox hg; have hcz28_0 : w27.cell? ⟨gb298, 0, none⟩ = some (.int .i64 a0_0) := (blk_cell BK298.out 0).trans rfl; have hcz28_1 : w27.cell? ⟨gb298, 1, none⟩ = some (.slice A0_1 l0_1.length c0_1) := (blk_cell BK298.out 1).trans rfl; have hfz28_0 := blk_frozen BK298.out 0; have hfz28_1 := blk_frozen BK298.out 1) | ((with_reducible refine gate_callee (f := 10) rfl ?_); refine goesL_ (some 19) rfl rfl Try.func10 (by kernel_rfl) rfl #[.agg #[.int .i64 a0_0, .slice A0_1 l0_1.length c0_1], .int .i64 1048576] rfl (by (try simp only [List.map_toArray, List.map_cons, List.map_nil]); rfl) ?_; (with_reducible refine (laws_szNet.calls a0_0 _ _ l0_1 1048576 t299 _ ?side1 ?side2 A5.out).mono ?_); (case side1 => exact (Kd.C_below HR0_1.out HB.out)); (case side2 => exact HC0_1.out); rintro e w29 ⟨rfl, hb⟩; refine ⟨_, rfl, ?_⟩; have n0_ := Aside0.mk (blk_below BK298.out hb); have n1_ := Aside0.mk (below_step HB.out hb); clear BK298 HB; have BK298 := n0_; have HB := n1_; clear n0_ n1_; (try clear hb); have hcz30_0 : w29.cell? ⟨gb298, 0, none⟩ = some (.int .i64 a0_0) := (blk_cell BK298.out 0).trans rfl; have hcz30_1 : w29.cell? ⟨gb298, 1, none⟩ = some (.slice A0_1 l0_1.length c0_1) := (blk_cell BK298.out 1).trans rfl; have hfz30_0 := blk_frozen BK298.out 0; have hfz30_1 := blk_frozen BK298.out 1) | ((with_reducible refine gate_callee (f := 12) rfl ?_); refine goesL_ (some 23) rfl rfl Try.func12 (by kernel_rfl) rfl #[.agg #[.int .i64 a0_0, .slice A0_1 l0_1.length c0_1]] rfl (by (try simp only [List.map_toArray, List.map_cons, List.map_nil]); rfl) ?_; (with_reducible refine (laws_toNet.calls k a0_0 _ _ l0_1 t300 t301 _ ?side1 ?side2 A10.out).mono ?_); (case side1 => exact (Kd.C_below HR0_1.out HB.out)); (case side2 => exact HC0_1.out); rintro e w31 ⟨v302, rfl, ho0, hb⟩; refine ⟨_, rfl, ?_⟩; have n0_ := Aside0.mk (Kd.R_lower ho0 (below_size HB.out)); have n1_ := Aside0.mk (blk_below BK298.out hb); have n2_ := Aside0.mk (below_step HB.out hb); clear BK298 HB; have HO303 := n0_; have BK298 := n1_; have HB := n2_; clear n0_ n1_ n2_; (try clear hb); (try clear ho0)) | ((with_reducible refine gate_callee (f := 13) rfl ?_); refine goesL_ (some 25) rfl rfl Try.func13 (by kernel_rfl) rfl #[.slice A1 l1.length c1] rfl (by (try simp only [List.map_toArray, List.map_cons, List.map_nil]); rfl) ?_; (with_reducible refine (laws_toIntS.calls k _ _ l1 t304 _ ?side1 ?side2 A11.out).mono ?_); (case side1 => exact (Kd.C_below HR1.out HB.out)); (case side2 => exact HC1.out); rintro e w32 ⟨v305, rfl, ho0, hb⟩; refine ⟨_, rfl, ?_⟩; have n0_ := Aside0.mk (Kd.R_below HO303.out hb); have n1_ := Aside0.mk (Kd.R_lower ho0 (below_size HB.out)); have n2_ := Aside0.mk (blk_below BK298.out hb); have n3_ := Aside0.mk (below_step HB.out hb); clear HO303 BK298 HB; have HO303 := n0_; have HO306 := n1_; have BK298 := n2_; have HB := n3_; clear n0_ n1_ n2_ n3_; (try clear hb); (try clear ho0); obtain ⟨Ao33, co33, eo33⟩ := Kd.R_slice HO303.out; subst eo33; obtain ⟨Ao34, co34, eo34⟩ := Kd.R_slice HO306.out; subst eo34) | ((with_reducible refine gate_callee (f := 20) rfl ?_); refine goesL_ (some 26) rfl rfl Try.func20 (by kernel_rfl) rfl #[.agg #[.int .i64 t300, .slice Ao33 t301.length co33], .slice Ao34 t304.length co34] rfl (by (try simp only [List.map_toArray, List.map_cons, List.map_nil]); rfl) ?_; (with_reducible refine (spec_ReachedBy.calls k t300 _ _ t301 _ _ t304 t307 _ ?side1 ?side2 ?side3 ?side4 A12.out).mono ?_); (case side1 => repeat (exact (Kd.R_reads' HO303.out).2.2)); (case side2 => exact (Kd.R_reads' HO303.out).2.1); (case side3 => repeat (exact (Kd.R_reads' HO306.out).2.2)); (case side4 => exact (Kd.R_reads' HO306.out).2.1); rintro e w35 ⟨v308, rfl, ho0, hb⟩; refine ⟨_, rfl, ?_⟩; have n0_ := Aside0.mk (Kd.R_below HO303.out hb); have n1_ := Aside0.mk (Kd.R_below HO306.out hb); have n2_ := Aside0.mk (Kd.R_lower ho0 (below_size HB.out)); have n3_ := Aside0.mk (blk_below BK298.out hb); have n4_ := Aside0.mk (below_step HB.out hb); clear HO303 HO306 BK298 HB; have HO303 := n0_; have HO306 := n1_; have HO309 := n2_; have BK298 := n3_; have HB := n4_; clear n0_ n1_ n2_ n3_ n4_; (try clear hb); (try clear ho0); have hcz36_0 : w35.cell? ⟨gb298, 0, none⟩ = some (.int .i64 a0_0) := (blk_cell BK298.out 0).trans rfl; have hcz36_1 : w35.cell? ⟨gb298, 1, none⟩ = some (.slice A0_1 l0_1.length c0_1) := (blk_cell BK298.out 1).trans rfl; have hfz36_0 := blk_frozen BK298.out 0; have hfz36_1 := blk_frozen BK298.out 1) | ((with_reducible refine gate_callee (f := 12) rfl ?_); refine goesL_ (some 28) rfl rfl Try.func12 (by kernel_rfl) rfl #[.agg #[.int .i64 a0_0, .slice A0_1 l0_1.length c0_1]] rfl (by (try simp only [List.map_toArray, List.map_cons, List.map_nil]); rfl) ?_; (with_reducible refine (laws_toNet.calls k a0_0 _ _ l0_1 t310 t311 _ ?side1 ?side2 A13.out).mono ?_); (case side1 => exact (Kd.C_below HR0_1.out HB.out)); (case side2 => exact HC0_1.out); rintro e w37 ⟨v312, rfl, ho0, hb⟩; refine ⟨_, rfl, ?_⟩; have n0_ := Aside0.mk (Kd.R_elder' HO303.out (Kd.R_base ho0) hb); have n1_ := Aside0.mk (Kd.R_below HO306.out hb); have n2_ := Aside0.mk (Kd.R_below HO309.out hb); have n3_ := Aside0.mk (Kd.R_lower (Kd.R_new' ho0 (Kd.R_lt HO303.out)) (below_size HB.out)); have n4_ := Aside0.mk (blk_below BK298.out hb); have n5_ := Aside0.mk (below_step HB.out hb); clear HO303 HO306 HO309 BK298 HB; have HO303 := n0_; have HO306 := n1_; have HO309 := n2_; have HO313 := n3_; have BK298 := n4_; have HB := n5_; clear n0_ n1_ n2_ n3_ n4_ n5_; (try clear hb); (try clear ho0)) | ((with_reducible refine gate_dst (N := 7) rfl ?_); refine box_event ?hg (N := 7) ?hd (cs := #[.int .i64 0, .slice none 0 0]) (t := 30) ?hr ?_; (case hd => rfl); (case hg => rfl); (case hr => (go_simp; done)); intro gb314 hg w38 hbox hb; have n0_ := Aside0.mk (Kd.R_below HO303.out hb); have n1_ := Aside0.mk (Kd.R_below HO306.out hb); have n2_ := Aside0.mk (Kd.R_below HO309.out hb); have n3_ := Aside0.mk (Kd.R_below HO313.out hb); have n4_ := Aside0.mk (blk_below BK298.out hb); have n5_ := Aside0.mk (below_step HB.out hb); have n6_ := Aside0.mk (hbox); have n7_ := Aside0.mk ((by rw [hg]; exact (below_size HB.out) : w.heap.size ≤ gb314)); have n8_ := n7_; have n9_ := Aside0.mk ((by rw [hg]; exact Nat.ne_of_lt (blk_lt (g := gb298) (o := .cells #[.int .i64 a0_0, .slice A0_1 l0_1.length c0_1] 24 (0, 0)) BK298.out) : gb298 ≠ gb314)); have n10_ := Aside0.mk ((by rw [hg]; exact Nat.ne_of_gt (blk_lt (g := gb298) (o := .cells #[.int .i64 a0_0, .slice A0_1 l0_1.length c0_1] 24 (0, 0)) BK298.out) : gb314 ≠ gb298)); clear HO303 HO306 HO309 HO313 BK298 HB; have HO303 := n0_; have HO306 := n1_; have HO309 := n2_; have HO313 := n3_; have BK298 := n4_; have HB := n5_; have BK314 := n6_; have GW314 := n7_; have GE314 := n8_; have NB298_314 := n9_; have NB314_298 := n10_; clear n0_ n1_ n2_ n3_ n4_ n5_ n6_ n7_ n8_ n9_ n10_ hb hbox hg; have hnb39 := NB314_298.out; have hnc39 := NB298_314.out; have hcz40_0 : w38.cell? ⟨gb314, 0, none⟩ = some (.int .i64 0) := (blk_cell BK314.out 0).trans rfl; have hcz40_1 : w38.cell? ⟨gb314, 1, none⟩ = some (.slice none 0 0) := (blk_cell BK314.out 1).trans rfl; have hfz40_0 := blk_frozen BK314.out 0; have hfz40_1 := blk_frozen BK314.out 1; obtain ⟨Ao41, co41, eo41⟩ := Kd.R_slice HO313.out; subst eo41) | ((with_reducible refine gate_callee (f := 13) rfl ?_); refine goesL_ (some 30) rfl rfl Try.func13 (by kernel_rfl) rfl #[.slice A1 l1.length c1] rfl (by (try simp only [List.map_toArray, List.map_cons, List.map_nil]); rfl) ?_; (with_reducible refine (laws_toIntS.calls k _ _ l1 t315 _ ?side1 ?side2 A14.out).mono ?_); (case side1 => exact Kd.C_below HR1.out (by repeat ((with_reducible first | exact HB.out | refine below_set ?_ GE314.out)))); (case side2 => exact HC1.out); rintro e w42 ⟨v316, rfl, ho0, hb⟩; refine ⟨_, rfl, ?_⟩; have n0_ := Aside0.mk (Kd.R_below (by exact (Kd.R_mono (Kd.R_far (p := ⟨gb314, 1, none⟩) (Kd.R_far (p := ⟨gb314, 0, none⟩) (Kd.R_types HO303.out BK314.out (by decide)) (fun _ hk => hk.2) (.int .i64 t310)) (fun _ hk => hk.2) (.slice Ao41 t311.length co41)) (fun _ h_ => h_.1))) hb); have n1_ := Aside0.mk (Kd.R_elder' (by exact (Kd.R_mono (Kd.R_far (p := ⟨gb314, 1, none⟩) (Kd.R_far (p := ⟨gb314, 0, none⟩) (Kd.R_types HO306.out BK314.out (by decide)) (fun _ hk => hk.2) (.int .i64 t310)) (fun _ hk => hk.2) (.slice Ao41 t311.length co41)) (fun _ h_ => h_.1))) (Kd.R_base ho0) hb); have n2_ := Aside0.mk (Kd.R_below (by exact (Kd.R_mono (Kd.R_far (p := ⟨gb314, 1, none⟩) (Kd.R_far (p := ⟨gb314, 0, none⟩) (Kd.R_types HO309.out BK314.out (by decide)) (fun _ hk => hk.2) (.int .i64 t310)) (fun _ hk => hk.2) (.slice Ao41 t311.length co41)) (fun _ h_ => h_.1))) hb); have n3_ := Aside0.mk (Kd.R_below (by exact (Kd.R_mono (Kd.R_far (p := ⟨gb314, 1, none⟩) (Kd.R_far (p := ⟨gb314, 0, none⟩) (Kd.R_types HO313.out BK314.out (by decide)) (fun _ hk => hk.2) (.int .i64 t310)) (fun _ hk => hk.2) (.slice Ao41 t311.length co41)) (fun _ h_ => h_.1))) hb); have n4_ := Aside0.mk (Kd.R_lower (Kd.R_new' ho0 (Kd.R_lt (by exact (Kd.R_mono (Kd.R_far (p := ⟨gb314, 1, none⟩) (Kd.R_far (p := ⟨gb314, 0, none⟩) (Kd.R_types HO306.out BK314.out (by decide)) (fun _ hk => hk.2) (.int .i64 t310)) (fun _ hk => hk.2) (.slice Ao41 t311.length co41)) (fun _ h_ => h_.1))))) (below_size (by repeat ((with_reducible first | exact HB.out | refine below_set ?_ GE314.out))))); have n5_ := Aside0.mk (blk_below (g := gb298) (o := .cells #[.int .i64 a0_0, .slice A0_1 l0_1.length c0_1] 24 (0, 0)) (by refine blk_far ?_ NB298_314.out _; refine blk_far ?_ NB298_314.out _; exact BK298.out) hb); have n6_ := Aside0.mk (blk_below (g := gb314) (o := .cells #[.int .i64 t310, .slice Ao41 t311.length co41] 30 (0, 0)) (by refine blk_put (cs := #[.int .i64 t310, .slice none 0 0]) ?_ 1 _ rfl; refine blk_put (cs := #[.int .i64 0, .slice none 0 0]) ?_ 0 _ rfl; exact BK314.out) hb); have n7_ := Aside0.mk (below_step (by repeat ((with_reducible first | exact HB.out | refine below_set ?_ GE314.out))) hb); clear HO303 HO306 HO309 HO313 BK298 BK314 HB; have HO303 := n0_; have HO306 := n1_; have HO309 := n2_; have HO313 := n3_; have HO317 := n4_; have BK298 := n5_; have BK314 := n6_; have HB := n7_; clear n0_ n1_ n2_ n3_ n4_ n5_ n6_ n7_; (try clear hb); (try clear ho0); have hcz43_0 : w42.cell? ⟨gb314, 0, none⟩ = some (.int .i64 t310) := (blk_cell BK314.out 0).trans rfl; have hcz43_1 : w42.cell? ⟨gb314, 1, none⟩ = some (.slice Ao41 t311.length co41) := (blk_cell BK314.out 1).trans rfl; have hfz43_0 := blk_frozen BK314.out 0; have hfz43_1 := blk_frozen BK314.out 1; obtain ⟨Ao44, co44, eo44⟩ := Kd.R_slice HO317.out; subst eo44) | ((with_reducible refine gate_callee (f := 21) rfl ?_); refine goesL_ (some 33) rfl rfl Try.func21 (by kernel_rfl) rfl #[.agg #[.int .i64 t310, .slice Ao41 t311.length co41], .slice Ao44 t315.length co44] rfl (by (try simp only [List.map_toArray, List.map_cons, List.map_nil]); rfl) ?_; (with_reducible refine (impl_ReachedBy.calls k t310 _ _ t311 _ _ t315 t318 _ ?side1 ?side2 ?side3 ?side4 A15.out).mono ?_); (case side1 => repeat (exact (Kd.R_reads' HO313.out).2.2)); (case side2 => exact (Kd.R_reads' HO313.out).2.1); (case side3 => repeat (exact (Kd.R_reads' HO317.out).2.2)); (case side4 => exact (Kd.R_reads' HO317.out).2.1); rintro e w45 ⟨v319, rfl, ho0, hb⟩; refine ⟨_, rfl, ?_⟩; have n0_ := Aside0.mk (Kd.R_below HO303.out hb); have n1_ := Aside0.mk (Kd.R_below HO306.out hb); have n2_ := Aside0.mk (Kd.R_elder' HO309.out (Kd.R_base ho0) hb); have n3_ := Aside0.mk (Kd.R_below HO313.out hb); have n4_ := Aside0.mk (Kd.R_below HO317.out hb); have n5_ := Aside0.mk (Kd.R_lower (Kd.R_new' ho0 (Kd.R_lt HO309.out)) (below_size HB.out)); have n6_ := Aside0.mk (blk_below BK298.out hb); have n7_ := Aside0.mk (blk_below BK314.out hb); have n8_ := Aside0.mk (below_step HB.out hb); clear HO303 HO306 HO309 HO313 HO317 BK298 BK314 HB; have HO303 := n0_; have HO306 := n1_; have HO309 := n2_; have HO313 := n3_; have HO317 := n4_; have HO320 := n5_; have BK298 := n6_; have BK314 := n7_; have HB := n8_; clear n0_ n1_ n2_ n3_ n4_ n5_ n6_ n7_ n8_; (try clear hb); (try clear ho0); obtain ⟨Ao46, co46, eo46⟩ := Kd.R_slice HO320.out; subst eo46; obtain ⟨Ao47, co47, eo47⟩ := Kd.R_slice HO309.out; subst eo47) | ((with_reducible refine gate_callee (f := 22) rfl ?_); refine goesL_ (some 36) rfl rfl Try.func22 (by kernel_rfl) rfl #[.slice Ao46 t318.length co46, .slice Ao47 t307.length co47] rfl (by (try simp only [List.map_toArray, List.map_cons, List.map_nil]); rfl) ?_; (with_reducible refine (laws_eqBoolS.calls k _ _ t318 _ _ t307 true _ ?side1 ?side2 ?side3 ?side4 A16.out).mono ?_); (case side1 => repeat (exact (Kd.R_reads' HO320.out).2.2)); (case side2 => exact (Kd.R_reads' HO320.out).2.1); (case side3 => repeat (exact (Kd.R_reads' HO309.out).2.2)); (case side4 => exact (Kd.R_reads' HO309.out).2.1); rintro e w' ⟨rfl, ⟨nd, rfl⟩⟩; refine ⟨_, rfl, ?_⟩))
      (try (rw [drewN_self w45]; generalize hq_ : World.drewN w45 _ = w45; have n0_ : Aside0 (Kd.R k67 67 w45 w.heap.size (fun k_ => some k_ ≠ (.slice Ao41 t311.length co41 : Value).ownBlock) (.slice Ao33 t301.length co33) t301) := ⟨by rw [← hq_]; exact (by (with_reducible repeat (apply Kd.R_drewN)); exact Kd.R_mono HO303.out (fun _ hk => hk.2))⟩; have n1_ : Aside0 (Kd.R (Kd.int .i64) 3 w45 w.heap.size (fun k_ => some k_ ≠ (.slice Ao44 t315.length co44 : Value).ownBlock) (.slice Ao34 t304.length co34) t304) := ⟨by rw [← hq_]; exact (by (with_reducible repeat (apply Kd.R_drewN)); exact Kd.R_mono HO306.out (fun _ hk => hk.2))⟩; have n2_ : Aside0 (Kd.R Kd.bool 4 w45 w.heap.size (fun k_ => some k_ ≠ (.slice Ao46 t318.length co46 : Value).ownBlock) (.slice Ao47 t307.length co47) t307) := ⟨by rw [← hq_]; exact (by (with_reducible repeat (apply Kd.R_drewN)); exact Kd.R_mono HO309.out (fun _ hk => hk.2))⟩; have n3_ : Aside0 (Kd.R k67 67 w45 w.heap.size (fun k_ => some k_ ≠ (.slice Ao33 t301.length co33 : Value).ownBlock) (.slice Ao41 t311.length co41) t311) := ⟨by rw [← hq_]; exact (by (with_reducible repeat (apply Kd.R_drewN)); exact Kd.R_mono HO313.out (fun _ hk => hk.2))⟩; have n4_ : Aside0 (Kd.R (Kd.int .i64) 3 w45 w.heap.size (fun k_ => some k_ ≠ (.slice Ao34 t304.length co34 : Value).ownBlock) (.slice Ao44 t315.length co44) t315) := ⟨by rw [← hq_]; exact (by (with_reducible repeat (apply Kd.R_drewN)); exact Kd.R_mono HO317.out (fun _ hk => hk.2))⟩; have n5_ : Aside0 (Kd.R Kd.bool 4 w45 w.heap.size (fun k_ => some k_ ≠ (.slice Ao47 t307.length co47 : Value).ownBlock) (.slice Ao46 t318.length co46) t318) := ⟨by rw [← hq_]; exact (by (with_reducible repeat (apply Kd.R_drewN)); exact Kd.R_mono HO320.out (fun _ hk => hk.2))⟩; have n6_ : Aside0 (w45.heap[gb298]? = some (.cells #[.int .i64 a0_0, .slice A0_1 l0_1.length c0_1] 24 (0, 0))) := ⟨by rw [← hq_]; exact (by (with_reducible repeat (refine blk_drewN ?_ _)); exact BK298.out)⟩; have n7_ : Aside0 (w45.heap[gb314]? = some (.cells #[.int .i64 t310, .slice Ao41 t311.length co41] 30 (0, 0))) := ⟨by rw [← hq_]; exact (by (with_reducible repeat (refine blk_drewN ?_ _)); exact BK314.out)⟩; have n8_ : Aside0 (Below w.heap.size w w45) := ⟨by rw [← hq_]; exact (by repeat ((with_reducible first | exact HB.out | apply pw_below_drewN)))⟩; clear HO303 HO306 HO309 HO313 HO317 HO320 BK298 BK314 HB hq_; have HO303 := n0_; have HO306 := n1_; have HO309 := n2_; have HO313 := n3_; have HO317 := n4_; have HO320 := n5_; have BK298 := n6_; have BK314 := n7_; have HB := n8_; clear n0_ n1_ n2_ n3_ n4_ n5_ n6_ n7_ n8_))
      have n0_ := Aside0.mk (Kd.R_drew HO303.out)
      have n1_ := Aside0.mk (Kd.R_drew HO306.out)
      have n2_ := Aside0.mk (Kd.R_drew HO309.out)
      have n3_ := Aside0.mk (Kd.R_drew HO313.out)
      have n4_ := Aside0.mk (Kd.R_drew HO317.out)
      have n5_ := Aside0.mk (Kd.R_drew HO320.out)
      have n6_ := Aside0.mk (blk_drew BK298.out)
      have n7_ := Aside0.mk (blk_drew BK314.out)
      have n8_ := Aside0.mk (below_drew1 HB.out)
      clear HO303
      clear HO306
      clear HO309
      clear HO313
      clear HO317
      clear HO320
      clear BK298
      clear BK314
      clear HB
      have HO303 := n0_
      have HO306 := n1_
      have HO309 := n2_
      have HO313 := n3_
      have HO317 := n4_
      have HO320 := n5_
      have BK298 := n6_
      have BK314 := n7_
      have HB := n8_
      clear n0_ n1_ n2_ n3_ n4_ n5_ n6_ n7_ n8_
      refine start_ (n := 5) (S := fun w' => w'.cell? ⟨gb314, 0, none⟩ = some (.int .i64 t310) ∧ w'.cell? ⟨gb314, 1, none⟩ = some (.slice Ao41 t311.length co41) ∧ w'.cell? ⟨gb298, 0, none⟩ = some (.int .i64 a0_0) ∧ w'.cell? ⟨gb298, 1, none⟩ = some (.slice A0_1 l0_1.length c0_1)) (ds := []) #[false, false, false, false, false] (by kernel_rfl) rfl rfl ⟨(blk_cell BK314.out 0).trans rfl, (blk_cell BK314.out 1).trans rfl, (blk_cell BK298.out 0).trans rfl, (blk_cell BK298.out 1).trans rfl⟩ (fun hHeld => ?_)
      generalize w45.drew = w48 at HO303 HO306 HO309 HO313 HO317 HO320 BK298 BK314 HB hHeld ⊢
      refine take_ (i := 0) (N := some 38) (v := ?_) (a' := ?_) #[true, false, false, false, false] rfl rfl (by kernel_rfl) (fun _ _ _ h => h) (Or.inl ⟨by rfl, ?_⟩) hHeld ?_ ?_
      rotate_left
      ·rintro w' ⟨s0, s1, s2, s3⟩
       go_simp
       with_reducible rfl
      rotate_left
      ·simp only [Act.put, List.setIfInBounds_toArray, List.set_cons_zero, List.set_cons_succ, i64_w, i32_w]
       rfl
      refine take_ (i := 1) (N := some 39) (v := ?_) (a' := ?_) #[true, true, false, false, false] rfl rfl (by kernel_rfl) (fun _ _ _ h => h) (Or.inl ⟨by rfl, ?_⟩) hHeld ?_ ?_
      rotate_left
      ·rintro w' ⟨s0, s1, s2, s3⟩
       go_simp
       with_reducible rfl
      rotate_left
      ·simp only [Act.put, List.setIfInBounds_toArray, List.set_cons_zero, List.set_cons_succ, i64_w, i32_w]
       rfl
      refine one_ (i := 2) (N := some 40) #[true, true, true, false, false] rfl rfl (by kernel_rfl) (by decide) (fun K hK => ?_)
      refine goes_ Try.func12 (by kernel_rfl) rfl #[.agg #[.int .i64 a0_0, .slice A0_1 l0_1.length c0_1]] (by rfl) rfl rfl (by (try simp only [List.map_toArray, List.map_cons, List.map_nil]); rfl) ?_
      with_reducible refine (laws_toNet.calls k a0_0 _ _ l0_1 t322 t323 _ ?side1 ?side2 A18.out).mono ?_
      (case side1 => exact (Kd.C_below HR0_1.out HB.out))
      (case side2 => exact HC0_1.out)
      rintro e w49 ⟨v324, rfl, ho0, hb⟩
      refine ⟨_, rfl, ?_⟩
      have n0_ := Aside0.mk (Kd.R_elder' HO303.out (Kd.R_base ho0) hb)
      have n1_ := Aside0.mk (Kd.R_below HO306.out hb)
      have n2_ := Aside0.mk (Kd.R_below HO309.out hb)
      have n3_ := Aside0.mk (Kd.R_elder' HO313.out (Kd.R_base ho0) hb)
      have n4_ := Aside0.mk (Kd.R_below HO317.out hb)
      have n5_ := Aside0.mk (Kd.R_below HO320.out hb)
      have n6_ := Aside0.mk (Kd.R_lower (Kd.R_new' (Kd.R_new' ho0 (Kd.R_lt HO303.out)) (Kd.R_lt HO313.out)) (below_size HB.out))
      have n7_ := Aside0.mk (blk_below BK298.out hb)
      have n8_ := Aside0.mk (blk_below BK314.out hb)
      have n9_ := Aside0.mk (below_step HB.out hb)
      clear HO303
      clear HO306
      clear HO309
      clear HO313
      clear HO317
      clear HO320
      clear BK298
      clear BK314
      clear HB
      have HO303 := n0_
      have HO306 := n1_
      have HO309 := n2_
      have HO313 := n3_
      have HO317 := n4_
      have HO320 := n5_
      have HO325 := n6_
      have BK298 := n7_
      have BK314 := n8_
      have HB := n9_
      clear n0_ n1_ n2_ n3_ n4_ n5_ n6_ n7_ n8_ n9_
      (try clear hb)
      (skip)
      (skip)
      (skip)
      (try clear ho0)
      obtain ⟨Ao50, co50, eo50⟩ := Kd.R_slice HO325.out
      (subst eo50)
      refine hK.out _ _ ⟨(blk_cell BK314.out 0).trans rfl, (blk_cell BK314.out 1).trans rfl, (blk_cell BK298.out 0).trans rfl, (blk_cell BK298.out 1).trans rfl⟩ (fun hHeld => ?_)
      clear hK K
      refine norm_ (a' := ?_) ?_ ?_
      rotate_left
      ·show Act.put _ (some 40) _ = _
       simp only [Act.put, List.setIfInBounds_toArray, List.set_cons_zero, List.set_cons_succ, i64_w, i32_w]
       rfl
      refine one_ (i := 3) (N := some 41) #[true, true, true, true, false] rfl rfl (by kernel_rfl) (by decide) (fun K hK => ?_)
      refine goes_ Try.func16 (by kernel_rfl) rfl #[.agg #[.int .i64 t310, .slice Ao41 t311.length co41], .agg #[.int .i64 t322, .slice Ao50 t323.length co50]] (by rfl) rfl rfl (by (try simp only [List.map_toArray, List.map_cons, List.map_nil]); rfl) ?_
      with_reducible refine (laws_eqNet.calls k t310 _ _ t311 t322 _ _ t323 true _ ?side1 ?side2 ?side3 ?side4 A19.out).mono ?_
      (case side1 => repeat (exact (Kd.R_reads' HO313.out).2.2))
      (case side2 => exact (Kd.R_reads' HO313.out).2.1)
      (case side3 => repeat (exact (Kd.R_reads' HO325.out).2.2))
      (case side4 => exact (Kd.R_reads' HO325.out).2.1)
      rintro e w51 ⟨rfl, hb⟩
      refine ⟨_, rfl, ?_⟩
      have n0_ := Aside0.mk (Kd.R_below HO303.out hb)
      have n1_ := Aside0.mk (Kd.R_below HO306.out hb)
      have n2_ := Aside0.mk (Kd.R_below HO309.out hb)
      have n3_ := Aside0.mk (Kd.R_below HO313.out hb)
      have n4_ := Aside0.mk (Kd.R_below HO317.out hb)
      have n5_ := Aside0.mk (Kd.R_below HO320.out hb)
      have n6_ := Aside0.mk (Kd.R_below HO325.out hb)
      have n7_ := Aside0.mk (blk_below BK298.out hb)
      have n8_ := Aside0.mk (blk_below BK314.out hb)
      have n9_ := Aside0.mk (below_step HB.out hb)
      clear HO303
      clear HO306
      clear HO309
      clear HO313
      clear HO317
      clear HO320
      clear HO325
      clear BK298
      clear BK314
      clear HB
      have HO303 := n0_
      have HO306 := n1_
      have HO309 := n2_
      have HO313 := n3_
      have HO317 := n4_
      have HO320 := n5_
      have HO325 := n6_
      have BK298 := n7_
      have BK314 := n8_
      have HB := n9_
      clear n0_ n1_ n2_ n3_ n4_ n5_ n6_ n7_ n8_ n9_
      (try clear hb)
      (skip)
      (skip)
      (skip)
      refine hK.out _ _ ⟨(blk_cell BK314.out 0).trans rfl, (blk_cell BK314.out 1).trans rfl, (blk_cell BK298.out 0).trans rfl, (blk_cell BK298.out 1).trans rfl⟩ (fun hHeld => ?_)
      clear hK K
      refine norm_ (a' := ?_) ?_ ?_
      rotate_left
      ·show Act.put _ (some 41) _ = _
       simp only [Act.put, List.setIfInBounds_toArray, List.set_cons_zero, List.set_cons_succ, i64_w, i32_w]
       rfl
      refine pure_ (i := 4) (N := some 42) (v := ?_) (a' := ?_) #[true, true, true, true, true] rfl rfl (by kernel_rfl) (fun _ _ _ h => h) (Or.inl ⟨by rfl, ?_⟩) ?_ ?_
      rotate_left
      ·intro w'
       go_simp
       with_reducible rfl
      rotate_left
      ·simp only [Act.put, List.setIfInBounds_toArray, List.set_cons_zero, List.set_cons_succ, i64_w, i32_w]
       rfl
      refine done_ (by kernel_rfl) ?_
      go_upto_region 20 with (first | ((with_reducible refine gate_callee (f := 13) rfl ?_); refine goesL_ (some 45) rfl rfl Try.func13 (by kernel_rfl) rfl #[.slice A1 l1.length c1] rfl (by (try simp only [List.map_toArray, List.map_cons, List.map_nil]); rfl) ?_; (with_reducible refine (laws_toIntS.calls k _ _ l1 t327 _ ?side1 ?side2 A21.out).mono ?_); (case side1 => exact (Kd.C_below HR1.out HB.out)); (case side2 => exact HC1.out); rintro e w52 ⟨v328, rfl, ho0, hb⟩; refine ⟨_, rfl, ?_⟩; have n0_ := Aside0.mk (Kd.R_below HO303.out hb); have n1_ := Aside0.mk (Kd.R_elder' HO306.out (Kd.R_base ho0) hb); have n2_ := Aside0.mk (Kd.R_below HO309.out hb); have n3_ := Aside0.mk (Kd.R_below HO313.out hb); have n4_ := Aside0.mk (Kd.R_elder' HO317.out (Kd.R_base ho0) hb); have n5_ := Aside0.mk (Kd.R_below HO320.out hb); have n6_ := Aside0.mk (Kd.R_below HO325.out hb); have n7_ := Aside0.mk (Kd.R_lower (Kd.R_new' (Kd.R_new' ho0 (Kd.R_lt HO306.out)) (Kd.R_lt HO317.out)) (below_size HB.out)); have n8_ := Aside0.mk (blk_below BK298.out hb); have n9_ := Aside0.mk (blk_below BK314.out hb); have n10_ := Aside0.mk (below_step HB.out hb); clear HO303 HO306 HO309 HO313 HO317 HO320 HO325 BK298 BK314 HB; have HO303 := n0_; have HO306 := n1_; have HO309 := n2_; have HO313 := n3_; have HO317 := n4_; have HO320 := n5_; have HO325 := n6_; have HO329 := n7_; have BK298 := n8_; have BK314 := n9_; have HB := n10_; clear n0_ n1_ n2_ n3_ n4_ n5_ n6_ n7_ n8_ n9_ n10_; (try clear hb); (try clear ho0); obtain ⟨Ao53, co53, eo53⟩ := Kd.R_slice HO329.out; subst eo53) | ((with_reducible refine gate_callee (f := 15) rfl ?_); refine goesL_ (some 46) rfl rfl Try.func15 (by kernel_rfl) rfl #[.slice Ao44 t315.length co44, .slice Ao53 t327.length co53] rfl (by (try simp only [List.map_toArray, List.map_cons, List.map_nil]); rfl) ?_; (with_reducible refine (laws_eqIntS.calls k _ _ t315 _ _ t327 true _ ?side1 ?side2 ?side3 ?side4 A22.out).mono ?_); (case side1 => repeat (exact (Kd.R_reads' HO317.out).2.2)); (case side2 => exact (Kd.R_reads' HO317.out).2.1); (case side3 => repeat (exact (Kd.R_reads' HO329.out).2.2)); (case side4 => exact (Kd.R_reads' HO329.out).2.1); rintro e w' ⟨rfl, ⟨nd, rfl⟩⟩; refine ⟨_, rfl, ?_⟩; have hcz54_0 : w52.cell? ⟨gb314, 0, none⟩ = some (.int .i64 t310) := (blk_cell BK314.out 0).trans rfl; have hcz54_1 : w52.cell? ⟨gb314, 1, none⟩ = some (.slice Ao41 t311.length co41) := (blk_cell BK314.out 1).trans rfl; have hfz54_0 := blk_frozen BK314.out 0; have hfz54_1 := blk_frozen BK314.out 1) | ((with_reducible refine gate_callee (f := 17) rfl ?_); refine goesL_ (some 50) rfl rfl Try.func17 (by kernel_rfl) rfl #[.agg #[.int .i64 t310, .slice Ao41 t311.length co41], .int .i64 1] rfl (by (try simp only [List.map_toArray, List.map_cons, List.map_nil]); rfl) ?_; (with_reducible refine (laws_markNet.calls k t310 (fun k_ => some k_ = (.slice Ao41 t311.length co41 : Value).ownBlock) (.slice Ao41 t311.length co41) t311 1 t331 t332 w _ ?side1 ?side2 A24.out).mono ?_); (case side1 => repeat ((with_reducible first | exact HB.out | apply pw_below_drewN))); (case side2 => exact Kd.R_tight rfl (Kd.R_drewN HO313.out _)); rintro e w55 ⟨rfl, hy0, hb, hkp⟩; refine ⟨_, rfl, ?_⟩; have n0_ := Aside0.mk (blk_kept (blk_drewN BK298.out _) hkp (fun hs_ => (fun e_ => (Kd.R_ne HO313.out BK298.out (by decide)) e_) hs_)); have n1_ := Aside0.mk (Kd.R_mono (ok' := fun k_ => some k_ ≠ (.slice Ao41 t311.length co41 : Value).ownBlock ∧ some k_ ≠ (.slice Ao50 t323.length co50 : Value).ownBlock) (Kd.R_keptB (Kd.R_drewN HO303.out _) hkp (fun k_ hk_ hs_ => by simp only [ne_eq, true_and, and_assoc] at hk_; simp only [hk_] at hs_)) (fun k_ hk_ => by simp only [ne_eq, true_and, and_assoc] at hk_ ⊢; simp only [hk_, not_false_eq_true, and_self])); have n2_ := Aside0.mk (Kd.R_mono (ok' := fun k_ => some k_ ≠ (.slice Ao44 t315.length co44 : Value).ownBlock ∧ some k_ ≠ (.slice Ao53 t327.length co53 : Value).ownBlock) (Kd.R_keptB ((Kd.R_apart' (Kd.R_drewN HO306.out _) (Kd.R_typed (Kd.R_drewN HO313.out _)) (by decide))) hkp (fun k_ hk_ hs_ => by simp only [ne_eq, true_and, and_assoc] at hk_; simp only [hk_] at hs_)) (fun k_ hk_ => by simp only [ne_eq, true_and, and_assoc] at hk_ ⊢; simp only [hk_, not_false_eq_true, and_self])); have n3_ := Aside0.mk (Kd.R_mono (ok' := fun k_ => some k_ ≠ (.slice Ao46 t318.length co46 : Value).ownBlock) (Kd.R_keptB ((Kd.R_apart' (Kd.R_drewN HO309.out _) (Kd.R_typed (Kd.R_drewN HO313.out _)) (by decide))) hkp (fun k_ hk_ hs_ => by simp only [ne_eq, true_and, and_assoc] at hk_; simp only [hk_] at hs_)) (fun k_ hk_ => by simp only [ne_eq, true_and, and_assoc] at hk_ ⊢; simp only [hk_, not_false_eq_true, and_self])); have n4_ := Aside0.mk (Kd.R_reok rfl hy0 (fun k_ e_ => HO313.out.1 k_ e_)); have n5_ := Aside0.mk (blk_kept (blk_drewN BK314.out _) hkp (fun hs_ => (fun e_ => (Kd.R_ne HO313.out BK314.out (by decide)) e_) hs_)); have n6_ := Aside0.mk (Kd.R_mono (ok' := fun k_ => some k_ ≠ (.slice Ao34 t304.length co34 : Value).ownBlock ∧ some k_ ≠ (.slice Ao53 t327.length co53 : Value).ownBlock) (Kd.R_keptB ((Kd.R_apart' (Kd.R_drewN HO317.out _) (Kd.R_typed (Kd.R_drewN HO313.out _)) (by decide))) hkp (fun k_ hk_ hs_ => by simp only [ne_eq, true_and, and_assoc] at hk_; simp only [hk_] at hs_)) (fun k_ hk_ => by simp only [ne_eq, true_and, and_assoc] at hk_ ⊢; simp only [hk_, not_false_eq_true, and_self])); have n7_ := Aside0.mk (Kd.R_mono (ok' := fun k_ => some k_ ≠ (.slice Ao47 t307.length co47 : Value).ownBlock) (Kd.R_keptB ((Kd.R_apart' (Kd.R_drewN HO320.out _) (Kd.R_typed (Kd.R_drewN HO313.out _)) (by decide))) hkp (fun k_ hk_ hs_ => by simp only [ne_eq, true_and, and_assoc] at hk_; simp only [hk_] at hs_)) (fun k_ hk_ => by simp only [ne_eq, true_and, and_assoc] at hk_ ⊢; simp only [hk_, not_false_eq_true, and_self])); have n8_ := Aside0.mk (Kd.R_mono (ok' := fun k_ => some k_ ≠ (.slice Ao33 t301.length co33 : Value).ownBlock ∧ some k_ ≠ (.slice Ao41 t311.length co41 : Value).ownBlock) (Kd.R_keptB (Kd.R_drewN HO325.out _) hkp (fun k_ hk_ hs_ => by simp only [ne_eq, true_and, and_assoc] at hk_; simp only [hk_] at hs_)) (fun k_ hk_ => by simp only [ne_eq, true_and, and_assoc] at hk_ ⊢; simp only [hk_, not_false_eq_true, and_self])); have n9_ := Aside0.mk (Kd.R_mono (ok' := fun k_ => some k_ ≠ (.slice Ao34 t304.length co34 : Value).ownBlock ∧ some k_ ≠ (.slice Ao44 t315.length co44 : Value).ownBlock) (Kd.R_keptB ((Kd.R_apart' (Kd.R_drewN HO329.out _) (Kd.R_typed (Kd.R_drewN HO313.out _)) (by decide))) hkp (fun k_ hk_ hs_ => by simp only [ne_eq, true_and, and_assoc] at hk_; simp only [hk_] at hs_)) (fun k_ hk_ => by simp only [ne_eq, true_and, and_assoc] at hk_ ⊢; simp only [hk_, not_false_eq_true, and_self])); have n10_ := Aside0.mk (hb); clear BK298 HO303 HO306 HO309 HO313 BK314 HO317 HO320 HO325 HO329 HB; have BK298 := n0_; have HO303 := n1_; have HO306 := n2_; have HO309 := n3_; have HO313 := n4_; have BK314 := n5_; have HO317 := n6_; have HO320 := n7_; have HO325 := n8_; have HO329 := n9_; have HB := n10_; clear n0_ n1_ n2_ n3_ n4_ n5_ n6_ n7_ n8_ n9_ n10_; (try clear hb); (try clear hkp); (try clear hy0)) | ((with_reducible refine gate_callee (f := 18) rfl ?_); refine goesL_ (some 53) rfl rfl Try.func18 (by kernel_rfl) rfl #[.slice Ao44 t315.length co44, .int .i64 t331] rfl (by (try simp only [List.map_toArray, List.map_cons, List.map_nil]); rfl) ?_; (with_reducible refine (laws_markIntS.calls k (fun k_ => some k_ = (.slice Ao44 t315.length co44 : Value).ownBlock) (.slice Ao44 t315.length co44) t315 t331 t333 t334 w _ ?side1 ?side2 A25.out).mono ?_); (case side1 => exact HB.out); (case side2 => exact Kd.R_tight rfl HO317.out); rintro e w56 ⟨rfl, hy0, hb, hkp⟩; refine ⟨_, rfl, ?_⟩; have n0_ := Aside0.mk (blk_kept (BK298.out) hkp (fun hs_ => (fun e_ => (Kd.R_ne HO317.out BK298.out (by decide)) e_) hs_)); have n1_ := Aside0.mk (Kd.R_mono (ok' := fun k_ => some k_ ≠ (.slice Ao41 t311.length co41 : Value).ownBlock ∧ some k_ ≠ (.slice Ao50 t323.length co50 : Value).ownBlock) (Kd.R_keptB ((Kd.R_apart' HO303.out (Kd.R_typed HO317.out) (by decide))) hkp (fun k_ hk_ hs_ => by simp only [ne_eq, true_and, and_assoc] at hk_; simp only [hk_] at hs_)) (fun k_ hk_ => by simp only [ne_eq, true_and, and_assoc] at hk_ ⊢; simp only [hk_, not_false_eq_true, and_self])); have n2_ := Aside0.mk (Kd.R_mono (ok' := fun k_ => some k_ ≠ (.slice Ao44 t315.length co44 : Value).ownBlock ∧ some k_ ≠ (.slice Ao53 t327.length co53 : Value).ownBlock) (Kd.R_keptB (HO306.out) hkp (fun k_ hk_ hs_ => by simp only [ne_eq, true_and, and_assoc] at hk_; simp only [hk_] at hs_)) (fun k_ hk_ => by simp only [ne_eq, true_and, and_assoc] at hk_ ⊢; simp only [hk_, not_false_eq_true, and_self])); have n3_ := Aside0.mk (Kd.R_mono (ok' := fun k_ => some k_ ≠ (.slice Ao46 t318.length co46 : Value).ownBlock) (Kd.R_keptB ((Kd.R_apart' HO309.out (Kd.R_typed HO317.out) (by decide))) hkp (fun k_ hk_ hs_ => by simp only [ne_eq, true_and, and_assoc] at hk_; simp only [hk_] at hs_)) (fun k_ hk_ => by simp only [ne_eq, true_and, and_assoc] at hk_ ⊢; simp only [hk_, not_false_eq_true, and_self])); have n4_ := Aside0.mk (Kd.R_mono (ok' := fun k_ => some k_ ≠ (.slice Ao33 t301.length co33 : Value).ownBlock ∧ some k_ ≠ (.slice Ao50 t323.length co50 : Value).ownBlock) (Kd.R_keptB ((Kd.R_apart' HO313.out (Kd.R_typed HO317.out) (by decide))) hkp (fun k_ hk_ hs_ => by simp only [ne_eq, true_and, and_assoc] at hk_; simp only [hk_] at hs_)) (fun k_ hk_ => by simp only [ne_eq, true_and, and_assoc] at hk_ ⊢; simp only [hk_, not_false_eq_true, and_self])); have n5_ := Aside0.mk (blk_kept (BK314.out) hkp (fun hs_ => (fun e_ => (Kd.R_ne HO317.out BK314.out (by decide)) e_) hs_)); have n6_ := Aside0.mk (Kd.R_reok rfl hy0 (fun k_ e_ => HO317.out.1 k_ e_)); have n7_ := Aside0.mk (Kd.R_mono (ok' := fun k_ => some k_ ≠ (.slice Ao47 t307.length co47 : Value).ownBlock) (Kd.R_keptB ((Kd.R_apart' HO320.out (Kd.R_typed HO317.out) (by decide))) hkp (fun k_ hk_ hs_ => by simp only [ne_eq, true_and, and_assoc] at hk_; simp only [hk_] at hs_)) (fun k_ hk_ => by simp only [ne_eq, true_and, and_assoc] at hk_ ⊢; simp only [hk_, not_false_eq_true, and_self])); have n8_ := Aside0.mk (Kd.R_mono (ok' := fun k_ => some k_ ≠ (.slice Ao33 t301.length co33 : Value).ownBlock ∧ some k_ ≠ (.slice Ao41 t311.length co41 : Value).ownBlock) (Kd.R_keptB ((Kd.R_apart' HO325.out (Kd.R_typed HO317.out) (by decide))) hkp (fun k_ hk_ hs_ => by simp only [ne_eq, true_and, and_assoc] at hk_; simp only [hk_] at hs_)) (fun k_ hk_ => by simp only [ne_eq, true_and, and_assoc] at hk_ ⊢; simp only [hk_, not_false_eq_true, and_self])); have n9_ := Aside0.mk (Kd.R_mono (ok' := fun k_ => some k_ ≠ (.slice Ao34 t304.length co34 : Value).ownBlock ∧ some k_ ≠ (.slice Ao44 t315.length co44 : Value).ownBlock) (Kd.R_keptB (HO329.out) hkp (fun k_ hk_ hs_ => by simp only [ne_eq, true_and, and_assoc] at hk_; simp only [hk_] at hs_)) (fun k_ hk_ => by simp only [ne_eq, true_and, and_assoc] at hk_ ⊢; simp only [hk_, not_false_eq_true, and_self])); have n10_ := Aside0.mk (hb); clear BK298 HO303 HO306 HO309 HO313 BK314 HO317 HO320 HO325 HO329 HB; have BK298 := n0_; have HO303 := n1_; have HO306 := n2_; have HO309 := n3_; have HO313 := n4_; have BK314 := n5_; have HO317 := n6_; have HO320 := n7_; have HO325 := n8_; have HO329 := n9_; have HB := n10_; clear n0_ n1_ n2_ n3_ n4_ n5_ n6_ n7_ n8_ n9_ n10_; (try clear hb); (try clear hkp); (try clear hy0)))
      (skip)
      go_cut [61] (fun v61 wc => ∃ (kq : Nat) (x61_25 : Bool), v61 = .bool x61_25 ∧ Aside0 (laws_FnExactReachedBy.j0 kq l1 t307 t318 x61_25 a0_0 l0_1 = some r) ∧ Aside0 (kq ≤ k) ∧ Aside0 (Kd.R Kd.bool 4 wc w.heap.size (fun k_ => some k_ ≠ ((.slice Ao46 t318.length co46) : Value).ownBlock) (.slice Ao47 t307.length co47) t307) ∧ Aside0 (Kd.R Kd.bool 4 wc w.heap.size (fun k_ => some k_ ≠ ((.slice Ao47 t307.length co47) : Value).ownBlock) (.slice Ao46 t318.length co46) t318) ∧ Aside0 (Kd.R k67 67 wc w.heap.size (fun _ => True) (.slice Ao41 t311.length co41) t332) ∧ Aside0 (wc.heap[gb298]? = some (.cells #[.int .i64 a0_0, (.slice A0_1 l0_1.length c0_1)] 24 (0, 0))) ∧ Aside0 (wc.heap[gb314]? = some (.cells #[.int .i64 t310, (.slice Ao41 t311.length co41)] 30 (0, 0))) ∧ Aside0 (Below w.heap.size w wc))
      case first =>
       have H := HC26.out
       clear HC26
       by_cases c57 : t333 < 0
       ·rw [if_pos c57] at H
        have c57b0 : decide (t333 < 0) = true := decide_eq_true c57
        clear c57
        (skip)
        exact absurd H (by cases k with | zero => simp [laws_FnExactReachedBy.j0] | succ k_ => rw [laws_FnExactReachedBy.j0, if_pos rfl, ht_.out]; simp)
       ·rw [if_neg c57] at H
        have c57b0 : decide (t333 < 0) = false := decide_eq_false c57
        clear c57
        (skip)
        replace H := Option.bind_eq_some_iff.mp H
        obtain ⟨t335, A580, H⟩ := H
        replace H : (laws_FnExactReachedBy.j0 k l1 t307 t318 (!t335) a0_0 l0_1) = some r := H
        have A58 := Aside0.mk A580
        clear A580
        have H' := Aside0.mk H
        clear H
        go_wp2_with ((go_at_call 22; (with_reducible refine (laws_eqBoolS.calls k _ _ t318 _ _ t307 t335 _ ?side1 ?side2 ?side3 ?side4 A58.out).mono ?_); (case side1 => repeat (exact (Kd.R_reads' HO320.out).2.2)); (case side2 => exact (Kd.R_reads' HO320.out).2.1); (case side3 => repeat (exact (Kd.R_reads' HO309.out).2.2)); (case side4 => exact (Kd.R_reads' HO309.out).2.1); rintro e w' ⟨rfl, ⟨nd, rfl⟩⟩))
        go_meet
        case rel => exact ⟨_, (!t335), (by rfl), H', ⟨by omega⟩, ⟨by (with_reducible repeat (apply Kd.R_drewN)); exact HO309.out⟩, ⟨by (with_reducible repeat (apply Kd.R_drewN)); exact HO320.out⟩, ⟨by (with_reducible repeat (apply Kd.R_drewN)); exact Kd.R_mono HO313.out (fun _ hk => trivial)⟩, ⟨by (with_reducible repeat (refine blk_drewN ?_ _)); exact BK298.out⟩, ⟨by (with_reducible repeat (refine blk_drewN ?_ _)); exact BK314.out⟩, ⟨by repeat ((with_reducible first | exact HB.out | apply pw_below_drewN))⟩⟩
      case rest =>
       clear HC26
       try clear c1
       try clear c2
       try clear p2
       try clear c3
       try clear c3b0
       try clear c3b1
       try clear c4
       try clear c5
       try clear c6
       try clear c6b0
       try clear c10
       try clear c12
       try clear c13
       try clear c15
       try clear c16
       try clear c17
       try clear c18
       try clear c20
       try clear c21
       try clear c22
       try clear c23
       try clear c39
       try clear c57
       try clear c57b0
       try clear hcz28_0
       try clear hcz28_1
       try clear hcz30_0
       try clear hcz30_1
       try clear hcz36_0
       try clear hcz36_1
       try clear hcz40_0
       try clear hcz40_1
       try clear hcz43_0
       try clear hcz43_1
       try clear hcz54_0
       try clear hcz54_1
       try clear hcz8_0
       try clear hcz8_1
       try clear hfz28_0
       try clear hfz28_1
       try clear hfz30_0
       try clear hfz30_1
       try clear hfz36_0
       try clear hfz36_1
       try clear hfz40_0
       try clear hfz40_1
       try clear hfz43_0
       try clear hfz43_1
       try clear hfz54_0
       try clear hfz54_1
       try clear hfz8_0
       try clear hfz8_1
       obtain ⟨kq, x61_25, rfl, HA, HJ25, HO_6, HO_9, HO_315001, BK298, BK314, HB⟩ := hcut
       have hl315001_25 := (Kd.R_reads' HO_315001.out).1
       rw [hl315001_25] at HO_315001
       (skip)
       (skip)
       (try simp only [hl315001_25] at BK314)
       (skip)
       (skip)
       cases kq with
       | zero => exact absurd HA.out (by simp [laws_FnExactReachedBy.j0])
       | succ kj25 =>
        have H := HA.out
        clear HA
        simp only [laws_FnExactReachedBy.j0] at H
        by_cases c59 : x61_25 = true
        ·subst c59
         have H1 : (some false) = some r := by rw [if_pos rfl] at H; exact H
         clear H
         have H := H1
         clear H1
         exact absurd (Option.some.inj H) (by rw [ht_.out]; simp)
        ·replace c59 := Bool.eq_false_iff.mpr c59
         subst c59
         have H1 : ((laws_markBoolS.f kj25 t318 1).bind fun bt336 => ((laws_heldBoolS.f kj25 bt336.2 1).bind fun t338 => (if t338 < 0 then (some false) else (if t338 = bt336.1 then ((laws_toNet.f kj25 a0_0 l0_1).bind fun bt339 => ((laws_toIntS.f kj25 l1).bind fun t343 => ((impl_ReachedBy.f kj25 bt339.1 bt339.2 t343).bind fun t346 => ((laws_eqBoolS.f kj25 t346 t307).bind fun t349 => (if t349 = true then ((laws_heldBoolS.f kj25 bt336.2 1).bind fun t350 => (if t350 < 0 then (some false) else (if t350 = bt336.1 then (some true) else (some false)))) else (some false)))))) else (some false))))) = some r := by rw [if_neg (show ¬ (false = true) by decide)] at H; exact H
         clear H
         have H := H1
         clear H1
         replace H := Option.bind_eq_some_iff.mp H
         obtain ⟨⟨t336, t337⟩, A600, H⟩ := H
         replace H : ((laws_heldBoolS.f kj25 t337 1).bind fun t338 => (if t338 < 0 then (some false) else (if t338 = t336 then ((laws_toNet.f kj25 a0_0 l0_1).bind fun bt339 => ((laws_toIntS.f kj25 l1).bind fun t343 => ((impl_ReachedBy.f kj25 bt339.1 bt339.2 t343).bind fun t346 => ((laws_eqBoolS.f kj25 t346 t307).bind fun t349 => (if t349 = true then ((laws_heldBoolS.f kj25 t337 1).bind fun t350 => (if t350 < 0 then (some false) else (if t350 = t336 then (some true) else (some false)))) else (some false)))))) else (some false)))) = some r := H
         have A60 := Aside0.mk A600
         clear A600
         replace H := Option.bind_eq_some_iff.mp H
         obtain ⟨t338, A610, H⟩ := H
         replace H : (if t338 < 0 then (some false) else (if t338 = t336 then ((laws_toNet.f kj25 a0_0 l0_1).bind fun bt339 => ((laws_toIntS.f kj25 l1).bind fun t343 => ((impl_ReachedBy.f kj25 bt339.1 bt339.2 t343).bind fun t346 => ((laws_eqBoolS.f kj25 t346 t307).bind fun t349 => (if t349 = true then ((laws_heldBoolS.f kj25 t337 1).bind fun t350 => (if t350 < 0 then (some false) else (if t350 = t336 then (some true) else (some false)))) else (some false)))))) else (some false))) = some r := H
         have A61 := Aside0.mk A610
         clear A610
         by_cases c62 : t338 < 0
         ·rw [if_pos c62] at H
          have c62b0 : decide (t338 < 0) = true := decide_eq_true c62
          clear c62
          exact absurd (Option.some.inj H) (by rw [ht_.out]; simp)
         ·rw [if_neg c62] at H
          have c62b0 : decide (t338 < 0) = false := decide_eq_false c62
          clear c62
          by_cases c63 : t338 = t336
          ·rw [if_pos c63] at H
           have c63b0 : (t338 == t336) = true := beq_iff_eq.mpr c63
           have c63b1 : (t338 != t336) = false := bne_eq_false_iff_eq.mpr c63
           clear c63
           replace H := Option.bind_eq_some_iff.mp H
           obtain ⟨⟨t339, t340⟩, A640, H⟩ := H
           replace H : ((laws_toIntS.f kj25 l1).bind fun t343 => ((impl_ReachedBy.f kj25 t339 t340 t343).bind fun t346 => ((laws_eqBoolS.f kj25 t346 t307).bind fun t349 => (if t349 = true then ((laws_heldBoolS.f kj25 t337 1).bind fun t350 => (if t350 < 0 then (some false) else (if t350 = t336 then (some true) else (some false)))) else (some false))))) = some r := H
           have A64 := Aside0.mk A640
           clear A640
           replace H := Option.bind_eq_some_iff.mp H
           obtain ⟨t343, A650, H⟩ := H
           replace H : ((impl_ReachedBy.f kj25 t339 t340 t343).bind fun t346 => ((laws_eqBoolS.f kj25 t346 t307).bind fun t349 => (if t349 = true then ((laws_heldBoolS.f kj25 t337 1).bind fun t350 => (if t350 < 0 then (some false) else (if t350 = t336 then (some true) else (some false)))) else (some false)))) = some r := H
           have A65 := Aside0.mk A650
           clear A650
           replace H := Option.bind_eq_some_iff.mp H
           obtain ⟨t346, A660, H⟩ := H
           replace H : ((laws_eqBoolS.f kj25 t346 t307).bind fun t349 => (if t349 = true then ((laws_heldBoolS.f kj25 t337 1).bind fun t350 => (if t350 < 0 then (some false) else (if t350 = t336 then (some true) else (some false)))) else (some false))) = some r := H
           have A66 := Aside0.mk A660
           clear A660
           replace H := Option.bind_eq_some_iff.mp H
           obtain ⟨t349, A670, H⟩ := H
           replace H : (if t349 = true then ((laws_heldBoolS.f kj25 t337 1).bind fun t350 => (if t350 < 0 then (some false) else (if t350 = t336 then (some true) else (some false)))) else (some false)) = some r := H
           have A67 := Aside0.mk A670
           clear A670
           by_cases c68 : t349 = true
           ·subst c68
            have H1 : ((laws_heldBoolS.f kj25 t337 1).bind fun t350 => (if t350 < 0 then (some false) else (if t350 = t336 then (some true) else (some false)))) = some r := by rw [if_pos rfl] at H; exact H
            clear H
            have H := H1
            clear H1
            replace H := Option.bind_eq_some_iff.mp H
            obtain ⟨t350, A690, H⟩ := H
            replace H : (if t350 < 0 then (some false) else (if t350 = t336 then (some true) else (some false))) = some r := H
            have A69 := Aside0.mk A690
            clear A690
            by_cases c70 : t350 < 0
            ·rw [if_pos c70] at H
             have c70b0 : decide (t350 < 0) = true := decide_eq_true c70
             clear c70
             exact absurd (Option.some.inj H) (by rw [ht_.out]; simp)
            ·rw [if_neg c70] at H
             have c70b0 : decide (t350 < 0) = false := decide_eq_false c70
             clear c70
             by_cases c71 : t350 = t336
             ·rw [if_pos c71] at H
              have c71b0 : (t350 == t336) = true := beq_iff_eq.mpr c71
              have c71b1 : (t350 != t336) = false := bne_eq_false_iff_eq.mpr c71
              clear c71
              obtain rfl := Option.some.inj H
              go_wp2_with (first | ((with_reducible refine gate_callee (f := 23) rfl ?_); refine goesL_ (some 64) rfl rfl Try.func23 (by kernel_rfl) rfl #[.slice Ao46 t318.length co46, .int .i64 1] rfl (by (try simp only [List.map_toArray, List.map_cons, List.map_nil]); rfl) ?_; (with_reducible refine (laws_markBoolS.calls kj25 (fun k_ => some k_ = (.slice Ao46 t318.length co46 : Value).ownBlock) (.slice Ao46 t318.length co46) t318 1 t336 t337 w _ ?side1 ?side2 A60.out).mono ?_); (case side1 => exact HB.out); (case side2 => exact Kd.R_tight rfl HO_9.out); rintro e w72 ⟨rfl, hy0, hb, hkp⟩; refine ⟨_, rfl, ?_⟩; have n0_ := Aside0.mk (Kd.R_mono (ok' := fun k_ => some k_ ≠ (.slice Ao46 t318.length co46 : Value).ownBlock) (Kd.R_keptB (HO_6.out) hkp (fun k_ hk_ hs_ => (hk_) hs_)) (fun k_ hk_ => hk_.1)); have n1_ := Aside0.mk (Kd.R_reok rfl hy0 (fun k_ e_ => HO_9.out.1 k_ e_)); have n2_ := Aside0.mk (Kd.R_mono (ok' := fun k_ => True) (Kd.R_keptB ((Kd.R_apart' HO_315001.out (Kd.R_typed HO_9.out) (by decide))) hkp (fun k_ hk_ hs_ => (hk_.2) hs_)) (fun k_ hk_ => trivial)); have n3_ := Aside0.mk (blk_kept BK298.out hkp (fun hs_ => (fun e_ => (Kd.R_ne HO_9.out BK298.out (by decide)) e_) hs_)); have n4_ := Aside0.mk (blk_kept BK314.out hkp (fun hs_ => (fun e_ => (Kd.R_ne HO_9.out BK314.out (by decide)) e_) hs_)); have n5_ := Aside0.mk (hb); clear HO_6 HO_9 HO_315001 BK298 BK314 HB; have HO_6 := n0_; have HO_9 := n1_; have HO_315001 := n2_; have BK298 := n3_; have BK314 := n4_; have HB := n5_; clear n0_ n1_ n2_ n3_ n4_ n5_; (try clear hb); (try clear hkp); (try clear hy0)) | ((with_reducible refine gate_callee (f := 24) rfl ?_); refine goesL_ (some 67) rfl rfl Try.func24 (by kernel_rfl) rfl #[.slice Ao46 t337.length co46, .int .i64 1] rfl (by (try simp only [List.map_toArray, List.map_cons, List.map_nil]); (rw [show t337.length = t318.length from (Kd.R_reads' HO_9.out).1.symm] <;> rfl)) ?_; (with_reducible refine (laws_heldBoolS.calls kj25 _ _ t337 1 t338 _ ?side1 ?side2 A61.out).mono ?_); (case side1 => repeat (exact (Kd.R_reads' HO_9.out).2.2)); (case side2 => rw [show t337.length = t318.length from (Kd.R_reads' HO_9.out).1.symm]; exact (Kd.R_reads' HO_9.out).2.1); rintro e w' ⟨rfl, ⟨nd, rfl⟩⟩; refine ⟨_, rfl, ?_⟩; have hnb73 := NB298_314.out; have hnc73 := NB314_298.out; have hcz74_0 : w72.cell? ⟨gb298, 0, none⟩ = some (.int .i64 a0_0) := (blk_cell BK298.out 0).trans rfl; have hcz74_1 : w72.cell? ⟨gb298, 1, none⟩ = some (.slice A0_1 l0_1.length c0_1) := (blk_cell BK298.out 1).trans rfl; have hfz74_0 := blk_frozen BK298.out 0; have hfz74_1 := blk_frozen BK298.out 1) | ((with_reducible refine gate_callee (f := 12) rfl ?_); refine goesL_ (some 74) rfl rfl Try.func12 (by kernel_rfl) rfl #[.agg #[.int .i64 a0_0, .slice A0_1 l0_1.length c0_1]] rfl (by (try simp only [List.map_toArray, List.map_cons, List.map_nil]); rfl) ?_; (with_reducible refine (laws_toNet.calls kj25 a0_0 _ _ l0_1 t339 t340 _ ?side1 ?side2 A64.out).mono ?_); (case side1 => repeat (exact (Kd.C_below HR0_1.out (by repeat ((with_reducible first | exact HB.out | apply pw_below_drewN)))))); (case side2 => exact HC0_1.out); rintro e w75 ⟨v341, rfl, ho0, hb⟩; refine ⟨_, rfl, ?_⟩; have n0_ := Aside0.mk (Kd.R_below (by (with_reducible repeat (apply Kd.R_drewN)); exact HO_6.out) hb); have n1_ := Aside0.mk (Kd.R_below (by (with_reducible repeat (apply Kd.R_drewN)); exact HO_9.out) hb); have n2_ := Aside0.mk (Kd.R_elder' (by (with_reducible repeat (apply Kd.R_drewN)); exact HO_315001.out) (Kd.R_base ho0) hb); have n3_ := Aside0.mk (Kd.R_lower (Kd.R_new' ho0 (Kd.R_lt (by (with_reducible repeat (apply Kd.R_drewN)); exact HO_315001.out))) (below_size (by repeat ((with_reducible first | exact HB.out | apply pw_below_drewN))))); have n4_ := Aside0.mk (blk_below (g := gb298) (o := .cells #[.int .i64 a0_0, .slice A0_1 l0_1.length c0_1] 24 (0, 0)) (by (with_reducible repeat (refine blk_drewN ?_ _)); exact BK298.out) hb); have n5_ := Aside0.mk (blk_below (g := gb314) (o := .cells #[.int .i64 t310, .slice Ao41 t332.length co41] 30 (0, 0)) (by (with_reducible repeat (refine blk_drewN ?_ _)); exact BK314.out) hb); have n6_ := Aside0.mk (below_step (by repeat ((with_reducible first | exact HB.out | apply pw_below_drewN))) hb); clear HO_6 HO_9 HO_315001 BK298 BK314 HB; have HO_6 := n0_; have HO_9 := n1_; have HO_315001 := n2_; have HO342 := n3_; have BK298 := n4_; have BK314 := n5_; have HB := n6_; clear n0_ n1_ n2_ n3_ n4_ n5_ n6_; (try clear hb); (try clear ho0)) | ((with_reducible refine gate_callee (f := 13) rfl ?_); refine goesL_ (some 76) rfl rfl Try.func13 (by kernel_rfl) rfl #[.slice A1 l1.length c1] rfl (by (try simp only [List.map_toArray, List.map_cons, List.map_nil]); rfl) ?_; (with_reducible refine (laws_toIntS.calls kj25 _ _ l1 t343 _ ?side1 ?side2 A65.out).mono ?_); (case side1 => exact (Kd.C_below HR1.out HB.out)); (case side2 => exact HC1.out); rintro e w76 ⟨v344, rfl, ho0, hb⟩; refine ⟨_, rfl, ?_⟩; have n0_ := Aside0.mk (Kd.R_below HO_6.out hb); have n1_ := Aside0.mk (Kd.R_below HO_9.out hb); have n2_ := Aside0.mk (Kd.R_below HO_315001.out hb); have n3_ := Aside0.mk (Kd.R_below HO342.out hb); have n4_ := Aside0.mk (Kd.R_lower ho0 (below_size HB.out)); have n5_ := Aside0.mk (blk_below BK298.out hb); have n6_ := Aside0.mk (blk_below BK314.out hb); have n7_ := Aside0.mk (below_step HB.out hb); clear HO_6 HO_9 HO_315001 HO342 BK298 BK314 HB; have HO_6 := n0_; have HO_9 := n1_; have HO_315001 := n2_; have HO342 := n3_; have HO345 := n4_; have BK298 := n5_; have BK314 := n6_; have HB := n7_; clear n0_ n1_ n2_ n3_ n4_ n5_ n6_ n7_; (try clear hb); (try clear ho0); obtain ⟨Ao77, co77, eo77⟩ := Kd.R_slice HO342.out; subst eo77; obtain ⟨Ao78, co78, eo78⟩ := Kd.R_slice HO345.out; subst eo78) | ((with_reducible refine gate_callee (f := 21) rfl ?_); refine goesL_ (some 77) rfl rfl Try.func21 (by kernel_rfl) rfl #[.agg #[.int .i64 t339, .slice Ao77 t340.length co77], .slice Ao78 t343.length co78] rfl (by (try simp only [List.map_toArray, List.map_cons, List.map_nil]); rfl) ?_; (with_reducible refine (impl_ReachedBy.calls kj25 t339 _ _ t340 _ _ t343 t346 _ ?side1 ?side2 ?side3 ?side4 A66.out).mono ?_); (case side1 => repeat (exact (Kd.R_reads' HO342.out).2.2)); (case side2 => exact (Kd.R_reads' HO342.out).2.1); (case side3 => repeat (exact (Kd.R_reads' HO345.out).2.2)); (case side4 => exact (Kd.R_reads' HO345.out).2.1); rintro e w79 ⟨v347, rfl, ho0, hb⟩; refine ⟨_, rfl, ?_⟩; have n0_ := Aside0.mk (Kd.R_elder' HO_6.out (Kd.R_base ho0) hb); have n1_ := Aside0.mk (Kd.R_elder' HO_9.out (Kd.R_base ho0) hb); have n2_ := Aside0.mk (Kd.R_below HO_315001.out hb); have n3_ := Aside0.mk (Kd.R_below HO342.out hb); have n4_ := Aside0.mk (Kd.R_below HO345.out hb); have n5_ := Aside0.mk (Kd.R_lower (Kd.R_new' (Kd.R_new' ho0 (Kd.R_lt HO_6.out)) (Kd.R_lt HO_9.out)) (below_size HB.out)); have n6_ := Aside0.mk (blk_below BK298.out hb); have n7_ := Aside0.mk (blk_below BK314.out hb); have n8_ := Aside0.mk (below_step HB.out hb); clear HO_6 HO_9 HO_315001 HO342 HO345 BK298 BK314 HB; have HO_6 := n0_; have HO_9 := n1_; have HO_315001 := n2_; have HO342 := n3_; have HO345 := n4_; have HO348 := n5_; have BK298 := n6_; have BK314 := n7_; have HB := n8_; clear n0_ n1_ n2_ n3_ n4_ n5_ n6_ n7_ n8_; (try clear hb); (try clear ho0); obtain ⟨Ao80, co80, eo80⟩ := Kd.R_slice HO348.out; subst eo80) | ((with_reducible refine gate_callee (f := 22) rfl ?_); refine goesL_ (some 80) rfl rfl Try.func22 (by kernel_rfl) rfl #[.slice Ao80 t346.length co80, .slice Ao47 t307.length co47] rfl (by (try simp only [List.map_toArray, List.map_cons, List.map_nil]); rfl) ?_; (with_reducible refine (laws_eqBoolS.calls kj25 _ _ t346 _ _ t307 true _ ?side1 ?side2 ?side3 ?side4 A67.out).mono ?_); (case side1 => repeat (exact (Kd.R_reads' HO348.out).2.2)); (case side2 => exact (Kd.R_reads' HO348.out).2.1); (case side3 => repeat (exact (Kd.R_reads' HO_6.out).2.2)); (case side4 => exact (Kd.R_reads' HO_6.out).2.1); rintro e w' ⟨rfl, ⟨nd, rfl⟩⟩; refine ⟨_, rfl, ?_⟩) | ((with_reducible refine gate_callee (f := 24) rfl ?_); refine goesL_ (some 84) rfl rfl Try.func24 (by kernel_rfl) rfl #[.slice Ao46 t337.length co46, .int .i64 1] rfl (by (try simp only [List.map_toArray, List.map_cons, List.map_nil]); (rw [show t337.length = t318.length from (Kd.R_reads' HO_9.out).1.symm] <;> rfl)) ?_; (with_reducible refine (laws_heldBoolS.calls kj25 _ _ t337 1 t350 _ ?side1 ?side2 A69.out).mono ?_); (case side1 => repeat (exact (Kd.R_reads' HO_9.out).2.2)); (case side2 => rw [show t337.length = t318.length from (Kd.R_reads' HO_9.out).1.symm]; exact (Kd.R_reads' HO_9.out).2.1); rintro e w' ⟨rfl, ⟨nd, rfl⟩⟩; refine ⟨_, rfl, ?_⟩))
              go_ret
              exact ⟨by rfl, by repeat ((with_reducible first | exact HB.out | apply pw_below_drewN))⟩
             ·rw [if_neg c71] at H
              have c71b0 : (t350 == t336) = false := beq_eq_false_iff_ne.mpr c71
              have c71b1 : (t350 != t336) = true := bne_iff_ne.mpr c71
              exact absurd (Option.some.inj H) (by rw [ht_.out]; simp)
           ·replace c68 := Bool.eq_false_iff.mpr c68
            subst c68
            have H1 : (some false) = some r := by rw [if_neg (show ¬ (false = true) by decide)] at H; exact H
            clear H
            have H := H1
            clear H1
            exact absurd (Option.some.inj H) (by rw [ht_.out]; simp)
          ·rw [if_neg c63] at H
           have c63b0 : (t338 == t336) = false := beq_eq_false_iff_ne.mpr c63
           have c63b1 : (t338 != t336) = true := bne_iff_ne.mpr c63
           exact absurd (Option.some.inj H) (by rw [ht_.out]; simp)
     ·replace c23 := Bool.eq_false_iff.mpr c23
      subst c23
      have H1 : (some false) = some r := by rw [if_neg (show ¬ (false = true) by decide)] at H; exact H
      clear H
      have H := H1
      clear H1
      exact absurd (Option.some.inj H) (by rw [ht_.out]; simp)
    ·replace c20 := Bool.eq_false_iff.mpr c20
     subst c20
     have H1 : (some false) = some r := by rw [if_neg (show ¬ (false = true) by decide)] at H; exact H
     clear H
     have H := H1
     clear H1
     exact absurd (Option.some.inj H) (by rw [ht_.out]; simp)
   ·replace c17 := Bool.eq_false_iff.mpr c17
    subst c17
    have H1 : (some false) = some r := by rw [if_neg (show ¬ (false = true) by decide)] at H; exact H
    clear H
    have H := H1
    clear H1
    exact absurd (Option.some.inj H) (by rw [ht_.out]; simp)

end Go.Proofs.Ytgkpgigoonhgdaa.PFnExactReachedBy
