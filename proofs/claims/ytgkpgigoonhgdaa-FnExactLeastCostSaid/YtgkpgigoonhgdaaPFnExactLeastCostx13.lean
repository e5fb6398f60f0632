-- Made by the session's wip/pp.py, a changed call of the kit's printer; Lean checks it.
import Derived.Test.YtgkpgigoonhgdaaPFnExactLeastCostx0
import Derived.Test.YtgkpgigoonhgdaaPFnExactLeastCostx1
import Derived.Test.YtgkpgigoonhgdaaPFnExactLeastCostx7
import Derived.Test.YtgkpgigoonhgdaaPFnExactLeastCostx12
namespace Go.Proofs.Ytgkpgigoonhgdaa.PFnExactLeastCost
open Go.RowKit Go.Proofs.YtgkpgigoonhgdaaW.PrintWords Go.Proofs.YtgkpgigoonhgdaaW.PrintLast Go.Proofs.YtgkpgigoonhgdaaW.PrintMore
attribute [local go_sem] max2_int min2_int max_two min_two max_three min_three max_four min_four   -- for this text's walks alone
set_option linter.unusedVariables false
set_option linter.unusedSimpArgs false

/-! ### impl_LeastCost: function 28 -/
def impl_LeastCost.f (k : Nat) (a0_0 : Int) (l0_1 : List (S67)) (a1 : Int) : Option (Int):=(impl_Cheapest.f k a0_0 l0_1 a1).bind fun bt348=>(if bt348.2.2 = true then (some bt348.2.1) else (some (-1)))
theorem impl_LeastCost.mono : ∀ a0 a1 a2 k,LeO (impl_LeastCost.f k a0 a1 a2) (impl_LeastCost.f (k + 1) a0 a1 a2):=by
 intro a0 a1 a2 k
 unfold impl_LeastCost.f
 repeat' first
   | (with_reducible exact impl_Cheapest.mono _ _ _ _)
   | (with_reducible exact LeO.refl _)
   | (with_reducible refine LeO.bind ?_ (fun _ => ?_))
set_option maxHeartbeats 8000000 in
set_option maxRecDepth 100000 in
theorem impl_LeastCost.calls (k : Nat) (a0_0 : Int) (A0_1 : Option Addr) (c0_1 : Nat) (l0_1 : List (S67)) (a1 : Int) (r : Int) (w : World) (hr0_1 : Kd.C k67 w A0_1 l0_1.length l0_1) (hc0_1 : l0_1.length ≤ c0_1) (h : impl_LeastCost.f k a0_0 l0_1 a1 = some r) :
  Calls Try.prog 28 #[.agg #[.int .i64 a0_0,.slice A0_1 l0_1.length c0_1],.int .i64 a1] w fun e w'=>e = .returned (.int .i64 r) ∧ Below w.heap.size w w':=by
 have hu30:=Try.underlying30
 have HR0_1:=am_ hr0_1
 have HC0_1:=am_ hc0_1
 clear hr0_1 hc0_1
 have HB:=am_ (Below.refl w.heap.size w)
 have H : ((impl_Cheapest.f k a0_0 l0_1 a1).bind fun bt348=>(if bt348.2.2 = true then (some bt348.2.1) else (some (-1)))) = some r:=h
 clear h
 replace H:=Option.bind_eq_some_iff.mp H
 obtain ⟨⟨t348,t351,t352⟩,A30,H⟩:=H
 replace H : (if t352 = true then (some t351) else (some (-1))) = some r:=H
 have A3:=am_ A30
 clear A30
 by_cases c4 : t352 = true
 ·subst c4
  have H1 : (some t351) = some r:=by rw [if_pos rfl] at H;exact H
  clear H
  have H:=H1
  clear H1
  obtain rfl:=Option.some.inj H
  go_enter Try.func28,Try.ntmps28
  go_wp2_with (first|((with_reducible refine gate_dst (N:=2) rfl ?_);refine box_event ?hg (N:=2) ?hd (cs:=#[.int .i64 a0_0,.slice A0_1 l0_1.length c0_1]) (t:=30) ?hr ?_;(case hd=>rfl);(case hg=>rfl);(case hr=>(go_simp;done));intro gb347 hg w5 hbox hb;have n0_:=am_ (below_step HB.out hb);have n1_:=am_ (hbox);have n2_:=am_ ((by rw [hg];exact (below_size HB.out) : w.heap.size ≤ gb347));have n3_:=n2_;clear HB;have HB:=n0_;have BK347:=n1_;have GW347:=n2_;have GE347:=n3_;clear n0_ n1_ n2_ n3_ hb hbox hg;have hcz6_0 : w5.cell? ⟨gb347,0,none⟩ = some (.int .i64 a0_0):=(blk_cell BK347.out 0).trans rfl;have hcz6_1 : w5.cell? ⟨gb347,1,none⟩ = some (.slice A0_1 l0_1.length c0_1):=(blk_cell BK347.out 1).trans rfl;have hfz6_0:=blk_frozen BK347.out 0;have hfz6_1:=blk_frozen BK347.out 1)|((with_reducible refine gate_callee (f:=43) rfl ?_);refine goesL_ (some 11) rfl rfl Try.func43 (by kernel_rfl) rfl #[.agg #[.int .i64 a0_0,.slice A0_1 l0_1.length c0_1],.int .i64 a1] rfl (by (try simp only [List.map_toArray,List.map_cons,List.map_nil]);rfl) ?_;(with_reducible refine (impl_Cheapest.calls k a0_0 _ _ l0_1 a1 t348 t351 true _ ?side1 ?side2 A3.out).mono ?_);(case side1=>exact (Kd.C_below HR0_1.out HB.out));(case side2=>exact HC0_1.out);rintro e w7 ⟨v349,rfl,ho0,hb⟩;refine ⟨_,rfl,?_⟩;have n0_:=am_ (Kd.R_lower ho0 (below_size HB.out));have n1_:=am_ (blk_below BK347.out hb);have n2_:=am_ (below_step HB.out hb);clear BK347 HB;have HO350:=n0_;have BK347:=n1_;have HB:=n2_;clear n0_ n1_ n2_;(try clear hb);(try clear ho0)))
  go_ret
  exact ⟨by rfl,by exact HB.out⟩
 replace c4:=Bool.eq_false_iff.mpr c4
 subst c4
 have H1 : (some (-1)) = some r:=by rw [if_neg (show ¬ (false = true) by decide)] at H;exact H
 clear H
 have H:=H1
 clear H1
 obtain rfl:=Option.some.inj H
 go_enter Try.func28,Try.ntmps28
 go_wp2_with (first|((with_reducible refine gate_dst (N:=2) rfl ?_);refine box_event ?hg (N:=2) ?hd (cs:=#[.int .i64 a0_0,.slice A0_1 l0_1.length c0_1]) (t:=30) ?hr ?_;(case hd=>rfl);(case hg=>rfl);(case hr=>(go_simp;done));intro gb347 hg w8 hbox hb;have n0_:=am_ (below_step HB.out hb);have n1_:=am_ (hbox);have n2_:=am_ ((by rw [hg];exact (below_size HB.out) : w.heap.size ≤ gb347));have n3_:=n2_;clear HB;have HB:=n0_;have BK347:=n1_;have GW347:=n2_;have GE347:=n3_;clear n0_ n1_ n2_ n3_ hb hbox hg;have hcz9_0 : w8.cell? ⟨gb347,0,none⟩ = some (.int .i64 a0_0):=(blk_cell BK347.out 0).trans rfl;have hcz9_1 : w8.cell? ⟨gb347,1,none⟩ = some (.slice A0_1 l0_1.length c0_1):=(blk_cell BK347.out 1).trans rfl;have hfz9_0:=blk_frozen BK347.out 0;have hfz9_1:=blk_frozen BK347.out 1)|((with_reducible refine gate_callee (f:=43) rfl ?_);refine goesL_ (some 11) rfl rfl Try.func43 (by kernel_rfl) rfl #[.agg #[.int .i64 a0_0,.slice A0_1 l0_1.length c0_1],.int .i64 a1] rfl (by (try simp only [List.map_toArray,List.map_cons,List.map_nil]);rfl) ?_;(with_reducible refine (impl_Cheapest.calls k a0_0 _ _ l0_1 a1 t348 t351 false _ ?side1 ?side2 A3.out).mono ?_);(case side1=>exact (Kd.C_below HR0_1.out HB.out));(case side2=>exact HC0_1.out);rintro e w10 ⟨v349,rfl,ho0,hb⟩;refine ⟨_,rfl,?_⟩;have n0_:=am_ (Kd.R_lower ho0 (below_size HB.out));have n1_:=am_ (blk_below BK347.out hb);have n2_:=am_ (below_step HB.out hb);clear BK347 HB;have HO350:=n0_;have BK347:=n1_;have HB:=n2_;clear n0_ n1_ n2_;(try clear hb);(try clear ho0)))
 go_ret
 exact ⟨by rfl,by exact HB.out⟩

/-! ### laws_FnExactLeastCost: function 6 -/
def laws_FnExactLeastCost.f (k : Nat) (a0_0 : Int) (l0_1 : List (S91)) (a1 : Int) : Option (Bool):=(laws_szNet.f a0_0 l0_1 1048576).bind fun t354=>(if t354 < 0 then (some true) else ((laws_toNet.f k a0_0 l0_1).bind fun bt355=>((spec_LeastCost.f k bt355.1 bt355.2 a1).bind fun t359=>((laws_toNet.f k a0_0 l0_1).bind fun bt360=>((impl_LeastCost.f k bt360.1 bt360.2 a1).bind fun t365=>(if t365 = t359 then ((laws_toNet.f k a0_0 l0_1).bind fun bt366=>((laws_eqNet.f k bt360.1 bt360.2 bt366.1 bt366.2).bind fun t370=>(if t370 = true then (some true) else (some false)))) else (some false)))))))
theorem laws_FnExactLeastCost.mono : ∀ a0 a1 a2 k,LeO (laws_FnExactLeastCost.f k a0 a1 a2) (laws_FnExactLeastCost.f (k + 1) a0 a1 a2):=by
 intro a0 a1 a2 k
 unfold laws_FnExactLeastCost.f
 repeat' first
   | (with_reducible exact impl_LeastCost.mono _ _ _ _)
   | (with_reducible exact laws_eqNet.mono _ _ _ _ _)
   | (with_reducible exact laws_toNet.mono _ _ _)
   | (with_reducible exact spec_LeastCost.mono _ _ _ _)
   | (with_reducible exact LeO.refl _)
   | (with_reducible refine LeO.ite ?_ ?_)
   | (with_reducible refine LeO.bind ?_ (fun _ => ?_))
set_option maxHeartbeats 8000000 in
set_option maxRecDepth 100000 in
theorem laws_FnExactLeastCost.calls (k : Nat) (a0_0 : Int) (A0_1 : Option Addr) (c0_1 : Nat) (l0_1 : List (S91)) (a1 : Int) (r : Bool) (w : World) (hr0_1 : Kd.C k91 w A0_1 l0_1.length l0_1) (hc0_1 : l0_1.length ≤ c0_1) (h : laws_FnExactLeastCost.f k a0_0 l0_1 a1 = some r) (ht_ : Aside0 (r = true)) :
  Calls Try.prog 6 #[.agg #[.int .i64 a0_0,.slice A0_1 l0_1.length c0_1],.int .i64 a1] w fun e w'=>e = .returned (.bool r) ∧ Below w.heap.size w w':=by
 have hu24:=Try.underlying24
 have hu30:=Try.underlying30
 have HR0_1:=am_ hr0_1
 have HC0_1:=am_ hc0_1
 clear hr0_1 hc0_1
 have HB:=am_ (Below.refl w.heap.size w)
 have H : ((laws_szNet.f a0_0 l0_1 1048576).bind fun t354=>(if t354 < 0 then (some true) else ((laws_toNet.f k a0_0 l0_1).bind fun bt355=>((spec_LeastCost.f k bt355.1 bt355.2 a1).bind fun t359=>((laws_toNet.f k a0_0 l0_1).bind fun bt360=>((impl_LeastCost.f k bt360.1 bt360.2 a1).bind fun t365=>(if t365 = t359 then ((laws_toNet.f k a0_0 l0_1).bind fun bt366=>((laws_eqNet.f k bt360.1 bt360.2 bt366.1 bt366.2).bind fun t370=>(if t370 = true then (some true) else (some false)))) else (some false)))))))) = some r:=h
 clear h
 replace H:=Option.bind_eq_some_iff.mp H
 obtain ⟨t354,A30,H⟩:=H
 replace H : (if t354 < 0 then (some true) else ((laws_toNet.f k a0_0 l0_1).bind fun bt355=>((spec_LeastCost.f k bt355.1 bt355.2 a1).bind fun t359=>((laws_toNet.f k a0_0 l0_1).bind fun bt360=>((impl_LeastCost.f k bt360.1 bt360.2 a1).bind fun t365=>(if t365 = t359 then ((laws_toNet.f k a0_0 l0_1).bind fun bt366=>((laws_eqNet.f k bt360.1 bt360.2 bt366.1 bt366.2).bind fun t370=>(if t370 = true then (some true) else (some false)))) else (some false))))))) = some r:=H
 have A3:=am_ A30
 clear A30
 by_cases c4 : t354 < 0
 ·rw [if_pos c4] at H
  have c4b0 : decide (t354 < 0) = true:=decide_eq_true c4
  clear c4
  obtain rfl:=Option.some.inj H
  go_enter Try.func6,Try.ntmps6
  go_wp2_with (first|((with_reducible refine gate_dst (N:=2) rfl ?_);refine box_event ?hg (N:=2) ?hd (cs:=#[.int .i64 a0_0,.slice A0_1 l0_1.length c0_1]) (t:=24) ?hr ?_;(case hd=>rfl);(case hg=>rfl);(case hr=>(go_simp;done));intro gb353 hg w5 hbox hb;have n0_:=am_ (below_step HB.out hb);have n1_:=am_ (hbox);have n2_:=am_ ((by rw [hg];exact (below_size HB.out) : w.heap.size ≤ gb353));have n3_:=n2_;clear HB;have HB:=n0_;have BK353:=n1_;have GW353:=n2_;have GE353:=n3_;clear n0_ n1_ n2_ n3_ hb hbox hg;have hcz6_0 : w5.cell? ⟨gb353,0,none⟩ = some (.int .i64 a0_0):=(blk_cell BK353.out 0).trans rfl;have hcz6_1 : w5.cell? ⟨gb353,1,none⟩ = some (.slice A0_1 l0_1.length c0_1):=(blk_cell BK353.out 1).trans rfl;have hfz6_0:=blk_frozen BK353.out 0;have hfz6_1:=blk_frozen BK353.out 1)|((with_reducible refine gate_callee (f:=10) rfl ?_);refine goesL_ (some 11) rfl rfl Try.func10 (by kernel_rfl) rfl #[.agg #[.int .i64 a0_0,.slice A0_1 l0_1.length c0_1],.int .i64 1048576] rfl (by (try simp only [List.map_toArray,List.map_cons,List.map_nil]);rfl) ?_;(with_reducible refine (laws_szNet.calls a0_0 _ _ l0_1 1048576 t354 _ ?side1 ?side2 A3.out).mono ?_);(case side1=>exact (Kd.C_below HR0_1.out HB.out));(case side2=>exact HC0_1.out);rintro e w7 ⟨rfl,hb⟩;refine ⟨_,rfl,?_⟩;have n0_:=am_ (blk_below BK353.out hb);have n1_:=am_ (below_step HB.out hb);clear BK353 HB;have BK353:=n0_;have HB:=n1_;clear n0_ n1_;(try clear hb)))
  go_ret
  exact ⟨by rfl,by exact HB.out⟩
 rw [if_neg c4] at H
 have c4b0 : decide (t354 < 0) = false:=decide_eq_false c4
 clear c4
 replace H:=Option.bind_eq_some_iff.mp H
 obtain ⟨⟨t355,t356⟩,A80,H⟩:=H
 replace H : ((spec_LeastCost.f k t355 t356 a1).bind fun t359=>((laws_toNet.f k a0_0 l0_1).bind fun bt360=>((impl_LeastCost.f k bt360.1 bt360.2 a1).bind fun t365=>(if t365 = t359 then ((laws_toNet.f k a0_0 l0_1).bind fun bt366=>((laws_eqNet.f k bt360.1 bt360.2 bt366.1 bt366.2).bind fun t370=>(if t370 = true then (some true) else (some false)))) else (some false))))) = some r:=H
 have A8:=am_ A80
 clear A80
 replace H:=Option.bind_eq_some_iff.mp H
 obtain ⟨t359,A90,H⟩:=H
 replace H : ((laws_toNet.f k a0_0 l0_1).bind fun bt360=>((impl_LeastCost.f k bt360.1 bt360.2 a1).bind fun t365=>(if t365 = t359 then ((laws_toNet.f k a0_0 l0_1).bind fun bt366=>((laws_eqNet.f k bt360.1 bt360.2 bt366.1 bt366.2).bind fun t370=>(if t370 = true then (some true) else (some false)))) else (some false)))) = some r:=H
 have A9:=am_ A90
 clear A90
 replace H:=Option.bind_eq_some_iff.mp H
 obtain ⟨⟨t360,t361⟩,A100,H⟩:=H
 replace H : ((impl_LeastCost.f k t360 t361 a1).bind fun t365=>(if t365 = t359 then ((laws_toNet.f k a0_0 l0_1).bind fun bt366=>((laws_eqNet.f k t360 t361 bt366.1 bt366.2).bind fun t370=>(if t370 = true then (some true) else (some false)))) else (some false))) = some r:=H
 have A10:=am_ A100
 clear A100
 replace H:=Option.bind_eq_some_iff.mp H
 obtain ⟨t365,A110,H⟩:=H
 replace H : (if t365 = t359 then ((laws_toNet.f k a0_0 l0_1).bind fun bt366=>((laws_eqNet.f k t360 t361 bt366.1 bt366.2).bind fun t370=>(if t370 = true then (some true) else (some false)))) else (some false)) = some r:=H
 have A11:=am_ A110
 clear A110
 by_cases c12 : t365 = t359
 rotate_left
 ·rw [if_neg c12] at H
  have c12b0 : (t365 == t359) = false:=beq_eq_false_iff_ne.mpr c12
  have c12b1 : (t365 != t359) = true:=bne_iff_ne.mpr c12
  exact absurd (Option.some.inj H) (by rw [ht_.out];simp)
 rw [if_pos c12] at H
 have c12b0 : (t365 == t359) = true:=beq_iff_eq.mpr c12
 have c12b1 : (t365 != t359) = false:=bne_eq_false_iff_eq.mpr c12
 clear c12
 replace H:=Option.bind_eq_some_iff.mp H
 obtain ⟨⟨t366,t367⟩,A130,H⟩:=H
 replace H : ((laws_eqNet.f k t360 t361 t366 t367).bind fun t370=>(if t370 = true then (some true) else (some false))) = some r:=H
 have A13:=am_ A130
 clear A130
 replace H:=Option.bind_eq_some_iff.mp H
 obtain ⟨t370,A140,H⟩:=H
 replace H : (if t370 = true then (some true) else (some false)) = some r:=H
 have A14:=am_ A140
 clear A140
 by_cases c15 : t370 = true
 rotate_left
 ·replace c15:=Bool.eq_false_iff.mpr c15
  subst c15
  have H1 : (some false) = some r:=by rw [if_neg (show ¬ (false = true) by decide)] at H;exact H
  clear H
  have H:=H1
  clear H1
  exact absurd (Option.some.inj H) (by rw [ht_.out];simp)
 subst c15
 have H1 : (some true) = some r:=by rw [if_pos rfl] at H;exact H
 clear H
 have H:=H1
 clear H1
 obtain rfl:=Option.some.inj H
 go_enter Try.func6,Try.ntmps6
 try go_wp2_with (first|((with_reducible refine gate_dst (N:=2) rfl ?_);refine box_event ?hg (N:=2) ?hd (cs:=#[.int .i64 a0_0,.slice A0_1 l0_1.length c0_1]) (t:=24) ?hr ?_;(case hd=>rfl);(case hg=>rfl);(case hr=>(go_simp;done));intro gb353 hg w16 hbox hb;have n0_:=am_ (below_step HB.out hb);have n1_:=am_ (hbox);have n2_:=am_ ((by rw [hg];exact (below_size HB.out) : w.heap.size ≤ gb353));have n3_:=n2_;clear HB;have HB:=n0_;have BK353:=n1_;have GW353:=n2_;have GE353:=n3_;clear n0_ n1_ n2_ n3_ hb hbox hg;have hcz17_0 : w16.cell? ⟨gb353,0,none⟩ = some (.int .i64 a0_0):=(blk_cell BK353.out 0).trans rfl;have hcz17_1 : w16.cell? ⟨gb353,1,none⟩ = some (.slice A0_1 l0_1.length c0_1):=(blk_cell BK353.out 1).trans rfl;have hfz17_0:=blk_frozen BK353.out 0;have hfz17_1:=blk_frozen BK353.out 1)|((with_reducible refine gate_callee (f:=10) rfl ?_);refine goesL_ (some 11) rfl rfl Try.func10 (by kernel_rfl) rfl #[.agg #[.int .i64 a0_0,.slice A0_1 l0_1.length c0_1],.int .i64 1048576] rfl (by (try simp only [List.map_toArray,List.map_cons,List.map_nil]);rfl) ?_;(with_reducible refine (laws_szNet.calls a0_0 _ _ l0_1 1048576 t354 _ ?side1 ?side2 A3.out).mono ?_);(case side1=>exact (Kd.C_below HR0_1.out HB.out));(case side2=>exact HC0_1.out);rintro e w18 ⟨rfl,hb⟩;refine ⟨_,rfl,?_⟩;have n0_:=am_ (blk_below BK353.out hb);have n1_:=am_ (below_step HB.out hb);clear BK353 HB;have BK353:=n0_;have HB:=n1_;clear n0_ n1_;(try clear hb);have hcz19_0 : w18.cell? ⟨gb353,0,none⟩ = some (.int .i64 a0_0):=(blk_cell BK353.out 0).trans rfl;have hcz19_1 : w18.cell? ⟨gb353,1,none⟩ = some (.slice A0_1 l0_1.length c0_1):=(blk_cell BK353.out 1).trans rfl;have hfz19_0:=blk_frozen BK353.out 0;have hfz19_1:=blk_frozen BK353.out 1)|((with_reducible refine gate_callee (f:=12) rfl ?_);refine goesL_ (some 15) rfl rfl Try.func12 (by kernel_rfl) rfl #[.agg #[.int .i64 a0_0,.slice A0_1 l0_1.length c0_1]] rfl (by (try simp only [List.map_toArray,List.map_cons,List.map_nil]);rfl) ?_;(with_reducible refine (laws_toNet.calls k a0_0 _ _ l0_1 t355 t356 _ ?side1 ?side2 A8.out).mono ?_);(case side1=>exact (Kd.C_below HR0_1.out HB.out));(case side2=>exact HC0_1.out);rintro e w20 ⟨v357,rfl,ho0,hb⟩;refine ⟨_,rfl,?_⟩;have n0_:=am_ (Kd.R_lower ho0 (below_size HB.out));have n1_:=am_ (blk_below BK353.out hb);have n2_:=am_ (below_step HB.out hb);clear BK353 HB;have HO358:=n0_;have BK353:=n1_;have HB:=n2_;clear n0_ n1_ n2_;(try clear hb);(try clear ho0);obtain ⟨Ao21,co21,eo21⟩:=Kd.R_slice HO358.out;subst eo21)|((with_reducible refine gate_callee (f:=27) rfl ?_);refine goesL_ (some 17) rfl rfl Try.func27 (by kernel_rfl) rfl #[.agg #[.int .i64 t355,.slice Ao21 t356.length co21],.int .i64 a1] rfl (by (try simp only [List.map_toArray,List.map_cons,List.map_nil]);rfl) ?_;(with_reducible refine (spec_LeastCost.calls k t355 _ _ t356 a1 t359 _ ?side1 ?side2 A9.out).mono ?_);(case side1=>repeat (exact (Kd.R_reads' HO358.out).2.2));(case side2=>exact (Kd.R_reads' HO358.out).2.1);rintro e w22 ⟨rfl,hb⟩;refine ⟨_,rfl,?_⟩;have n0_:=am_ (Kd.R_below HO358.out hb);have n1_:=am_ (blk_below BK353.out hb);have n2_:=am_ (below_step HB.out hb);clear HO358 BK353 HB;have HO358:=n0_;have BK353:=n1_;have HB:=n2_;clear n0_ n1_ n2_;(try clear hb);have hcz23_0 : w22.cell? ⟨gb353,0,none⟩ = some (.int .i64 a0_0):=(blk_cell BK353.out 0).trans rfl;have hcz23_1 : w22.cell? ⟨gb353,1,none⟩ = some (.slice A0_1 l0_1.length c0_1):=(blk_cell BK353.out 1).trans rfl;have hfz23_0:=blk_frozen BK353.out 0;have hfz23_1:=blk_frozen BK353.out 1)|((with_reducible refine gate_callee (f:=12) rfl ?_);refine goesL_ (some 19) rfl rfl Try.func12 (by kernel_rfl) rfl #[.agg #[.int .i64 a0_0,.slice A0_1 l0_1.length c0_1]] rfl (by (try simp only [List.map_toArray,List.map_cons,List.map_nil]);rfl) ?_;(with_reducible refine (laws_toNet.calls k a0_0 _ _ l0_1 t360 t361 _ ?side1 ?side2 A10.out).mono ?_);(case side1=>exact (Kd.C_below HR0_1.out HB.out));(case side2=>exact HC0_1.out);rintro e w24 ⟨v362,rfl,ho0,hb⟩;refine ⟨_,rfl,?_⟩;have n0_:=am_ (Kd.R_elder' HO358.out (Kd.R_base ho0) hb);have n1_:=am_ (Kd.R_lower (Kd.R_new' ho0 (Kd.R_lt HO358.out)) (below_size HB.out));have n2_:=am_ (blk_below BK353.out hb);have n3_:=am_ (below_step HB.out hb);clear HO358 BK353 HB;have HO358:=n0_;have HO363:=n1_;have BK353:=n2_;have HB:=n3_;clear n0_ n1_ n2_ n3_;(try clear hb);(try clear ho0))|((with_reducible refine gate_dst (N:=7) rfl ?_);refine box_event ?hg (N:=7) ?hd (cs:=#[.int .i64 0,.slice none 0 0]) (t:=30) ?hr ?_;(case hd=>rfl);(case hg=>rfl);(case hr=>(go_simp;done));intro gb364 hg w25 hbox hb;have n0_:=am_ (Kd.R_below HO358.out hb);have n1_:=am_ (Kd.R_below HO363.out hb);have n2_:=am_ (blk_below BK353.out hb);have n3_:=am_ (below_step HB.out hb);have n4_:=am_ (hbox);have n5_:=am_ ((by rw [hg];exact (below_size HB.out) : w.heap.size ≤ gb364));have n6_:=n5_;have n7_:=am_ ((by rw [hg];exact Nat.ne_of_lt (blk_lt (g:=gb353) (o:=.cells #[.int .i64 a0_0,.slice A0_1 l0_1.length c0_1] 24 (0,0)) BK353.out) : gb353 ≠ gb364));have n8_:=am_ ((by rw [hg];exact Nat.ne_of_gt (blk_lt (g:=gb353) (o:=.cells #[.int .i64 a0_0,.slice A0_1 l0_1.length c0_1] 24 (0,0)) BK353.out) : gb364 ≠ gb353));clear HO358 HO363 BK353 HB;have HO358:=n0_;have HO363:=n1_;have BK353:=n2_;have HB:=n3_;have BK364:=n4_;have GW364:=n5_;have GE364:=n6_;have NB353_364:=n7_;have NB364_353:=n8_;clear n0_ n1_ n2_ n3_ n4_ n5_ n6_ n7_ n8_ hb hbox hg;have hnb26:=NB364_353.out;have hnc26:=NB353_364.out;have hcz27_0 : w25.cell? ⟨gb364,0,none⟩ = some (.int .i64 0):=(blk_cell BK364.out 0).trans rfl;have hcz27_1 : w25.cell? ⟨gb364,1,none⟩ = some (.slice none 0 0):=(blk_cell BK364.out 1).trans rfl;have hfz27_0:=blk_frozen BK364.out 0;have hfz27_1:=blk_frozen BK364.out 1;obtain ⟨Ao28,co28,eo28⟩:=Kd.R_slice HO363.out;subst eo28)|((with_reducible refine gate_callee (f:=28) rfl ?_);refine goesL_ (some 22) rfl rfl Try.func28 (by kernel_rfl) rfl #[.agg #[.int .i64 t360,.slice Ao28 t361.length co28],.int .i64 a1] rfl (by (try simp only [List.map_toArray,List.map_cons,List.map_nil]);rfl) ?_;(with_reducible refine (impl_LeastCost.calls k t360 _ _ t361 a1 t365 _ ?side1 ?side2 A11.out).mono ?_);(case side1=>refine (Kd.R_reads' (e:=67) (base:=w.heap.size) (ok:=fun k_=>(True ∧ some k_ ≠ (.slice Ao21 t356.length co21 : Value).ownBlock)) (n:=t361.length) (c:=co28) ?_).2.2;exact (by exact (Kd.R_mono (Kd.R_far (p:=⟨gb364,1,none⟩) (Kd.R_far (p:=⟨gb364,0,none⟩) (Kd.R_types HO363.out BK364.out (by decide)) (fun _ hk=>hk.2) (.int .i64 t360)) (fun _ hk=>hk.2) (.slice Ao28 t361.length co28)) (fun _ h_=>h_.1))));(case side2=>exact (Kd.R_reads' HO363.out).2.1);rintro e w29 ⟨rfl,hb⟩;refine ⟨_,rfl,?_⟩;have n0_:=am_ (Kd.R_below (by exact (Kd.R_mono (Kd.R_far (p:=⟨gb364,1,none⟩) (Kd.R_far (p:=⟨gb364,0,none⟩) (Kd.R_types HO358.out BK364.out (by decide)) (fun _ hk=>hk.2) (.int .i64 t360)) (fun _ hk=>hk.2) (.slice Ao28 t361.length co28)) (fun _ h_=>h_.1))) hb);have n1_:=am_ (Kd.R_below (by exact (Kd.R_mono (Kd.R_far (p:=⟨gb364,1,none⟩) (Kd.R_far (p:=⟨gb364,0,none⟩) (Kd.R_types HO363.out BK364.out (by decide)) (fun _ hk=>hk.2) (.int .i64 t360)) (fun _ hk=>hk.2) (.slice Ao28 t361.length co28)) (fun _ h_=>h_.1))) hb);have n2_:=am_ (blk_below (g:=gb353) (o:=.cells #[.int .i64 a0_0,.slice A0_1 l0_1.length c0_1] 24 (0,0)) (by refine blk_far ?_ NB353_364.out _;refine blk_far ?_ NB353_364.out _;exact BK353.out) hb);have n3_:=am_ (blk_below (g:=gb364) (o:=.cells #[.int .i64 t360,.slice Ao28 t361.length co28] 30 (0,0)) (by refine blk_put (cs:=#[.int .i64 t360,.slice none 0 0]) ?_ 1 _ rfl;refine blk_put (cs:=#[.int .i64 0,.slice none 0 0]) ?_ 0 _ rfl;exact BK364.out) hb);have n4_:=am_ (below_step (by repeat ((with_reducible first|exact HB.out|refine below_set ?_ GE364.out))) hb);clear HO358 HO363 BK353 BK364 HB;have HO358:=n0_;have HO363:=n1_;have BK353:=n2_;have BK364:=n3_;have HB:=n4_;clear n0_ n1_ n2_ n3_ n4_;(try clear hb)))
 have n0_:=am_ (Kd.R_drew HO358.out)
 have n1_:=am_ (Kd.R_drew HO363.out)
 have n2_:=am_ (blk_drew BK353.out)
 have n3_:=am_ (blk_drew BK364.out)
 have n4_:=am_ (below_drew1 HB.out)
 clear HO358
 clear HO363
 clear BK353
 clear BK364
 clear HB
 have HO358:=n0_
 have HO363:=n1_
 have BK353:=n2_
 have BK364:=n3_
 have HB:=n4_
 clear n0_ n1_ n2_ n3_ n4_
 refine start_ (n:=5) (S:=fun w'=>w'.cell? ⟨gb364,0,none⟩ = some (.int .i64 t360) ∧ w'.cell? ⟨gb364,1,none⟩ = some (.slice Ao28 t361.length co28) ∧ w'.cell? ⟨gb353,0,none⟩ = some (.int .i64 a0_0) ∧ w'.cell? ⟨gb353,1,none⟩ = some (.slice A0_1 l0_1.length c0_1)) (ds:=[]) #[false,false,false,false,false] (by kernel_rfl) rfl rfl ⟨(blk_cell BK364.out 0).trans rfl,(blk_cell BK364.out 1).trans rfl,(blk_cell BK353.out 0).trans rfl,(blk_cell BK353.out 1).trans rfl⟩ (fun hHeld=>?_)
 generalize w29.drew = w30 at HO358 HO363 BK353 BK364 HB hHeld ⊢
 refine take_ (i:=0) (N:=some 26) (v:=?_) (a':=?_) #[true,false,false,false,false] rfl rfl (by kernel_rfl) (fun _ _ _ h=>h) (Or.inl ⟨by rfl,?_⟩) hHeld ?_ ?_
 rotate_left
 ·rintro w' ⟨s0,s1,s2,s3⟩
  go_simp
  with_reducible rfl
 rotate_left
 ·simp only [Act.put,List.setIfInBounds_toArray,List.set_cons_zero,List.set_cons_succ,i64_w,i32_w]
  rfl
 refine take_ (i:=1) (N:=some 27) (v:=?_) (a':=?_) #[true,true,false,false,false] rfl rfl (by kernel_rfl) (fun _ _ _ h=>h) (Or.inl ⟨by rfl,?_⟩) hHeld ?_ ?_
 rotate_left
 ·rintro w' ⟨s0,s1,s2,s3⟩
  go_simp
  with_reducible rfl
 rotate_left
 ·simp only [Act.put,List.setIfInBounds_toArray,List.set_cons_zero,List.set_cons_succ,i64_w,i32_w]
  rfl
 refine one_ (i:=2) (N:=some 28) #[true,true,true,false,false] rfl rfl (by kernel_rfl) (by decide) (fun K hK=>?_)
 refine goes_ Try.func12 (by kernel_rfl) rfl #[.agg #[.int .i64 a0_0,.slice A0_1 l0_1.length c0_1]] (by rfl) rfl rfl (by (try simp only [List.map_toArray,List.map_cons,List.map_nil]);rfl) ?_
 with_reducible refine (laws_toNet.calls k a0_0 _ _ l0_1 t366 t367 _ ?side1 ?side2 A13.out).mono ?_
 (case side1=>exact (Kd.C_below HR0_1.out HB.out))
 (case side2=>exact HC0_1.out)
 rintro e w31 ⟨v368,rfl,ho0,hb⟩
 refine ⟨_,rfl,?_⟩
 have n0_:=am_ (Kd.R_elder' HO358.out (Kd.R_base ho0) hb)
 have n1_:=am_ (Kd.R_elder' HO363.out (Kd.R_base ho0) hb)
 have n2_:=am_ (Kd.R_lower (Kd.R_new' (Kd.R_new' ho0 (Kd.R_lt HO358.out)) (Kd.R_lt HO363.out)) (below_size HB.out))
 have n3_:=am_ (blk_below BK353.out hb)
 have n4_:=am_ (blk_below BK364.out hb)
 have n5_:=am_ (below_step HB.out hb)
 clear HO358
 clear HO363
 clear BK353
 clear BK364
 clear HB
 have HO358:=n0_
 have HO363:=n1_
 have HO369:=n2_
 have BK353:=n3_
 have BK364:=n4_
 have HB:=n5_
 clear n0_ n1_ n2_ n3_ n4_ n5_
 (try clear hb)
 (skip)
 (skip)
 (skip)
 (try clear ho0)
 obtain ⟨Ao32,co32,eo32⟩:=Kd.R_slice HO369.out
 (subst eo32)
 refine hK.out _ _ ⟨(blk_cell BK364.out 0).trans rfl,(blk_cell BK364.out 1).trans rfl,(blk_cell BK353.out 0).trans rfl,(blk_cell BK353.out 1).trans rfl⟩ (fun hHeld=>?_)
 clear hK K
 refine norm_ (a':=?_) ?_ ?_
 rotate_left
 ·show Act.put _ (some 28) _ = _
  simp only [Act.put,List.setIfInBounds_toArray,List.set_cons_zero,List.set_cons_succ,i64_w,i32_w]
  rfl
 refine one_ (i:=3) (N:=some 29) #[true,true,true,true,false] rfl rfl (by kernel_rfl) (by decide) (fun K hK=>?_)
 refine goes_ Try.func16 (by kernel_rfl) rfl #[.agg #[.int .i64 t360,.slice Ao28 t361.length co28],.agg #[.int .i64 t366,.slice Ao32 t367.length co32]] (by rfl) rfl rfl (by (try simp only [List.map_toArray,List.map_cons,List.map_nil]);rfl) ?_
 with_reducible refine (laws_eqNet.calls k t360 _ _ t361 t366 _ _ t367 true _ ?side1 ?side2 ?side3 ?side4 A14.out).mono ?_
 (case side1=>repeat (exact (Kd.R_reads' HO363.out).2.2))
 (case side2=>exact (Kd.R_reads' HO363.out).2.1)
 (case side3=>repeat (exact (Kd.R_reads' HO369.out).2.2))
 (case side4=>exact (Kd.R_reads' HO369.out).2.1)
 rintro e w33 ⟨rfl,hb⟩
 refine ⟨_,rfl,?_⟩
 have n0_:=am_ (Kd.R_below HO358.out hb)
 have n1_:=am_ (Kd.R_below HO363.out hb)
 have n2_:=am_ (Kd.R_below HO369.out hb)
 have n3_:=am_ (blk_below BK353.out hb)
 have n4_:=am_ (blk_below BK364.out hb)
 have n5_:=am_ (below_step HB.out hb)
 clear HO358
 clear HO363
 clear HO369
 clear BK353
 clear BK364
 clear HB
 have HO358:=n0_
 have HO363:=n1_
 have HO369:=n2_
 have BK353:=n3_
 have BK364:=n4_
 have HB:=n5_
 clear n0_ n1_ n2_ n3_ n4_ n5_
 (try clear hb)
 (skip)
 (skip)
 (skip)
 refine hK.out _ _ ⟨(blk_cell BK364.out 0).trans rfl,(blk_cell BK364.out 1).trans rfl,(blk_cell BK353.out 0).trans rfl,(blk_cell BK353.out 1).trans rfl⟩ (fun hHeld=>?_)
 clear hK K
 refine norm_ (a':=?_) ?_ ?_
 rotate_left
 ·show Act.put _ (some 29) _ = _
  simp only [Act.put,List.setIfInBounds_toArray,List.set_cons_zero,List.set_cons_succ,i64_w,i32_w]
  rfl
 refine pure_ (i:=4) (N:=some 30) (v:=?_) (a':=?_) #[true,true,true,true,true] rfl rfl (by kernel_rfl) (fun _ _ _ h=>h) (Or.inl ⟨by rfl,?_⟩) ?_ ?_
 rotate_left
 ·intro w'
  go_simp
  with_reducible rfl
 rotate_left
 ·simp only [Act.put,List.setIfInBounds_toArray,List.set_cons_zero,List.set_cons_succ,i64_w,i32_w]
  rfl
 refine done_ (by kernel_rfl) ?_
 try go_wp2
 go_ret
 exact ⟨by rfl,by exact HB.out⟩

end Go.Proofs.Ytgkpgigoonhgdaa.PFnExactLeastCost
