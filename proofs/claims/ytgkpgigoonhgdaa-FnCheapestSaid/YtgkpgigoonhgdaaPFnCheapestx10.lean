-- Made by the session's wip/pp.py, a changed call of the kit's printer; Lean checks it.
import Derived.Test.YtgkpgigoonhgdaaPFnCheapestx0
import Derived.Test.YtgkpgigoonhgdaaPFnCheapestx4
import Derived.Test.YtgkpgigoonhgdaaPFnCheapestx5
import Derived.Test.YtgkpgigoonhgdaaPFnCheapestx7
import Derived.Test.YtgkpgigoonhgdaaPFnCheapestx9
namespace Go.Proofs.Ytgkpgigoonhgdaa.PFnCheapest
open Go.RowKit Go.Proofs.YtgkpgigoonhgdaaW.PrintWords Go.Proofs.YtgkpgigoonhgdaaW.PrintLast Go.Proofs.YtgkpgigoonhgdaaW.PrintMore
attribute [local go_sem] max2_int min2_int max_two min_two max_three min_three max_four min_four   -- for this text's walks alone
set_option linter.unusedVariables false
set_option linter.unusedSimpArgs false


/-! ### impl_LeastCost: function 28 -/
def impl_LeastCost.f (k : Nat) (a0_0 : Int) (l0_1 : List (S67)) (a1 : Int) : Option (Int):=(impl_Cheapest.f k a0_0 l0_1 a1).bind fun bt348=>(if bt348.2.2 = true then (some bt348.2.1) else (some (-1)))
theorem impl_LeastCost.mono : ∀ a0 a1 a2 k,LeO (impl_LeastCost.f k a0 a1 a2) (impl_LeastCost.f (k + 1) a0 a1 a2):=by
 intro a0 a1 a2 k
 unfold impl_LeastCost.f
 repeat' first
   | (with_reducible exact impl_Cheapest.mono _ _ _ _)
   | (with_reducible exact LeO.refl _)
   | (with_reducible refine LeO.bind ?_ (fun _ => ?_))
set_option maxHeartbeats 8000000 in
set_option maxRecDepth 100000 in
theorem impl_LeastCost.calls (k : Nat) (a0_0 : Int) (A0_1 : Option Addr) (c0_1 : Nat) (l0_1 : List (S67)) (a1 : Int) (r : Int) (w : World) (hr0_1 : Kd.C k67 w A0_1 l0_1.length l0_1) (hc0_1 : l0_1.length ≤ c0_1) (h : impl_LeastCost.f k a0_0 l0_1 a1 = some r) :
  Calls Try.prog 28 #[.agg #[.int .i64 a0_0,.slice A0_1 l0_1.length c0_1],.int .i64 a1] w fun e w'=>e = .returned (.int .i64 r) ∧ Below w.heap.size w w':=by
 have hu30:=Try.underlying30
 have HR0_1:=am_ hr0_1
 have HC0_1:=am_ hc0_1
 clear hr0_1 hc0_1
 have HB:=am_ (Below.refl w.heap.size w)
 have H : ((impl_Cheapest.f k a0_0 l0_1 a1).bind fun bt348=>(if bt348.2.2 = true then (some bt348.2.1) else (some (-1)))) = some r:=h
 clear h
 replace H:=Option.bind_eq_some_iff.mp H
 obtain ⟨⟨t348,t351,t352⟩,A30,H⟩:=H
 replace H : (if t352 = true then (some t351) else (some (-1))) = some r:=H
 have A3:=am_ A30
 clear A30
 by_cases c4 : t352 = true
 ·subst c4
  have H1 : (some t351) = some r:=by rw [if_pos rfl] at H;exact H
  clear H
  have H:=H1
  clear H1
  obtain rfl:=Option.some.inj H
  go_enter Try.func28,Try.ntmps28
  go_wp2_with (first|((with_reducible refine gate_dst (N:=2) rfl ?_);refine box_event ?hg (N:=2) ?hd (cs:=#[.int .i64 a0_0,.slice A0_1 l0_1.length c0_1]) (t:=30) ?hr ?_;(case hd=>rfl);(case hg=>rfl);(case hr=>(go_simp;done));intro gb347 hg w5 hbox hb;have n0_:=am_ (below_step HB.out hb);have n1_:=am_ (hbox);have n2_:=am_ ((by rw [hg];exact (below_size HB.out) : w.heap.size ≤ gb347));have n3_:=n2_;clear HB;have HB:=n0_;have BK347:=n1_;have GW347:=n2_;have GE347:=n3_;clear n0_ n1_ n2_ n3_ hb hbox hg;have hcz6_0 : w5.cell? ⟨gb347,0,none⟩ = some (.int .i64 a0_0):=(blk_cell BK347.out 0).trans rfl;have hcz6_1 : w5.cell? ⟨gb347,1,none⟩ = some (.slice A0_1 l0_1.length c0_1):=(blk_cell BK347.out 1).trans rfl;have hfz6_0:=blk_frozen BK347.out 0;have hfz6_1:=blk_frozen BK347.out 1)|((with_reducible refine gate_callee (f:=43) rfl ?_);refine goesL_ (some 11) rfl rfl Try.func43 (by kernel_rfl) rfl #[.agg #[.int .i64 a0_0,.slice A0_1 l0_1.length c0_1],.int .i64 a1] rfl (by (try simp only [List.map_toArray,List.map_cons,List.map_nil]);rfl) ?_;(with_reducible refine (impl_Cheapest.calls k a0_0 _ _ l0_1 a1 t348 t351 true _ ?side1 ?side2 A3.out).mono ?_);(case side1=>exact (Kd.C_below HR0_1.out HB.out));(case side2=>exact HC0_1.out);rintro e w7 ⟨v349,rfl,ho0,hb⟩;refine ⟨_,rfl,?_⟩;have n0_:=am_ (Kd.R_lower ho0 (below_size HB.out));have n1_:=am_ (blk_below BK347.out hb);have n2_:=am_ (below_step HB.out hb);clear BK347 HB;have HO350:=n0_;have BK347:=n1_;have HB:=n2_;clear n0_ n1_ n2_;(try clear hb);(try clear ho0)))
  go_ret
  exact ⟨by rfl,by exact HB.out⟩
 replace c4:=Bool.eq_false_iff.mpr c4
 subst c4
 have H1 : (some (-1)) = some r:=by rw [if_neg (show ¬ (false = true) by decide)] at H;exact H
 clear H
 have H:=H1
 clear H1
 obtain rfl:=Option.some.inj H
 go_enter Try.func28,Try.ntmps28
 go_wp2_with (first|((with_reducible refine gate_dst (N:=2) rfl ?_);refine box_event ?hg (N:=2) ?hd (cs:=#[.int .i64 a0_0,.slice A0_1 l0_1.length c0_1]) (t:=30) ?hr ?_;(case hd=>rfl);(case hg=>rfl);(case hr=>(go_simp;done));intro gb347 hg w8 hbox hb;have n0_:=am_ (below_step HB.out hb);have n1_:=am_ (hbox);have n2_:=am_ ((by rw [hg];exact (below_size HB.out) : w.heap.size ≤ gb347));have n3_:=n2_;clear HB;have HB:=n0_;have BK347:=n1_;have GW347:=n2_;have GE347:=n3_;clear n0_ n1_ n2_ n3_ hb hbox hg;have hcz9_0 : w8.cell? ⟨gb347,0,none⟩ = some (.int .i64 a0_0):=(blk_cell BK347.out 0).trans rfl;have hcz9_1 : w8.cell? ⟨gb347,1,none⟩ = some (.slice A0_1 l0_1.length c0_1):=(blk_cell BK347.out 1).trans rfl;have hfz9_0:=blk_frozen BK347.out 0;have hfz9_1:=blk_frozen BK347.out 1)|((with_reducible refine gate_callee (f:=43) rfl ?_);refine goesL_ (some 11) rfl rfl Try.func43 (by kernel_rfl) rfl #[.agg #[.int .i64 a0_0,.slice A0_1 l0_1.length c0_1],.int .i64 a1] rfl (by (try simp only [List.map_toArray,List.map_cons,List.map_nil]);rfl) ?_;(with_reducible refine (impl_Cheapest.calls k a0_0 _ _ l0_1 a1 t348 t351 false _ ?side1 ?side2 A3.out).mono ?_);(case side1=>exact (Kd.C_below HR0_1.out HB.out));(case side2=>exact HC0_1.out);rintro e w10 ⟨v349,rfl,ho0,hb⟩;refine ⟨_,rfl,?_⟩;have n0_:=am_ (Kd.R_lower ho0 (below_size HB.out));have n1_:=am_ (blk_below BK347.out hb);have n2_:=am_ (below_step HB.out hb);clear BK347 HB;have HO350:=n0_;have BK347:=n1_;have HB:=n2_;clear n0_ n1_ n2_;(try clear hb);(try clear ho0)))
 go_ret
 exact ⟨by rfl,by exact HB.out⟩

/-! ### laws_big: function 29 -/
def laws_big.f (l0 : List Int) : Option (Bool):=some (decide ((l0.length : Int) > 1048576))
set_option maxHeartbeats 8000000 in
set_option maxRecDepth 100000 in
theorem laws_big.calls (A0 : Option Addr) (c0 : Nat) (l0 : List Int) (r : Bool) (w : World) (hr0 : Kd.C (Kd.int .u8) w A0 l0.length l0) (hc0 : l0.length ≤ c0) (h : laws_big.f l0 = some r) :
  Calls Try.prog 29 #[.slice A0 l0.length c0] w fun e w'=>e = .returned (.bool r) ∧ Drawn0 w w':=by
 have HR0:=am_ hr0
 have HC0:=am_ hc0
 clear hr0 hc0
 have H : (some (decide ((l0.length : Int) > 1048576))) = some r:=h
 clear h
 obtain rfl:=Option.some.inj H
 go_enter Try.func29,Try.ntmps29
 go_wp2
 go_ret
 exact ⟨by rfl,by repeat (exact Drawn0.refl _)⟩

/-! ### impl_FlowOk: function 31 -/
mutual
def impl_FlowOk.j0 : Nat → List Int → Bool → Int → List (S67) → Option (Bool)
 | 0, _, _, _, _ => none
 | k + 1, x1, x19, x166000, x166001 => if x19 = true then (some false) else (impl_FlowOk.l0 k x1 x166001 (x166001.length : Int) 0 x166000 x166001)
def impl_FlowOk.l0 : Nat → List Int → List (S67) → Int → Int → Int → List (S67) → Option (Bool)
 | 0, _, _, _, _, _, _ => none
 | k + 1, x1, x21, x22, x23, x166000, x166001 => if x23 < x22 then (if 0 ≤ x23 then (if x23 < (x21.length : Int) then (if x23 < (x1.length : Int) then (if (rd x1 x23) < 0 then (some false) else (if (rd x1 x23) > ((rd_T67 x21 x23).f2) then (some false) else (impl_FlowOk.l0 k x1 x21 x22 (wrap64 (x23 + 1)) x166000 x166001))) else (none)) else (none)) else (none)) else ((impl_excess.f k x166000 x166001 x1).bind fun t171 => (impl_FlowOk.l1 k t171 (t171.length : Int) 0))
def impl_FlowOk.l1 : Nat → List Int → Int → Int → Option (Bool)
 | 0, _, _, _ => none
 | k + 1, x45, x46, x47 => if x47 < x46 then (if 0 ≤ x47 then (if x47 < (x45.length : Int) then (if x47 > 1 then (if (rd x45 x47) = 0 then (impl_FlowOk.l1 k x45 x46 (wrap64 (x47 + 1))) else (some false)) else (impl_FlowOk.l1 k x45 x46 (wrap64 (x47 + 1)))) else (none)) else (none)) else (some true)
end
def impl_FlowOk.f (k : Nat) (a0_0 : Int) (l0_1 : List (S67)) (l1 : List Int) : Option (Bool):=(impl_NetOk.f k a0_0 l0_1).bind fun t166=>(if t166 = true then (impl_FlowOk.j0 k l1 ((l1.length : Int) != (l0_1.length : Int)) a0_0 l0_1) else (impl_FlowOk.j0 k l1 true a0_0 l0_1))
theorem impl_FlowOk.mono_l : ∀ k,(∀ y0 y1 y2 y3,LeO (impl_FlowOk.j0 k y0 y1 y2 y3) (impl_FlowOk.j0 (k + 1) y0 y1 y2 y3)) ∧ (∀ y0 y1 y2 y3 y4 y5,LeO (impl_FlowOk.l0 k y0 y1 y2 y3 y4 y5) (impl_FlowOk.l0 (k + 1) y0 y1 y2 y3 y4 y5)) ∧ (∀ y0 y1 y2,LeO (impl_FlowOk.l1 k y0 y1 y2) (impl_FlowOk.l1 (k + 1) y0 y1 y2))
 | 0 => ⟨fun _ _ _ _ r h => by simp [impl_FlowOk.j0] at h, fun _ _ _ _ _ _ r h => by simp [impl_FlowOk.l0] at h, fun _ _ _ r h => by simp [impl_FlowOk.l1] at h⟩
 | k + 1 => by
  obtain ⟨ih0,ih1,ih2⟩:=impl_FlowOk.mono_l k
  refine ⟨?_,?_,?_⟩
  ·intro y0 y1 y2 y3
   unfold impl_FlowOk.j0
   repeat' first
   | (with_reducible exact ih1 _ _ _ _ _ _)
   | (with_reducible exact LeO.refl _)
   | (with_reducible refine LeO.ite ?_ ?_)
  ·intro y0 y1 y2 y3 y4 y5
   unfold impl_FlowOk.l0
   repeat' first
   | (with_reducible exact ih1 _ _ _ _ _ _)
   | (with_reducible exact ih2 _ _ _)
   | (with_reducible exact impl_excess.mono _ _ _ _)
   | (with_reducible exact LeO.refl _)
   | (with_reducible refine LeO.ite ?_ ?_)
   | (with_reducible refine LeO.bind ?_ (fun _ => ?_))
  ·intro y0 y1 y2
   unfold impl_FlowOk.l1
   repeat' first
   | (with_reducible exact ih2 _ _ _)
   | (with_reducible exact LeO.refl _)
   | (with_reducible refine LeO.ite ?_ ?_)
theorem impl_FlowOk.mono : ∀ a0 a1 a2 k,LeO (impl_FlowOk.f k a0 a1 a2) (impl_FlowOk.f (k + 1) a0 a1 a2):=by
 intro a0 a1 a2 k
 obtain ⟨ih0,ih1,ih2⟩:=impl_FlowOk.mono_l k
 unfold impl_FlowOk.f
 repeat' first
   | (with_reducible exact ih0 _ _ _ _)
   | (with_reducible exact impl_NetOk.mono _ _ _)
   | (with_reducible refine LeO.ite ?_ ?_)
   | (with_reducible refine LeO.bind ?_ (fun _ => ?_))
set_option maxHeartbeats 8000000 in
set_option maxRecDepth 100000 in
theorem impl_FlowOk.calls (k : Nat) (a0_0 : Int) (A0_1 : Option Addr) (c0_1 : Nat) (l0_1 : List (S67)) (A1 : Option Addr) (c1 : Nat) (l1 : List Int) (r : Bool) (w : World) (hr0_1 : Kd.C k67 w A0_1 l0_1.length l0_1) (hc0_1 : l0_1.length ≤ c0_1) (hr1 : Kd.C (Kd.int .i64) w A1 l1.length l1) (hc1 : l1.length ≤ c1) (h : impl_FlowOk.f k a0_0 l0_1 l1 = some r) :
  Calls Try.prog 31 #[.agg #[.int .i64 a0_0,.slice A0_1 l0_1.length c0_1],.slice A1 l1.length c1] w fun e w'=>e = .returned (.bool r) ∧ Below w.heap.size w w':=by
 have hu30:=Try.underlying30
 have hu67:=Try.underlying67
 have HR0_1:=am_ hr0_1
 have HC0_1:=am_ hc0_1
 clear hr0_1 hc0_1
 have HR1:=am_ hr1
 have HC1:=am_ hc1
 clear hr1 hc1
 have HB:=am_ (Below.refl w.heap.size w)
 have H : ((impl_NetOk.f k a0_0 l0_1).bind fun t166=>(if t166 = true then (impl_FlowOk.j0 k l1 ((l1.length : Int) != (l0_1.length : Int)) a0_0 l0_1) else (impl_FlowOk.j0 k l1 true a0_0 l0_1))) = some r:=h
 clear h
 have HC3:=am_ H
 clear H
 go_enter Try.func31,Try.ntmps31
 go_upto_region 1 with (((with_reducible refine gate_dst (N:=2) rfl ?_);(try (refine gate_guard (by rfl) ?_;dsimp only));refine box_event ?hg (N:=2) ?hd (cs:=#[.int .i64 a0_0,.slice A0_1 l0_1.length c0_1]) (t:=30) ?hr ?_;(case hd=>rfl);(case hg=>rfl);(case hr=>(go_simp;done));intro gb165 hg w4 hbox hb;have n0_:=am_ (below_step HB.out hb);have n1_:=am_ (hbox);have n2_:=am_ ((by rw [hg];exact (below_size HB.out) : w.heap.size ≤ gb165));have n3_:=n2_;clear HB;have HB:=n0_;have BK165:=n1_;have GW165:=n2_;have GE165:=n3_;clear n0_ n1_ n2_ n3_ hb hbox hg))
 repeat (go_quiet (fail);go_upto_region 1 with (fail))
 (skip)
 go_cut [19] (fun v19 wc=>∃ (kq : Nat) (x19_2 : Bool),v19 = .bool x19_2 ∧ Aside0 (impl_FlowOk.j0 kq l1 x19_2 a0_0 l0_1 = some r) ∧ Aside0 (kq ≤ k) ∧ Aside0 (wc.heap[gb165]? = some (.cells #[.int .i64 a0_0,(.slice A0_1 l0_1.length c0_1)] 30 (0,0))) ∧ Aside0 (Below w.heap.size w wc))
 case first =>
  have H:=HC3.out
  clear HC3
  replace H:=Option.bind_eq_some_iff.mp H
  obtain ⟨t166,A50,H⟩:=H
  replace H : (if t166 = true then (impl_FlowOk.j0 k l1 ((l1.length : Int) != (l0_1.length : Int)) a0_0 l0_1) else (impl_FlowOk.j0 k l1 true a0_0 l0_1)) = some r:=H
  have A5:=am_ A50
  clear A50
  by_cases c6 : t166 = true
  ·subst c6
   have H1 : (impl_FlowOk.j0 k l1 ((l1.length : Int) != (l0_1.length : Int)) a0_0 l0_1) = some r:=by rw [if_pos rfl] at H;exact H
   clear H
   have H:=H1
   clear H1
   have H':=am_ H
   clear H
   have hcz7_0 : w4.cell? ⟨gb165,0,none⟩ = some (.int .i64 a0_0):=(blk_cell BK165.out 0).trans rfl
   have hcz7_1 : w4.cell? ⟨gb165,1,none⟩ = some (.slice A0_1 l0_1.length c0_1):=(blk_cell BK165.out 1).trans rfl
   have hfz7_0:=blk_frozen BK165.out 0
   have hfz7_1:=blk_frozen BK165.out 1
   go_wp2_with ((go_at_call 53;(with_reducible refine (impl_NetOk.calls k a0_0 _ _ l0_1 true _ ?side1 ?side2 A5.out).mono ?_);(case side1=>exact (Kd.C_below HR0_1.out HB.out));(case side2=>exact HC0_1.out);rintro e w8 ⟨rfl,hb⟩;have n0_:=am_ (blk_below BK165.out hb);have n1_:=am_ (below_step HB.out hb);clear BK165 HB;have BK165:=n0_;have HB:=n1_;clear n0_ n1_;(try clear hb);have hcz9_0 : w8.cell? ⟨gb165,0,none⟩ = some (.int .i64 a0_0):=(blk_cell BK165.out 0).trans rfl;have hcz9_1 : w8.cell? ⟨gb165,1,none⟩ = some (.slice A0_1 l0_1.length c0_1):=(blk_cell BK165.out 1).trans rfl;have hfz9_0:=blk_frozen BK165.out 0;have hfz9_1:=blk_frozen BK165.out 1))
   repeat (go_quiet (fail);try go_wp2_with (fail))
   go_meet
   case rel=>exact ⟨_,(((l1.length : Int) != (l0_1.length : Int))),(by rfl),H',⟨by omega⟩,⟨by exact BK165.out⟩,⟨by exact HB.out⟩⟩
  replace c6:=Bool.eq_false_iff.mpr c6
  subst c6
  have H1 : (impl_FlowOk.j0 k l1 true a0_0 l0_1) = some r:=by rw [if_neg (show ¬ (false = true) by decide)] at H;exact H
  clear H
  have H:=H1
  clear H1
  have H':=am_ H
  clear H
  have hcz10_0 : w4.cell? ⟨gb165,0,none⟩ = some (.int .i64 a0_0):=(blk_cell BK165.out 0).trans rfl
  have hcz10_1 : w4.cell? ⟨gb165,1,none⟩ = some (.slice A0_1 l0_1.length c0_1):=(blk_cell BK165.out 1).trans rfl
  have hfz10_0:=blk_frozen BK165.out 0
  have hfz10_1:=blk_frozen BK165.out 1
  go_wp2_with ((go_at_call 53;(with_reducible refine (impl_NetOk.calls k a0_0 _ _ l0_1 false _ ?side1 ?side2 A5.out).mono ?_);(case side1=>exact (Kd.C_below HR0_1.out HB.out));(case side2=>exact HC0_1.out);rintro e w11 ⟨rfl,hb⟩;have n0_:=am_ (blk_below BK165.out hb);have n1_:=am_ (below_step HB.out hb);clear BK165 HB;have BK165:=n0_;have HB:=n1_;clear n0_ n1_;(try clear hb)))
  repeat (go_quiet (fail);try go_wp2_with (fail))
  go_meet
  case rel=>exact ⟨_,(true),(by rfl),H',⟨by omega⟩,⟨by exact BK165.out⟩,⟨by exact HB.out⟩⟩
 case rest =>
  clear HC3
  try clear c1
  try clear p2
  try clear c3
  try clear c6
  try clear hcz10_0
  try clear hcz10_1
  try clear hcz7_0
  try clear hcz7_1
  try clear hcz9_0
  try clear hcz9_1
  try clear hfz10_0
  try clear hfz10_1
  try clear hfz7_0
  try clear hfz7_1
  try clear hfz9_0
  try clear hfz9_1
  obtain ⟨kq,x19_2,rfl,HA,HJ2,BK165,HB⟩:=hcut
  cases kq with
  | zero => exact absurd HA.out (by simp [impl_FlowOk.j0])
  | succ kj2 =>
   have H:=HA.out
   clear HA
   simp only [impl_FlowOk.j0] at H
   by_cases c12 : x19_2 = true
   ·subst c12
    have H1 : (some false) = some r:=by rw [if_pos rfl] at H;exact H
    clear H
    have H:=H1
    clear H1
    obtain rfl:=Option.some.inj H
    go_wp2
    repeat (go_quiet (fail);try go_wp2)
    go_ret
    exact ⟨by rfl,by exact HB.out⟩
   replace c12:=Bool.eq_false_iff.mpr c12
   subst c12
   have H1 : (impl_FlowOk.l0 kj2 l1 l0_1 (l0_1.length : Int) 0 a0_0 l0_1) = some r:=by rw [if_neg (show ¬ (false = true) by decide)] at H;exact H
   clear H
   have H:=H1
   clear H1
   have H':=am_ H
   clear H
   have hcz13_0 : wc.cell? ⟨gb165,0,none⟩ = some (.int .i64 a0_0):=(blk_cell BK165.out 0).trans rfl
   have hcz13_1 : wc.cell? ⟨gb165,1,none⟩ = some (.slice A0_1 l0_1.length c0_1):=(blk_cell BK165.out 1).trans rfl
   have hfz13_0:=blk_frozen BK165.out 0
   have hfz13_1:=blk_frozen BK165.out 1
   go_wp2
   repeat (go_quiet (fail);try go_wp2)
   go_loopg [23] kj2 (fun kq v23 w'=>∃ (x23_2 : Int),v23 = .int .i64 x23_2 ∧ Aside0 (impl_FlowOk.l0 kq l1 l0_1 (l0_1.length : Int) x23_2 a0_0 l0_1 = some r) ∧ Aside0 (kq ≤ kj2) ∧ Aside0 (w'.heap[gb165]? = some (.cells #[.int .i64 a0_0,(.slice A0_1 l0_1.length c0_1)] 30 (0,0))) ∧ Aside0 (Below w.heap.size w w'))
   case atStart=>exact ⟨(0),(by rfl),H',⟨Nat.le_refl _⟩,⟨by exact BK165.out⟩,⟨by exact HB.out⟩⟩
   case round =>
    clear H'
    try clear c1
    try clear p2
    try clear c3
    try clear c6
    try clear c12
    try clear hcz10_0
    try clear hcz10_1
    try clear hcz13_0
    try clear hcz13_1
    try clear hcz7_0
    try clear hcz7_1
    try clear hcz9_0
    try clear hcz9_1
    try clear hfz10_0
    try clear hfz10_1
    try clear hfz13_0
    try clear hfz13_1
    try clear hfz7_0
    try clear hfz7_1
    try clear hfz9_0
    try clear hfz9_1
    try clear p2
    obtain ⟨x23_2,rfl,HA,HK2,BK165,HB⟩:=hrel
    cases gk with
    | zero => exact absurd HA.out (by simp [impl_FlowOk.l0])
    | succ k2 =>
     have H:=HA.out
     clear HA
     simp only [impl_FlowOk.l0] at H
     by_cases c14 : x23_2 < (l0_1.length : Int)
     ·rw [if_pos c14] at H
      have c14b0 : decide (x23_2 < (l0_1.length : Int)) = true:=decide_eq_true c14
      clear c14
      by_cases c15 : 0 ≤ x23_2
      rotate_left
      ·rw [if_neg c15] at H
       exact absurd H (by simp)
      rw [if_pos c15] at H
      have c15b0 : decide (0 ≤ x23_2) = true:=decide_eq_true c15
      clear c15
      by_cases c16 : x23_2 < (l0_1.length : Int)
      rotate_left
      ·rw [if_neg c16] at H
       exact absurd H (by simp)
      rw [if_pos c16] at H
      have c16b0 : decide (x23_2 < (l0_1.length : Int)) = true:=decide_eq_true c16
      clear c16
      by_cases c17 : x23_2 < (l1.length : Int)
      rotate_left
      ·rw [if_neg c17] at H
       exact absurd H (by simp)
      rw [if_pos c17] at H
      have c17b0 : decide (x23_2 < (l1.length : Int)) = true:=decide_eq_true c17
      clear c17
      by_cases c18 : (rd l1 x23_2) < 0
      ·rw [if_pos c18] at H
       have c18b0 : decide ((rd l1 x23_2) < 0) = true:=decide_eq_true c18
       clear c18
       obtain rfl:=Option.some.inj H
       have p167 : 0 ≤ (x23_2 : Int):=of_decide_eq_true (by (with_reducible assumption))
       have q167 : x23_2 < (l0_1.length : Int):=of_decide_eq_true (by (with_reducible assumption))
       obtain ⟨ad167,e167,hx167_0,hx167_1,hx167_2,hx167_3⟩:=at_T67 HR0_1.out x23_2 p167 q167
       cases e167
       replace hx167_0:=kc_ HB.out hx167_0
       replace hx167_1:=kc_ HB.out hx167_1
       replace hx167_2:=kc_ HB.out hx167_2
       replace hx167_3:=kc_ HB.out hx167_3
       replace p167:=eq_true p167
       replace q167:=eq_true q167
       go_wp2_with (((with_reducible refine gate_dst (N:=6) rfl ?_);(try (refine gate_guard (by rfl) ?_;dsimp only));refine box_event ?hg (N:=6) ?hd (cs:=#[.int .i64 0,.int .i64 0,.int .i64 0,.int .i64 0]) (t:=67) ?hr ?_;(case hd=>rfl);(case hg=>rfl);(case hr=>(go_simp;done));intro gb168 hg w19 hbox hb;have n0_:=am_ (blk_below BK165.out hb);have n1_:=am_ (below_step HB.out hb);have n2_:=am_ (hbox);have n3_:=am_ ((by rw [hg];exact (below_size HB.out) : w.heap.size ≤ gb168));have n4_:=n3_;have n5_:=am_ ((by rw [hg];exact Nat.ne_of_lt (blk_lt (g:=gb165) (o:=.cells #[.int .i64 a0_0,.slice (some ad167) l0_1.length c0_1] 30 (0,0)) BK165.out) : gb165 ≠ gb168));have n6_:=am_ ((by rw [hg];exact Nat.ne_of_gt (blk_lt (g:=gb165) (o:=.cells #[.int .i64 a0_0,.slice (some ad167) l0_1.length c0_1] 30 (0,0)) BK165.out) : gb168 ≠ gb165));clear BK165 HB;have BK165:=n0_;have HB:=n1_;have BK168:=n2_;have GW168:=n3_;have GE168:=n4_;have NB165_168:=n5_;have NB168_165:=n6_;clear n0_ n1_ n2_ n3_ n4_ n5_ n6_ hb hbox hg;have hnb20:=NB168_165.out;have hnc20:=NB165_168.out;have hcz21_0 : w19.cell? ⟨gb168,0,none⟩ = some (.int .i64 0):=(blk_cell BK168.out 0).trans rfl;have hcz21_1 : w19.cell? ⟨gb168,1,none⟩ = some (.int .i64 0):=(blk_cell BK168.out 1).trans rfl;have hcz21_2 : w19.cell? ⟨gb168,2,none⟩ = some (.int .i64 0):=(blk_cell BK168.out 2).trans rfl;have hcz21_3 : w19.cell? ⟨gb168,3,none⟩ = some (.int .i64 0):=(blk_cell BK168.out 3).trans rfl;have hfz21_0:=blk_frozen BK168.out 0;have hfz21_1:=blk_frozen BK168.out 1;have hfz21_2:=blk_frozen BK168.out 2;have hfz21_3:=blk_frozen BK168.out 3;have p169 : 0 ≤ (x23_2 : Int):=of_decide_eq_true (by (with_reducible assumption));have q169 : x23_2 < (l1.length : Int):=of_decide_eq_true (by (with_reducible assumption));obtain ⟨ad169,e169,hx169_0⟩:=Kd.at_int HR1.out x23_2 p169 q169;cases e169;have hn169_0 : ad169.block ≠ gb168:=Nat.ne_of_lt (Nat.lt_of_lt_of_le (by have:=World.block_lt_of_cell? _ _ hx169_0;rwa [add_block] at this) GW168.out);have hn169_1 : ad169.block ≠ gb168:=Nat.ne_of_lt (Nat.lt_of_lt_of_le (by have:=World.block_lt_of_cell? _ _ hx169_0;rwa [add_block] at this) GW168.out);have hn169_2 : ad169.block ≠ gb168:=Nat.ne_of_lt (Nat.lt_of_lt_of_le (by have:=World.block_lt_of_cell? _ _ hx169_0;rwa [add_block] at this) GW168.out);have hn169_3 : ad169.block ≠ gb168:=Nat.ne_of_lt (Nat.lt_of_lt_of_le (by have:=World.block_lt_of_cell? _ _ hx169_0;rwa [add_block] at this) GW168.out);replace hx169_0:=kc_ HB.out hx169_0;replace hx169_0:=(cell_far (p:=⟨gb168,0,none⟩) (by (rw [add_block];exact hn169_0)) (.int .i64 ((rd_T67 l0_1 x23_2).f0))).trans hx169_0;replace hx169_0:=(cell_far (p:=⟨gb168,1,none⟩) (by (rw [add_block];exact hn169_1)) (.int .i64 ((rd_T67 l0_1 x23_2).f1))).trans hx169_0;replace hx169_0:=(cell_far (p:=⟨gb168,2,none⟩) (by (rw [add_block];exact hn169_2)) (.int .i64 ((rd_T67 l0_1 x23_2).f2))).trans hx169_0;replace hx169_0:=(cell_far (p:=⟨gb168,3,none⟩) (by (rw [add_block];exact hn169_3)) (.int .i64 ((rd_T67 l0_1 x23_2).f3))).trans hx169_0;(try have hy169_0:=fun (n_ : Nat)=>(show ((((((w19.drewN n_).setCell ⟨gb168,0,none⟩ (.int .i64 ((rd_T67 l0_1 x23_2).f0))).setCell ⟨gb168,1,none⟩ (.int .i64 ((rd_T67 l0_1 x23_2).f1))).setCell ⟨gb168,2,none⟩ (.int .i64 ((rd_T67 l0_1 x23_2).f2))).setCell ⟨gb168,3,none⟩ (.int .i64 ((rd_T67 l0_1 x23_2).f3)))).cell? _ = some _ from hx169_0));clear hn169_0 hn169_1 hn169_2 hn169_3;replace p169:=eq_true p169;replace q169:=eq_true q169))
       repeat (go_quiet (fail);try go_wp2_with (fail))
       go_ret
       exact ⟨by rfl,by repeat ((with_reducible first|exact HB.out|apply pw_below_drewN|refine below_set ?_ GE168.out))⟩
      rw [if_neg c18] at H
      have c18b0 : decide ((rd l1 x23_2) < 0) = false:=decide_eq_false c18
      clear c18
      by_cases c22 : (rd l1 x23_2) > ((rd_T67 l0_1 x23_2).f2)
      ·rw [if_pos c22] at H
       have c22b0 : decide (((rd_T67 l0_1 x23_2).f2) < (rd l1 x23_2)) = true:=decide_eq_true c22
       clear c22
       obtain rfl:=Option.some.inj H
       have p167 : 0 ≤ (x23_2 : Int):=of_decide_eq_true (by (with_reducible assumption))
       have q167 : x23_2 < (l0_1.length : Int):=of_decide_eq_true (by (with_reducible assumption))
       obtain ⟨ad167,e167,hx167_0,hx167_1,hx167_2,hx167_3⟩:=at_T67 HR0_1.out x23_2 p167 q167
       cases e167
       replace hx167_0:=kc_ HB.out hx167_0
       replace hx167_1:=kc_ HB.out hx167_1
       replace hx167_2:=kc_ HB.out hx167_2
       replace hx167_3:=kc_ HB.out hx167_3
       replace p167:=eq_true p167
       replace q167:=eq_true q167
       go_wp2_with (((with_reducible refine gate_dst (N:=6) rfl ?_);(try (refine gate_guard (by rfl) ?_;dsimp only));refine box_event ?hg (N:=6) ?hd (cs:=#[.int .i64 0,.int .i64 0,.int .i64 0,.int .i64 0]) (t:=67) ?hr ?_;(case hd=>rfl);(case hg=>rfl);(case hr=>(go_simp;done));intro gb168 hg w23 hbox hb;have n0_:=am_ (blk_below BK165.out hb);have n1_:=am_ (below_step HB.out hb);have n2_:=am_ (hbox);have n3_:=am_ ((by rw [hg];exact (below_size HB.out) : w.heap.size ≤ gb168));have n4_:=n3_;have n5_:=am_ ((by rw [hg];exact Nat.ne_of_lt (blk_lt (g:=gb165) (o:=.cells #[.int .i64 a0_0,.slice (some ad167) l0_1.length c0_1] 30 (0,0)) BK165.out) : gb165 ≠ gb168));have n6_:=am_ ((by rw [hg];exact Nat.ne_of_gt (blk_lt (g:=gb165) (o:=.cells #[.int .i64 a0_0,.slice (some ad167) l0_1.length c0_1] 30 (0,0)) BK165.out) : gb168 ≠ gb165));clear BK165 HB;have BK165:=n0_;have HB:=n1_;have BK168:=n2_;have GW168:=n3_;have GE168:=n4_;have NB165_168:=n5_;have NB168_165:=n6_;clear n0_ n1_ n2_ n3_ n4_ n5_ n6_ hb hbox hg;have hnb24:=NB168_165.out;have hnc24:=NB165_168.out;have hcz25_0 : w23.cell? ⟨gb168,0,none⟩ = some (.int .i64 0):=(blk_cell BK168.out 0).trans rfl;have hcz25_1 : w23.cell? ⟨gb168,1,none⟩ = some (.int .i64 0):=(blk_cell BK168.out 1).trans rfl;have hcz25_2 : w23.cell? ⟨gb168,2,none⟩ = some (.int .i64 0):=(blk_cell BK168.out 2).trans rfl;have hcz25_3 : w23.cell? ⟨gb168,3,none⟩ = some (.int .i64 0):=(blk_cell BK168.out 3).trans rfl;have hfz25_0:=blk_frozen BK168.out 0;have hfz25_1:=blk_frozen BK168.out 1;have hfz25_2:=blk_frozen BK168.out 2;have hfz25_3:=blk_frozen BK168.out 3;have p169 : 0 ≤ (x23_2 : Int):=of_decide_eq_true (by (with_reducible assumption));have q169 : x23_2 < (l1.length : Int):=of_decide_eq_true (by (with_reducible assumption));obtain ⟨ad169,e169,hx169_0⟩:=Kd.at_int HR1.out x23_2 p169 q169;cases e169;have hn169_0 : ad169.block ≠ gb168:=Nat.ne_of_lt (Nat.lt_of_lt_of_le (by have:=World.block_lt_of_cell? _ _ hx169_0;rwa [add_block] at this) GW168.out);have hn169_1 : ad169.block ≠ gb168:=Nat.ne_of_lt (Nat.lt_of_lt_of_le (by have:=World.block_lt_of_cell? _ _ hx169_0;rwa [add_block] at this) GW168.out);have hn169_2 : ad169.block ≠ gb168:=Nat.ne_of_lt (Nat.lt_of_lt_of_le (by have:=World.block_lt_of_cell? _ _ hx169_0;rwa [add_block] at this) GW168.out);have hn169_3 : ad169.block ≠ gb168:=Nat.ne_of_lt (Nat.lt_of_lt_of_le (by have:=World.block_lt_of_cell? _ _ hx169_0;rwa [add_block] at this) GW168.out);replace hx169_0:=kc_ HB.out hx169_0;replace hx169_0:=(cell_far (p:=⟨gb168,0,none⟩) (by (rw [add_block];exact hn169_0)) (.int .i64 ((rd_T67 l0_1 x23_2).f0))).trans hx169_0;replace hx169_0:=(cell_far (p:=⟨gb168,1,none⟩) (by (rw [add_block];exact hn169_1)) (.int .i64 ((rd_T67 l0_1 x23_2).f1))).trans hx169_0;replace hx169_0:=(cell_far (p:=⟨gb168,2,none⟩) (by (rw [add_block];exact hn169_2)) (.int .i64 ((rd_T67 l0_1 x23_2).f2))).trans hx169_0;replace hx169_0:=(cell_far (p:=⟨gb168,3,none⟩) (by (rw [add_block];exact hn169_3)) (.int .i64 ((rd_T67 l0_1 x23_2).f3))).trans hx169_0;(try have hy169_0:=fun (n_ : Nat)=>(show ((((((w23.drewN n_).setCell ⟨gb168,0,none⟩ (.int .i64 ((rd_T67 l0_1 x23_2).f0))).setCell ⟨gb168,1,none⟩ (.int .i64 ((rd_T67 l0_1 x23_2).f1))).setCell ⟨gb168,2,none⟩ (.int .i64 ((rd_T67 l0_1 x23_2).f2))).setCell ⟨gb168,3,none⟩ (.int .i64 ((rd_T67 l0_1 x23_2).f3)))).cell? _ = some _ from hx169_0));clear hn169_0 hn169_1 hn169_2 hn169_3;replace p169:=eq_true p169;replace q169:=eq_true q169;have p170 : 0 ≤ (x23_2 : Int):=of_decide_eq_true (by (with_reducible assumption));have q170 : x23_2 < (l1.length : Int):=of_decide_eq_true (by (with_reducible assumption));obtain ⟨ad170,e170,hx170_0⟩:=Kd.at_int HR1.out x23_2 p170 q170;obtain rfl : ad169 = ad170:=(by injection e170);have hn170_0 : ad169.block ≠ gb168:=Nat.ne_of_lt (Nat.lt_of_lt_of_le (by have:=World.block_lt_of_cell? _ _ hx170_0;rwa [add_block] at this) GW168.out);have hn170_1 : ad169.block ≠ gb168:=Nat.ne_of_lt (Nat.lt_of_lt_of_le (by have:=World.block_lt_of_cell? _ _ hx170_0;rwa [add_block] at this) GW168.out);have hn170_2 : ad169.block ≠ gb168:=Nat.ne_of_lt (Nat.lt_of_lt_of_le (by have:=World.block_lt_of_cell? _ _ hx170_0;rwa [add_block] at this) GW168.out);have hn170_3 : ad169.block ≠ gb168:=Nat.ne_of_lt (Nat.lt_of_lt_of_le (by have:=World.block_lt_of_cell? _ _ hx170_0;rwa [add_block] at this) GW168.out);replace hx170_0:=kc_ HB.out hx170_0;replace hx170_0:=(cell_far (p:=⟨gb168,0,none⟩) (by (rw [add_block];exact hn170_0)) (.int .i64 ((rd_T67 l0_1 x23_2).f0))).trans hx170_0;replace hx170_0:=(cell_far (p:=⟨gb168,1,none⟩) (by (rw [add_block];exact hn170_1)) (.int .i64 ((rd_T67 l0_1 x23_2).f1))).trans hx170_0;replace hx170_0:=(cell_far (p:=⟨gb168,2,none⟩) (by (rw [add_block];exact hn170_2)) (.int .i64 ((rd_T67 l0_1 x23_2).f2))).trans hx170_0;replace hx170_0:=(cell_far (p:=⟨gb168,3,none⟩) (by (rw [add_block];exact hn170_3)) (.int .i64 ((rd_T67 l0_1 x23_2).f3))).trans hx170_0;(try have hy170_0:=fun (n_ : Nat)=>(show ((((((w23.drewN n_).setCell ⟨gb168,0,none⟩ (.int .i64 ((rd_T67 l0_1 x23_2).f0))).setCell ⟨gb168,1,none⟩ (.int .i64 ((rd_T67 l0_1 x23_2).f1))).setCell ⟨gb168,2,none⟩ (.int .i64 ((rd_T67 l0_1 x23_2).f2))).setCell ⟨gb168,3,none⟩ (.int .i64 ((rd_T67 l0_1 x23_2).f3)))).cell? _ = some _ from hx170_0));clear hn170_0 hn170_1 hn170_2 hn170_3;replace p170:=eq_true p170;replace q170:=eq_true q170))
       repeat (go_quiet (fail);try go_wp2_with (fail))
       go_ret
       exact ⟨by rfl,by repeat ((with_reducible first|exact HB.out|apply pw_below_drewN|refine below_set ?_ GE168.out))⟩
      rw [if_neg c22] at H
      have c22b0 : decide (((rd_T67 l0_1 x23_2).f2) < (rd l1 x23_2)) = false:=decide_eq_false c22
      clear c22
      have H':=am_ H
      clear H
      have p167 : 0 ≤ (x23_2 : Int):=of_decide_eq_true (by (with_reducible assumption))
      have q167 : x23_2 < (l0_1.length : Int):=of_decide_eq_true (by (with_reducible assumption))
      obtain ⟨ad167,e167,hx167_0,hx167_1,hx167_2,hx167_3⟩:=at_T67 HR0_1.out x23_2 p167 q167
      cases e167
      replace hx167_0:=kc_ HB.out hx167_0
      replace hx167_1:=kc_ HB.out hx167_1
      replace hx167_2:=kc_ HB.out hx167_2
      replace hx167_3:=kc_ HB.out hx167_3
      replace p167:=eq_true p167
      replace q167:=eq_true q167
      go_wp2_with (((with_reducible refine gate_dst (N:=6) rfl ?_);(try (refine gate_guard (by rfl) ?_;dsimp only));refine box_event ?hg (N:=6) ?hd (cs:=#[.int .i64 0,.int .i64 0,.int .i64 0,.int .i64 0]) (t:=67) ?hr ?_;(case hd=>rfl);(case hg=>rfl);(case hr=>(go_simp;done));intro gb168 hg w26 hbox hb;have n0_:=am_ (blk_below BK165.out hb);have n1_:=am_ (below_step HB.out hb);have n2_:=am_ (hbox);have n3_:=am_ ((by rw [hg];exact (below_size HB.out) : w.heap.size ≤ gb168));have n4_:=n3_;have n5_:=am_ ((by rw [hg];exact Nat.ne_of_lt (blk_lt (g:=gb165) (o:=.cells #[.int .i64 a0_0,.slice (some ad167) l0_1.length c0_1] 30 (0,0)) BK165.out) : gb165 ≠ gb168));have n6_:=am_ ((by rw [hg];exact Nat.ne_of_gt (blk_lt (g:=gb165) (o:=.cells #[.int .i64 a0_0,.slice (some ad167) l0_1.length c0_1] 30 (0,0)) BK165.out) : gb168 ≠ gb165));clear BK165 HB;have BK165:=n0_;have HB:=n1_;have BK168:=n2_;have GW168:=n3_;have GE168:=n4_;have NB165_168:=n5_;have NB168_165:=n6_;clear n0_ n1_ n2_ n3_ n4_ n5_ n6_ hb hbox hg;have hnb27:=NB168_165.out;have hnc27:=NB165_168.out;have hcz28_0 : w26.cell? ⟨gb168,0,none⟩ = some (.int .i64 0):=(blk_cell BK168.out 0).trans rfl;have hcz28_1 : w26.cell? ⟨gb168,1,none⟩ = some (.int .i64 0):=(blk_cell BK168.out 1).trans rfl;have hcz28_2 : w26.cell? ⟨gb168,2,none⟩ = some (.int .i64 0):=(blk_cell BK168.out 2).trans rfl;have hcz28_3 : w26.cell? ⟨gb168,3,none⟩ = some (.int .i64 0):=(blk_cell BK168.out 3).trans rfl;have hfz28_0:=blk_frozen BK168.out 0;have hfz28_1:=blk_frozen BK168.out 1;have hfz28_2:=blk_frozen BK168.out 2;have hfz28_3:=blk_frozen BK168.out 3;have p169 : 0 ≤ (x23_2 : Int):=of_decide_eq_true (by (with_reducible assumption));have q169 : x23_2 < (l1.length : Int):=of_decide_eq_true (by (with_reducible assumption));obtain ⟨ad169,e169,hx169_0⟩:=Kd.at_int HR1.out x23_2 p169 q169;cases e169;have hn169_0 : ad169.block ≠ gb168:=Nat.ne_of_lt (Nat.lt_of_lt_of_le (by have:=World.block_lt_of_cell? _ _ hx169_0;rwa [add_block] at this) GW168.out);have hn169_1 : ad169.block ≠ gb168:=Nat.ne_of_lt (Nat.lt_of_lt_of_le (by have:=World.block_lt_of_cell? _ _ hx169_0;rwa [add_block] at this) GW168.out);have hn169_2 : ad169.block ≠ gb168:=Nat.ne_of_lt (Nat.lt_of_lt_of_le (by have:=World.block_lt_of_cell? _ _ hx169_0;rwa [add_block] at this) GW168.out);have hn169_3 : ad169.block ≠ gb168:=Nat.ne_of_lt (Nat.lt_of_lt_of_le (by have:=World.block_lt_of_cell? _ _ hx169_0;rwa [add_block] at this) GW168.out);replace hx169_0:=kc_ HB.out hx169_0;replace hx169_0:=(cell_far (p:=⟨gb168,0,none⟩) (by (rw [add_block];exact hn169_0)) (.int .i64 ((rd_T67 l0_1 x23_2).f0))).trans hx169_0;replace hx169_0:=(cell_far (p:=⟨gb168,1,none⟩) (by (rw [add_block];exact hn169_1)) (.int .i64 ((rd_T67 l0_1 x23_2).f1))).trans hx169_0;replace hx169_0:=(cell_far (p:=⟨gb168,2,none⟩) (by (rw [add_block];exact hn169_2)) (.int .i64 ((rd_T67 l0_1 x23_2).f2))).trans hx169_0;replace hx169_0:=(cell_far (p:=⟨gb168,3,none⟩) (by (rw [add_block];exact hn169_3)) (.int .i64 ((rd_T67 l0_1 x23_2).f3))).trans hx169_0;(try have hy169_0:=fun (n_ : Nat)=>(show ((((((w26.drewN n_).setCell ⟨gb168,0,none⟩ (.int .i64 ((rd_T67 l0_1 x23_2).f0))).setCell ⟨gb168,1,none⟩ (.int .i64 ((rd_T67 l0_1 x23_2).f1))).setCell ⟨gb168,2,none⟩ (.int .i64 ((rd_T67 l0_1 x23_2).f2))).setCell ⟨gb168,3,none⟩ (.int .i64 ((rd_T67 l0_1 x23_2).f3)))).cell? _ = some _ from hx169_0));clear hn169_0 hn169_1 hn169_2 hn169_3;replace p169:=eq_true p169;replace q169:=eq_true q169;have p170 : 0 ≤ (x23_2 : Int):=of_decide_eq_true (by (with_reducible assumption));have q170 : x23_2 < (l1.length : Int):=of_decide_eq_true (by (with_reducible assumption));obtain ⟨ad170,e170,hx170_0⟩:=Kd.at_int HR1.out x23_2 p170 q170;obtain rfl : ad169 = ad170:=(by injection e170);have hn170_0 : ad169.block ≠ gb168:=Nat.ne_of_lt (Nat.lt_of_lt_of_le (by have:=World.block_lt_of_cell? _ _ hx170_0;rwa [add_block] at this) GW168.out);have hn170_1 : ad169.block ≠ gb168:=Nat.ne_of_lt (Nat.lt_of_lt_of_le (by have:=World.block_lt_of_cell? _ _ hx170_0;rwa [add_block] at this) GW168.out);have hn170_2 : ad169.block ≠ gb168:=Nat.ne_of_lt (Nat.lt_of_lt_of_le (by have:=World.block_lt_of_cell? _ _ hx170_0;rwa [add_block] at this) GW168.out);have hn170_3 : ad169.block ≠ gb168:=Nat.ne_of_lt (Nat.lt_of_lt_of_le (by have:=World.block_lt_of_cell? _ _ hx170_0;rwa [add_block] at this) GW168.out);replace hx170_0:=kc_ HB.out hx170_0;replace hx170_0:=(cell_far (p:=⟨gb168,0,none⟩) (by (rw [add_block];exact hn170_0)) (.int .i64 ((rd_T67 l0_1 x23_2).f0))).trans hx170_0;replace hx170_0:=(cell_far (p:=⟨gb168,1,none⟩) (by (rw [add_block];exact hn170_1)) (.int .i64 ((rd_T67 l0_1 x23_2).f1))).trans hx170_0;replace hx170_0:=(cell_far (p:=⟨gb168,2,none⟩) (by (rw [add_block];exact hn170_2)) (.int .i64 ((rd_T67 l0_1 x23_2).f2))).trans hx170_0;replace hx170_0:=(cell_far (p:=⟨gb168,3,none⟩) (by (rw [add_block];exact hn170_3)) (.int .i64 ((rd_T67 l0_1 x23_2).f3))).trans hx170_0;(try have hy170_0:=fun (n_ : Nat)=>(show ((((((w26.drewN n_).setCell ⟨gb168,0,none⟩ (.int .i64 ((rd_T67 l0_1 x23_2).f0))).setCell ⟨gb168,1,none⟩ (.int .i64 ((rd_T67 l0_1 x23_2).f1))).setCell ⟨gb168,2,none⟩ (.int .i64 ((rd_T67 l0_1 x23_2).f2))).setCell ⟨gb168,3,none⟩ (.int .i64 ((rd_T67 l0_1 x23_2).f3)))).cell? _ = some _ from hx170_0));clear hn170_0 hn170_1 hn170_2 hn170_3;replace p170:=eq_true p170;replace q170:=eq_true q170))
      repeat (go_quiet (fail);try go_wp2_with (fail))
      go_roundg k2
      case measure=>have:=HJ2.out;have:=HK2.out;omega
      case rel=>exact ⟨(wrap64 (x23_2 + 1)),(by rfl),H',⟨by have:=HJ2.out;have:=HK2.out;omega⟩,⟨by (with_reducible repeat (refine blk_drewN ?_ _));refine blk_far ?_ NB165_168.out _;refine blk_far ?_ NB165_168.out _;refine blk_far ?_ NB165_168.out _;refine blk_far ?_ NB165_168.out _;exact BK165.out⟩,⟨by repeat ((with_reducible first|exact HB.out|apply pw_below_drewN|refine below_set ?_ GE168.out))⟩⟩
     rw [if_neg c14] at H
     have c14b0 : decide (x23_2 < (l0_1.length : Int)) = false:=decide_eq_false c14
     clear c14
     replace H:=Option.bind_eq_some_iff.mp H
     obtain ⟨t171,A290,H⟩:=H
     replace H : (impl_FlowOk.l1 k2 t171 (t171.length : Int) 0) = some r:=H
     have A29:=am_ A290
     clear A290
     have H':=am_ H
     clear H
     have hcz30_0 : wr.cell? ⟨gb165,0,none⟩ = some (.int .i64 a0_0):=(blk_cell BK165.out 0).trans rfl
     have hcz30_1 : wr.cell? ⟨gb165,1,none⟩ = some (.slice A0_1 l0_1.length c0_1):=(blk_cell BK165.out 1).trans rfl
     have hfz30_0:=blk_frozen BK165.out 0
     have hfz30_1:=blk_frozen BK165.out 1
     go_wp2_with ((go_at_call 54;(with_reducible refine (impl_excess.calls k2 a0_0 _ _ l0_1 _ _ l1 t171 _ ?side1 ?side2 ?side3 ?side4 A29.out).mono ?_);(case side1=>exact (Kd.C_below HR0_1.out HB.out));(case side2=>exact HC0_1.out);(case side3=>exact (Kd.C_below HR1.out HB.out));(case side4=>exact HC1.out);rintro e w31 ⟨v172,rfl,ho0,hb⟩;have n0_:=am_ (Kd.R_lower ho0 (below_size HB.out));have n1_:=am_ (blk_below BK165.out hb);have n2_:=am_ (below_step HB.out hb);clear BK165 HB;have HO173:=n0_;have BK165:=n1_;have HB:=n2_;clear n0_ n1_ n2_;(try clear hb);(try clear ho0);obtain ⟨Ao32,co32,eo32⟩:=Kd.R_slice HO173.out;subst eo32))
     repeat (go_quiet (fail);try go_wp2_with (fail))
     go_loopg [47] k2 (fun kq v47 w'=>∃ (x47_3 : Int),v47 = .int .i64 x47_3 ∧ Aside0 (impl_FlowOk.l1 kq t171 (t171.length : Int) x47_3 = some r) ∧ Aside0 (kq ≤ k2) ∧ Aside0 (Kd.R (Kd.int .i64) 3 w' w.heap.size (fun _=>True) (.slice Ao32 t171.length co32) t171) ∧ Aside0 (w'.heap[gb165]? = some (.cells #[.int .i64 a0_0,(.slice A0_1 l0_1.length c0_1)] 30 (0,0))) ∧ Aside0 (Below w.heap.size w w'))
     case atStart=>exact ⟨(0),(by rfl),H',⟨Nat.le_refl _⟩,⟨by exact HO173.out⟩,⟨by exact BK165.out⟩,⟨by exact HB.out⟩⟩
     case round =>
      clear H'
      try clear c1
      try clear p1
      try clear q1
      try clear hx1
      try clear c2
      try clear p2
      try clear c3
      try clear c6
      try clear p6
      try clear c12
      try clear c14
      try clear c14b0
      try clear c15
      try clear c15b0
      try clear c16
      try clear c16b0
      try clear p16
      try clear q16
      try clear hx16
      try clear c17
      try clear c17b0
      try clear p17
      try clear q17
      try clear hx17
      try clear c18
      try clear c18b0
      try clear c20
      try clear c22
      try clear c22b0
      try clear c24
      try clear c27
      try clear c31
      try clear hcz10_0
      try clear hcz10_1
      try clear hcz13_0
      try clear hcz13_1
      try clear hcz21_0
      try clear hcz21_1
      try clear hcz21_2
      try clear hcz21_3
      try clear hcz25_0
      try clear hcz25_1
      try clear hcz25_2
      try clear hcz25_3
      try clear hcz28_0
      try clear hcz28_1
      try clear hcz28_2
      try clear hcz28_3
      try clear hcz30_0
      try clear hcz30_1
      try clear hcz7_0
      try clear hcz7_1
      try clear hcz9_0
      try clear hcz9_1
      try clear hfz10_0
      try clear hfz10_1
      try clear hfz13_0
      try clear hfz13_1
      try clear hfz21_0
      try clear hfz21_1
      try clear hfz21_2
      try clear hfz21_3
      try clear hfz25_0
      try clear hfz25_1
      try clear hfz25_2
      try clear hfz25_3
      try clear hfz28_0
      try clear hfz28_1
      try clear hfz28_2
      try clear hfz28_3
      try clear hfz30_0
      try clear hfz30_1
      try clear hfz7_0
      try clear hfz7_1
      try clear hfz9_0
      try clear hfz9_1
      try clear hx167_0
      try clear hx167_1
      try clear hx167_2
      try clear hx167_3
      try clear hx169_0
      try clear hx170_0
      try clear p167
      try clear p169
      try clear p170
      try clear p2
      try clear q167
      try clear q169
      try clear q170
      obtain ⟨x47_3,rfl,HA,HK3,HO_45,BK165,HB⟩:=hrel
      cases gk with
      | zero => exact absurd HA.out (by simp [impl_FlowOk.l1])
      | succ k3 =>
       have H:=HA.out
       clear HA
       simp only [impl_FlowOk.l1] at H
       by_cases c33 : x47_3 < (t171.length : Int)
       rotate_left
       ·rw [if_neg c33] at H
        have c33b0 : decide (x47_3 < (t171.length : Int)) = false:=decide_eq_false c33
        clear c33
        obtain rfl:=Option.some.inj H
        go_wp2
        repeat (go_quiet (fail);try go_wp2)
        go_ret
        exact ⟨by rfl,by exact HB.out⟩
       rw [if_pos c33] at H
       have c33b0 : decide (x47_3 < (t171.length : Int)) = true:=decide_eq_true c33
       clear c33
       by_cases c34 : 0 ≤ x47_3
       rotate_left
       ·rw [if_neg c34] at H
        exact absurd H (by simp)
       rw [if_pos c34] at H
       have c34b0 : decide (0 ≤ x47_3) = true:=decide_eq_true c34
       clear c34
       by_cases c35 : x47_3 < (t171.length : Int)
       rotate_left
       ·rw [if_neg c35] at H
        exact absurd H (by simp)
       rw [if_pos c35] at H
       have c35b0 : decide (x47_3 < (t171.length : Int)) = true:=decide_eq_true c35
       clear c35
       by_cases c36 : x47_3 > 1
       rotate_left
       ·rw [if_neg c36] at H
        have c36b0 : decide (1 < x47_3) = false:=decide_eq_false c36
        clear c36
        have H':=am_ H
        clear H
        have p174 : 0 ≤ (x47_3 : Int):=of_decide_eq_true (by (with_reducible assumption))
        have q174 : x47_3 < (t171.length : Int):=of_decide_eq_true (by (with_reducible assumption))
        obtain ⟨ad174,e174,hx174_0⟩:=Kd.at_int (Kd.R_reads' HO_45.out).2.2 x47_3 p174 q174
        cases e174
        replace p174:=eq_true p174
        replace q174:=eq_true q174
        go_wp2
        repeat (go_quiet (fail);try go_wp2)
        go_roundg k3
        case measure=>have:=HJ2.out;have:=HK2.out;have:=HK3.out;omega
        case rel=>exact ⟨(wrap64 (x47_3 + 1)),(by rfl),H',⟨by have:=HJ2.out;have:=HK2.out;have:=HK3.out;omega⟩,⟨by exact HO_45.out⟩,⟨by exact BK165.out⟩,⟨by exact HB.out⟩⟩
       rw [if_pos c36] at H
       have c36b0 : decide (1 < x47_3) = true:=decide_eq_true c36
       clear c36
       by_cases c37 : (rd t171 x47_3) = 0
       ·rw [if_pos c37] at H
        have c37b0 : ((rd t171 x47_3) == 0) = true:=beq_iff_eq.mpr c37
        have c37b1 : ((rd t171 x47_3) != 0) = false:=bne_eq_false_iff_eq.mpr c37
        clear c37
        have H':=am_ H
        clear H
        have p174 : 0 ≤ (x47_3 : Int):=of_decide_eq_true (by (with_reducible assumption))
        have q174 : x47_3 < (t171.length : Int):=of_decide_eq_true (by (with_reducible assumption))
        obtain ⟨ad174,e174,hx174_0⟩:=Kd.at_int (Kd.R_reads' HO_45.out).2.2 x47_3 p174 q174
        cases e174
        replace p174:=eq_true p174
        replace q174:=eq_true q174
        go_wp2
        repeat (go_quiet (fail);try go_wp2)
        go_roundg k3
        case measure=>have:=HJ2.out;have:=HK2.out;have:=HK3.out;omega
        case rel=>exact ⟨(wrap64 (x47_3 + 1)),(by rfl),H',⟨by have:=HJ2.out;have:=HK2.out;have:=HK3.out;omega⟩,⟨by exact HO_45.out⟩,⟨by exact BK165.out⟩,⟨by exact HB.out⟩⟩
       rw [if_neg c37] at H
       have c37b0 : ((rd t171 x47_3) == 0) = false:=beq_eq_false_iff_ne.mpr c37
       have c37b1 : ((rd t171 x47_3) != 0) = true:=bne_iff_ne.mpr c37
       obtain rfl:=Option.some.inj H
       have p174 : 0 ≤ (x47_3 : Int):=of_decide_eq_true (by (with_reducible assumption))
       have q174 : x47_3 < (t171.length : Int):=of_decide_eq_true (by (with_reducible assumption))
       obtain ⟨ad174,e174,hx174_0⟩:=Kd.at_int (Kd.R_reads' HO_45.out).2.2 x47_3 p174 q174
       cases e174
       replace p174:=eq_true p174
       replace q174:=eq_true q174
       go_wp2
       repeat (go_quiet (fail);try go_wp2)
       go_ret
       exact ⟨by rfl,by exact HB.out⟩

/-! ### impl_FlowSize: function 33 -/
def impl_FlowSize.f (k : Nat) (a0_0 : Int) (l0_1 : List (S67)) (l1 : List Int) : Option (Int):=(impl_FlowOk.f k a0_0 l0_1 l1).bind fun t384=>(if t384 = true then ((impl_excess.f k a0_0 l0_1 l1).bind fun t385=>(if 0 < (t385.length : Int) then (some (wrap64 (-(rd t385 0)))) else (none))) else (some (-1)))
theorem impl_FlowSize.mono : ∀ a0 a1 a2 k,LeO (impl_FlowSize.f k a0 a1 a2) (impl_FlowSize.f (k + 1) a0 a1 a2):=by
 intro a0 a1 a2 k
 unfold impl_FlowSize.f
 repeat' first
   | (with_reducible exact impl_FlowOk.mono _ _ _ _)
   | (with_reducible exact impl_excess.mono _ _ _ _)
   | (with_reducible exact LeO.refl _)
   | (with_reducible refine LeO.ite ?_ ?_)
   | (with_reducible refine LeO.bind ?_ (fun _ => ?_))
set_option maxHeartbeats 8000000 in
set_option maxRecDepth 100000 in
theorem impl_FlowSize.calls (k : Nat) (a0_0 : Int) (A0_1 : Option Addr) (c0_1 : Nat) (l0_1 : List (S67)) (A1 : Option Addr) (c1 : Nat) (l1 : List Int) (r : Int) (w : World) (hr0_1 : Kd.C k67 w A0_1 l0_1.length l0_1) (hc0_1 : l0_1.length ≤ c0_1) (hr1 : Kd.C (Kd.int .i64) w A1 l1.length l1) (hc1 : l1.length ≤ c1) (h : impl_FlowSize.f k a0_0 l0_1 l1 = some r) :
  Calls Try.prog 33 #[.agg #[.int .i64 a0_0,.slice A0_1 l0_1.length c0_1],.slice A1 l1.length c1] w fun e w'=>e = .returned (.int .i64 r) ∧ Below w.heap.size w w':=by
 have hu30:=Try.underlying30
 have HR0_1:=am_ hr0_1
 have HC0_1:=am_ hc0_1
 clear hr0_1 hc0_1
 have HR1:=am_ hr1
 have HC1:=am_ hc1
 clear hr1 hc1
 have HB:=am_ (Below.refl w.heap.size w)
 have H : ((impl_FlowOk.f k a0_0 l0_1 l1).bind fun t384=>(if t384 = true then ((impl_excess.f k a0_0 l0_1 l1).bind fun t385=>(if 0 < (t385.length : Int) then (some (wrap64 (-(rd t385 0)))) else (none))) else (some (-1)))) = some r:=h
 clear h
 replace H:=Option.bind_eq_some_iff.mp H
 obtain ⟨t384,A30,H⟩:=H
 replace H : (if t384 = true then ((impl_excess.f k a0_0 l0_1 l1).bind fun t385=>(if 0 < (t385.length : Int) then (some (wrap64 (-(rd t385 0)))) else (none))) else (some (-1))) = some r:=H
 have A3:=am_ A30
 clear A30
 by_cases c4 : t384 = true
 ·subst c4
  have H1 : ((impl_excess.f k a0_0 l0_1 l1).bind fun t385=>(if 0 < (t385.length : Int) then (some (wrap64 (-(rd t385 0)))) else (none))) = some r:=by rw [if_pos rfl] at H;exact H
  clear H
  have H:=H1
  clear H1
  replace H:=Option.bind_eq_some_iff.mp H
  obtain ⟨t385,A50,H⟩:=H
  replace H : (if 0 < (t385.length : Int) then (some (wrap64 (-(rd t385 0)))) else (none)) = some r:=H
  have A5:=am_ A50
  clear A50
  by_cases c6 : 0 < (t385.length : Int)
  ·rw [if_pos c6] at H
   have c6b0 : decide (0 < (t385.length : Int)) = true:=decide_eq_true c6
   have c6b1 : decide (0 < t385.length) = true:=decide_eq_true (by omega)
   clear c6
   obtain rfl:=Option.some.inj H
   go_enter Try.func33,Try.ntmps33
   go_wp2_with (first|((with_reducible refine gate_dst (N:=2) rfl ?_);refine box_event ?hg (N:=2) ?hd (cs:=#[.int .i64 a0_0,.slice A0_1 l0_1.length c0_1]) (t:=30) ?hr ?_;(case hd=>rfl);(case hg=>rfl);(case hr=>(go_simp;done));intro gb383 hg w7 hbox hb;have n0_:=am_ (below_step HB.out hb);have n1_:=am_ (hbox);have n2_:=am_ ((by rw [hg];exact (below_size HB.out) : w.heap.size ≤ gb383));have n3_:=n2_;clear HB;have HB:=n0_;have BK383:=n1_;have GW383:=n2_;have GE383:=n3_;clear n0_ n1_ n2_ n3_ hb hbox hg;have hcz8_0 : w7.cell? ⟨gb383,0,none⟩ = some (.int .i64 a0_0):=(blk_cell BK383.out 0).trans rfl;have hcz8_1 : w7.cell? ⟨gb383,1,none⟩ = some (.slice A0_1 l0_1.length c0_1):=(blk_cell BK383.out 1).trans rfl;have hfz8_0:=blk_frozen BK383.out 0;have hfz8_1:=blk_frozen BK383.out 1)|((with_reducible refine gate_callee (f:=31) rfl ?_);refine goesL_ (some 7) rfl rfl Try.func31 (by kernel_rfl) rfl #[.agg #[.int .i64 a0_0,.slice A0_1 l0_1.length c0_1],.slice A1 l1.length c1] rfl (by (try simp only [List.map_toArray,List.map_cons,List.map_nil]);rfl) ?_;(with_reducible refine (impl_FlowOk.calls k a0_0 _ _ l0_1 _ _ l1 true _ ?side1 ?side2 ?side3 ?side4 A3.out).mono ?_);(case side1=>exact (Kd.C_below HR0_1.out HB.out));(case side2=>exact HC0_1.out);(case side3=>exact (Kd.C_below HR1.out HB.out));(case side4=>exact HC1.out);rintro e w9 ⟨rfl,hb⟩;refine ⟨_,rfl,?_⟩;have n0_:=am_ (blk_below BK383.out hb);have n1_:=am_ (below_step HB.out hb);clear BK383 HB;have BK383:=n0_;have HB:=n1_;clear n0_ n1_;(try clear hb);have hcz10_0 : w9.cell? ⟨gb383,0,none⟩ = some (.int .i64 a0_0):=(blk_cell BK383.out 0).trans rfl;have hcz10_1 : w9.cell? ⟨gb383,1,none⟩ = some (.slice A0_1 l0_1.length c0_1):=(blk_cell BK383.out 1).trans rfl;have hfz10_0:=blk_frozen BK383.out 0;have hfz10_1:=blk_frozen BK383.out 1)|((with_reducible refine gate_callee (f:=54) rfl ?_);refine goesL_ (some 11) rfl rfl Try.func54 (by kernel_rfl) rfl #[.agg #[.int .i64 a0_0,.slice A0_1 l0_1.length c0_1],.slice A1 l1.length c1] rfl (by (try simp only [List.map_toArray,List.map_cons,List.map_nil]);rfl) ?_;(with_reducible refine (impl_excess.calls k a0_0 _ _ l0_1 _ _ l1 t385 _ ?side1 ?side2 ?side3 ?side4 A5.out).mono ?_);(case side1=>exact (Kd.C_below HR0_1.out HB.out));(case side2=>exact HC0_1.out);(case side3=>exact (Kd.C_below HR1.out HB.out));(case side4=>exact HC1.out);rintro e w11 ⟨v386,rfl,ho0,hb⟩;refine ⟨_,rfl,?_⟩;have n0_:=am_ (Kd.R_lower ho0 (below_size HB.out));have n1_:=am_ (blk_below BK383.out hb);have n2_:=am_ (below_step HB.out hb);clear BK383 HB;have HO387:=n0_;have BK383:=n1_;have HB:=n2_;clear n0_ n1_ n2_;(try clear hb);(try clear ho0);obtain ⟨Ao12,co12,eo12⟩:=Kd.R_slice HO387.out;subst eo12;have p388 : 0 ≤ (0 : Int):=(by omega);have q388 : 0 < (t385.length : Int):=of_decide_eq_true (by (with_reducible assumption));obtain ⟨ad388,e388,hx388_0⟩:=Kd.at_int (Kd.R_reads' HO387.out).2.2 0 p388 q388;cases e388;have qi388 : (0 < t385.length) = True:=eq_true (by omega);(try rw [show ((0 : Int)).toNat = 0 from rfl] at hx388_0);(try rw [Addr.add_zero'] at hx388_0);replace p388:=eq_true p388;replace q388:=eq_true q388))
   go_ret
   exact ⟨by rfl,by exact HB.out⟩
  rw [if_neg c6] at H
  exact absurd H (by simp)
 replace c4:=Bool.eq_false_iff.mpr c4
 subst c4
 have H1 : (some (-1)) = some r:=by rw [if_neg (show ¬ (false = true) by decide)] at H;exact H
 clear H
 have H:=H1
 clear H1
 obtain rfl:=Option.some.inj H
 go_enter Try.func33,Try.ntmps33
 go_wp2_with (first|((with_reducible refine gate_dst (N:=2) rfl ?_);refine box_event ?hg (N:=2) ?hd (cs:=#[.int .i64 a0_0,.slice A0_1 l0_1.length c0_1]) (t:=30) ?hr ?_;(case hd=>rfl);(case hg=>rfl);(case hr=>(go_simp;done));intro gb383 hg w13 hbox hb;have n0_:=am_ (below_step HB.out hb);have n1_:=am_ (hbox);have n2_:=am_ ((by rw [hg];exact (below_size HB.out) : w.heap.size ≤ gb383));have n3_:=n2_;clear HB;have HB:=n0_;have BK383:=n1_;have GW383:=n2_;have GE383:=n3_;clear n0_ n1_ n2_ n3_ hb hbox hg;have hcz14_0 : w13.cell? ⟨gb383,0,none⟩ = some (.int .i64 a0_0):=(blk_cell BK383.out 0).trans rfl;have hcz14_1 : w13.cell? ⟨gb383,1,none⟩ = some (.slice A0_1 l0_1.length c0_1):=(blk_cell BK383.out 1).trans rfl;have hfz14_0:=blk_frozen BK383.out 0;have hfz14_1:=blk_frozen BK383.out 1)|((with_reducible refine gate_callee (f:=31) rfl ?_);refine goesL_ (some 7) rfl rfl Try.func31 (by kernel_rfl) rfl #[.agg #[.int .i64 a0_0,.slice A0_1 l0_1.length c0_1],.slice A1 l1.length c1] rfl (by (try simp only [List.map_toArray,List.map_cons,List.map_nil]);rfl) ?_;(with_reducible refine (impl_FlowOk.calls k a0_0 _ _ l0_1 _ _ l1 false _ ?side1 ?side2 ?side3 ?side4 A3.out).mono ?_);(case side1=>exact (Kd.C_below HR0_1.out HB.out));(case side2=>exact HC0_1.out);(case side3=>exact (Kd.C_below HR1.out HB.out));(case side4=>exact HC1.out);rintro e w15 ⟨rfl,hb⟩;refine ⟨_,rfl,?_⟩;have n0_:=am_ (blk_below BK383.out hb);have n1_:=am_ (below_step HB.out hb);clear BK383 HB;have BK383:=n0_;have HB:=n1_;clear n0_ n1_;(try clear hb)))
 go_ret
 exact ⟨by rfl,by exact HB.out⟩

/-! ### impl_FlowCost: function 35 -/
def impl_FlowCost.f (k : Nat) (a0_0 : Int) (l0_1 : List (S67)) (l1 : List Int) : Option (Int):=(impl_FlowOk.f k a0_0 l0_1 l1).bind fun t400=>(if t400 = true then ((impl_costOf.f k a0_0 l0_1 l1).bind fun t401=>(some t401)) else (some (-1)))
theorem impl_FlowCost.mono : ∀ a0 a1 a2 k,LeO (impl_FlowCost.f k a0 a1 a2) (impl_FlowCost.f (k + 1) a0 a1 a2):=by
 intro a0 a1 a2 k
 unfold impl_FlowCost.f
 repeat' first
   | (with_reducible exact impl_FlowOk.mono _ _ _ _)
   | (with_reducible exact impl_costOf.mono _ _ _ _)
   | (with_reducible exact LeO.refl _)
   | (with_reducible refine LeO.ite ?_ ?_)
   | (with_reducible refine LeO.bind ?_ (fun _ => ?_))
set_option maxHeartbeats 8000000 in
set_option maxRecDepth 100000 in
theorem impl_FlowCost.calls (k : Nat) (a0_0 : Int) (A0_1 : Option Addr) (c0_1 : Nat) (l0_1 : List (S67)) (A1 : Option Addr) (c1 : Nat) (l1 : List Int) (r : Int) (w : World) (hr0_1 : Kd.C k67 w A0_1 l0_1.length l0_1) (hc0_1 : l0_1.length ≤ c0_1) (hr1 : Kd.C (Kd.int .i64) w A1 l1.length l1) (hc1 : l1.length ≤ c1) (h : impl_FlowCost.f k a0_0 l0_1 l1 = some r) :
  Calls Try.prog 35 #[.agg #[.int .i64 a0_0,.slice A0_1 l0_1.length c0_1],.slice A1 l1.length c1] w fun e w'=>e = .returned (.int .i64 r) ∧ Below w.heap.size w w':=by
 have hu30:=Try.underlying30
 have HR0_1:=am_ hr0_1
 have HC0_1:=am_ hc0_1
 clear hr0_1 hc0_1
 have HR1:=am_ hr1
 have HC1:=am_ hc1
 clear hr1 hc1
 have HB:=am_ (Below.refl w.heap.size w)
 have H : ((impl_FlowOk.f k a0_0 l0_1 l1).bind fun t400=>(if t400 = true then ((impl_costOf.f k a0_0 l0_1 l1).bind fun t401=>(some t401)) else (some (-1)))) = some r:=h
 clear h
 replace H:=Option.bind_eq_some_iff.mp H
 obtain ⟨t400,A30,H⟩:=H
 replace H : (if t400 = true then ((impl_costOf.f k a0_0 l0_1 l1).bind fun t401=>(some t401)) else (some (-1))) = some r:=H
 have A3:=am_ A30
 clear A30
 by_cases c4 : t400 = true
 ·subst c4
  have H1 : ((impl_costOf.f k a0_0 l0_1 l1).bind fun t401=>(some t401)) = some r:=by rw [if_pos rfl] at H;exact H
  clear H
  have H:=H1
  clear H1
  replace H:=Option.bind_eq_some_iff.mp H
  obtain ⟨t401,A50,H⟩:=H
  replace H : (some t401) = some r:=H
  have A5:=am_ A50
  clear A50
  obtain rfl:=Option.some.inj H
  go_enter Try.func35,Try.ntmps35
  go_wp2_with (first|((with_reducible refine gate_dst (N:=2) rfl ?_);refine box_event ?hg (N:=2) ?hd (cs:=#[.int .i64 a0_0,.slice A0_1 l0_1.length c0_1]) (t:=30) ?hr ?_;(case hd=>rfl);(case hg=>rfl);(case hr=>(go_simp;done));intro gb399 hg w6 hbox hb;have n0_:=am_ (below_step HB.out hb);have n1_:=am_ (hbox);have n2_:=am_ ((by rw [hg];exact (below_size HB.out) : w.heap.size ≤ gb399));have n3_:=n2_;clear HB;have HB:=n0_;have BK399:=n1_;have GW399:=n2_;have GE399:=n3_;clear n0_ n1_ n2_ n3_ hb hbox hg;have hcz7_0 : w6.cell? ⟨gb399,0,none⟩ = some (.int .i64 a0_0):=(blk_cell BK399.out 0).trans rfl;have hcz7_1 : w6.cell? ⟨gb399,1,none⟩ = some (.slice A0_1 l0_1.length c0_1):=(blk_cell BK399.out 1).trans rfl;have hfz7_0:=blk_frozen BK399.out 0;have hfz7_1:=blk_frozen BK399.out 1)|((with_reducible refine gate_callee (f:=31) rfl ?_);refine goesL_ (some 7) rfl rfl Try.func31 (by kernel_rfl) rfl #[.agg #[.int .i64 a0_0,.slice A0_1 l0_1.length c0_1],.slice A1 l1.length c1] rfl (by (try simp only [List.map_toArray,List.map_cons,List.map_nil]);rfl) ?_;(with_reducible refine (impl_FlowOk.calls k a0_0 _ _ l0_1 _ _ l1 true _ ?side1 ?side2 ?side3 ?side4 A3.out).mono ?_);(case side1=>exact (Kd.C_below HR0_1.out HB.out));(case side2=>exact HC0_1.out);(case side3=>exact (Kd.C_below HR1.out HB.out));(case side4=>exact HC1.out);rintro e w8 ⟨rfl,hb⟩;refine ⟨_,rfl,?_⟩;have n0_:=am_ (blk_below BK399.out hb);have n1_:=am_ (below_step HB.out hb);clear BK399 HB;have BK399:=n0_;have HB:=n1_;clear n0_ n1_;(try clear hb);have hcz9_0 : w8.cell? ⟨gb399,0,none⟩ = some (.int .i64 a0_0):=(blk_cell BK399.out 0).trans rfl;have hcz9_1 : w8.cell? ⟨gb399,1,none⟩ = some (.slice A0_1 l0_1.length c0_1):=(blk_cell BK399.out 1).trans rfl;have hfz9_0:=blk_frozen BK399.out 0;have hfz9_1:=blk_frozen BK399.out 1)|((with_reducible refine gate_callee (f:=64) rfl ?_);refine goesL_ (some 11) rfl rfl Try.func64 (by kernel_rfl) rfl #[.agg #[.int .i64 a0_0,.slice A0_1 l0_1.length c0_1],.slice A1 l1.length c1] rfl (by (try simp only [List.map_toArray,List.map_cons,List.map_nil]);rfl) ?_;(with_reducible refine (impl_costOf.calls k a0_0 _ _ l0_1 _ _ l1 t401 _ ?side1 ?side2 ?side3 ?side4 A5.out).mono ?_);(case side1=>exact (Kd.C_below HR0_1.out HB.out));(case side2=>exact HC0_1.out);(case side3=>exact (Kd.C_below HR1.out HB.out));(case side4=>exact HC1.out);rintro e w10 ⟨rfl,hb⟩;refine ⟨_,rfl,?_⟩;have n0_:=am_ (blk_below BK399.out hb);have n1_:=am_ (below_step HB.out hb);clear BK399 HB;have BK399:=n0_;have HB:=n1_;clear n0_ n1_;(try clear hb)))
  go_ret
  exact ⟨by rfl,by exact HB.out⟩
 replace c4:=Bool.eq_false_iff.mpr c4
 subst c4
 have H1 : (some (-1)) = some r:=by rw [if_neg (show ¬ (false = true) by decide)] at H;exact H
 clear H
 have H:=H1
 clear H1
 obtain rfl:=Option.some.inj H
 go_enter Try.func35,Try.ntmps35
 go_wp2_with (first|((with_reducible refine gate_dst (N:=2) rfl ?_);refine box_event ?hg (N:=2) ?hd (cs:=#[.int .i64 a0_0,.slice A0_1 l0_1.length c0_1]) (t:=30) ?hr ?_;(case hd=>rfl);(case hg=>rfl);(case hr=>(go_simp;done));intro gb399 hg w11 hbox hb;have n0_:=am_ (below_step HB.out hb);have n1_:=am_ (hbox);have n2_:=am_ ((by rw [hg];exact (below_size HB.out) : w.heap.size ≤ gb399));have n3_:=n2_;clear HB;have HB:=n0_;have BK399:=n1_;have GW399:=n2_;have GE399:=n3_;clear n0_ n1_ n2_ n3_ hb hbox hg;have hcz12_0 : w11.cell? ⟨gb399,0,none⟩ = some (.int .i64 a0_0):=(blk_cell BK399.out 0).trans rfl;have hcz12_1 : w11.cell? ⟨gb399,1,none⟩ = some (.slice A0_1 l0_1.length c0_1):=(blk_cell BK399.out 1).trans rfl;have hfz12_0:=blk_frozen BK399.out 0;have hfz12_1:=blk_frozen BK399.out 1)|((with_reducible refine gate_callee (f:=31) rfl ?_);refine goesL_ (some 7) rfl rfl Try.func31 (by kernel_rfl) rfl #[.agg #[.int .i64 a0_0,.slice A0_1 l0_1.length c0_1],.slice A1 l1.length c1] rfl (by (try simp only [List.map_toArray,List.map_cons,List.map_nil]);rfl) ?_;(with_reducible refine (impl_FlowOk.calls k a0_0 _ _ l0_1 _ _ l1 false _ ?side1 ?side2 ?side3 ?side4 A3.out).mono ?_);(case side1=>exact (Kd.C_below HR0_1.out HB.out));(case side2=>exact HC0_1.out);(case side3=>exact (Kd.C_below HR1.out HB.out));(case side4=>exact HC1.out);rintro e w13 ⟨rfl,hb⟩;refine ⟨_,rfl,?_⟩;have n0_:=am_ (blk_below BK399.out hb);have n1_:=am_ (below_step HB.out hb);clear BK399 HB;have BK399:=n0_;have HB:=n1_;clear n0_ n1_;(try clear hb)))
 go_ret
 exact ⟨by rfl,by exact HB.out⟩

/-- A state of type 95 at block g of W; what its slices lead to came in by w0. -/
def IsS95 (w0 W : World) (g : Nat) (f0 : List Int) (f1 : Int) (f2 : Int) : Prop:=∃ A0 c0,W.heap[g]? = some (.cells #[.slice A0 f0.length c0,.int .i64 f1,.int .i64 f2] 95 (0,0)) ∧ w0.heap.size ≤ g ∧ Kd.C (Kd.int .u8) w0 A0 f0.length f0
theorem IsS95.grown {w0 W : World} {g : Nat} {f0 : List Int} {f1 : Int} {f2 : Int} {W1 : World} {row : Option Nat} (h : IsS95 w0 W g f0 f1 f2) (hw : W.grownBy W1 row) (hne : some g ≠ row) : IsS95 w0 W1 g f0 f1 f2:=by
  obtain ⟨A0,c0,hb,hg,hr0⟩:=h
  exact ⟨A0,c0,blk_grown hb hw hne,hg,hr0⟩
theorem IsS95.own_neN {w0 W : World} {g : Nat} {f0 : List Int} {f1 : Int} {f2 : Int} {α : Type} {d : Kd α} {e : Nat} {base : Nat} {ok : Nat → Prop} {v : Value} {xs : List α} (h : IsS95 w0 W g f0 f1 f2) (ho : Kd.N d e W base ok v xs) (ht : e ≠ 95) : some g ≠ v.ownBlock:=by
  obtain ⟨A0,c0,hb,hg,hr0⟩:=h
  exact Kd.N_ne ho hb ht
theorem IsS95.fresh {w0 W : World} {g : Nat} {f0 : List Int} {f1 : Int} {f2 : Int} (h : IsS95 w0 W g f0 f1 f2) : ∀ k,W.heap.size ≤ k → k ≠ g:=by
  obtain ⟨A0,c0,hb,hg,hr0⟩:=h
  exact Kd.freshB hb
theorem IsS95.kept {w0 W : World} {g : Nat} {f0 : List Int} {f1 : Int} {f2 : Int} {W1 : World} {S : Nat → Prop} (h : IsS95 w0 W g f0 f1 f2) (hk : Kept W W1 S) (hne : ¬ S g) : IsS95 w0 W1 g f0 f1 f2:=by
  obtain ⟨A0,c0,hb,hg,hr0⟩:=h
  exact ⟨A0,c0,blk_kept hb hk hne,hg,hr0⟩
theorem IsS95.below {w0 W : World} {g : Nat} {f0 : List Int} {f1 : Int} {f2 : Int} {W1 : World} (h : IsS95 w0 W g f0 f1 f2) (hw : Below W.heap.size W W1) : IsS95 w0 W1 g f0 f1 f2:=h.grown (grown_of_below hw none) (by simp)
theorem IsS95.alloc {w0 W : World} {g : Nat} {f0 : List Int} {f1 : Int} {f2 : Int} (h : IsS95 w0 W g f0 f1 f2) (o : Obj) : IsS95 w0 (W.alloc o) g f0 f1 f2:=h.below (below_alloc (Below.refl _ _) o)
theorem IsS95.drewN {w0 W : World} {g : Nat} {f0 : List Int} {f1 : Int} {f2 : Int} (h : IsS95 w0 W g f0 f1 f2) (m : Nat) : IsS95 w0 (W.drewN m) g f0 f1 f2:=h
theorem IsS95.drew {w0 W : World} {g : Nat} {f0 : List Int} {f1 : Int} {f2 : Int} (h : IsS95 w0 W g f0 f1 f2) : IsS95 w0 W.drew g f0 f1 f2:=h
theorem IsS95.at_ {w0 W : World} {g : Nat} {f0 : List Int} {f1 : Int} {f2 : Int} {w' : World} {m : Nat} (hq : W.drewN m = w') (h : IsS95 w0 W g f0 f1 f2) : IsS95 w0 w' g f0 f1 f2:=by subst hq;exact IsS95.drewN h m
theorem IsS95.apart {w0 W : World} {g : Nat} {f0 : List Int} {f1 : Int} {f2 : Int} {α : Type} {d : Kd α} {e : Nat} {base : Nat} {ok : Nat → Prop} {v : Value} {xs : List α} (h : IsS95 w0 W g f0 f1 f2) (ho : d.R e W base ok v xs) (ht : ∀ q,q ∈ e :: d.E → q ≠ 95) : d.R e W base (fun k=>ok k ∧ k ≠ g) v xs:=by
  obtain ⟨A0,c0,hb,hg,hr0⟩:=h
  exact Kd.R_types ho hb ht
theorem IsS95.own_ne {w0 W : World} {g : Nat} {f0 : List Int} {f1 : Int} {f2 : Int} {α : Type} {d : Kd α} {e : Nat} {base : Nat} {ok : Nat → Prop} {v : Value} {xs : List α} (h : IsS95 w0 W g f0 f1 f2) (ho : d.R e W base ok v xs) (ht : e ≠ 95) : some g ≠ v.ownBlock:=by
  obtain ⟨A0,c0,hb,hg,hr0⟩:=h
  exact Kd.R_ne ho hb ht
theorem IsS95.apartQ {w0 W : World} {g : Nat} {f0 : List Int} {f1 : Int} {f2 : Int} {α : Type} {d : Kd α} {e : Nat} {base : Nat} {ok : Nat → Prop} {v : Value} {xs : List α} (h : IsS95 w0 W g f0 f1 f2) (ho : d.Q e W base ok v xs) (ht : ∀ q,q ∈ e :: d.E → q ≠ 95) : d.Q e W base (fun k=>ok k ∧ k ≠ g) v xs:=by
  obtain ⟨A0,c0,hb,hg,hr0⟩:=h
  exact Kd.Q_types ho hb ht
theorem IsS95.own_neQ {w0 W : World} {g : Nat} {f0 : List Int} {f1 : Int} {f2 : Int} {α : Type} {d : Kd α} {e : Nat} {base : Nat} {ok : Nat → Prop} {v : Value} {xs : List α} (h : IsS95 w0 W g f0 f1 f2) (ho : d.Q e W base ok v xs) (ht : e ≠ 95) : some g ≠ v.ownBlock:=by
  obtain ⟨A0,c0,hb,hg,hr0⟩:=h
  exact Kd.Q_ne ho hb ht
theorem IsS95.apartS {w0 W : World} {g : Nat} {f0 : List Int} {f1 : Int} {f2 : Int} {α : Type} {d : Kd α} {e : Nat} {base : Nat} {ok : Nat → Prop} {v : Value} {xs : List α} (h : IsS95 w0 W g f0 f1 f2) (ho : d.S e W base ok v xs) (ht : ∀ q,q ∈ e :: d.E → q ≠ 95) : d.S e W base (fun k=>ok k ∧ k ≠ g) v xs:=by
  obtain ⟨A0,c0,hb,hg,hr0⟩:=h
  exact Kd.S_types ho hb ht
theorem IsS95.own_neS {w0 W : World} {g : Nat} {f0 : List Int} {f1 : Int} {f2 : Int} {α : Type} {d : Kd α} {e : Nat} {base : Nat} {ok : Nat → Prop} {v : Value} {xs : List α} (h : IsS95 w0 W g f0 f1 f2) (ho : d.S e W base ok v xs) (ht : e ≠ 95) : some g ≠ v.ownBlock:=by
  obtain ⟨A0,c0,hb,hg,hr0⟩:=h
  exact Kd.S_ne ho hb ht
theorem IsS95.lt {w0 W : World} {g : Nat} {f0 : List Int} {f1 : Int} {f2 : Int} (h : IsS95 w0 W g f0 f1 f2) : g < W.heap.size:=by
  obtain ⟨A0,c0,hb,hg,hr0⟩:=h
  exact blk_lt hb
theorem IsS95.ge {w0 W : World} {g : Nat} {f0 : List Int} {f1 : Int} {f2 : Int} (h : IsS95 w0 W g f0 f1 f2) : w0.heap.size ≤ g:=by
  obtain ⟨A0,c0,hb,hg,hr0⟩:=h
  exact hg
theorem IsS95.ne_blk {w0 W : World} {g : Nat} {f0 : List Int} {f1 : Int} {f2 : Int} {a : Nat} {cs : Array Value} {t : TypeId} {fr : Nat × Nat} (h : IsS95 w0 W g f0 f1 f2) (hb2 : W.heap[a]? = some (.cells cs t fr)) (ht : t ≠ 95) : g ≠ a:=by
  obtain ⟨A0,c0,hb,hg,hr0⟩:=h
  rintro rfl
  rw [hb] at hb2
  injection hb2 with hb2
  injection hb2 with _ ht2
  exact ht ht2.symm
theorem IsS95.far {w0 W : World} {g : Nat} {f0 : List Int} {f1 : Int} {f2 : Int} {p : Addr} (h : IsS95 w0 W g f0 f1 f2) (hne : g ≠ p.block) (u : Value) : IsS95 w0 (W.setCell p u) g f0 f1 f2:=by
  obtain ⟨A0,c0,hb,hg,hr0⟩:=h
  exact ⟨A0,c0,blk_far hb hne u,hg,hr0⟩
theorem cellS95_0 {W : World} {g : Nat} {A0 : Option Addr} {c0 : Nat} {f0 : List Int} {f1 : Int} {f2 : Int} (h : W.heap[g]? = some (.cells #[.slice A0 f0.length c0,.int .i64 f1,.int .i64 f2] 95 (0,0))) : W.cell? ⟨g,0,none⟩ = some (.slice A0 f0.length c0):=(blk_cell h 0).trans rfl
theorem cellS95_1 {W : World} {g : Nat} {A0 : Option Addr} {c0 : Nat} {f0 : List Int} {f1 : Int} {f2 : Int} (h : W.heap[g]? = some (.cells #[.slice A0 f0.length c0,.int .i64 f1,.int .i64 f2] 95 (0,0))) : W.cell? ⟨g,1,none⟩ = some (.int .i64 f1):=(blk_cell h 1).trans rfl
theorem IsS95.set_1 {w0 W : World} {g : Nat} {f0 : List Int} {f1 : Int} {f2 : Int} (h : IsS95 w0 W g f0 f1 f2) (x : Int) : IsS95 w0 (W.setCell ⟨g,1,none⟩ (.int .i64 x)) g f0 x f2:=by
  obtain ⟨A0,c0,hb,hg,hr0⟩:=h
  exact ⟨A0,c0,by simpa using blk_set hb 1 (.int .i64 x),hg,hr0⟩
theorem cellS95_2 {W : World} {g : Nat} {A0 : Option Addr} {c0 : Nat} {f0 : List Int} {f1 : Int} {f2 : Int} (h : W.heap[g]? = some (.cells #[.slice A0 f0.length c0,.int .i64 f1,.int .i64 f2] 95 (0,0))) : W.cell? ⟨g,2,none⟩ = some (.int .i64 f2):=(blk_cell h 2).trans rfl
theorem IsS95.set_2 {w0 W : World} {g : Nat} {f0 : List Int} {f1 : Int} {f2 : Int} (h : IsS95 w0 W g f0 f1 f2) (x : Int) : IsS95 w0 (W.setCell ⟨g,2,none⟩ (.int .i64 x)) g f0 f1 x:=by
  obtain ⟨A0,c0,hb,hg,hr0⟩:=h
  exact ⟨A0,c0,by simpa using blk_set hb 2 (.int .i64 x),hg,hr0⟩
theorem IsS95.new (w0 W : World) (A0 : Option Addr) (c0 : Nat) (f0 : List Int) (f1 : Int) (f2 : Int) (hB : Below w0.heap.size w0 W) (hr0 : Kd.C (Kd.int .u8) w0 A0 f0.length f0) : IsS95 w0 (W.alloc (.cells #[.slice A0 f0.length c0,.int .i64 f1,.int .i64 f2] 95)) W.heap.size f0 f1 f2:=⟨A0,c0,by simpa using heap_alloc_new W _,hB.size,hr0⟩

/-! ### spec_l01New: function 59 -/
def spec_l01New.l0 : Nat → List Int → Int → Int → Option (List Int × Int × Int)
 | 0, _, _, _ => none
 | k + 1, x0, x3, x4 => if x4 < (x0.length : Int) then (if x4 < 4000 then (if 0 ≤ x4 then (spec_l01New.l0 k x0 (Go.bits .and .i64 (wrap64 ((wrap64 ((wrap64 (x3 * 131)) + (wrap64 (rd x0 x4)))) + 7)) 1073741823) (wrap64 (x4 + 1))) else (none)) else (some (x0, 0, x3))) else (some (x0, 0, x3))
def spec_l01New.f (k : Nat) (l0 : List Int) : Option (List Int × Int × Int):=spec_l01New.l0 k l0 (wrap64 (94701 + (l0.length : Int))) 0
theorem spec_l01New.mono_l : ∀ k,(∀ y0 y1 y2,LeO (spec_l01New.l0 k y0 y1 y2) (spec_l01New.l0 (k + 1) y0 y1 y2))
 | 0 => fun _ _ _ r h => by simp [spec_l01New.l0] at h
 | k + 1 => by
  have ih0:=spec_l01New.mono_l k
  ·intro y0 y1 y2
   unfold spec_l01New.l0
   repeat' first
   | (with_reducible exact ih0 _ _ _)
   | (with_reducible exact LeO.refl _)
   | (with_reducible refine LeO.ite ?_ ?_)
theorem spec_l01New.mono : ∀ a0 k,LeO (spec_l01New.f k a0) (spec_l01New.f (k + 1) a0):=by
 intro a0 k
 have ih0:=spec_l01New.mono_l k
 unfold spec_l01New.f
 repeat' first
   | (with_reducible exact ih0 _ _ _)
set_option maxHeartbeats 8000000 in
set_option maxRecDepth 100000 in
theorem spec_l01New.calls (k : Nat) (A0 : Option Addr) (c0 : Nat) (l0 : List Int) (r1 : List Int) (r2 : Int) (r3 : Int) (w0 w : World) (hB : Below w0.heap.size w0 w) (hr0 : Kd.C (Kd.int .u8) w0 A0 l0.length l0) (hc0 : l0.length ≤ c0) (h : spec_l01New.f k l0 = some (r1,r2,r3)) :
  Calls Try.prog 59 #[.slice A0 l0.length c0] w fun e w'=>∃ g_ : Nat,e = .returned (.pointer (some ⟨g_,0,none⟩)) ∧ IsS95 w0 w' g_ r1 r2 r3 ∧ Below w0.heap.size w0 w' ∧ Below w.heap.size w w':=by
 have hu95:=Try.underlying95
 have HR0:=am_ hr0
 have HC0:=am_ hc0
 clear hr0 hc0
 have HBW:=am_ (Below.refl w.heap.size w)
 have HW0:=am_ hB.size
 have HB:=am_ hB
 clear hB
 have H : (spec_l01New.l0 k l0 (wrap64 (94701 + (l0.length : Int))) 0) = some (r1,r2,r3):=h
 clear h
 have H':=am_ H
 clear H
 go_enter Try.func59,Try.ntmps59
 go_wp2
 go_loopg [3,4] k (fun kq v3 v4 w'=>∃ (x3_1 : Int) (x4_1 : Int),v3 = .int .i64 x3_1 ∧ v4 = .int .i64 x4_1 ∧ Aside0 (spec_l01New.l0 kq l0 x3_1 x4_1 = some (r1,r2,r3)) ∧ Aside0 (kq ≤ k) ∧ Aside0 (Below w.heap.size w w') ∧ Aside0 (Below w0.heap.size w0 w'))
 case atStart=>exact ⟨(wrap64 (94701 + (l0.length : Int))),(0),(by rfl),(by rfl),H',⟨Nat.le_refl _⟩,⟨by exact HBW.out⟩,⟨by exact HB.out⟩⟩
 case round =>
  clear H'
  obtain ⟨x3_1,x4_1,rfl,rfl,HA,HK1,HBW2,HB⟩:=hrel
  clear HBW
  have HBW:=HBW2
  clear HBW2
  cases gk with
  | zero => exact absurd HA.out (by simp [spec_l01New.l0])
  | succ k1 =>
   have H:=HA.out
   clear HA
   simp only [spec_l01New.l0] at H
   by_cases c2 : x4_1 < (l0.length : Int)
   rotate_left
   ·rw [if_neg c2] at H
    have c2b0 : decide (x4_1 < (l0.length : Int)) = false:=decide_eq_false c2
    clear c2
    simp only [Option.some.injEq,Prod.mk.injEq] at H
    obtain ⟨rfl,rfl,rfl⟩:=H
    go_wp2_with (((with_reducible refine gate_dst (N:=31) rfl ?_);refine box_event ?hg (N:=31) ?hd (cs:=#[.slice A0 l0.length c0,.int .i64 0,.int .i64 x3_1]) (t:=95) ?hr ?_;(case hd=>rfl);(case hg=>rfl);(case hr=>(go_simp;done));intro gb310 hg w6 hbox hb;have n0_:=am_ (below_step HBW.out hb);have n1_:=am_ (below_step HB.out hb);have n2_:=am_ (hbox);have n3_:=am_ ((by rw [hg];exact (below_size HBW.out) : w.heap.size ≤ gb310));have n4_:=am_ ((Nat.le_trans HW0.out (by rw [hg];exact (below_size HBW.out) : w.heap.size ≤ gb310) : w0.heap.size ≤ gb310));clear HBW HB;have HBW:=n0_;have HB:=n1_;have BK310:=n2_;have GW310:=n3_;have GE310:=n4_;clear n0_ n1_ n2_ n3_ n4_ hb hbox hg))
    go_ret
    exact ⟨_,rfl,(show IsS95 w0 _ gb310 l0 0 x3_1 from ⟨_,_,by exact BK310.out,GE310.out,HR0.out⟩),by exact HB.out,by exact HBW.out⟩
   rw [if_pos c2] at H
   have c2b0 : decide (x4_1 < (l0.length : Int)) = true:=decide_eq_true c2
   clear c2
   by_cases c3 : x4_1 < 4000
   rotate_left
   ·rw [if_neg c3] at H
    have c3b0 : decide (x4_1 < 4000) = false:=decide_eq_false c3
    clear c3
    simp only [Option.some.injEq,Prod.mk.injEq] at H
    obtain ⟨rfl,rfl,rfl⟩:=H
    go_wp2_with (((with_reducible refine gate_dst (N:=31) rfl ?_);refine box_event ?hg (N:=31) ?hd (cs:=#[.slice A0 l0.length c0,.int .i64 0,.int .i64 x3_1]) (t:=95) ?hr ?_;(case hd=>rfl);(case hg=>rfl);(case hr=>(go_simp;done));intro gb309 hg w5 hbox hb;have n0_:=am_ (below_step HBW.out hb);have n1_:=am_ (below_step HB.out hb);have n2_:=am_ (hbox);have n3_:=am_ ((by rw [hg];exact (below_size HBW.out) : w.heap.size ≤ gb309));have n4_:=am_ ((Nat.le_trans HW0.out (by rw [hg];exact (below_size HBW.out) : w.heap.size ≤ gb309) : w0.heap.size ≤ gb309));clear HBW HB;have HBW:=n0_;have HB:=n1_;have BK309:=n2_;have GW309:=n3_;have GE309:=n4_;clear n0_ n1_ n2_ n3_ n4_ hb hbox hg))
    go_ret
    exact ⟨_,rfl,(show IsS95 w0 _ gb309 l0 0 x3_1 from ⟨_,_,by exact BK309.out,GE309.out,HR0.out⟩),by exact HB.out,by exact HBW.out⟩
   rw [if_pos c3] at H
   have c3b0 : decide (x4_1 < 4000) = true:=decide_eq_true c3
   clear c3
   by_cases c4 : 0 ≤ x4_1
   rotate_left
   ·rw [if_neg c4] at H
    exact absurd H (by simp)
   rw [if_pos c4] at H
   have c4b0 : decide (0 ≤ x4_1) = true:=decide_eq_true c4
   clear c4
   have H':=am_ H
   clear H
   have p308 : 0 ≤ (x4_1 : Int):=of_decide_eq_true (by (with_reducible assumption))
   have q308 : x4_1 < (l0.length : Int):=of_decide_eq_true (by (with_reducible assumption))
   obtain ⟨ad308,e308,hx308_0⟩:=Kd.at_int HR0.out x4_1 p308 q308
   cases e308
   replace hx308_0:=pw_cell_below HB.out hx308_0
   replace p308:=eq_true p308
   replace q308:=eq_true q308
   go_wp2
   go_roundg k1
   case measure=>have:=HK1.out;omega
   case rel=>exact ⟨(Go.bits .and .i64 (wrap64 ((wrap64 ((wrap64 (x3_1 * 131)) + (wrap64 (rd l0 x4_1)))) + 7)) 1073741823),(wrap64 (x4_1 + 1)),(by rfl),(by rfl),H',⟨by have:=HK1.out;omega⟩,⟨by exact HBW.out⟩,⟨by exact HB.out⟩⟩

end Go.Proofs.Ytgkpgigoonhgdaa.PFnCheapest
