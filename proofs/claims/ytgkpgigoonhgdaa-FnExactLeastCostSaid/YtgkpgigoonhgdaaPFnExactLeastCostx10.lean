-- Made by the session's wip/pp.py, a changed call of the kit's printer; Lean checks it.
import Derived.Test.YtgkpgigoonhgdaaPFnExactLeastCostx0
namespace Go.Proofs.Ytgkpgigoonhgdaa.PFnExactLeastCost
open Go.RowKit Go.Proofs.YtgkpgigoonhgdaaW.PrintWords Go.Proofs.YtgkpgigoonhgdaaW.PrintLast Go.Proofs.YtgkpgigoonhgdaaW.PrintMore
attribute [local go_sem] max2_int min2_int max_two min_two max_three min_three max_four min_four   -- for this text's walks alone
set_option linter.unusedVariables false
set_option linter.unusedSimpArgs false

/-! ### impl_step_length: function 67 -/
def impl_step_length.f (a0_0 : Int) (a0_1 : Bool) (a1_0 : Int) (l1_1 : List (S67)) : Option (Int):=if 0 ≤ a0_0 then (if a0_0 < (l1_1.length : Int) then (if a0_1 = true then (some (wrap64 (1 - (wrap64 (10000 * ((rd_T67 l1_1 a0_0).f3)))))) else (some (wrap64 ((wrap64 (10000 * ((rd_T67 l1_1 a0_0).f3))) + 1)))) else (none)) else (none)
set_option maxHeartbeats 8000000 in
set_option maxRecDepth 100000 in
theorem impl_step_length.calls (a0_0 : Int) (a0_1 : Bool) (a1_0 : Int) (A1_1 : Option Addr) (c1_1 : Nat) (l1_1 : List (S67)) (r : Int) (w : World) (hr1_1 : Kd.C k67 w A1_1 l1_1.length l1_1) (hc1_1 : l1_1.length ≤ c1_1) (h : impl_step_length.f a0_0 a0_1 a1_0 l1_1 = some r) :
  Calls Try.prog 67 #[.agg #[.int .i64 a0_0,.bool a0_1],.agg #[.int .i64 a1_0,.slice A1_1 l1_1.length c1_1]] w fun e w'=>e = .returned (.int .i64 r) ∧ Below w.heap.size w w':=by
 have hu79:=Try.underlying79
 have hu30:=Try.underlying30
 have HR1_1:=am_ hr1_1
 have HC1_1:=am_ hc1_1
 clear hr1_1 hc1_1
 have HB:=am_ (Below.refl w.heap.size w)
 have H : (if 0 ≤ a0_0 then (if a0_0 < (l1_1.length : Int) then (if a0_1 = true then (some (wrap64 (1 - (wrap64 (10000 * ((rd_T67 l1_1 a0_0).f3)))))) else (some (wrap64 ((wrap64 (10000 * ((rd_T67 l1_1 a0_0).f3))) + 1)))) else (none)) else (none)) = some r:=h
 clear h
 by_cases c3 : 0 ≤ a0_0
 rotate_left
 ·rw [if_neg c3] at H
  exact absurd H (by simp)
 rw [if_pos c3] at H
 have c3b0 : decide (0 ≤ a0_0) = true:=decide_eq_true c3
 clear c3
 by_cases c4 : a0_0 < (l1_1.length : Int)
 rotate_left
 ·rw [if_neg c4] at H
  exact absurd H (by simp)
 rw [if_pos c4] at H
 have c4b0 : decide (a0_0 < (l1_1.length : Int)) = true:=decide_eq_true c4
 clear c4
 by_cases c5 : a0_1 = true
 ·subst c5
  have H1 : (some (wrap64 (1 - (wrap64 (10000 * ((rd_T67 l1_1 a0_0).f3)))))) = some r:=by rw [if_pos rfl] at H;exact H
  clear H
  have H:=H1
  clear H1
  obtain rfl:=Option.some.inj H
  go_enter Try.func67,Try.ntmps67
  go_wp2_with (first|((with_reducible refine gate_dst (N:=2) rfl ?_);refine box_event ?hg (N:=2) ?hd (cs:=#[.int .i64 a0_0,.bool true]) (t:=79) ?hr ?_;(case hd=>rfl);(case hg=>rfl);(case hr=>(go_simp;done));intro gb281 hg w6 hbox hb;have n0_:=am_ (below_step HB.out hb);have n1_:=am_ (hbox);have n2_:=am_ ((by rw [hg];exact (below_size HB.out) : w.heap.size ≤ gb281));have n3_:=n2_;clear HB;have HB:=n0_;have BK281:=n1_;have GW281:=n2_;have GE281:=n3_;clear n0_ n1_ n2_ n3_ hb hbox hg)|((with_reducible refine gate_dst (N:=3) rfl ?_);refine box_event ?hg (N:=3) ?hd (cs:=#[.int .i64 a1_0,.slice A1_1 l1_1.length c1_1]) (t:=30) ?hr ?_;(case hd=>rfl);(case hg=>rfl);(case hr=>(go_simp;done));intro gb282 hg w7 hbox hb;have n0_:=am_ (blk_below BK281.out hb);have n1_:=am_ (below_step HB.out hb);have n2_:=am_ (hbox);have n3_:=am_ ((by rw [hg];exact (below_size HB.out) : w.heap.size ≤ gb282));have n4_:=n3_;have n5_:=am_ ((by rw [hg];exact Nat.ne_of_lt (blk_lt (g:=gb281) (o:=.cells #[.int .i64 a0_0,.bool true] 79 (0,0)) BK281.out) : gb281 ≠ gb282));have n6_:=am_ ((by rw [hg];exact Nat.ne_of_gt (blk_lt (g:=gb281) (o:=.cells #[.int .i64 a0_0,.bool true] 79 (0,0)) BK281.out) : gb282 ≠ gb281));clear BK281 HB;have BK281:=n0_;have HB:=n1_;have BK282:=n2_;have GW282:=n3_;have GE282:=n4_;have NB281_282:=n5_;have NB282_281:=n6_;clear n0_ n1_ n2_ n3_ n4_ n5_ n6_ hb hbox hg;have hnb8:=NB282_281.out;have hnc8:=NB281_282.out;have hcz9_0 : w7.cell? ⟨gb282,0,none⟩ = some (.int .i64 a1_0):=(blk_cell BK282.out 0).trans rfl;have hcz9_1 : w7.cell? ⟨gb282,1,none⟩ = some (.slice A1_1 l1_1.length c1_1):=(blk_cell BK282.out 1).trans rfl;have hfz9_0:=blk_frozen BK282.out 0;have hfz9_1:=blk_frozen BK282.out 1;have hcz10_0 : w7.cell? ⟨gb281,0,none⟩ = some (.int .i64 a0_0):=(blk_cell BK281.out 0).trans rfl;have hcz10_1 : w7.cell? ⟨gb281,1,none⟩ = some (.bool true):=(blk_cell BK281.out 1).trans rfl;have hfz10_0:=blk_frozen BK281.out 0;have hfz10_1:=blk_frozen BK281.out 1;have p283 : 0 ≤ (a0_0 : Int):=of_decide_eq_true (by (with_reducible assumption));have q283 : a0_0 < (l1_1.length : Int):=of_decide_eq_true (by (with_reducible assumption));obtain ⟨ad283,e283,hx283_0,hx283_1,hx283_2,hx283_3⟩:=at_T67 HR1_1.out a0_0 p283 q283;cases e283;replace hx283_0:=kc_ HB.out hx283_0;replace hx283_1:=kc_ HB.out hx283_1;replace hx283_2:=kc_ HB.out hx283_2;replace hx283_3:=kc_ HB.out hx283_3;replace p283:=eq_true p283;replace q283:=eq_true q283))
  go_ret
  exact ⟨by rfl,by exact HB.out⟩
 replace c5:=Bool.eq_false_iff.mpr c5
 subst c5
 have H1 : (some (wrap64 ((wrap64 (10000 * ((rd_T67 l1_1 a0_0).f3))) + 1))) = some r:=by rw [if_neg (show ¬ (false = true) by decide)] at H;exact H
 clear H
 have H:=H1
 clear H1
 obtain rfl:=Option.some.inj H
 go_enter Try.func67,Try.ntmps67
 go_wp2_with (first|((with_reducible refine gate_dst (N:=2) rfl ?_);refine box_event ?hg (N:=2) ?hd (cs:=#[.int .i64 a0_0,.bool false]) (t:=79) ?hr ?_;(case hd=>rfl);(case hg=>rfl);(case hr=>(go_simp;done));intro gb281 hg w11 hbox hb;have n0_:=am_ (below_step HB.out hb);have n1_:=am_ (hbox);have n2_:=am_ ((by rw [hg];exact (below_size HB.out) : w.heap.size ≤ gb281));have n3_:=n2_;clear HB;have HB:=n0_;have BK281:=n1_;have GW281:=n2_;have GE281:=n3_;clear n0_ n1_ n2_ n3_ hb hbox hg)|((with_reducible refine gate_dst (N:=3) rfl ?_);refine box_event ?hg (N:=3) ?hd (cs:=#[.int .i64 a1_0,.slice A1_1 l1_1.length c1_1]) (t:=30) ?hr ?_;(case hd=>rfl);(case hg=>rfl);(case hr=>(go_simp;done));intro gb282 hg w12 hbox hb;have n0_:=am_ (blk_below BK281.out hb);have n1_:=am_ (below_step HB.out hb);have n2_:=am_ (hbox);have n3_:=am_ ((by rw [hg];exact (below_size HB.out) : w.heap.size ≤ gb282));have n4_:=n3_;have n5_:=am_ ((by rw [hg];exact Nat.ne_of_lt (blk_lt (g:=gb281) (o:=.cells #[.int .i64 a0_0,.bool false] 79 (0,0)) BK281.out) : gb281 ≠ gb282));have n6_:=am_ ((by rw [hg];exact Nat.ne_of_gt (blk_lt (g:=gb281) (o:=.cells #[.int .i64 a0_0,.bool false] 79 (0,0)) BK281.out) : gb282 ≠ gb281));clear BK281 HB;have BK281:=n0_;have HB:=n1_;have BK282:=n2_;have GW282:=n3_;have GE282:=n4_;have NB281_282:=n5_;have NB282_281:=n6_;clear n0_ n1_ n2_ n3_ n4_ n5_ n6_ hb hbox hg;have hnb13:=NB282_281.out;have hnc13:=NB281_282.out;have hcz14_0 : w12.cell? ⟨gb282,0,none⟩ = some (.int .i64 a1_0):=(blk_cell BK282.out 0).trans rfl;have hcz14_1 : w12.cell? ⟨gb282,1,none⟩ = some (.slice A1_1 l1_1.length c1_1):=(blk_cell BK282.out 1).trans rfl;have hfz14_0:=blk_frozen BK282.out 0;have hfz14_1:=blk_frozen BK282.out 1;have hcz15_0 : w12.cell? ⟨gb281,0,none⟩ = some (.int .i64 a0_0):=(blk_cell BK281.out 0).trans rfl;have hcz15_1 : w12.cell? ⟨gb281,1,none⟩ = some (.bool false):=(blk_cell BK281.out 1).trans rfl;have hfz15_0:=blk_frozen BK281.out 0;have hfz15_1:=blk_frozen BK281.out 1;have p283 : 0 ≤ (a0_0 : Int):=of_decide_eq_true (by (with_reducible assumption));have q283 : a0_0 < (l1_1.length : Int):=of_decide_eq_true (by (with_reducible assumption));obtain ⟨ad283,e283,hx283_0,hx283_1,hx283_2,hx283_3⟩:=at_T67 HR1_1.out a0_0 p283 q283;cases e283;replace hx283_0:=kc_ HB.out hx283_0;replace hx283_1:=kc_ HB.out hx283_1;replace hx283_2:=kc_ HB.out hx283_2;replace hx283_3:=kc_ HB.out hx283_3;replace p283:=eq_true p283;replace q283:=eq_true q283))
 go_ret
 exact ⟨by rfl,by exact HB.out⟩

end Go.Proofs.Ytgkpgigoonhgdaa.PFnExactLeastCost
