-- Made by the session's wip/pp.py, a changed call of the kit's printer; Lean checks it.
import Derived.Test.YtgkpgigoonhgdaaPFnCheapestx0
namespace Go.Proofs.Ytgkpgigoonhgdaa.PFnCheapest
open Go.RowKit Go.Proofs.YtgkpgigoonhgdaaW.PrintWords Go.Proofs.YtgkpgigoonhgdaaW.PrintLast Go.Proofs.YtgkpgigoonhgdaaW.PrintMore
attribute [local go_sem] max2_int min2_int max_two min_two max_three min_three max_four min_four   -- for this text's walks alone
set_option linter.unusedVariables false
set_option linter.unusedSimpArgs false


/-! ### impl_costOf: function 64 -/
def impl_costOf.l0 : Nat → List Int → Int → List (S67) → Int → Int → Option (Int)
 | 0, _, _, _, _, _ => none
 | k + 1, x1, x5, x9, x10, x11 => if x11 < x10 then (if 0 ≤ x11 then (if x11 < (x9.length : Int) then (if x11 < (x1.length : Int) then (impl_costOf.l0 k x1 (wrap64 (x5 + (wrap64 ((rd x1 x11) * ((rd_T67 x9 x11).f3))))) x9 x10 (wrap64 (x11 + 1))) else (none)) else (none)) else (none)) else (some x5)
def impl_costOf.f (k : Nat) (a0_0 : Int) (l0_1 : List (S67)) (l1 : List Int) : Option (Int):=impl_costOf.l0 k l1 0 l0_1 (l0_1.length : Int) 0
theorem impl_costOf.mono_l : ∀ k,(∀ y0 y1 y2 y3 y4,LeO (impl_costOf.l0 k y0 y1 y2 y3 y4) (impl_costOf.l0 (k + 1) y0 y1 y2 y3 y4))
 | 0 => fun _ _ _ _ _ r h => by simp [impl_costOf.l0] at h
 | k + 1 => by
  have ih0:=impl_costOf.mono_l k
  ·intro y0 y1 y2 y3 y4
   unfold impl_costOf.l0
   repeat' first
   | (with_reducible exact ih0 _ _ _ _ _)
   | (with_reducible exact LeO.refl _)
   | (with_reducible refine LeO.ite ?_ ?_)
theorem impl_costOf.mono : ∀ a0 a1 a2 k,LeO (impl_costOf.f k a0 a1 a2) (impl_costOf.f (k + 1) a0 a1 a2):=by
 intro a0 a1 a2 k
 have ih0:=impl_costOf.mono_l k
 unfold impl_costOf.f
 repeat' first
   | (with_reducible exact ih0 _ _ _ _ _)
set_option maxHeartbeats 8000000 in
set_option maxRecDepth 100000 in
theorem impl_costOf.calls (k : Nat) (a0_0 : Int) (A0_1 : Option Addr) (c0_1 : Nat) (l0_1 : List (S67)) (A1 : Option Addr) (c1 : Nat) (l1 : List Int) (r : Int) (w : World) (hr0_1 : Kd.C k67 w A0_1 l0_1.length l0_1) (hc0_1 : l0_1.length ≤ c0_1) (hr1 : Kd.C (Kd.int .i64) w A1 l1.length l1) (hc1 : l1.length ≤ c1) (h : impl_costOf.f k a0_0 l0_1 l1 = some r) :
  Calls Try.prog 64 #[.agg #[.int .i64 a0_0,.slice A0_1 l0_1.length c0_1],.slice A1 l1.length c1] w fun e w'=>e = .returned (.int .i64 r) ∧ Below w.heap.size w w':=by
 have hu30:=Try.underlying30
 have hu67:=Try.underlying67
 have HR0_1:=am_ hr0_1
 have HC0_1:=am_ hc0_1
 clear hr0_1 hc0_1
 have HR1:=am_ hr1
 have HC1:=am_ hc1
 clear hr1 hc1
 have HB:=am_ (Below.refl w.heap.size w)
 have H : (impl_costOf.l0 k l1 0 l0_1 (l0_1.length : Int) 0) = some r:=h
 clear h
 have H':=am_ H
 clear H
 go_enter Try.func64,Try.ntmps64
 go_wp2_with (((with_reducible refine gate_dst (N:=2) rfl ?_);refine box_event ?hg (N:=2) ?hd (cs:=#[.int .i64 a0_0,.slice A0_1 l0_1.length c0_1]) (t:=30) ?hr ?_;(case hd=>rfl);(case hg=>rfl);(case hr=>(go_simp;done));intro gb395 hg w3 hbox hb;have n0_:=am_ (below_step HB.out hb);have n1_:=am_ (hbox);have n2_:=am_ ((by rw [hg];exact (below_size HB.out) : w.heap.size ≤ gb395));have n3_:=n2_;clear HB;have HB:=n0_;have BK395:=n1_;have GW395:=n2_;have GE395:=n3_;clear n0_ n1_ n2_ n3_ hb hbox hg;have hcz4_0 : w3.cell? ⟨gb395,0,none⟩ = some (.int .i64 a0_0):=(blk_cell BK395.out 0).trans rfl;have hcz4_1 : w3.cell? ⟨gb395,1,none⟩ = some (.slice A0_1 l0_1.length c0_1):=(blk_cell BK395.out 1).trans rfl;have hfz4_0:=blk_frozen BK395.out 0;have hfz4_1:=blk_frozen BK395.out 1))
 repeat (go_quiet (fail);try go_wp2_with (fail))
 go_loopg [5,11] k (fun kq v5 v11 w'=>∃ (x5_1 : Int) (x11_1 : Int),v5 = .int .i64 x5_1 ∧ v11 = .int .i64 x11_1 ∧ Aside0 (impl_costOf.l0 kq l1 x5_1 l0_1 (l0_1.length : Int) x11_1 = some r) ∧ Aside0 (kq ≤ k) ∧ Aside0 (w'.heap[gb395]? = some (.cells #[.int .i64 a0_0,(.slice A0_1 l0_1.length c0_1)] 30 (0,0))) ∧ Aside0 (Below w.heap.size w w'))
 case atStart=>exact ⟨(0),(0),(by rfl),(by rfl),H',⟨Nat.le_refl _⟩,⟨by exact BK395.out⟩,⟨by exact HB.out⟩⟩
 case round =>
  clear H'
  try clear c1
  try clear p2
  try clear hcz4_0
  try clear hcz4_1
  try clear hfz4_0
  try clear hfz4_1
  obtain ⟨x5_1,x11_1,rfl,rfl,HA,HK1,BK395,HB⟩:=hrel
  cases gk with
  | zero => exact absurd HA.out (by simp [impl_costOf.l0])
  | succ k1 =>
   have H:=HA.out
   clear HA
   simp only [impl_costOf.l0] at H
   by_cases c5 : x11_1 < (l0_1.length : Int)
   rotate_left
   ·rw [if_neg c5] at H
    have c5b0 : decide (x11_1 < (l0_1.length : Int)) = false:=decide_eq_false c5
    clear c5
    obtain rfl:=Option.some.inj H
    go_wp2
    repeat (go_quiet (fail);try go_wp2)
    go_ret
    exact ⟨by rfl,by exact HB.out⟩
   rw [if_pos c5] at H
   have c5b0 : decide (x11_1 < (l0_1.length : Int)) = true:=decide_eq_true c5
   clear c5
   by_cases c6 : 0 ≤ x11_1
   rotate_left
   ·rw [if_neg c6] at H
    exact absurd H (by simp)
   rw [if_pos c6] at H
   have c6b0 : decide (0 ≤ x11_1) = true:=decide_eq_true c6
   clear c6
   by_cases c7 : x11_1 < (l0_1.length : Int)
   rotate_left
   ·rw [if_neg c7] at H
    exact absurd H (by simp)
   rw [if_pos c7] at H
   have c7b0 : decide (x11_1 < (l0_1.length : Int)) = true:=decide_eq_true c7
   clear c7
   by_cases c8 : x11_1 < (l1.length : Int)
   rotate_left
   ·rw [if_neg c8] at H
    exact absurd H (by simp)
   rw [if_pos c8] at H
   have c8b0 : decide (x11_1 < (l1.length : Int)) = true:=decide_eq_true c8
   clear c8
   have H':=am_ H
   clear H
   have p396 : 0 ≤ (x11_1 : Int):=of_decide_eq_true (by (with_reducible assumption))
   have q396 : x11_1 < (l0_1.length : Int):=of_decide_eq_true (by (with_reducible assumption))
   obtain ⟨ad396,e396,hx396_0,hx396_1,hx396_2,hx396_3⟩:=at_T67 HR0_1.out x11_1 p396 q396
   cases e396
   replace hx396_0:=kc_ HB.out hx396_0
   replace hx396_1:=kc_ HB.out hx396_1
   replace hx396_2:=kc_ HB.out hx396_2
   replace hx396_3:=kc_ HB.out hx396_3
   replace p396:=eq_true p396
   replace q396:=eq_true q396
   go_wp2_with (((with_reducible refine gate_dst (N:=7) rfl ?_);refine box_event ?hg (N:=7) ?hd (cs:=#[.int .i64 0,.int .i64 0,.int .i64 0,.int .i64 0]) (t:=67) ?hr ?_;(case hd=>rfl);(case hg=>rfl);(case hr=>(go_simp;done));intro gb397 hg w9 hbox hb;have n0_:=am_ (blk_below BK395.out hb);have n1_:=am_ (below_step HB.out hb);have n2_:=am_ (hbox);have n3_:=am_ ((by rw [hg];exact (below_size HB.out) : w.heap.size ≤ gb397));have n4_:=n3_;have n5_:=am_ ((by rw [hg];exact Nat.ne_of_lt (blk_lt (g:=gb395) (o:=.cells #[.int .i64 a0_0,.slice (some ad396) l0_1.length c0_1] 30 (0,0)) BK395.out) : gb395 ≠ gb397));have n6_:=am_ ((by rw [hg];exact Nat.ne_of_gt (blk_lt (g:=gb395) (o:=.cells #[.int .i64 a0_0,.slice (some ad396) l0_1.length c0_1] 30 (0,0)) BK395.out) : gb397 ≠ gb395));clear BK395 HB;have BK395:=n0_;have HB:=n1_;have BK397:=n2_;have GW397:=n3_;have GE397:=n4_;have NB395_397:=n5_;have NB397_395:=n6_;clear n0_ n1_ n2_ n3_ n4_ n5_ n6_ hb hbox hg;have hnb10:=NB397_395.out;have hnc10:=NB395_397.out;have hcz11_0 : w9.cell? ⟨gb397,0,none⟩ = some (.int .i64 0):=(blk_cell BK397.out 0).trans rfl;have hcz11_1 : w9.cell? ⟨gb397,1,none⟩ = some (.int .i64 0):=(blk_cell BK397.out 1).trans rfl;have hcz11_2 : w9.cell? ⟨gb397,2,none⟩ = some (.int .i64 0):=(blk_cell BK397.out 2).trans rfl;have hcz11_3 : w9.cell? ⟨gb397,3,none⟩ = some (.int .i64 0):=(blk_cell BK397.out 3).trans rfl;have hfz11_0:=blk_frozen BK397.out 0;have hfz11_1:=blk_frozen BK397.out 1;have hfz11_2:=blk_frozen BK397.out 2;have hfz11_3:=blk_frozen BK397.out 3;have p398 : 0 ≤ (x11_1 : Int):=of_decide_eq_true (by (with_reducible assumption));have q398 : x11_1 < (l1.length : Int):=of_decide_eq_true (by (with_reducible assumption));obtain ⟨ad398,e398,hx398_0⟩:=Kd.at_int HR1.out x11_1 p398 q398;cases e398;have hn398_0 : ad398.block ≠ gb397:=Nat.ne_of_lt (Nat.lt_of_lt_of_le (by have:=World.block_lt_of_cell? _ _ hx398_0;rwa [add_block] at this) GW397.out);have hn398_1 : ad398.block ≠ gb397:=Nat.ne_of_lt (Nat.lt_of_lt_of_le (by have:=World.block_lt_of_cell? _ _ hx398_0;rwa [add_block] at this) GW397.out);have hn398_2 : ad398.block ≠ gb397:=Nat.ne_of_lt (Nat.lt_of_lt_of_le (by have:=World.block_lt_of_cell? _ _ hx398_0;rwa [add_block] at this) GW397.out);have hn398_3 : ad398.block ≠ gb397:=Nat.ne_of_lt (Nat.lt_of_lt_of_le (by have:=World.block_lt_of_cell? _ _ hx398_0;rwa [add_block] at this) GW397.out);replace hx398_0:=kc_ HB.out hx398_0;replace hx398_0:=(cell_far (p:=⟨gb397,0,none⟩) (by (rw [add_block];exact hn398_0)) (.int .i64 ((rd_T67 l0_1 x11_1).f0))).trans hx398_0;replace hx398_0:=(cell_far (p:=⟨gb397,1,none⟩) (by (rw [add_block];exact hn398_1)) (.int .i64 ((rd_T67 l0_1 x11_1).f1))).trans hx398_0;replace hx398_0:=(cell_far (p:=⟨gb397,2,none⟩) (by (rw [add_block];exact hn398_2)) (.int .i64 ((rd_T67 l0_1 x11_1).f2))).trans hx398_0;replace hx398_0:=(cell_far (p:=⟨gb397,3,none⟩) (by (rw [add_block];exact hn398_3)) (.int .i64 ((rd_T67 l0_1 x11_1).f3))).trans hx398_0;(try have hy398_0:=fun (n_ : Nat)=>(show ((((((w9.drewN n_).setCell ⟨gb397,0,none⟩ (.int .i64 ((rd_T67 l0_1 x11_1).f0))).setCell ⟨gb397,1,none⟩ (.int .i64 ((rd_T67 l0_1 x11_1).f1))).setCell ⟨gb397,2,none⟩ (.int .i64 ((rd_T67 l0_1 x11_1).f2))).setCell ⟨gb397,3,none⟩ (.int .i64 ((rd_T67 l0_1 x11_1).f3)))).cell? _ = some _ from hx398_0));clear hn398_0 hn398_1 hn398_2 hn398_3;replace p398:=eq_true p398;replace q398:=eq_true q398))
   repeat (go_quiet (fail);try go_wp2_with (fail))
   go_roundg k1
   case measure=>have:=HK1.out;omega
   case rel=>exact ⟨(wrap64 (x5_1 + (wrap64 ((rd l1 x11_1) * ((rd_T67 l0_1 x11_1).f3))))),(wrap64 (x11_1 + 1)),(by rfl),(by rfl),H',⟨by have:=HK1.out;omega⟩,⟨by (with_reducible repeat (refine blk_drewN ?_ _));refine blk_far ?_ NB395_397.out _;refine blk_far ?_ NB395_397.out _;refine blk_far ?_ NB395_397.out _;refine blk_far ?_ NB395_397.out _;exact BK395.out⟩,⟨by repeat ((with_reducible first|exact HB.out|apply pw_below_drewN|refine below_set ?_ GE397.out))⟩⟩

/-! ### impl_step_length: function 67 -/
def impl_step_length.f (a0_0 : Int) (a0_1 : Bool) (a1_0 : Int) (l1_1 : List (S67)) : Option (Int):=if 0 ≤ a0_0 then (if a0_0 < (l1_1.length : Int) then (if a0_1 = true then (some (wrap64 (1 - (wrap64 (10000 * ((rd_T67 l1_1 a0_0).f3)))))) else (some (wrap64 ((wrap64 (10000 * ((rd_T67 l1_1 a0_0).f3))) + 1)))) else (none)) else (none)
set_option maxHeartbeats 8000000 in
set_option maxRecDepth 100000 in
theorem impl_step_length.calls (a0_0 : Int) (a0_1 : Bool) (a1_0 : Int) (A1_1 : Option Addr) (c1_1 : Nat) (l1_1 : List (S67)) (r : Int) (w : World) (hr1_1 : Kd.C k67 w A1_1 l1_1.length l1_1) (hc1_1 : l1_1.length ≤ c1_1) (h : impl_step_length.f a0_0 a0_1 a1_0 l1_1 = some r) :
  Calls Try.prog 67 #[.agg #[.int .i64 a0_0,.bool a0_1],.agg #[.int .i64 a1_0,.slice A1_1 l1_1.length c1_1]] w fun e w'=>e = .returned (.int .i64 r) ∧ Below w.heap.size w w':=by
 have hu79:=Try.underlying79
 have hu30:=Try.underlying30
 have HR1_1:=am_ hr1_1
 have HC1_1:=am_ hc1_1
 clear hr1_1 hc1_1
 have HB:=am_ (Below.refl w.heap.size w)
 have H : (if 0 ≤ a0_0 then (if a0_0 < (l1_1.length : Int) then (if a0_1 = true then (some (wrap64 (1 - (wrap64 (10000 * ((rd_T67 l1_1 a0_0).f3)))))) else (some (wrap64 ((wrap64 (10000 * ((rd_T67 l1_1 a0_0).f3))) + 1)))) else (none)) else (none)) = some r:=h
 clear h
 by_cases c3 : 0 ≤ a0_0
 rotate_left
 ·rw [if_neg c3] at H
  exact absurd H (by simp)
 rw [if_pos c3] at H
 have c3b0 : decide (0 ≤ a0_0) = true:=decide_eq_true c3
 clear c3
 by_cases c4 : a0_0 < (l1_1.length : Int)
 rotate_left
 ·rw [if_neg c4] at H
  exact absurd H (by simp)
 rw [if_pos c4] at H
 have c4b0 : decide (a0_0 < (l1_1.length : Int)) = true:=decide_eq_true c4
 clear c4
 by_cases c5 : a0_1 = true
 ·subst c5
  have H1 : (some (wrap64 (1 - (wrap64 (10000 * ((rd_T67 l1_1 a0_0).f3)))))) = some r:=by rw [if_pos rfl] at H;exact H
  clear H
  have H:=H1
  clear H1
  obtain rfl:=Option.some.inj H
  go_enter Try.func67,Try.ntmps67
  go_wp2_with (first|((with_reducible refine gate_dst (N:=2) rfl ?_);refine box_event ?hg (N:=2) ?hd (cs:=#[.int .i64 a0_0,.bool true]) (t:=79) ?hr ?_;(case hd=>rfl);(case hg=>rfl);(case hr=>(go_simp;done));intro gb281 hg w6 hbox hb;have n0_:=am_ (below_step HB.out hb);have n1_:=am_ (hbox);have n2_:=am_ ((by rw [hg];exact (below_size HB.out) : w.heap.size ≤ gb281));have n3_:=n2_;clear HB;have HB:=n0_;have BK281:=n1_;have GW281:=n2_;have GE281:=n3_;clear n0_ n1_ n2_ n3_ hb hbox hg)|((with_reducible refine gate_dst (N:=3) rfl ?_);refine box_event ?hg (N:=3) ?hd (cs:=#[.int .i64 a1_0,.slice A1_1 l1_1.length c1_1]) (t:=30) ?hr ?_;(case hd=>rfl);(case hg=>rfl);(case hr=>(go_simp;done));intro gb282 hg w7 hbox hb;have n0_:=am_ (blk_below BK281.out hb);have n1_:=am_ (below_step HB.out hb);have n2_:=am_ (hbox);have n3_:=am_ ((by rw [hg];exact (below_size HB.out) : w.heap.size ≤ gb282));have n4_:=n3_;have n5_:=am_ ((by rw [hg];exact Nat.ne_of_lt (blk_lt (g:=gb281) (o:=.cells #[.int .i64 a0_0,.bool true] 79 (0,0)) BK281.out) : gb281 ≠ gb282));have n6_:=am_ ((by rw [hg];exact Nat.ne_of_gt (blk_lt (g:=gb281) (o:=.cells #[.int .i64 a0_0,.bool true] 79 (0,0)) BK281.out) : gb282 ≠ gb281));clear BK281 HB;have BK281:=n0_;have HB:=n1_;have BK282:=n2_;have GW282:=n3_;have GE282:=n4_;have NB281_282:=n5_;have NB282_281:=n6_;clear n0_ n1_ n2_ n3_ n4_ n5_ n6_ hb hbox hg;have hnb8:=NB282_281.out;have hnc8:=NB281_282.out;have hcz9_0 : w7.cell? ⟨gb282,0,none⟩ = some (.int .i64 a1_0):=(blk_cell BK282.out 0).trans rfl;have hcz9_1 : w7.cell? ⟨gb282,1,none⟩ = some (.slice A1_1 l1_1.length c1_1):=(blk_cell BK282.out 1).trans rfl;have hfz9_0:=blk_frozen BK282.out 0;have hfz9_1:=blk_frozen BK282.out 1;have hcz10_0 : w7.cell? ⟨gb281,0,none⟩ = some (.int .i64 a0_0):=(blk_cell BK281.out 0).trans rfl;have hcz10_1 : w7.cell? ⟨gb281,1,none⟩ = some (.bool true):=(blk_cell BK281.out 1).trans rfl;have hfz10_0:=blk_frozen BK281.out 0;have hfz10_1:=blk_frozen BK281.out 1;have p283 : 0 ≤ (a0_0 : Int):=of_decide_eq_true (by (with_reducible assumption));have q283 : a0_0 < (l1_1.length : Int):=of_decide_eq_true (by (with_reducible assumption));obtain ⟨ad283,e283,hx283_0,hx283_1,hx283_2,hx283_3⟩:=at_T67 HR1_1.out a0_0 p283 q283;cases e283;replace hx283_0:=kc_ HB.out hx283_0;replace hx283_1:=kc_ HB.out hx283_1;replace hx283_2:=kc_ HB.out hx283_2;replace hx283_3:=kc_ HB.out hx283_3;replace p283:=eq_true p283;replace q283:=eq_true q283))
  go_ret
  exact ⟨by rfl,by exact HB.out⟩
 replace c5:=Bool.eq_false_iff.mpr c5
 subst c5
 have H1 : (some (wrap64 ((wrap64 (10000 * ((rd_T67 l1_1 a0_0).f3))) + 1))) = some r:=by rw [if_neg (show ¬ (false = true) by decide)] at H;exact H
 clear H
 have H:=H1
 clear H1
 obtain rfl:=Option.some.inj H
 go_enter Try.func67,Try.ntmps67
 go_wp2_with (first|((with_reducible refine gate_dst (N:=2) rfl ?_);refine box_event ?hg (N:=2) ?hd (cs:=#[.int .i64 a0_0,.bool false]) (t:=79) ?hr ?_;(case hd=>rfl);(case hg=>rfl);(case hr=>(go_simp;done));intro gb281 hg w11 hbox hb;have n0_:=am_ (below_step HB.out hb);have n1_:=am_ (hbox);have n2_:=am_ ((by rw [hg];exact (below_size HB.out) : w.heap.size ≤ gb281));have n3_:=n2_;clear HB;have HB:=n0_;have BK281:=n1_;have GW281:=n2_;have GE281:=n3_;clear n0_ n1_ n2_ n3_ hb hbox hg)|((with_reducible refine gate_dst (N:=3) rfl ?_);refine box_event ?hg (N:=3) ?hd (cs:=#[.int .i64 a1_0,.slice A1_1 l1_1.length c1_1]) (t:=30) ?hr ?_;(case hd=>rfl);(case hg=>rfl);(case hr=>(go_simp;done));intro gb282 hg w12 hbox hb;have n0_:=am_ (blk_below BK281.out hb);have n1_:=am_ (below_step HB.out hb);have n2_:=am_ (hbox);have n3_:=am_ ((by rw [hg];exact (below_size HB.out) : w.heap.size ≤ gb282));have n4_:=n3_;have n5_:=am_ ((by rw [hg];exact Nat.ne_of_lt (blk_lt (g:=gb281) (o:=.cells #[.int .i64 a0_0,.bool false] 79 (0,0)) BK281.out) : gb281 ≠ gb282));have n6_:=am_ ((by rw [hg];exact Nat.ne_of_gt (blk_lt (g:=gb281) (o:=.cells #[.int .i64 a0_0,.bool false] 79 (0,0)) BK281.out) : gb282 ≠ gb281));clear BK281 HB;have BK281:=n0_;have HB:=n1_;have BK282:=n2_;have GW282:=n3_;have GE282:=n4_;have NB281_282:=n5_;have NB282_281:=n6_;clear n0_ n1_ n2_ n3_ n4_ n5_ n6_ hb hbox hg;have hnb13:=NB282_281.out;have hnc13:=NB281_282.out;have hcz14_0 : w12.cell? ⟨gb282,0,none⟩ = some (.int .i64 a1_0):=(blk_cell BK282.out 0).trans rfl;have hcz14_1 : w12.cell? ⟨gb282,1,none⟩ = some (.slice A1_1 l1_1.length c1_1):=(blk_cell BK282.out 1).trans rfl;have hfz14_0:=blk_frozen BK282.out 0;have hfz14_1:=blk_frozen BK282.out 1;have hcz15_0 : w12.cell? ⟨gb281,0,none⟩ = some (.int .i64 a0_0):=(blk_cell BK281.out 0).trans rfl;have hcz15_1 : w12.cell? ⟨gb281,1,none⟩ = some (.bool false):=(blk_cell BK281.out 1).trans rfl;have hfz15_0:=blk_frozen BK281.out 0;have hfz15_1:=blk_frozen BK281.out 1;have p283 : 0 ≤ (a0_0 : Int):=of_decide_eq_true (by (with_reducible assumption));have q283 : a0_0 < (l1_1.length : Int):=of_decide_eq_true (by (with_reducible assumption));obtain ⟨ad283,e283,hx283_0,hx283_1,hx283_2,hx283_3⟩:=at_T67 HR1_1.out a0_0 p283 q283;cases e283;replace hx283_0:=kc_ HB.out hx283_0;replace hx283_1:=kc_ HB.out hx283_1;replace hx283_2:=kc_ HB.out hx283_2;replace hx283_3:=kc_ HB.out hx283_3;replace p283:=eq_true p283;replace q283:=eq_true q283))
 go_ret
 exact ⟨by rfl,by exact HB.out⟩

end Go.Proofs.Ytgkpgigoonhgdaa.PFnCheapest
