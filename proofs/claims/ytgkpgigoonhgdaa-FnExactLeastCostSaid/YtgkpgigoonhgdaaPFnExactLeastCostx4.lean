-- Made by the session's wip/pp.py, a changed call of the kit's printer; Lean checks it.
import Derived.Test.YtgkpgigoonhgdaaPFnExactLeastCostx0
namespace Go.Proofs.Ytgkpgigoonhgdaa.PFnExactLeastCost
open Go.RowKit Go.Proofs.YtgkpgigoonhgdaaW.PrintWords Go.Proofs.YtgkpgigoonhgdaaW.PrintLast Go.Proofs.YtgkpgigoonhgdaaW.PrintMore
attribute [local go_sem] max2_int min2_int max_two min_two max_three min_three max_four min_four   -- for this text's walks alone
set_option linter.unusedVariables false
set_option linter.unusedSimpArgs false

/-! ### spec_l08Back: function 72 -/
mutual
def spec_l08Back.l0 : Nat → List Int → List Int → Int → Int → Int → List (S67) → Option (Int)
 | 0, _, _, _, _, _, _ => none
 | k + 1, x1, x2, x3, x9, x163000, x163001 => if x9 < (x1.length : Int) then (if 0 ≤ x9 then (if x9 < (x163001.length : Int) then (if ((rd_T67 x163001 x9).f1) = x3 then (if (rd x1 x9) < ((rd_T67 x163001 x9).f2) then (if 0 ≤ ((rd_T67 x163001 x9).f0) then (if ((rd_T67 x163001 x9).f0) < (x2.length : Int) then (if (rd x2 ((rd_T67 x163001 x9).f0)) < 1152921504606846976 then (if 0 ≤ x3 then (if x3 < (x2.length : Int) then (spec_l08Back.j1 k x1 x2 x3 x9 (wrap64 (10000 * ((rd_T67 x163001 x9).f3))) ((wrap64 ((wrap64 ((rd x2 ((rd_T67 x163001 x9).f0)) + (wrap64 (10000 * ((rd_T67 x163001 x9).f3))))) + 1)) == (rd x2 x3)) x163000 x163001 ((rd_T67 x163001 x9).f0) ((rd_T67 x163001 x9).f1) ((rd_T67 x163001 x9).f2) ((rd_T67 x163001 x9).f3)) else (none)) else (none)) else (spec_l08Back.j1 k x1 x2 x3 x9 (wrap64 (10000 * ((rd_T67 x163001 x9).f3))) false x163000 x163001 ((rd_T67 x163001 x9).f0) ((rd_T67 x163001 x9).f1) ((rd_T67 x163001 x9).f2) ((rd_T67 x163001 x9).f3))) else (none)) else (none)) else (spec_l08Back.j1 k x1 x2 x3 x9 (wrap64 (10000 * ((rd_T67 x163001 x9).f3))) false x163000 x163001 ((rd_T67 x163001 x9).f0) ((rd_T67 x163001 x9).f1) ((rd_T67 x163001 x9).f2) ((rd_T67 x163001 x9).f3))) else (spec_l08Back.j1 k x1 x2 x3 x9 (wrap64 (10000 * ((rd_T67 x163001 x9).f3))) false x163000 x163001 ((rd_T67 x163001 x9).f0) ((rd_T67 x163001 x9).f1) ((rd_T67 x163001 x9).f2) ((rd_T67 x163001 x9).f3))) else (none)) else (none)) else (some 0)
def spec_l08Back.j1 : Nat → List Int → List Int → Int → Int → Int → Bool → Int → List (S67) → Int → Int → Int → Int → Option (Int)
 | 0, _, _, _, _, _, _, _, _, _, _, _, _ => none
 | k + 1, x1, x2, x3, x9, x11, x61, x163000, x163001, x165000, x165001, x165002, x165003 => if x61 = true then (some (wrap64 (x9 + 1))) else (if x165000 = x3 then (if 0 ≤ x9 then (if x9 < (x1.length : Int) then (if (rd x1 x9) > 0 then (if 0 ≤ x165001 then (if x165001 < (x2.length : Int) then (if (rd x2 x165001) < 1152921504606846976 then (if 0 ≤ x3 then (if x3 < (x2.length : Int) then (if (wrap64 ((wrap64 ((rd x2 x165001) - x11)) + 1)) = (rd x2 x3) then (some (wrap64 ((wrap64 (-x9)) - 1))) else (spec_l08Back.l0 k x1 x2 x3 (wrap64 (x9 + 1)) x163000 x163001)) else (none)) else (none)) else (spec_l08Back.l0 k x1 x2 x3 (wrap64 (x9 + 1)) x163000 x163001)) else (none)) else (none)) else (spec_l08Back.l0 k x1 x2 x3 (wrap64 (x9 + 1)) x163000 x163001)) else (none)) else (none)) else (spec_l08Back.l0 k x1 x2 x3 (wrap64 (x9 + 1)) x163000 x163001))
end
def spec_l08Back.f (k : Nat) (a0_0 : Int) (l0_1 : List (S67)) (l1 : List Int) (l2 : List Int) (a3 : Int) : Option (Int):=spec_l08Back.l0 k l1 l2 a3 0 a0_0 l0_1
theorem spec_l08Back.mono_l : ∀ k,(∀ y0 y1 y2 y3 y4 y5,LeO (spec_l08Back.l0 k y0 y1 y2 y3 y4 y5) (spec_l08Back.l0 (k + 1) y0 y1 y2 y3 y4 y5)) ∧ (∀ y0 y1 y2 y3 y4 y5 y6 y7 y8 y9 y10 y11,LeO (spec_l08Back.j1 k y0 y1 y2 y3 y4 y5 y6 y7 y8 y9 y10 y11) (spec_l08Back.j1 (k + 1) y0 y1 y2 y3 y4 y5 y6 y7 y8 y9 y10 y11))
 | 0 => ⟨fun _ _ _ _ _ _ r h => by simp [spec_l08Back.l0] at h, fun _ _ _ _ _ _ _ _ _ _ _ _ r h => by simp [spec_l08Back.j1] at h⟩
 | k + 1 => by
  obtain ⟨ih0,ih1⟩:=spec_l08Back.mono_l k
  refine ⟨?_,?_⟩
  ·intro y0 y1 y2 y3 y4 y5
   unfold spec_l08Back.l0
   repeat' first
   | (with_reducible exact ih1 _ _ _ _ _ _ _ _ _ _ _ _)
   | (with_reducible exact LeO.refl _)
   | (with_reducible refine LeO.ite ?_ ?_)
  ·intro y0 y1 y2 y3 y4 y5 y6 y7 y8 y9 y10 y11
   unfold spec_l08Back.j1
   repeat' first
   | (with_reducible exact ih0 _ _ _ _ _ _)
   | (with_reducible exact LeO.refl _)
   | (with_reducible refine LeO.ite ?_ ?_)
theorem spec_l08Back.mono : ∀ a0 a1 a2 a3 a4 k,LeO (spec_l08Back.f k a0 a1 a2 a3 a4) (spec_l08Back.f (k + 1) a0 a1 a2 a3 a4):=by
 intro a0 a1 a2 a3 a4 k
 obtain ⟨ih0,ih1⟩:=spec_l08Back.mono_l k
 unfold spec_l08Back.f
 repeat' first
   | (with_reducible exact ih0 _ _ _ _ _ _)
set_option maxHeartbeats 8000000 in
set_option maxRecDepth 100000 in
theorem spec_l08Back.calls (k : Nat) (a0_0 : Int) (A0_1 : Option Addr) (c0_1 : Nat) (l0_1 : List (S67)) (A1 : Option Addr) (c1 : Nat) (l1 : List Int) (A2 : Option Addr) (c2 : Nat) (l2 : List Int) (a3 : Int) (r : Int) (w : World) (hr0_1 : Kd.C k67 w A0_1 l0_1.length l0_1) (hc0_1 : l0_1.length ≤ c0_1) (hr1 : Kd.C (Kd.int .i64) w A1 l1.length l1) (hc1 : l1.length ≤ c1) (hr2 : Kd.C (Kd.int .i64) w A2 l2.length l2) (hc2 : l2.length ≤ c2) (h : spec_l08Back.f k a0_0 l0_1 l1 l2 a3 = some r) :
  Calls Try.prog 72 #[.agg #[.int .i64 a0_0,.slice A0_1 l0_1.length c0_1],.slice A1 l1.length c1,.slice A2 l2.length c2,.int .i64 a3] w fun e w'=>e = .returned (.int .i64 r) ∧ Below w.heap.size w w':=by
 have hu30:=Try.underlying30
 have hu67:=Try.underlying67
 have HR0_1:=am_ hr0_1
 have HC0_1:=am_ hc0_1
 clear hr0_1 hc0_1
 have HR1:=am_ hr1
 have HC1:=am_ hc1
 clear hr1 hc1
 have HR2:=am_ hr2
 have HC2:=am_ hc2
 clear hr2 hc2
 have HB:=am_ (Below.refl w.heap.size w)
 have H : (spec_l08Back.l0 k l1 l2 a3 0 a0_0 l0_1) = some r:=h
 clear h
 have H':=am_ H
 clear H
 go_enter Try.func72,Try.ntmps72
 go_wp2_with (((with_reducible refine gate_dst (N:=4) rfl ?_);refine box_event ?hg (N:=4) ?hd (cs:=#[.int .i64 a0_0,.slice A0_1 l0_1.length c0_1]) (t:=30) ?hr ?_;(case hd=>rfl);(case hg=>rfl);(case hr=>(go_simp;done));intro gb162 hg w5 hbox hb;have n0_:=am_ (below_step HB.out hb);have n1_:=am_ (hbox);have n2_:=am_ ((by rw [hg];exact (below_size HB.out) : w.heap.size ≤ gb162));have n3_:=n2_;clear HB;have HB:=n0_;have BK162:=n1_;have GW162:=n2_;have GE162:=n3_;clear n0_ n1_ n2_ n3_ hb hbox hg))
 repeat (go_quiet (fail);try go_wp2_with (fail))
 go_loopg [9] k (fun kq v9 w'=>∃ (x9_1 : Int),v9 = .int .i64 x9_1 ∧ Aside0 (spec_l08Back.l0 kq l1 l2 a3 x9_1 a0_0 l0_1 = some r) ∧ Aside0 (kq ≤ k) ∧ Aside0 (w'.heap[gb162]? = some (.cells #[.int .i64 a0_0,(.slice A0_1 l0_1.length c0_1)] 30 (0,0))) ∧ Aside0 (Below w.heap.size w w'))
 case atStart=>exact ⟨(0),(by rfl),H',⟨Nat.le_refl _⟩,⟨by exact BK162.out⟩,⟨by exact HB.out⟩⟩
 case round =>
  clear H'
  try clear c1
  try clear c2
  try clear p2
  obtain ⟨x9_1,rfl,HA,HK1,BK162,HB⟩:=hrel
  cases gk with
  | zero => exact absurd HA.out (by simp [spec_l08Back.l0])
  | succ k1 =>
   have H:=HA.out
   clear HA
   simp only [spec_l08Back.l0] at H
   by_cases c6 : x9_1 < (l1.length : Int)
   rotate_left
   ·rw [if_neg c6] at H
    have c6b0 : decide (x9_1 < (l1.length : Int)) = false:=decide_eq_false c6
    clear c6
    obtain rfl:=Option.some.inj H
    go_wp2
    repeat (go_quiet (fail);try go_wp2)
    go_ret
    exact ⟨by rfl,by exact HB.out⟩
   rw [if_pos c6] at H
   have c6b0 : decide (x9_1 < (l1.length : Int)) = true:=decide_eq_true c6
   clear c6
   by_cases c7 : 0 ≤ x9_1
   rotate_left
   ·rw [if_neg c7] at H
    exact absurd H (by simp)
   rw [if_pos c7] at H
   have c7b0 : decide (0 ≤ x9_1) = true:=decide_eq_true c7
   clear c7
   by_cases c8 : x9_1 < (l0_1.length : Int)
   rotate_left
   ·rw [if_neg c8] at H
    exact absurd H (by simp)
   rw [if_pos c8] at H
   have c8b0 : decide (x9_1 < (l0_1.length : Int)) = true:=decide_eq_true c8
   clear c8
   have HC9:=am_ H
   clear H
   have hcz10_0 : wr.cell? ⟨gb162,0,none⟩ = some (.int .i64 a0_0):=(blk_cell BK162.out 0).trans rfl
   have hcz10_1 : wr.cell? ⟨gb162,1,none⟩ = some (.slice A0_1 l0_1.length c0_1):=(blk_cell BK162.out 1).trans rfl
   have hfz10_0:=blk_frozen BK162.out 0
   have hfz10_1:=blk_frozen BK162.out 1
   have p163 : 0 ≤ (x9_1 : Int):=of_decide_eq_true (by (with_reducible assumption))
   have q163 : x9_1 < (l0_1.length : Int):=of_decide_eq_true (by (with_reducible assumption))
   obtain ⟨ad163,e163,hx163_0,hx163_1,hx163_2,hx163_3⟩:=at_T67 HR0_1.out x9_1 p163 q163
   cases e163
   replace hx163_0:=kc_ HB.out hx163_0
   replace hx163_1:=kc_ HB.out hx163_1
   replace hx163_2:=kc_ HB.out hx163_2
   replace hx163_3:=kc_ HB.out hx163_3
   replace p163:=eq_true p163
   replace q163:=eq_true q163
   go_upto_region 6 with (((with_reducible refine gate_dst (N:=10) rfl ?_);refine box_event ?hg (N:=10) ?hd (cs:=#[.int .i64 0,.int .i64 0,.int .i64 0,.int .i64 0]) (t:=67) ?hr ?_;(case hd=>rfl);(case hg=>rfl);(case hr=>(go_simp;done));intro gb164 hg w11 hbox hb;have n0_:=am_ (blk_below BK162.out hb);have n1_:=am_ (below_step HB.out hb);have n2_:=am_ (hbox);have n3_:=am_ ((by rw [hg];exact (below_size HB.out) : w.heap.size ≤ gb164));have n4_:=n3_;have n5_:=am_ ((by rw [hg];exact Nat.ne_of_lt (blk_lt (g:=gb162) (o:=.cells #[.int .i64 a0_0,.slice (some ad163) l0_1.length c0_1] 30 (0,0)) BK162.out) : gb162 ≠ gb164));have n6_:=am_ ((by rw [hg];exact Nat.ne_of_gt (blk_lt (g:=gb162) (o:=.cells #[.int .i64 a0_0,.slice (some ad163) l0_1.length c0_1] 30 (0,0)) BK162.out) : gb164 ≠ gb162));clear BK162 HB;have BK162:=n0_;have HB:=n1_;have BK164:=n2_;have GW164:=n3_;have GE164:=n4_;have NB162_164:=n5_;have NB164_162:=n6_;clear n0_ n1_ n2_ n3_ n4_ n5_ n6_ hb hbox hg;have hnb12:=NB164_162.out;have hnc12:=NB162_164.out;have hcz13_0 : w11.cell? ⟨gb164,0,none⟩ = some (.int .i64 0):=(blk_cell BK164.out 0).trans rfl;have hcz13_1 : w11.cell? ⟨gb164,1,none⟩ = some (.int .i64 0):=(blk_cell BK164.out 1).trans rfl;have hcz13_2 : w11.cell? ⟨gb164,2,none⟩ = some (.int .i64 0):=(blk_cell BK164.out 2).trans rfl;have hcz13_3 : w11.cell? ⟨gb164,3,none⟩ = some (.int .i64 0):=(blk_cell BK164.out 3).trans rfl;have hfz13_0:=blk_frozen BK164.out 0;have hfz13_1:=blk_frozen BK164.out 1;have hfz13_2:=blk_frozen BK164.out 2;have hfz13_3:=blk_frozen BK164.out 3))
   repeat (go_quiet (fail);go_upto_region 6 with (fail))
   (skip)
   go_cut [61] (fun v61 wc=>∃ (kq : Nat) (x61_8 : Bool),v61 = .bool x61_8 ∧ Aside0 (spec_l08Back.j1 kq l1 l2 a3 x9_1 (wrap64 (10000 * ((rd_T67 l0_1 x9_1).f3))) x61_8 a0_0 l0_1 ((rd_T67 l0_1 x9_1).f0) ((rd_T67 l0_1 x9_1).f1) ((rd_T67 l0_1 x9_1).f2) ((rd_T67 l0_1 x9_1).f3) = some r) ∧ Aside0 (kq ≤ k1) ∧ Aside0 (wc.heap[gb162]? = some (.cells #[.int .i64 a0_0,(.slice (some ad163) l0_1.length c0_1)] 30 (0,0))) ∧ Aside0 (wc.heap[gb164]? = some (.cells #[.int .i64 ((rd_T67 l0_1 x9_1).f0),.int .i64 ((rd_T67 l0_1 x9_1).f1),.int .i64 ((rd_T67 l0_1 x9_1).f2),.int .i64 ((rd_T67 l0_1 x9_1).f3)] 67 (0,0))) ∧ Aside0 (Below w.heap.size w wc))
   case first =>
    have H:=HC9.out
    clear HC9
    by_cases c14 : ((rd_T67 l0_1 x9_1).f1) = a3
    rotate_left
    ·rw [if_neg c14] at H
     have c14b0 : (((rd_T67 l0_1 x9_1).f1) == a3) = false:=beq_eq_false_iff_ne.mpr c14
     have c14b1 : (((rd_T67 l0_1 x9_1).f1) != a3) = true:=bne_iff_ne.mpr c14
     (skip)
     have H':=am_ H
     clear H
     have hnb27:=NB164_162.out
     have hnc27:=NB162_164.out
     have hcz28_0 : w11.cell? ⟨gb164,0,none⟩ = some (.int .i64 0):=(blk_cell BK164.out 0).trans rfl
     have hcz28_1 : w11.cell? ⟨gb164,1,none⟩ = some (.int .i64 0):=(blk_cell BK164.out 1).trans rfl
     have hcz28_2 : w11.cell? ⟨gb164,2,none⟩ = some (.int .i64 0):=(blk_cell BK164.out 2).trans rfl
     have hcz28_3 : w11.cell? ⟨gb164,3,none⟩ = some (.int .i64 0):=(blk_cell BK164.out 3).trans rfl
     have hfz28_0:=blk_frozen BK164.out 0
     have hfz28_1:=blk_frozen BK164.out 1
     have hfz28_2:=blk_frozen BK164.out 2
     have hfz28_3:=blk_frozen BK164.out 3
     go_wp2
     repeat (go_quiet (fail);try go_wp2)
     go_meet
     case rel=>exact ⟨_,(false),(by rfl),H',⟨by have:=HK1.out;omega⟩,⟨by (with_reducible repeat (refine blk_drewN ?_ _));refine blk_far ?_ NB162_164.out _;refine blk_far ?_ NB162_164.out _;refine blk_far ?_ NB162_164.out _;refine blk_far ?_ NB162_164.out _;exact BK162.out⟩,⟨by (with_reducible repeat (refine blk_drewN ?_ _));refine blk_put (cs:=#[.int .i64 ((rd_T67 l0_1 x9_1).f0),.int .i64 ((rd_T67 l0_1 x9_1).f1),.int .i64 ((rd_T67 l0_1 x9_1).f2),.int .i64 0]) ?_ 3 _ rfl;refine blk_put (cs:=#[.int .i64 ((rd_T67 l0_1 x9_1).f0),.int .i64 ((rd_T67 l0_1 x9_1).f1),.int .i64 0,.int .i64 0]) ?_ 2 _ rfl;refine blk_put (cs:=#[.int .i64 ((rd_T67 l0_1 x9_1).f0),.int .i64 0,.int .i64 0,.int .i64 0]) ?_ 1 _ rfl;refine blk_put (cs:=#[.int .i64 0,.int .i64 0,.int .i64 0,.int .i64 0]) ?_ 0 _ rfl;exact BK164.out⟩,⟨by repeat ((with_reducible first|exact HB.out|apply pw_below_drewN|refine below_set ?_ GE164.out))⟩⟩
    rw [if_pos c14] at H
    have c14b0 : (((rd_T67 l0_1 x9_1).f1) == a3) = true:=beq_iff_eq.mpr c14
    have c14b1 : (((rd_T67 l0_1 x9_1).f1) != a3) = false:=bne_eq_false_iff_eq.mpr c14
    clear c14
    (skip)
    by_cases c15 : (rd l1 x9_1) < ((rd_T67 l0_1 x9_1).f2)
    rotate_left
    ·rw [if_neg c15] at H
     have c15b0 : decide ((rd l1 x9_1) < ((rd_T67 l0_1 x9_1).f2)) = false:=decide_eq_false c15
     clear c15
     have H':=am_ H
     clear H
     have hnb25:=NB164_162.out
     have hnc25:=NB162_164.out
     have hcz26_0 : w11.cell? ⟨gb164,0,none⟩ = some (.int .i64 0):=(blk_cell BK164.out 0).trans rfl
     have hcz26_1 : w11.cell? ⟨gb164,1,none⟩ = some (.int .i64 0):=(blk_cell BK164.out 1).trans rfl
     have hcz26_2 : w11.cell? ⟨gb164,2,none⟩ = some (.int .i64 0):=(blk_cell BK164.out 2).trans rfl
     have hcz26_3 : w11.cell? ⟨gb164,3,none⟩ = some (.int .i64 0):=(blk_cell BK164.out 3).trans rfl
     have hfz26_0:=blk_frozen BK164.out 0
     have hfz26_1:=blk_frozen BK164.out 1
     have hfz26_2:=blk_frozen BK164.out 2
     have hfz26_3:=blk_frozen BK164.out 3
     have p165 : 0 ≤ (x9_1 : Int):=of_decide_eq_true (by (with_reducible assumption))
     have q165 : x9_1 < (l1.length : Int):=of_decide_eq_true (by (with_reducible assumption))
     obtain ⟨ad165,e165,hx165_0⟩:=Kd.at_int HR1.out x9_1 p165 q165
     cases e165
     have hn165_0 : ad165.block ≠ gb164:=Nat.ne_of_lt (Nat.lt_of_lt_of_le (by have:=World.block_lt_of_cell? _ _ hx165_0;rwa [add_block] at this) GW164.out)
     have hn165_1 : ad165.block ≠ gb164:=Nat.ne_of_lt (Nat.lt_of_lt_of_le (by have:=World.block_lt_of_cell? _ _ hx165_0;rwa [add_block] at this) GW164.out)
     have hn165_2 : ad165.block ≠ gb164:=Nat.ne_of_lt (Nat.lt_of_lt_of_le (by have:=World.block_lt_of_cell? _ _ hx165_0;rwa [add_block] at this) GW164.out)
     have hn165_3 : ad165.block ≠ gb164:=Nat.ne_of_lt (Nat.lt_of_lt_of_le (by have:=World.block_lt_of_cell? _ _ hx165_0;rwa [add_block] at this) GW164.out)
     replace hx165_0:=kc_ HB.out hx165_0
     replace hx165_0:=(cell_far (p:=⟨gb164,0,none⟩) (by (rw [add_block];exact hn165_0)) (.int .i64 ((rd_T67 l0_1 x9_1).f0))).trans hx165_0
     replace hx165_0:=(cell_far (p:=⟨gb164,1,none⟩) (by (rw [add_block];exact hn165_1)) (.int .i64 ((rd_T67 l0_1 x9_1).f1))).trans hx165_0
     replace hx165_0:=(cell_far (p:=⟨gb164,2,none⟩) (by (rw [add_block];exact hn165_2)) (.int .i64 ((rd_T67 l0_1 x9_1).f2))).trans hx165_0
     replace hx165_0:=(cell_far (p:=⟨gb164,3,none⟩) (by (rw [add_block];exact hn165_3)) (.int .i64 ((rd_T67 l0_1 x9_1).f3))).trans hx165_0
     (try have hy165_0:=fun (n_ : Nat)=>(show ((((((w11.drewN n_).setCell ⟨gb164,0,none⟩ (.int .i64 ((rd_T67 l0_1 x9_1).f0))).setCell ⟨gb164,1,none⟩ (.int .i64 ((rd_T67 l0_1 x9_1).f1))).setCell ⟨gb164,2,none⟩ (.int .i64 ((rd_T67 l0_1 x9_1).f2))).setCell ⟨gb164,3,none⟩ (.int .i64 ((rd_T67 l0_1 x9_1).f3)))).cell? _ = some _ from hx165_0))
     clear hn165_0
     clear hn165_1
     clear hn165_2
     clear hn165_3
     replace p165:=eq_true p165
     replace q165:=eq_true q165
     go_wp2
     repeat (go_quiet (fail);try go_wp2)
     go_meet
     case rel=>exact ⟨_,(false),(by rfl),H',⟨by have:=HK1.out;omega⟩,⟨by (with_reducible repeat (refine blk_drewN ?_ _));refine blk_far ?_ NB162_164.out _;refine blk_far ?_ NB162_164.out _;refine blk_far ?_ NB162_164.out _;refine blk_far ?_ NB162_164.out _;exact BK162.out⟩,⟨by (with_reducible repeat (refine blk_drewN ?_ _));refine blk_put (cs:=#[.int .i64 ((rd_T67 l0_1 x9_1).f0),.int .i64 ((rd_T67 l0_1 x9_1).f1),.int .i64 ((rd_T67 l0_1 x9_1).f2),.int .i64 0]) ?_ 3 _ rfl;refine blk_put (cs:=#[.int .i64 ((rd_T67 l0_1 x9_1).f0),.int .i64 ((rd_T67 l0_1 x9_1).f1),.int .i64 0,.int .i64 0]) ?_ 2 _ rfl;refine blk_put (cs:=#[.int .i64 ((rd_T67 l0_1 x9_1).f0),.int .i64 0,.int .i64 0,.int .i64 0]) ?_ 1 _ rfl;refine blk_put (cs:=#[.int .i64 0,.int .i64 0,.int .i64 0,.int .i64 0]) ?_ 0 _ rfl;exact BK164.out⟩,⟨by repeat ((with_reducible first|exact HB.out|apply pw_below_drewN|refine below_set ?_ GE164.out))⟩⟩
    rw [if_pos c15] at H
    have c15b0 : decide ((rd l1 x9_1) < ((rd_T67 l0_1 x9_1).f2)) = true:=decide_eq_true c15
    clear c15
    by_cases c16 : 0 ≤ ((rd_T67 l0_1 x9_1).f0)
    rotate_left
    ·rw [if_neg c16] at H
     exact absurd H (by simp)
    rw [if_pos c16] at H
    have c16b0 : decide (0 ≤ ((rd_T67 l0_1 x9_1).f0)) = true:=decide_eq_true c16
    clear c16
    by_cases c17 : ((rd_T67 l0_1 x9_1).f0) < (l2.length : Int)
    rotate_left
    ·rw [if_neg c17] at H
     exact absurd H (by simp)
    rw [if_pos c17] at H
    have c17b0 : decide (((rd_T67 l0_1 x9_1).f0) < (l2.length : Int)) = true:=decide_eq_true c17
    clear c17
    by_cases c18 : (rd l2 ((rd_T67 l0_1 x9_1).f0)) < 1152921504606846976
    rotate_left
    ·rw [if_neg c18] at H
     have c18b0 : decide ((rd l2 ((rd_T67 l0_1 x9_1).f0)) < 1152921504606846976) = false:=decide_eq_false c18
     clear c18
     have H':=am_ H
     clear H
     have hnb23:=NB164_162.out
     have hnc23:=NB162_164.out
     have hcz24_0 : w11.cell? ⟨gb164,0,none⟩ = some (.int .i64 0):=(blk_cell BK164.out 0).trans rfl
     have hcz24_1 : w11.cell? ⟨gb164,1,none⟩ = some (.int .i64 0):=(blk_cell BK164.out 1).trans rfl
     have hcz24_2 : w11.cell? ⟨gb164,2,none⟩ = some (.int .i64 0):=(blk_cell BK164.out 2).trans rfl
     have hcz24_3 : w11.cell? ⟨gb164,3,none⟩ = some (.int .i64 0):=(blk_cell BK164.out 3).trans rfl
     have hfz24_0:=blk_frozen BK164.out 0
     have hfz24_1:=blk_frozen BK164.out 1
     have hfz24_2:=blk_frozen BK164.out 2
     have hfz24_3:=blk_frozen BK164.out 3
     have p165 : 0 ≤ (x9_1 : Int):=of_decide_eq_true (by (with_reducible assumption))
     have q165 : x9_1 < (l1.length : Int):=of_decide_eq_true (by (with_reducible assumption))
     obtain ⟨ad165,e165,hx165_0⟩:=Kd.at_int HR1.out x9_1 p165 q165
     cases e165
     have hn165_0 : ad165.block ≠ gb164:=Nat.ne_of_lt (Nat.lt_of_lt_of_le (by have:=World.block_lt_of_cell? _ _ hx165_0;rwa [add_block] at this) GW164.out)
     have hn165_1 : ad165.block ≠ gb164:=Nat.ne_of_lt (Nat.lt_of_lt_of_le (by have:=World.block_lt_of_cell? _ _ hx165_0;rwa [add_block] at this) GW164.out)
     have hn165_2 : ad165.block ≠ gb164:=Nat.ne_of_lt (Nat.lt_of_lt_of_le (by have:=World.block_lt_of_cell? _ _ hx165_0;rwa [add_block] at this) GW164.out)
     have hn165_3 : ad165.block ≠ gb164:=Nat.ne_of_lt (Nat.lt_of_lt_of_le (by have:=World.block_lt_of_cell? _ _ hx165_0;rwa [add_block] at this) GW164.out)
     replace hx165_0:=kc_ HB.out hx165_0
     replace hx165_0:=(cell_far (p:=⟨gb164,0,none⟩) (by (rw [add_block];exact hn165_0)) (.int .i64 ((rd_T67 l0_1 x9_1).f0))).trans hx165_0
     replace hx165_0:=(cell_far (p:=⟨gb164,1,none⟩) (by (rw [add_block];exact hn165_1)) (.int .i64 ((rd_T67 l0_1 x9_1).f1))).trans hx165_0
     replace hx165_0:=(cell_far (p:=⟨gb164,2,none⟩) (by (rw [add_block];exact hn165_2)) (.int .i64 ((rd_T67 l0_1 x9_1).f2))).trans hx165_0
     replace hx165_0:=(cell_far (p:=⟨gb164,3,none⟩) (by (rw [add_block];exact hn165_3)) (.int .i64 ((rd_T67 l0_1 x9_1).f3))).trans hx165_0
     (try have hy165_0:=fun (n_ : Nat)=>(show ((((((w11.drewN n_).setCell ⟨gb164,0,none⟩ (.int .i64 ((rd_T67 l0_1 x9_1).f0))).setCell ⟨gb164,1,none⟩ (.int .i64 ((rd_T67 l0_1 x9_1).f1))).setCell ⟨gb164,2,none⟩ (.int .i64 ((rd_T67 l0_1 x9_1).f2))).setCell ⟨gb164,3,none⟩ (.int .i64 ((rd_T67 l0_1 x9_1).f3)))).cell? _ = some _ from hx165_0))
     clear hn165_0
     clear hn165_1
     clear hn165_2
     clear hn165_3
     replace p165:=eq_true p165
     replace q165:=eq_true q165
     have p166 : 0 ≤ (((rd_T67 l0_1 x9_1).f0) : Int):=of_decide_eq_true (by (with_reducible assumption))
     have q166 : ((rd_T67 l0_1 x9_1).f0) < (l2.length : Int):=of_decide_eq_true (by (with_reducible assumption))
     obtain ⟨ad166,e166,hx166_0⟩:=Kd.at_int HR2.out ((rd_T67 l0_1 x9_1).f0) p166 q166
     cases e166
     have hn166_0 : ad166.block ≠ gb164:=Nat.ne_of_lt (Nat.lt_of_lt_of_le (by have:=World.block_lt_of_cell? _ _ hx166_0;rwa [add_block] at this) GW164.out)
     have hn166_1 : ad166.block ≠ gb164:=Nat.ne_of_lt (Nat.lt_of_lt_of_le (by have:=World.block_lt_of_cell? _ _ hx166_0;rwa [add_block] at this) GW164.out)
     have hn166_2 : ad166.block ≠ gb164:=Nat.ne_of_lt (Nat.lt_of_lt_of_le (by have:=World.block_lt_of_cell? _ _ hx166_0;rwa [add_block] at this) GW164.out)
     have hn166_3 : ad166.block ≠ gb164:=Nat.ne_of_lt (Nat.lt_of_lt_of_le (by have:=World.block_lt_of_cell? _ _ hx166_0;rwa [add_block] at this) GW164.out)
     replace hx166_0:=kc_ HB.out hx166_0
     replace hx166_0:=(cell_far (p:=⟨gb164,0,none⟩) (by (rw [add_block];exact hn166_0)) (.int .i64 ((rd_T67 l0_1 x9_1).f0))).trans hx166_0
     replace hx166_0:=(cell_far (p:=⟨gb164,1,none⟩) (by (rw [add_block];exact hn166_1)) (.int .i64 ((rd_T67 l0_1 x9_1).f1))).trans hx166_0
     replace hx166_0:=(cell_far (p:=⟨gb164,2,none⟩) (by (rw [add_block];exact hn166_2)) (.int .i64 ((rd_T67 l0_1 x9_1).f2))).trans hx166_0
     replace hx166_0:=(cell_far (p:=⟨gb164,3,none⟩) (by (rw [add_block];exact hn166_3)) (.int .i64 ((rd_T67 l0_1 x9_1).f3))).trans hx166_0
     (try have hy166_0:=fun (n_ : Nat)=>(show ((((((w11.drewN n_).setCell ⟨gb164,0,none⟩ (.int .i64 ((rd_T67 l0_1 x9_1).f0))).setCell ⟨gb164,1,none⟩ (.int .i64 ((rd_T67 l0_1 x9_1).f1))).setCell ⟨gb164,2,none⟩ (.int .i64 ((rd_T67 l0_1 x9_1).f2))).setCell ⟨gb164,3,none⟩ (.int .i64 ((rd_T67 l0_1 x9_1).f3)))).cell? _ = some _ from hx166_0))
     clear hn166_0
     clear hn166_1
     clear hn166_2
     clear hn166_3
     replace p166:=eq_true p166
     replace q166:=eq_true q166
     go_wp2
     repeat (go_quiet (fail);try go_wp2)
     go_meet
     case rel=>exact ⟨_,(false),(by rfl),H',⟨by have:=HK1.out;omega⟩,⟨by (with_reducible repeat (refine blk_drewN ?_ _));refine blk_far ?_ NB162_164.out _;refine blk_far ?_ NB162_164.out _;refine blk_far ?_ NB162_164.out _;refine blk_far ?_ NB162_164.out _;exact BK162.out⟩,⟨by (with_reducible repeat (refine blk_drewN ?_ _));refine blk_put (cs:=#[.int .i64 ((rd_T67 l0_1 x9_1).f0),.int .i64 ((rd_T67 l0_1 x9_1).f1),.int .i64 ((rd_T67 l0_1 x9_1).f2),.int .i64 0]) ?_ 3 _ rfl;refine blk_put (cs:=#[.int .i64 ((rd_T67 l0_1 x9_1).f0),.int .i64 ((rd_T67 l0_1 x9_1).f1),.int .i64 0,.int .i64 0]) ?_ 2 _ rfl;refine blk_put (cs:=#[.int .i64 ((rd_T67 l0_1 x9_1).f0),.int .i64 0,.int .i64 0,.int .i64 0]) ?_ 1 _ rfl;refine blk_put (cs:=#[.int .i64 0,.int .i64 0,.int .i64 0,.int .i64 0]) ?_ 0 _ rfl;exact BK164.out⟩,⟨by repeat ((with_reducible first|exact HB.out|apply pw_below_drewN|refine below_set ?_ GE164.out))⟩⟩
    rw [if_pos c18] at H
    have c18b0 : decide ((rd l2 ((rd_T67 l0_1 x9_1).f0)) < 1152921504606846976) = true:=decide_eq_true c18
    clear c18
    by_cases c19 : 0 ≤ a3
    rotate_left
    ·rw [if_neg c19] at H
     exact absurd H (by simp)
    rw [if_pos c19] at H
    have c19b0 : decide (0 ≤ a3) = true:=decide_eq_true c19
    clear c19
    by_cases c20 : a3 < (l2.length : Int)
    rotate_left
    ·rw [if_neg c20] at H
     exact absurd H (by simp)
    rw [if_pos c20] at H
    have c20b0 : decide (a3 < (l2.length : Int)) = true:=decide_eq_true c20
    clear c20
    have H':=am_ H
    clear H
    have hnb21:=NB164_162.out
    have hnc21:=NB162_164.out
    have hcz22_0 : w11.cell? ⟨gb164,0,none⟩ = some (.int .i64 0):=(blk_cell BK164.out 0).trans rfl
    have hcz22_1 : w11.cell? ⟨gb164,1,none⟩ = some (.int .i64 0):=(blk_cell BK164.out 1).trans rfl
    have hcz22_2 : w11.cell? ⟨gb164,2,none⟩ = some (.int .i64 0):=(blk_cell BK164.out 2).trans rfl
    have hcz22_3 : w11.cell? ⟨gb164,3,none⟩ = some (.int .i64 0):=(blk_cell BK164.out 3).trans rfl
    have hfz22_0:=blk_frozen BK164.out 0
    have hfz22_1:=blk_frozen BK164.out 1
    have hfz22_2:=blk_frozen BK164.out 2
    have hfz22_3:=blk_frozen BK164.out 3
    have p165 : 0 ≤ (x9_1 : Int):=of_decide_eq_true (by (with_reducible assumption))
    have q165 : x9_1 < (l1.length : Int):=of_decide_eq_true (by (with_reducible assumption))
    obtain ⟨ad165,e165,hx165_0⟩:=Kd.at_int HR1.out x9_1 p165 q165
    cases e165
    have hn165_0 : ad165.block ≠ gb164:=Nat.ne_of_lt (Nat.lt_of_lt_of_le (by have:=World.block_lt_of_cell? _ _ hx165_0;rwa [add_block] at this) GW164.out)
    have hn165_1 : ad165.block ≠ gb164:=Nat.ne_of_lt (Nat.lt_of_lt_of_le (by have:=World.block_lt_of_cell? _ _ hx165_0;rwa [add_block] at this) GW164.out)
    have hn165_2 : ad165.block ≠ gb164:=Nat.ne_of_lt (Nat.lt_of_lt_of_le (by have:=World.block_lt_of_cell? _ _ hx165_0;rwa [add_block] at this) GW164.out)
    have hn165_3 : ad165.block ≠ gb164:=Nat.ne_of_lt (Nat.lt_of_lt_of_le (by have:=World.block_lt_of_cell? _ _ hx165_0;rwa [add_block] at this) GW164.out)
    replace hx165_0:=kc_ HB.out hx165_0
    replace hx165_0:=(cell_far (p:=⟨gb164,0,none⟩) (by (rw [add_block];exact hn165_0)) (.int .i64 ((rd_T67 l0_1 x9_1).f0))).trans hx165_0
    replace hx165_0:=(cell_far (p:=⟨gb164,1,none⟩) (by (rw [add_block];exact hn165_1)) (.int .i64 ((rd_T67 l0_1 x9_1).f1))).trans hx165_0
    replace hx165_0:=(cell_far (p:=⟨gb164,2,none⟩) (by (rw [add_block];exact hn165_2)) (.int .i64 ((rd_T67 l0_1 x9_1).f2))).trans hx165_0
    replace hx165_0:=(cell_far (p:=⟨gb164,3,none⟩) (by (rw [add_block];exact hn165_3)) (.int .i64 ((rd_T67 l0_1 x9_1).f3))).trans hx165_0
    (try have hy165_0:=fun (n_ : Nat)=>(show ((((((w11.drewN n_).setCell ⟨gb164,0,none⟩ (.int .i64 ((rd_T67 l0_1 x9_1).f0))).setCell ⟨gb164,1,none⟩ (.int .i64 ((rd_T67 l0_1 x9_1).f1))).setCell ⟨gb164,2,none⟩ (.int .i64 ((rd_T67 l0_1 x9_1).f2))).setCell ⟨gb164,3,none⟩ (.int .i64 ((rd_T67 l0_1 x9_1).f3)))).cell? _ = some _ from hx165_0))
    clear hn165_0
    clear hn165_1
    clear hn165_2
    clear hn165_3
    replace p165:=eq_true p165
    replace q165:=eq_true q165
    have p166 : 0 ≤ (((rd_T67 l0_1 x9_1).f0) : Int):=of_decide_eq_true (by (with_reducible assumption))
    have q166 : ((rd_T67 l0_1 x9_1).f0) < (l2.length : Int):=of_decide_eq_true (by (with_reducible assumption))
    obtain ⟨ad166,e166,hx166_0⟩:=Kd.at_int HR2.out ((rd_T67 l0_1 x9_1).f0) p166 q166
    cases e166
    have hn166_0 : ad166.block ≠ gb164:=Nat.ne_of_lt (Nat.lt_of_lt_of_le (by have:=World.block_lt_of_cell? _ _ hx166_0;rwa [add_block] at this) GW164.out)
    have hn166_1 : ad166.block ≠ gb164:=Nat.ne_of_lt (Nat.lt_of_lt_of_le (by have:=World.block_lt_of_cell? _ _ hx166_0;rwa [add_block] at this) GW164.out)
    have hn166_2 : ad166.block ≠ gb164:=Nat.ne_of_lt (Nat.lt_of_lt_of_le (by have:=World.block_lt_of_cell? _ _ hx166_0;rwa [add_block] at this) GW164.out)
    have hn166_3 : ad166.block ≠ gb164:=Nat.ne_of_lt (Nat.lt_of_lt_of_le (by have:=World.block_lt_of_cell? _ _ hx166_0;rwa [add_block] at this) GW164.out)
    replace hx166_0:=kc_ HB.out hx166_0
    replace hx166_0:=(cell_far (p:=⟨gb164,0,none⟩) (by (rw [add_block];exact hn166_0)) (.int .i64 ((rd_T67 l0_1 x9_1).f0))).trans hx166_0
    replace hx166_0:=(cell_far (p:=⟨gb164,1,none⟩) (by (rw [add_block];exact hn166_1)) (.int .i64 ((rd_T67 l0_1 x9_1).f1))).trans hx166_0
    replace hx166_0:=(cell_far (p:=⟨gb164,2,none⟩) (by (rw [add_block];exact hn166_2)) (.int .i64 ((rd_T67 l0_1 x9_1).f2))).trans hx166_0
    replace hx166_0:=(cell_far (p:=⟨gb164,3,none⟩) (by (rw [add_block];exact hn166_3)) (.int .i64 ((rd_T67 l0_1 x9_1).f3))).trans hx166_0
    (try have hy166_0:=fun (n_ : Nat)=>(show ((((((w11.drewN n_).setCell ⟨gb164,0,none⟩ (.int .i64 ((rd_T67 l0_1 x9_1).f0))).setCell ⟨gb164,1,none⟩ (.int .i64 ((rd_T67 l0_1 x9_1).f1))).setCell ⟨gb164,2,none⟩ (.int .i64 ((rd_T67 l0_1 x9_1).f2))).setCell ⟨gb164,3,none⟩ (.int .i64 ((rd_T67 l0_1 x9_1).f3)))).cell? _ = some _ from hx166_0))
    clear hn166_0
    clear hn166_1
    clear hn166_2
    clear hn166_3
    replace p166:=eq_true p166
    replace q166:=eq_true q166
    have p167 : 0 ≤ (((rd_T67 l0_1 x9_1).f0) : Int):=of_decide_eq_true (by (with_reducible assumption))
    have q167 : ((rd_T67 l0_1 x9_1).f0) < (l2.length : Int):=of_decide_eq_true (by (with_reducible assumption))
    obtain ⟨ad167,e167,hx167_0⟩:=Kd.at_int HR2.out ((rd_T67 l0_1 x9_1).f0) p167 q167
    obtain rfl : ad166 = ad167:=(by injection e167)
    have hn167_0 : ad166.block ≠ gb164:=Nat.ne_of_lt (Nat.lt_of_lt_of_le (by have:=World.block_lt_of_cell? _ _ hx167_0;rwa [add_block] at this) GW164.out)
    have hn167_1 : ad166.block ≠ gb164:=Nat.ne_of_lt (Nat.lt_of_lt_of_le (by have:=World.block_lt_of_cell? _ _ hx167_0;rwa [add_block] at this) GW164.out)
    have hn167_2 : ad166.block ≠ gb164:=Nat.ne_of_lt (Nat.lt_of_lt_of_le (by have:=World.block_lt_of_cell? _ _ hx167_0;rwa [add_block] at this) GW164.out)
    have hn167_3 : ad166.block ≠ gb164:=Nat.ne_of_lt (Nat.lt_of_lt_of_le (by have:=World.block_lt_of_cell? _ _ hx167_0;rwa [add_block] at this) GW164.out)
    replace hx167_0:=kc_ HB.out hx167_0
    replace hx167_0:=(cell_far (p:=⟨gb164,0,none⟩) (by (rw [add_block];exact hn167_0)) (.int .i64 ((rd_T67 l0_1 x9_1).f0))).trans hx167_0
    replace hx167_0:=(cell_far (p:=⟨gb164,1,none⟩) (by (rw [add_block];exact hn167_1)) (.int .i64 ((rd_T67 l0_1 x9_1).f1))).trans hx167_0
    replace hx167_0:=(cell_far (p:=⟨gb164,2,none⟩) (by (rw [add_block];exact hn167_2)) (.int .i64 ((rd_T67 l0_1 x9_1).f2))).trans hx167_0
    replace hx167_0:=(cell_far (p:=⟨gb164,3,none⟩) (by (rw [add_block];exact hn167_3)) (.int .i64 ((rd_T67 l0_1 x9_1).f3))).trans hx167_0
    (try have hy167_0:=fun (n_ : Nat)=>(show ((((((w11.drewN n_).setCell ⟨gb164,0,none⟩ (.int .i64 ((rd_T67 l0_1 x9_1).f0))).setCell ⟨gb164,1,none⟩ (.int .i64 ((rd_T67 l0_1 x9_1).f1))).setCell ⟨gb164,2,none⟩ (.int .i64 ((rd_T67 l0_1 x9_1).f2))).setCell ⟨gb164,3,none⟩ (.int .i64 ((rd_T67 l0_1 x9_1).f3)))).cell? _ = some _ from hx167_0))
    clear hn167_0
    clear hn167_1
    clear hn167_2
    clear hn167_3
    replace p167:=eq_true p167
    replace q167:=eq_true q167
    have p168 : 0 ≤ (a3 : Int):=of_decide_eq_true (by (with_reducible assumption))
    have q168 : a3 < (l2.length : Int):=of_decide_eq_true (by (with_reducible assumption))
    obtain ⟨ad168,e168,hx168_0⟩:=Kd.at_int HR2.out a3 p168 q168
    obtain rfl : ad166 = ad168:=(by injection e168)
    have hn168_0 : ad166.block ≠ gb164:=Nat.ne_of_lt (Nat.lt_of_lt_of_le (by have:=World.block_lt_of_cell? _ _ hx168_0;rwa [add_block] at this) GW164.out)
    have hn168_1 : ad166.block ≠ gb164:=Nat.ne_of_lt (Nat.lt_of_lt_of_le (by have:=World.block_lt_of_cell? _ _ hx168_0;rwa [add_block] at this) GW164.out)
    have hn168_2 : ad166.block ≠ gb164:=Nat.ne_of_lt (Nat.lt_of_lt_of_le (by have:=World.block_lt_of_cell? _ _ hx168_0;rwa [add_block] at this) GW164.out)
    have hn168_3 : ad166.block ≠ gb164:=Nat.ne_of_lt (Nat.lt_of_lt_of_le (by have:=World.block_lt_of_cell? _ _ hx168_0;rwa [add_block] at this) GW164.out)
    replace hx168_0:=kc_ HB.out hx168_0
    replace hx168_0:=(cell_far (p:=⟨gb164,0,none⟩) (by (rw [add_block];exact hn168_0)) (.int .i64 ((rd_T67 l0_1 x9_1).f0))).trans hx168_0
    replace hx168_0:=(cell_far (p:=⟨gb164,1,none⟩) (by (rw [add_block];exact hn168_1)) (.int .i64 ((rd_T67 l0_1 x9_1).f1))).trans hx168_0
    replace hx168_0:=(cell_far (p:=⟨gb164,2,none⟩) (by (rw [add_block];exact hn168_2)) (.int .i64 ((rd_T67 l0_1 x9_1).f2))).trans hx168_0
    replace hx168_0:=(cell_far (p:=⟨gb164,3,none⟩) (by (rw [add_block];exact hn168_3)) (.int .i64 ((rd_T67 l0_1 x9_1).f3))).trans hx168_0
    (try have hy168_0:=fun (n_ : Nat)=>(show ((((((w11.drewN n_).setCell ⟨gb164,0,none⟩ (.int .i64 ((rd_T67 l0_1 x9_1).f0))).setCell ⟨gb164,1,none⟩ (.int .i64 ((rd_T67 l0_1 x9_1).f1))).setCell ⟨gb164,2,none⟩ (.int .i64 ((rd_T67 l0_1 x9_1).f2))).setCell ⟨gb164,3,none⟩ (.int .i64 ((rd_T67 l0_1 x9_1).f3)))).cell? _ = some _ from hx168_0))
    clear hn168_0
    clear hn168_1
    clear hn168_2
    clear hn168_3
    replace p168:=eq_true p168
    replace q168:=eq_true q168
    go_wp2
    repeat (go_quiet (fail);try go_wp2)
    go_meet
    case rel=>exact ⟨_,(((wrap64 ((wrap64 ((rd l2 ((rd_T67 l0_1 x9_1).f0)) + (wrap64 (10000 * ((rd_T67 l0_1 x9_1).f3))))) + 1)) == (rd l2 a3))),(by rfl),H',⟨by have:=HK1.out;omega⟩,⟨by (with_reducible repeat (refine blk_drewN ?_ _));refine blk_far ?_ NB162_164.out _;refine blk_far ?_ NB162_164.out _;refine blk_far ?_ NB162_164.out _;refine blk_far ?_ NB162_164.out _;exact BK162.out⟩,⟨by (with_reducible repeat (refine blk_drewN ?_ _));refine blk_put (cs:=#[.int .i64 ((rd_T67 l0_1 x9_1).f0),.int .i64 ((rd_T67 l0_1 x9_1).f1),.int .i64 ((rd_T67 l0_1 x9_1).f2),.int .i64 0]) ?_ 3 _ rfl;refine blk_put (cs:=#[.int .i64 ((rd_T67 l0_1 x9_1).f0),.int .i64 ((rd_T67 l0_1 x9_1).f1),.int .i64 0,.int .i64 0]) ?_ 2 _ rfl;refine blk_put (cs:=#[.int .i64 ((rd_T67 l0_1 x9_1).f0),.int .i64 0,.int .i64 0,.int .i64 0]) ?_ 1 _ rfl;refine blk_put (cs:=#[.int .i64 0,.int .i64 0,.int .i64 0,.int .i64 0]) ?_ 0 _ rfl;exact BK164.out⟩,⟨by repeat ((with_reducible first|exact HB.out|apply pw_below_drewN|refine below_set ?_ GE164.out))⟩⟩
   case rest =>
    clear HC9
    try clear c1
    try clear p1
    try clear q1
    try clear hx1
    try clear c2
    try clear p2
    try clear c6
    try clear c6b0
    try clear p6
    try clear c7
    try clear c7b0
    try clear c8
    try clear c8b0
    try clear c12
    try clear c14
    try clear c14b0
    try clear c14b1
    try clear c15
    try clear c15b0
    try clear c16
    try clear c16b0
    try clear p16
    try clear q16
    try clear hx16
    try clear c17
    try clear c17b0
    try clear c18
    try clear c18b0
    try clear c19
    try clear c19b0
    try clear c20
    try clear c20b0
    try clear c21
    try clear c23
    try clear c25
    try clear c27
    try clear hcz10_0
    try clear hcz10_1
    try clear hcz13_0
    try clear hcz13_1
    try clear hcz13_2
    try clear hcz13_3
    try clear hcz22_0
    try clear hcz22_1
    try clear hcz22_2
    try clear hcz22_3
    try clear hcz24_0
    try clear hcz24_1
    try clear hcz24_2
    try clear hcz24_3
    try clear hcz26_0
    try clear hcz26_1
    try clear hcz26_2
    try clear hcz26_3
    try clear hcz28_0
    try clear hcz28_1
    try clear hcz28_2
    try clear hcz28_3
    try clear hfz10_0
    try clear hfz10_1
    try clear hfz13_0
    try clear hfz13_1
    try clear hfz13_2
    try clear hfz13_3
    try clear hfz22_0
    try clear hfz22_1
    try clear hfz22_2
    try clear hfz22_3
    try clear hfz24_0
    try clear hfz24_1
    try clear hfz24_2
    try clear hfz24_3
    try clear hfz26_0
    try clear hfz26_1
    try clear hfz26_2
    try clear hfz26_3
    try clear hfz28_0
    try clear hfz28_1
    try clear hfz28_2
    try clear hfz28_3
    try clear hx163_0
    try clear hx163_1
    try clear hx163_2
    try clear hx163_3
    try clear hx165_0
    try clear hx166_0
    try clear hx167_0
    try clear hx168_0
    try clear p163
    try clear p165
    try clear p166
    try clear p167
    try clear p168
    try clear p2
    try clear q163
    try clear q165
    try clear q166
    try clear q167
    try clear q168
    obtain ⟨kq,x61_8,rfl,HA,HJ8,BK162,BK164,HB⟩:=hcut
    cases kq with
    | zero => exact absurd HA.out (by simp [spec_l08Back.j1])
    | succ kj8 =>
     have H:=HA.out
     clear HA
     simp only [spec_l08Back.j1] at H
     by_cases c29 : x61_8 = true
     ·subst c29
      have H1 : (some (wrap64 (x9_1 + 1))) = some r:=by rw [if_pos rfl] at H;exact H
      clear H
      have H:=H1
      clear H1
      obtain rfl:=Option.some.inj H
      go_wp2
      repeat (go_quiet (fail);try go_wp2)
      go_ret
      exact ⟨by rfl,by exact HB.out⟩
     replace c29:=Bool.eq_false_iff.mpr c29
     subst c29
     have H1 : (if ((rd_T67 l0_1 x9_1).f0) = a3 then (if 0 ≤ x9_1 then (if x9_1 < (l1.length : Int) then (if (rd l1 x9_1) > 0 then (if 0 ≤ ((rd_T67 l0_1 x9_1).f1) then (if ((rd_T67 l0_1 x9_1).f1) < (l2.length : Int) then (if (rd l2 ((rd_T67 l0_1 x9_1).f1)) < 1152921504606846976 then (if 0 ≤ a3 then (if a3 < (l2.length : Int) then (if (wrap64 ((wrap64 ((rd l2 ((rd_T67 l0_1 x9_1).f1)) - (wrap64 (10000 * ((rd_T67 l0_1 x9_1).f3))))) + 1)) = (rd l2 a3) then (some (wrap64 ((wrap64 (-x9_1)) - 1))) else (spec_l08Back.l0 kj8 l1 l2 a3 (wrap64 (x9_1 + 1)) a0_0 l0_1)) else (none)) else (none)) else (spec_l08Back.l0 kj8 l1 l2 a3 (wrap64 (x9_1 + 1)) a0_0 l0_1)) else (none)) else (none)) else (spec_l08Back.l0 kj8 l1 l2 a3 (wrap64 (x9_1 + 1)) a0_0 l0_1)) else (none)) else (none)) else (spec_l08Back.l0 kj8 l1 l2 a3 (wrap64 (x9_1 + 1)) a0_0 l0_1)) = some r:=by rw [if_neg (show ¬ (false = true) by decide)] at H;exact H
     clear H
     have H:=H1
     clear H1
     by_cases c30 : ((rd_T67 l0_1 x9_1).f0) = a3
     rotate_left
     ·rw [if_neg c30] at H
      have c30b0 : (((rd_T67 l0_1 x9_1).f0) == a3) = false:=beq_eq_false_iff_ne.mpr c30
      have c30b1 : (((rd_T67 l0_1 x9_1).f0) != a3) = true:=bne_iff_ne.mpr c30
      have H':=am_ H
      clear H
      have hnb48:=NB164_162.out
      have hnc48:=NB162_164.out
      have hcz49_0 : wc.cell? ⟨gb164,0,none⟩ = some (.int .i64 ((rd_T67 l0_1 x9_1).f0)):=(blk_cell BK164.out 0).trans rfl
      have hcz49_1 : wc.cell? ⟨gb164,1,none⟩ = some (.int .i64 ((rd_T67 l0_1 x9_1).f1)):=(blk_cell BK164.out 1).trans rfl
      have hcz49_2 : wc.cell? ⟨gb164,2,none⟩ = some (.int .i64 ((rd_T67 l0_1 x9_1).f2)):=(blk_cell BK164.out 2).trans rfl
      have hcz49_3 : wc.cell? ⟨gb164,3,none⟩ = some (.int .i64 ((rd_T67 l0_1 x9_1).f3)):=(blk_cell BK164.out 3).trans rfl
      have hfz49_0:=blk_frozen BK164.out 0
      have hfz49_1:=blk_frozen BK164.out 1
      have hfz49_2:=blk_frozen BK164.out 2
      have hfz49_3:=blk_frozen BK164.out 3
      go_wp2
      repeat (go_quiet (fail);try go_wp2)
      go_roundg kj8
      case measure=>have:=HK1.out;have:=HJ8.out;omega
      case rel=>exact ⟨(wrap64 (x9_1 + 1)),(by rfl),H',⟨by have:=HK1.out;have:=HJ8.out;omega⟩,⟨by (with_reducible repeat (refine blk_drewN ?_ _));exact BK162.out⟩,⟨by repeat ((with_reducible first|exact HB.out|apply pw_below_drewN))⟩⟩
     rw [if_pos c30] at H
     have c30b0 : (((rd_T67 l0_1 x9_1).f0) == a3) = true:=beq_iff_eq.mpr c30
     have c30b1 : (((rd_T67 l0_1 x9_1).f0) != a3) = false:=bne_eq_false_iff_eq.mpr c30
     clear c30
     by_cases c31 : 0 ≤ x9_1
     rotate_left
     ·rw [if_neg c31] at H
      exact absurd H (by simp)
     rw [if_pos c31] at H
     have c31b0 : decide (0 ≤ x9_1) = true:=decide_eq_true c31
     clear c31
     by_cases c32 : x9_1 < (l1.length : Int)
     rotate_left
     ·rw [if_neg c32] at H
      exact absurd H (by simp)
     rw [if_pos c32] at H
     have c32b0 : decide (x9_1 < (l1.length : Int)) = true:=decide_eq_true c32
     clear c32
     by_cases c33 : (rd l1 x9_1) > 0
     rotate_left
     ·rw [if_neg c33] at H
      have c33b0 : decide (0 < (rd l1 x9_1)) = false:=decide_eq_false c33
      clear c33
      have H':=am_ H
      clear H
      have hnb46:=NB164_162.out
      have hnc46:=NB162_164.out
      have hcz47_0 : wc.cell? ⟨gb164,0,none⟩ = some (.int .i64 ((rd_T67 l0_1 x9_1).f0)):=(blk_cell BK164.out 0).trans rfl
      have hcz47_1 : wc.cell? ⟨gb164,1,none⟩ = some (.int .i64 ((rd_T67 l0_1 x9_1).f1)):=(blk_cell BK164.out 1).trans rfl
      have hcz47_2 : wc.cell? ⟨gb164,2,none⟩ = some (.int .i64 ((rd_T67 l0_1 x9_1).f2)):=(blk_cell BK164.out 2).trans rfl
      have hcz47_3 : wc.cell? ⟨gb164,3,none⟩ = some (.int .i64 ((rd_T67 l0_1 x9_1).f3)):=(blk_cell BK164.out 3).trans rfl
      have hfz47_0:=blk_frozen BK164.out 0
      have hfz47_1:=blk_frozen BK164.out 1
      have hfz47_2:=blk_frozen BK164.out 2
      have hfz47_3:=blk_frozen BK164.out 3
      have p169 : 0 ≤ (x9_1 : Int):=of_decide_eq_true (by (with_reducible assumption))
      have q169 : x9_1 < (l1.length : Int):=of_decide_eq_true (by (with_reducible assumption))
      obtain ⟨ad169,e169,hx169_0⟩:=Kd.at_int HR1.out x9_1 p169 q169
      cases e169
      replace hx169_0:=kc_ HB.out hx169_0
      replace p169:=eq_true p169
      replace q169:=eq_true q169
      go_wp2
      repeat (go_quiet (fail);try go_wp2)
      go_roundg kj8
      case measure=>have:=HK1.out;have:=HJ8.out;omega
      case rel=>exact ⟨(wrap64 (x9_1 + 1)),(by rfl),H',⟨by have:=HK1.out;have:=HJ8.out;omega⟩,⟨by (with_reducible repeat (refine blk_drewN ?_ _));exact BK162.out⟩,⟨by repeat ((with_reducible first|exact HB.out|apply pw_below_drewN))⟩⟩
     rw [if_pos c33] at H
     have c33b0 : decide (0 < (rd l1 x9_1)) = true:=decide_eq_true c33
     clear c33
     by_cases c34 : 0 ≤ ((rd_T67 l0_1 x9_1).f1)
     rotate_left
     ·rw [if_neg c34] at H
      exact absurd H (by simp)
     rw [if_pos c34] at H
     have c34b0 : decide (0 ≤ ((rd_T67 l0_1 x9_1).f1)) = true:=decide_eq_true c34
     clear c34
     by_cases c35 : ((rd_T67 l0_1 x9_1).f1) < (l2.length : Int)
     rotate_left
     ·rw [if_neg c35] at H
      exact absurd H (by simp)
     rw [if_pos c35] at H
     have c35b0 : decide (((rd_T67 l0_1 x9_1).f1) < (l2.length : Int)) = true:=decide_eq_true c35
     clear c35
     by_cases c36 : (rd l2 ((rd_T67 l0_1 x9_1).f1)) < 1152921504606846976
     rotate_left
     ·rw [if_neg c36] at H
      have c36b0 : decide ((rd l2 ((rd_T67 l0_1 x9_1).f1)) < 1152921504606846976) = false:=decide_eq_false c36
      clear c36
      have H':=am_ H
      clear H
      have hnb44:=NB164_162.out
      have hnc44:=NB162_164.out
      have hcz45_0 : wc.cell? ⟨gb164,0,none⟩ = some (.int .i64 ((rd_T67 l0_1 x9_1).f0)):=(blk_cell BK164.out 0).trans rfl
      have hcz45_1 : wc.cell? ⟨gb164,1,none⟩ = some (.int .i64 ((rd_T67 l0_1 x9_1).f1)):=(blk_cell BK164.out 1).trans rfl
      have hcz45_2 : wc.cell? ⟨gb164,2,none⟩ = some (.int .i64 ((rd_T67 l0_1 x9_1).f2)):=(blk_cell BK164.out 2).trans rfl
      have hcz45_3 : wc.cell? ⟨gb164,3,none⟩ = some (.int .i64 ((rd_T67 l0_1 x9_1).f3)):=(blk_cell BK164.out 3).trans rfl
      have hfz45_0:=blk_frozen BK164.out 0
      have hfz45_1:=blk_frozen BK164.out 1
      have hfz45_2:=blk_frozen BK164.out 2
      have hfz45_3:=blk_frozen BK164.out 3
      have p169 : 0 ≤ (x9_1 : Int):=of_decide_eq_true (by (with_reducible assumption))
      have q169 : x9_1 < (l1.length : Int):=of_decide_eq_true (by (with_reducible assumption))
      obtain ⟨ad169,e169,hx169_0⟩:=Kd.at_int HR1.out x9_1 p169 q169
      cases e169
      replace hx169_0:=kc_ HB.out hx169_0
      replace p169:=eq_true p169
      replace q169:=eq_true q169
      have p170 : 0 ≤ (((rd_T67 l0_1 x9_1).f1) : Int):=of_decide_eq_true (by (with_reducible assumption))
      have q170 : ((rd_T67 l0_1 x9_1).f1) < (l2.length : Int):=of_decide_eq_true (by (with_reducible assumption))
      obtain ⟨ad170,e170,hx170_0⟩:=Kd.at_int HR2.out ((rd_T67 l0_1 x9_1).f1) p170 q170
      cases e170
      replace hx170_0:=kc_ HB.out hx170_0
      replace p170:=eq_true p170
      replace q170:=eq_true q170
      go_wp2
      repeat (go_quiet (fail);try go_wp2)
      go_roundg kj8
      case measure=>have:=HK1.out;have:=HJ8.out;omega
      case rel=>exact ⟨(wrap64 (x9_1 + 1)),(by rfl),H',⟨by have:=HK1.out;have:=HJ8.out;omega⟩,⟨by (with_reducible repeat (refine blk_drewN ?_ _));exact BK162.out⟩,⟨by repeat ((with_reducible first|exact HB.out|apply pw_below_drewN))⟩⟩
     rw [if_pos c36] at H
     have c36b0 : decide ((rd l2 ((rd_T67 l0_1 x9_1).f1)) < 1152921504606846976) = true:=decide_eq_true c36
     clear c36
     by_cases c37 : 0 ≤ a3
     rotate_left
     ·rw [if_neg c37] at H
      exact absurd H (by simp)
     rw [if_pos c37] at H
     have c37b0 : decide (0 ≤ a3) = true:=decide_eq_true c37
     clear c37
     by_cases c38 : a3 < (l2.length : Int)
     rotate_left
     ·rw [if_neg c38] at H
      exact absurd H (by simp)
     rw [if_pos c38] at H
     have c38b0 : decide (a3 < (l2.length : Int)) = true:=decide_eq_true c38
     clear c38
     by_cases c39 : (wrap64 ((wrap64 ((rd l2 ((rd_T67 l0_1 x9_1).f1)) - (wrap64 (10000 * ((rd_T67 l0_1 x9_1).f3))))) + 1)) = (rd l2 a3)
     ·rw [if_pos c39] at H
      have c39b0 : ((wrap64 ((wrap64 ((rd l2 ((rd_T67 l0_1 x9_1).f1)) - (wrap64 (10000 * ((rd_T67 l0_1 x9_1).f3))))) + 1)) == (rd l2 a3)) = true:=beq_iff_eq.mpr c39
      have c39b1 : ((wrap64 ((wrap64 ((rd l2 ((rd_T67 l0_1 x9_1).f1)) - (wrap64 (10000 * ((rd_T67 l0_1 x9_1).f3))))) + 1)) != (rd l2 a3)) = false:=bne_eq_false_iff_eq.mpr c39
      clear c39
      obtain rfl:=Option.some.inj H
      have hnb40:=NB164_162.out
      have hnc40:=NB162_164.out
      have hcz41_0 : wc.cell? ⟨gb164,0,none⟩ = some (.int .i64 ((rd_T67 l0_1 x9_1).f0)):=(blk_cell BK164.out 0).trans rfl
      have hcz41_1 : wc.cell? ⟨gb164,1,none⟩ = some (.int .i64 ((rd_T67 l0_1 x9_1).f1)):=(blk_cell BK164.out 1).trans rfl
      have hcz41_2 : wc.cell? ⟨gb164,2,none⟩ = some (.int .i64 ((rd_T67 l0_1 x9_1).f2)):=(blk_cell BK164.out 2).trans rfl
      have hcz41_3 : wc.cell? ⟨gb164,3,none⟩ = some (.int .i64 ((rd_T67 l0_1 x9_1).f3)):=(blk_cell BK164.out 3).trans rfl
      have hfz41_0:=blk_frozen BK164.out 0
      have hfz41_1:=blk_frozen BK164.out 1
      have hfz41_2:=blk_frozen BK164.out 2
      have hfz41_3:=blk_frozen BK164.out 3
      have p169 : 0 ≤ (x9_1 : Int):=of_decide_eq_true (by (with_reducible assumption))
      have q169 : x9_1 < (l1.length : Int):=of_decide_eq_true (by (with_reducible assumption))
      obtain ⟨ad169,e169,hx169_0⟩:=Kd.at_int HR1.out x9_1 p169 q169
      cases e169
      replace hx169_0:=kc_ HB.out hx169_0
      replace p169:=eq_true p169
      replace q169:=eq_true q169
      have p170 : 0 ≤ (((rd_T67 l0_1 x9_1).f1) : Int):=of_decide_eq_true (by (with_reducible assumption))
      have q170 : ((rd_T67 l0_1 x9_1).f1) < (l2.length : Int):=of_decide_eq_true (by (with_reducible assumption))
      obtain ⟨ad170,e170,hx170_0⟩:=Kd.at_int HR2.out ((rd_T67 l0_1 x9_1).f1) p170 q170
      cases e170
      replace hx170_0:=kc_ HB.out hx170_0
      replace p170:=eq_true p170
      replace q170:=eq_true q170
      have p171 : 0 ≤ (((rd_T67 l0_1 x9_1).f1) : Int):=of_decide_eq_true (by (with_reducible assumption))
      have q171 : ((rd_T67 l0_1 x9_1).f1) < (l2.length : Int):=of_decide_eq_true (by (with_reducible assumption))
      obtain ⟨ad171,e171,hx171_0⟩:=Kd.at_int HR2.out ((rd_T67 l0_1 x9_1).f1) p171 q171
      obtain rfl : ad170 = ad171:=(by injection e171)
      replace hx171_0:=kc_ HB.out hx171_0
      replace p171:=eq_true p171
      replace q171:=eq_true q171
      have p172 : 0 ≤ (a3 : Int):=of_decide_eq_true (by (with_reducible assumption))
      have q172 : a3 < (l2.length : Int):=of_decide_eq_true (by (with_reducible assumption))
      obtain ⟨ad172,e172,hx172_0⟩:=Kd.at_int HR2.out a3 p172 q172
      obtain rfl : ad170 = ad172:=(by injection e172)
      replace hx172_0:=kc_ HB.out hx172_0
      replace p172:=eq_true p172
      replace q172:=eq_true q172
      go_wp2
      repeat (go_quiet (fail);try go_wp2)
      go_ret
      exact ⟨by rfl,by repeat ((with_reducible first|exact HB.out|apply pw_below_drewN))⟩
     rw [if_neg c39] at H
     have c39b0 : ((wrap64 ((wrap64 ((rd l2 ((rd_T67 l0_1 x9_1).f1)) - (wrap64 (10000 * ((rd_T67 l0_1 x9_1).f3))))) + 1)) == (rd l2 a3)) = false:=beq_eq_false_iff_ne.mpr c39
     have c39b1 : ((wrap64 ((wrap64 ((rd l2 ((rd_T67 l0_1 x9_1).f1)) - (wrap64 (10000 * ((rd_T67 l0_1 x9_1).f3))))) + 1)) != (rd l2 a3)) = true:=bne_iff_ne.mpr c39
     have H':=am_ H
     clear H
     have hnb42:=NB164_162.out
     have hnc42:=NB162_164.out
     have hcz43_0 : wc.cell? ⟨gb164,0,none⟩ = some (.int .i64 ((rd_T67 l0_1 x9_1).f0)):=(blk_cell BK164.out 0).trans rfl
     have hcz43_1 : wc.cell? ⟨gb164,1,none⟩ = some (.int .i64 ((rd_T67 l0_1 x9_1).f1)):=(blk_cell BK164.out 1).trans rfl
     have hcz43_2 : wc.cell? ⟨gb164,2,none⟩ = some (.int .i64 ((rd_T67 l0_1 x9_1).f2)):=(blk_cell BK164.out 2).trans rfl
     have hcz43_3 : wc.cell? ⟨gb164,3,none⟩ = some (.int .i64 ((rd_T67 l0_1 x9_1).f3)):=(blk_cell BK164.out 3).trans rfl
     have hfz43_0:=blk_frozen BK164.out 0
     have hfz43_1:=blk_frozen BK164.out 1
     have hfz43_2:=blk_frozen BK164.out 2
     have hfz43_3:=blk_frozen BK164.out 3
     have p169 : 0 ≤ (x9_1 : Int):=of_decide_eq_true (by (with_reducible assumption))
     have q169 : x9_1 < (l1.length : Int):=of_decide_eq_true (by (with_reducible assumption))
     obtain ⟨ad169,e169,hx169_0⟩:=Kd.at_int HR1.out x9_1 p169 q169
     cases e169
     replace hx169_0:=kc_ HB.out hx169_0
     replace p169:=eq_true p169
     replace q169:=eq_true q169
     have p170 : 0 ≤ (((rd_T67 l0_1 x9_1).f1) : Int):=of_decide_eq_true (by (with_reducible assumption))
     have q170 : ((rd_T67 l0_1 x9_1).f1) < (l2.length : Int):=of_decide_eq_true (by (with_reducible assumption))
     obtain ⟨ad170,e170,hx170_0⟩:=Kd.at_int HR2.out ((rd_T67 l0_1 x9_1).f1) p170 q170
     cases e170
     replace hx170_0:=kc_ HB.out hx170_0
     replace p170:=eq_true p170
     replace q170:=eq_true q170
     have p171 : 0 ≤ (((rd_T67 l0_1 x9_1).f1) : Int):=of_decide_eq_true (by (with_reducible assumption))
     have q171 : ((rd_T67 l0_1 x9_1).f1) < (l2.length : Int):=of_decide_eq_true (by (with_reducible assumption))
     obtain ⟨ad171,e171,hx171_0⟩:=Kd.at_int HR2.out ((rd_T67 l0_1 x9_1).f1) p171 q171
     obtain rfl : ad170 = ad171:=(by injection e171)
     replace hx171_0:=kc_ HB.out hx171_0
     replace p171:=eq_true p171
     replace q171:=eq_true q171
     have p172 : 0 ≤ (a3 : Int):=of_decide_eq_true (by (with_reducible assumption))
     have q172 : a3 < (l2.length : Int):=of_decide_eq_true (by (with_reducible assumption))
     obtain ⟨ad172,e172,hx172_0⟩:=Kd.at_int HR2.out a3 p172 q172
     obtain rfl : ad170 = ad172:=(by injection e172)
     replace hx172_0:=kc_ HB.out hx172_0
     replace p172:=eq_true p172
     replace q172:=eq_true q172
     go_wp2
     repeat (go_quiet (fail);try go_wp2)
     go_roundg kj8
     case measure=>have:=HK1.out;have:=HJ8.out;omega
     case rel=>exact ⟨(wrap64 (x9_1 + 1)),(by rfl),H',⟨by have:=HK1.out;have:=HJ8.out;omega⟩,⟨by (with_reducible repeat (refine blk_drewN ?_ _));exact BK162.out⟩,⟨by repeat ((with_reducible first|exact HB.out|apply pw_below_drewN))⟩⟩

end Go.Proofs.Ytgkpgigoonhgdaa.PFnExactLeastCost
