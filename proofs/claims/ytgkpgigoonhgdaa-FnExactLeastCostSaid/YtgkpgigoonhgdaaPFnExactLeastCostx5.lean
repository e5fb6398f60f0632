-- Made by the session's wip/pp.py, a changed call of the kit's printer; Lean checks it.
import Derived.Test.YtgkpgigoonhgdaaPFnExactLeastCostx0
namespace Go.Proofs.Ytgkpgigoonhgdaa.PFnExactLeastCost
open Go.RowKit Go.Proofs.YtgkpgigoonhgdaaW.PrintWords Go.Proofs.YtgkpgigoonhgdaaW.PrintLast Go.Proofs.YtgkpgigoonhgdaaW.PrintMore
attribute [local go_sem] max2_int min2_int max_two min_two max_three min_three max_four min_four   -- for this text's walks alone
set_option linter.unusedVariables false
set_option linter.unusedSimpArgs false

abbrev fl5_0_ : Array Bool:=#[false,false,false,false,false,false,false,false,false,false,false,false,false,false,false,false,false,false,false,false,false,false,false]
abbrev fl5_1_ : Array Bool:=#[true,false,false,false,false,false,false,false,false,false,false,false,false,false,false,false,false,false,false,false,false,false,false]
abbrev fl5_2_ : Array Bool:=#[true,true,false,false,false,false,false,false,false,false,false,false,false,false,false,false,false,false,false,false,false,false,false]
abbrev fl5_3_ : Array Bool:=#[true,true,false,true,false,false,false,false,false,false,false,false,false,false,false,false,false,false,false,false,false,false,false]
abbrev fl5_4_ : Array Bool:=#[true,true,false,true,false,false,false,true,false,false,false,false,false,false,false,false,false,false,false,false,false,false,false]
abbrev fl5_5_ : Array Bool:=#[true,true,false,true,false,false,false,true,true,false,false,false,false,false,false,false,false,false,false,false,false,false,false]
abbrev fl5_6_ : Array Bool:=#[true,true,false,true,false,false,false,true,true,false,true,false,false,false,false,false,false,false,false,false,false,false,false]
abbrev fl5_7_ : Array Bool:=#[true,true,false,true,false,false,false,true,true,false,true,false,false,false,false,false,true,false,false,false,false,false,false]
abbrev fl5_8_ : Array Bool:=#[true,true,false,true,false,false,false,true,true,false,true,false,false,false,false,false,true,true,false,false,false,false,false]
abbrev fl5_9_ : Array Bool:=#[true,true,false,true,false,false,false,true,true,false,true,false,false,false,false,false,true,true,true,false,false,false,false]
abbrev fl5_10_ : Array Bool:=#[true,true,true,true,false,false,false,true,true,false,true,false,false,false,false,false,true,true,true,false,false,false,false]
abbrev fl5_11_ : Array Bool:=#[true,true,true,true,true,false,false,true,true,false,true,false,false,false,false,false,true,true,true,false,false,false,false]
abbrev fl5_12_ : Array Bool:=#[true,true,true,true,true,true,false,true,true,false,true,false,false,false,false,false,true,true,true,false,false,false,false]
abbrev fl5_13_ : Array Bool:=#[true,true,true,true,true,true,true,true,true,false,true,false,false,false,false,false,true,true,true,false,false,false,false]
abbrev fl5_14_ : Array Bool:=#[true,true,true,true,true,true,true,true,true,true,true,false,false,false,false,false,true,true,true,false,false,false,false]
abbrev fl5_15_ : Array Bool:=#[true,true,true,true,true,true,true,true,true,true,true,true,false,false,false,false,true,true,true,false,false,false,false]
abbrev fl5_16_ : Array Bool:=#[true,true,true,true,true,true,true,true,true,true,true,true,true,false,false,false,true,true,true,false,false,false,false]
abbrev fl5_17_ : Array Bool:=#[true,true,true,true,true,true,true,true,true,true,true,true,true,true,false,false,true,true,true,false,false,false,false]
abbrev fl5_18_ : Array Bool:=#[true,true,true,true,true,true,true,true,true,true,true,true,true,true,true,false,true,true,true,false,false,false,false]
abbrev fl5_19_ : Array Bool:=#[true,true,true,true,true,true,true,true,true,true,true,true,true,true,true,true,true,true,true,false,false,false,false]
abbrev fl5_20_ : Array Bool:=#[true,true,true,true,true,true,true,true,true,true,true,true,true,true,true,true,true,true,true,true,false,false,false]
abbrev fl5_21_ : Array Bool:=#[true,true,true,true,true,true,true,true,true,true,true,true,true,true,true,true,true,true,true,true,true,false,false]
abbrev fl5_22_ : Array Bool:=#[true,true,true,true,true,true,true,true,true,true,true,true,true,true,true,true,true,true,true,true,true,true,false]
abbrev fl5_23_ : Array Bool:=#[true,true,true,true,true,true,true,true,true,true,true,true,true,true,true,true,true,true,true,true,true,true,true]
/-! ### spec_l06Out: function 63 -/
def spec_l06Out.l0 : Nat → List Int → List Int → Int → Int → List (S67) → Option (List Int)
 | 0, _, _, _, _, _ => none
 | k + 1, x1, x5, x6, x174000, x174001 => if x6 < (x1.length : Int) then (if 0 ≤ x6 then (if x6 < (x174001.length : Int) then (if 0 ≤ ((rd_T67 x174001 x6).f0) then (if ((rd_T67 x174001 x6).f0) < (x5.length : Int) then ((some (x5.set (((rd_T67 x174001 x6).f0) : Int).toNat (wrap64 ((rd x5 ((rd_T67 x174001 x6).f0)) + (rd x1 x6))) : List Int)).bind fun y181 => (if 0 ≤ ((rd_T67 x174001 x6).f1) then (if ((rd_T67 x174001 x6).f1) < (x5.length : Int) then (spec_l06Out.l0 k x1 (y181.set (((rd_T67 x174001 x6).f1) : Int).toNat (wrap64 ((rd y181 ((rd_T67 x174001 x6).f1)) - (rd x1 x6)))) (wrap64 (x6 + 1)) x174000 x174001) else (none)) else (none))) else (none)) else (none)) else (none)) else (none)) else (some x5)
def spec_l06Out.f (k : Nat) (a0_0 : Int) (l0_1 : List (S67)) (l1 : List Int) : Option (List Int):=if 0 ≤ a0_0 then (if (a0_0 : Int).toNat ≤ 35184372088832 then (spec_l06Out.l0 k l1 (List.replicate (a0_0 : Int).toNat 0) 0 a0_0 l0_1) else (none)) else (none)
theorem spec_l06Out.mono_l : ∀ k,(∀ y0 y1 y2 y3 y4,LeO (spec_l06Out.l0 k y0 y1 y2 y3 y4) (spec_l06Out.l0 (k + 1) y0 y1 y2 y3 y4))
 | 0 => fun _ _ _ _ _ r h => by simp [spec_l06Out.l0] at h
 | k + 1 => by
  have ih0:=spec_l06Out.mono_l k
  ·intro y0 y1 y2 y3 y4
   unfold spec_l06Out.l0
   repeat' first
   | (with_reducible exact ih0 _ _ _ _ _)
   | (with_reducible exact LeO.refl _)
   | (with_reducible refine LeO.ite ?_ ?_)
   | (with_reducible refine LeO.bind ?_ (fun _ => ?_))
theorem spec_l06Out.mono : ∀ a0 a1 a2 k,LeO (spec_l06Out.f k a0 a1 a2) (spec_l06Out.f (k + 1) a0 a1 a2):=by
 intro a0 a1 a2 k
 have ih0:=spec_l06Out.mono_l k
 unfold spec_l06Out.f
 repeat' first
   | (with_reducible exact ih0 _ _ _ _ _)
   | (with_reducible exact LeO.refl _)
   | (with_reducible refine LeO.ite ?_ ?_)
def spec_l06Out.T5 : Bool × List (List Nat × List Nat):=(true,[([],[]),([],[]),([1],[1]),([],[]),([2,3],[2,3]),([4],[4]),([5],[5]),([],[]),([],[]),([8],[8]),([],[]),([9,10],[9,10]),([11],[11]),([12],[12]),([7,13],[7,13]),([14],[14]),([],[]),([],[]),([16,17],[16,17]),([18],[18]),([15,19],[15,19]),([0,6,0,1,2,3,4,5,6,7,8,9,10,11,12,13,14,15,16,17,18,19,20],[0,6]),([21,20,0,1,2,3,4,5,6,7,8,9,10,11,12,13,14,15,16,17,18,19,20],[20,21])])
def spec_l06Out.B5 : List Nat:=[0,0,2,0,14,30,62,0,0,256,0,1792,3840,7936,16256,32640,0,0,196608,458752,1048448,2097151,4194303]
theorem spec_l06Out.tab5 : rtab .any (opsOf Try.f63 5) = spec_l06Out.T5:=by kernel_rfl
theorem spec_l06Out.bits5 : waitsOk spec_l06Out.T5.2 spec_l06Out.B5 = true:=by kernel_rfl
def spec_l06Out.T6 : Bool × List (List Nat × List Nat):=(true,[([],[]),([],[]),([1],[1]),([],[]),([2,3],[2,3]),([4],[4]),([5],[5]),([],[]),([],[]),([8],[8]),([],[]),([9,10],[9,10]),([11],[11]),([12],[12]),([7,13],[7,13]),([14],[14]),([],[]),([],[]),([16,17],[16,17]),([18],[18]),([15,19],[15,19]),([0,6,0,1,2,3,4,5,6,7,8,9,10,11,12,13,14,15,16,17,18,19,20],[0,6]),([21,20,0,1,2,3,4,5,6,7,8,9,10,11,12,13,14,15,16,17,18,19,20],[20,21])])
def spec_l06Out.B6 : List Nat:=[0,0,2,0,14,30,62,0,0,256,0,1792,3840,7936,16256,32640,0,0,196608,458752,1048448,2097151,4194303]
theorem spec_l06Out.tab6 : rtab .any (opsOf Try.f63 6) = spec_l06Out.T6:=by kernel_rfl
theorem spec_l06Out.bits6 : waitsOk spec_l06Out.T6.2 spec_l06Out.B6 = true:=by kernel_rfl
set_option maxHeartbeats 8000000 in
set_option maxRecDepth 100000 in
theorem spec_l06Out.calls (k : Nat) (a0_0 : Int) (A0_1 : Option Addr) (c0_1 : Nat) (l0_1 : List (S67)) (A1 : Option Addr) (c1 : Nat) (l1 : List Int) (r : List Int) (w : World) (hr0_1 : Kd.C k67 w A0_1 l0_1.length l0_1) (hc0_1 : l0_1.length ≤ c0_1) (hr1 : Kd.C (Kd.int .i64) w A1 l1.length l1) (hc1 : l1.length ≤ c1) (h : spec_l06Out.f k a0_0 l0_1 l1 = some r) :
  Calls Try.prog 63 #[.agg #[.int .i64 a0_0,.slice A0_1 l0_1.length c0_1],.slice A1 l1.length c1] w fun e w'=>∃ v0_ : Value,e = .returned (v0_) ∧ Kd.R (Kd.int .i64) 3 w' w.heap.size (fun _=>True) v0_ r ∧ Below w.heap.size w w':=by
 have hu30:=Try.underlying30
 have HR0_1:=am_ hr0_1
 have HC0_1:=am_ hc0_1
 clear hr0_1 hc0_1
 have HR1:=am_ hr1
 have HC1:=am_ hc1
 clear hr1 hc1
 have HB:=am_ (Below.refl w.heap.size w)
 have H : (if 0 ≤ a0_0 then (if (a0_0 : Int).toNat ≤ 35184372088832 then (spec_l06Out.l0 k l1 (List.replicate (a0_0 : Int).toNat 0) 0 a0_0 l0_1) else (none)) else (none)) = some r:=h
 clear h
 by_cases c3 : 0 ≤ a0_0
 rotate_left
 ·rw [if_neg c3] at H
  exact absurd H (by simp)
 rw [if_pos c3] at H
 have c3b0:=eq_true c3
 have c3b1 : decide (0 ≤ a0_0) = true:=decide_eq_true c3
 clear c3
 by_cases c4 : (a0_0 : Int).toNat ≤ 35184372088832
 rotate_left
 ·rw [if_neg c4] at H
  exact absurd H (by simp)
 rw [if_pos c4] at H
 have c4b0:=eq_true c4
 have c4b1 : decide ((a0_0 : Int).toNat ≤ 35184372088832) = true:=decide_eq_true c4
 clear c4
 obtain ⟨y174,hy174⟩ : ∃ y_ : List Int,y_ = (List.replicate (a0_0 : Int).toNat 0):=⟨_,rfl⟩
 replace H : (spec_l06Out.l0 k l1 y174 0 a0_0 l0_1) = some r:=by (rw [hy174];with_reducible exact H)
 have Ny174:=am_ hy174
 clear hy174
 have H':=am_ H
 clear H
 go_enter Try.func63,Try.ntmps63
 go_wp2_with (first|((with_reducible refine gate_dst (N:=2) rfl ?_);refine box_event ?hg (N:=2) ?hd (cs:=#[.int .i64 a0_0,.slice A0_1 l0_1.length c0_1]) (t:=30) ?hr ?_;(case hd=>rfl);(case hg=>rfl);(case hr=>(go_simp;done));intro gb173 hg w5 hbox hb;have n0_:=am_ (below_step HB.out hb);have n1_:=am_ (hbox);have n2_:=am_ ((by rw [hg];exact (below_size HB.out) : w.heap.size ≤ gb173));have n3_:=n2_;clear HB;have HB:=n0_;have BK173:=n1_;have GW173:=n2_;have GE173:=n3_;clear n0_ n1_ n2_ n3_ hb hbox hg;have hcz6_0 : w5.cell? ⟨gb173,0,none⟩ = some (.int .i64 a0_0):=(blk_cell BK173.out 0).trans rfl;have hcz6_1 : w5.cell? ⟨gb173,1,none⟩ = some (.slice A0_1 l0_1.length c0_1):=(blk_cell BK173.out 1).trans rfl;have hfz6_0:=blk_frozen BK173.out 0;have hfz6_1:=blk_frozen BK173.out 1)|((with_reducible refine gate_dst (N:=9) rfl ?_);refine Kd.R_make (Kd.int .i64) _ 3 rfl (N:=9) rfl 25 _ _ rfl a0_0 rfl rfl Try.underlying25 (.int .i64 0) 8 info3 rfl (by decide) (by omega) 0 (ok:=fun _=>True) (okp:=fun _=>True) rfl (fun _ hk=>hk) trivial (of_decide_eq_true (by (with_reducible assumption))) (Nat.le_trans (Nat.mul_le_mul_right _ (of_decide_eq_true (by (with_reducible assumption)) : a0_0.toNat ≤ 35184372088832)) (by omega)) (Below.refl _ _) (Nat.le_refl _) ?_;intro v175 w7 ho8 hb hg_ hnew_;clear hg_ hnew_;(rw [← Ny174.out] at ho8);have n0_:=am_ (Kd.R_lower ho8 (below_size HB.out));have n1_:=am_ (blk_below BK173.out hb);have n2_:=am_ (below_step HB.out hb);clear BK173 HB;have HO176:=n0_;have BK173:=n1_;have HB:=n2_;clear n0_ n1_ n2_ hb ho8))
 go_loopg [6] k (fun kq v6 w'=>∃ (x5_1 : List Int) (x6_1 : Int),v6 = .int .i64 x6_1 ∧ Aside0 (spec_l06Out.l0 kq l1 x5_1 x6_1 a0_0 l0_1 = some r) ∧ Aside0 (kq ≤ k) ∧ Aside0 (Kd.R (Kd.int .i64) 3 w' w.heap.size (fun _=>True) v175 x5_1) ∧ Aside0 (w'.heap[gb173]? = some (.cells #[.int .i64 a0_0,(.slice A0_1 l0_1.length c0_1)] 30 (0,0))) ∧ Aside0 (Below w.heap.size w w'))
 case atStart=>exact ⟨(y174),(0),(by rfl),H',⟨Nat.le_refl _⟩,⟨by exact HO176.out⟩,⟨by exact BK173.out⟩,⟨by exact HB.out⟩⟩
 case round =>
  clear H'
  try clear c1
  try clear p2
  try clear c3
  try clear c3b0
  try clear c3b1
  try clear c4
  try clear c4b0
  try clear c4b1
  try clear c6
  try clear hcz6_0
  try clear hcz6_1
  try clear hfz6_0
  try clear hfz6_1
  obtain ⟨x5_1,x6_1,rfl,HA,HK1,HO_5,BK173,HB⟩:=hrel
  cases gk with
  | zero => exact absurd HA.out (by simp [spec_l06Out.l0])
  | succ k1 =>
   have H:=HA.out
   clear HA
   simp only [spec_l06Out.l0] at H
   by_cases c9 : x6_1 < (l1.length : Int)
   rotate_left
   ·rw [if_neg c9] at H
    have c9b0 : decide (x6_1 < (l1.length : Int)) = false:=decide_eq_false c9
    clear c9
    obtain rfl:=Option.some.inj H
    go_wp2
    go_ret
    exact ⟨_,by rfl,by exact HO_5.out,by exact HB.out⟩
   rw [if_pos c9] at H
   have c9b0 : decide (x6_1 < (l1.length : Int)) = true:=decide_eq_true c9
   clear c9
   by_cases c10 : 0 ≤ x6_1
   rotate_left
   ·rw [if_neg c10] at H
    exact absurd H (by simp)
   rw [if_pos c10] at H
   have c10b0 : decide (0 ≤ x6_1) = true:=decide_eq_true c10
   clear c10
   by_cases c11 : x6_1 < (l0_1.length : Int)
   rotate_left
   ·rw [if_neg c11] at H
    exact absurd H (by simp)
   rw [if_pos c11] at H
   have c11b0 : decide (x6_1 < (l0_1.length : Int)) = true:=decide_eq_true c11
   clear c11
   by_cases c12 : 0 ≤ ((rd_T67 l0_1 x6_1).f0)
   rotate_left
   ·rw [if_neg c12] at H
    exact absurd H (by simp)
   rw [if_pos c12] at H
   have c12b0 : decide (0 ≤ ((rd_T67 l0_1 x6_1).f0)) = true:=decide_eq_true c12
   clear c12
   by_cases c13 : ((rd_T67 l0_1 x6_1).f0) < (x5_1.length : Int)
   rotate_left
   ·rw [if_neg c13] at H
    exact absurd H (by simp)
   rw [if_pos c13] at H
   have c13b0 : decide (((rd_T67 l0_1 x6_1).f0) < (x5_1.length : Int)) = true:=decide_eq_true c13
   clear c13
   obtain ⟨y181,hy181⟩ : ∃ y_ : List Int,y_ = (x5_1.set (((rd_T67 l0_1 x6_1).f0) : Int).toNat (wrap64 ((rd x5_1 ((rd_T67 l0_1 x6_1).f0)) + (rd l1 x6_1)))):=⟨_,rfl⟩
   replace H : (if 0 ≤ ((rd_T67 l0_1 x6_1).f1) then (if ((rd_T67 l0_1 x6_1).f1) < (x5_1.length : Int) then (spec_l06Out.l0 k1 l1 (y181.set (((rd_T67 l0_1 x6_1).f1) : Int).toNat (wrap64 ((rd y181 ((rd_T67 l0_1 x6_1).f1)) - (rd l1 x6_1)))) (wrap64 (x6_1 + 1)) a0_0 l0_1) else (none)) else (none)) = some r:=by (have H2_:=(Option.bind_some _ _).symm.trans H;rw [hy181];with_reducible exact H2_)
   have Ny181:=am_ hy181
   clear hy181
   by_cases c15 : 0 ≤ ((rd_T67 l0_1 x6_1).f1)
   rotate_left
   ·rw [if_neg c15] at H
    exact absurd H (by simp)
   rw [if_pos c15] at H
   have c15b0 : decide (0 ≤ ((rd_T67 l0_1 x6_1).f1)) = true:=decide_eq_true c15
   clear c15
   by_cases c16 : ((rd_T67 l0_1 x6_1).f1) < (x5_1.length : Int)
   rotate_left
   ·rw [if_neg c16] at H
    exact absurd H (by simp)
   rw [if_pos c16] at H
   have c16b0 : decide (((rd_T67 l0_1 x6_1).f1) < (x5_1.length : Int)) = true:=decide_eq_true c16
   clear c16
   obtain ⟨y186,hy186⟩ : ∃ y_ : List Int,y_ = (y181.set (((rd_T67 l0_1 x6_1).f1) : Int).toNat (wrap64 ((rd y181 ((rd_T67 l0_1 x6_1).f1)) - (rd l1 x6_1)))):=⟨_,rfl⟩
   replace H : (spec_l06Out.l0 k1 l1 y186 (wrap64 (x6_1 + 1)) a0_0 l0_1) = some r:=by (rw [hy186];with_reducible exact H)
   have Ny186:=am_ hy186
   clear hy186
   have H':=am_ H
   clear H
   try go_wp2
   have n0_:=am_ (Kd.R_drew HO_5.out)
   have n1_:=am_ (blk_drew BK173.out)
   have n2_:=am_ (below_drew1 HB.out)
   clear HO_5
   clear BK173
   clear HB
   have HO_5:=n0_
   have BK173:=n1_
   have HB:=n2_
   clear n0_ n1_ n2_
   have p177 : 0 ≤ (x6_1 : Int):=of_decide_eq_true (by (with_reducible assumption))
   have q177 : x6_1 < (l0_1.length : Int):=of_decide_eq_true (by (with_reducible assumption))
   obtain ⟨ad177,e177,hx177_0,hx177_1,hx177_2,hx177_3⟩:=at_T67 HR0_1.out x6_1 p177 q177
   have hw177_3:=hx177_3
   have hw177_2:=hx177_2
   have hw177_1:=hx177_1
   have hw177_0:=hx177_0
   cases e177
   replace hx177_0:=kc_ HB.out hx177_0
   replace hx177_1:=kc_ HB.out hx177_1
   replace hx177_2:=kc_ HB.out hx177_2
   replace hx177_3:=kc_ HB.out hx177_3
   replace p177:=eq_true p177
   replace q177:=eq_true q177
   have p178 : 0 ≤ (x6_1 : Int):=of_decide_eq_true (by (with_reducible assumption))
   have q178 : x6_1 < (l0_1.length : Int):=of_decide_eq_true (by (with_reducible assumption))
   obtain ⟨ad178,e178,hx178_0,hx178_1,hx178_2,hx178_3⟩:=at_T67 HR0_1.out x6_1 p178 q178
   have hw178_3:=hx178_3
   have hw178_2:=hx178_2
   have hw178_1:=hx178_1
   have hw178_0:=hx178_0
   obtain rfl : ad177 = ad178:=(by injection e178)
   replace hx178_0:=kc_ HB.out hx178_0
   replace hx178_1:=kc_ HB.out hx178_1
   replace hx178_2:=kc_ HB.out hx178_2
   replace hx178_3:=kc_ HB.out hx178_3
   replace p178:=eq_true p178
   replace q178:=eq_true q178
   obtain ⟨Ao19,co19,eo19⟩:=Kd.R_slice HO_5.out
   (subst eo19)
   have p179 : 0 ≤ (((rd_T67 l0_1 x6_1).f0) : Int):=of_decide_eq_true (by (with_reducible assumption))
   have q179 : ((rd_T67 l0_1 x6_1).f0) < (x5_1.length : Int):=of_decide_eq_true (by (with_reducible assumption))
   obtain ⟨ad179,e179,hx179_0⟩:=Kd.at_int (Kd.R_reads' HO_5.out).2.2 ((rd_T67 l0_1 x6_1).f0) p179 q179
   cases e179
   replace p179:=eq_true p179
   replace q179:=eq_true q179
   have p180 : 0 ≤ (x6_1 : Int):=of_decide_eq_true (by (with_reducible assumption))
   have q180 : x6_1 < (l1.length : Int):=of_decide_eq_true (by (with_reducible assumption))
   obtain ⟨ad180,e180,hx180_0⟩:=Kd.at_int HR1.out x6_1 p180 q180
   have hw180_0:=hx180_0
   cases e180
   replace hx180_0:=kc_ HB.out hx180_0
   replace p180:=eq_true p180
   replace q180:=eq_true q180
   have p14 : 0 ≤ (((rd_T67 l0_1 x6_1).f0) : Int):=of_decide_eq_true (by (with_reducible assumption))
   have q14 : (((rd_T67 l0_1 x6_1).f0) : Int) < ((x5_1.length : Int) : Int):=of_decide_eq_true (by (with_reducible assumption))
   obtain ⟨go14,co14,eo14,gb14,gl14,cl14,HG14⟩:=Kd.R_form HO_5.out (by omega)
   (cases eo14)
   have GB14:=am_ gb14
   have GG14:=am_ HG14
   clear gb14 gl14 HG14
   (simp only [add_plain] at hx179_0)
   obtain ⟨hx14_0,hf14_0⟩:=Kd.R_celln 0 HO_5.out (((rd_T67 l0_1 x6_1).f0) : Int) p14 q14
   replace p14:=eq_true p14
   replace q14:=eq_true q14
   have HP20:=Kd.R_putn HO_5.out (((rd_T67 l0_1 x6_1).f0) : Int) (wrap64 ((rd x5_1 ((rd_T67 l0_1 x6_1).f0)) + (rd l1 x6_1)))
   rw [← Ny181.out] at HP20
   have HQ20:=am_ HP20
   clear HP20
   refine start_ (n:=23) (S:=fun w'=>w'.cell? ⟨gb173,0,none⟩ = some (.int .i64 a0_0) ∧ w'.cell? ⟨gb173,1,none⟩ = some (.slice (some ad177) l0_1.length c0_1) ∧ w'.cell? (ad177.add ((x6_1).toNat * 4)) = some (.int .i64 ((rd_T67 l0_1 x6_1).f0)) ∧ w'.cell? ⟨(ad177.add ((x6_1).toNat * 4)).block,(ad177.add ((x6_1).toNat * 4)).off + 1,none⟩ = some (.int .i64 ((rd_T67 l0_1 x6_1).f1)) ∧ w'.cell? ⟨(ad177.add ((x6_1).toNat * 4)).block,(ad177.add ((x6_1).toNat * 4)).off + 2,none⟩ = some (.int .i64 ((rd_T67 l0_1 x6_1).f2)) ∧ w'.cell? ⟨(ad177.add ((x6_1).toNat * 4)).block,(ad177.add ((x6_1).toNat * 4)).off + 3,none⟩ = some (.int .i64 ((rd_T67 l0_1 x6_1).f3)) ∧ w'.cell? (ad177.add ((x6_1).toNat * 4)) = some (.int .i64 ((rd_T67 l0_1 x6_1).f0)) ∧ w'.cell? ⟨(ad177.add ((x6_1).toNat * 4)).block,(ad177.add ((x6_1).toNat * 4)).off + 1,none⟩ = some (.int .i64 ((rd_T67 l0_1 x6_1).f1)) ∧ w'.cell? ⟨(ad177.add ((x6_1).toNat * 4)).block,(ad177.add ((x6_1).toNat * 4)).off + 2,none⟩ = some (.int .i64 ((rd_T67 l0_1 x6_1).f2)) ∧ w'.cell? ⟨(ad177.add ((x6_1).toNat * 4)).block,(ad177.add ((x6_1).toNat * 4)).off + 3,none⟩ = some (.int .i64 ((rd_T67 l0_1 x6_1).f3)) ∧ w'.cell? ⟨go14,(((rd_T67 l0_1 x6_1).f0)).toNat,none⟩ = some (.int .i64 (rd x5_1 ((rd_T67 l0_1 x6_1).f0))) ∧ w'.cell? (ad180.add (x6_1).toNat) = some (.int .i64 (rd l1 x6_1))) (ds:=[22]) fl5_0_ (by kernel_rfl) rfl rfl ⟨(blk_cell BK173.out 0).trans rfl,(blk_cell BK173.out 1).trans rfl,(kc_ HB.out hw177_0),(kc_ HB.out hw177_1),(kc_ HB.out hw177_2),(kc_ HB.out hw177_3),(kc_ HB.out hw178_0),(kc_ HB.out hw178_1),(kc_ HB.out hw178_2),(kc_ HB.out hw178_3),hx179_0,(kc_ HB.out hw180_0)⟩ (fun hHeld=>?_);refine with_tabW spec_l06Out.tab5 spec_l06Out.bits5 (fun HT_ HW_=>?_)
   generalize wr.drew = w18 at HO_5 BK173 HB GG14 HQ20 hf14_0 hx14_0 hx177_0 hx177_1 hx177_2 hx177_3 hx178_0 hx178_1 hx178_2 hx178_3 hx179_0 hx180_0 hHeld ⊢
   refine pure_ (i:=0) (N:=some 16) (v:=?_) (a':=?_) fl5_1_ rfl rfl (any_of HT_.out (by kernel_rfl)) (fun _ _ _ h=>h) (Or.inl ⟨by rfl,?_⟩) ?_ ?_
   rotate_left
   ·intro w'
    go_simp
    with_reducible rfl
   rotate_left
   ·simp only [Act.put,List.setIfInBounds_toArray,List.set_cons_zero,List.set_cons_succ,i64_w,i32_w]
    rfl
   refine pure_ (i:=1) (N:=some 17) (v:=?_) (a':=?_) fl5_2_ rfl rfl (any_of HT_.out (by kernel_rfl)) (fun _ _ _ h=>h) (Or.inl ⟨by rfl,?_⟩) ?_ ?_
   rotate_left
   ·intro w'
    go_simp
    with_reducible rfl
   rotate_left
   ·simp only [Act.put,List.setIfInBounds_toArray,List.set_cons_zero,List.set_cons_succ,i64_w,i32_w]
    rfl
   refine pure_ (i:=3) (N:=some 19) (v:=?_) (a':=?_) fl5_3_ rfl rfl (any_of HT_.out (by kernel_rfl)) (fun _ _ _ h=>h) (Or.inl ⟨by rfl,?_⟩) ?_ ?_
   rotate_left
   ·intro w'
    go_simp
    with_reducible rfl
   rotate_left
   ·simp only [Act.put,List.setIfInBounds_toArray,List.set_cons_zero,List.set_cons_succ,i64_w,i32_w]
    rfl
   refine pure_ (i:=7) (N:=some 23) (v:=?_) (a':=?_) fl5_4_ rfl rfl (any_of HT_.out (by kernel_rfl)) (fun _ _ _ h=>h) (Or.inl ⟨by rfl,?_⟩) ?_ ?_
   rotate_left
   ·intro w'
    go_simp
    with_reducible rfl
   rotate_left
   ·simp only [Act.put,List.setIfInBounds_toArray,List.set_cons_zero,List.set_cons_succ,i64_w,i32_w]
    rfl
   refine pure_ (i:=8) (N:=some 24) (v:=?_) (a':=?_) fl5_5_ rfl rfl (any_of HT_.out (by kernel_rfl)) (fun _ _ _ h=>h) (Or.inl ⟨by rfl,?_⟩) ?_ ?_
   rotate_left
   ·intro w'
    go_simp
    with_reducible rfl
   rotate_left
   ·simp only [Act.put,List.setIfInBounds_toArray,List.set_cons_zero,List.set_cons_succ,i64_w,i32_w]
    rfl
   refine pure_ (i:=10) (N:=some 26) (v:=?_) (a':=?_) fl5_6_ rfl rfl (any_of HT_.out (by kernel_rfl)) (fun _ _ _ h=>h) (Or.inl ⟨by rfl,?_⟩) ?_ ?_
   rotate_left
   ·intro w'
    go_simp
    with_reducible rfl
   rotate_left
   ·simp only [Act.put,List.setIfInBounds_toArray,List.set_cons_zero,List.set_cons_succ,i64_w,i32_w]
    rfl
   refine pure_ (i:=16) (N:=some 32) (v:=?_) (a':=?_) fl5_7_ rfl rfl (any_of HT_.out (by kernel_rfl)) (fun _ _ _ h=>h) (Or.inl ⟨by rfl,?_⟩) ?_ ?_
   rotate_left
   ·intro w'
    go_simp
    with_reducible rfl
   rotate_left
   ·simp only [Act.put,List.setIfInBounds_toArray,List.set_cons_zero,List.set_cons_succ,i64_w,i32_w]
    rfl
   refine pure_ (i:=17) (N:=some 33) (v:=?_) (a':=?_) fl5_8_ rfl rfl (any_of HT_.out (by kernel_rfl)) (fun _ _ _ h=>h) (Or.inl ⟨by rfl,?_⟩) ?_ ?_
   rotate_left
   ·intro w'
    go_simp
    with_reducible rfl
   rotate_left
   ·simp only [Act.put,List.setIfInBounds_toArray,List.set_cons_zero,List.set_cons_succ,i64_w,i32_w]
    rfl
   refine pure_ (i:=18) (N:=some 34) (v:=?_) (a':=?_) fl5_9_ rfl rfl (any_of HT_.out (by kernel_rfl)) (fun _ _ _ h=>h) (Or.inl ⟨by rfl,?_⟩) ?_ ?_
   rotate_left
   ·intro w'
    go_simp
    with_reducible rfl
   rotate_left
   ·simp only [Act.put,List.setIfInBounds_toArray,List.set_cons_zero,List.set_cons_succ,i64_w,i32_w]
    rfl
   refine take_ (i:=2) (N:=some 18) (v:=?_) (a':=?_) fl5_10_ rfl rfl (take_ofW HT_.out HW_.out (by kernel_rfl)) (fun _ _ _ h=>h) (Or.inl ⟨by rfl,?_⟩) hHeld ?_ ?_
   rotate_left
   ·rintro w' ⟨s0,s1,s2,s3,s4,s5,s6,s7,s8,s9,s10,s11⟩
    go_simp
    with_reducible rfl
   rotate_left
   ·simp only [Act.put,List.setIfInBounds_toArray,List.set_cons_zero,List.set_cons_succ,i64_w,i32_w]
    rfl
   refine pure_ (i:=4) (N:=some 20) (v:=?_) (a':=?_) fl5_11_ rfl rfl (any_of HT_.out (by kernel_rfl)) (fun _ _ _ h=>h) (Or.inl ⟨by rfl,?_⟩) ?_ ?_
   rotate_left
   ·intro w'
    go_simp
    with_reducible rfl
   rotate_left
   ·simp only [Act.put,List.setIfInBounds_toArray,List.set_cons_zero,List.set_cons_succ,i64_w,i32_w]
    rfl
   refine pure_ (i:=5) (N:=some 21) (v:=?_) (a':=?_) fl5_12_ rfl rfl (any_of HT_.out (by kernel_rfl)) (fun _ _ _ h=>h) (Or.inl ⟨by rfl,?_⟩) ?_ ?_
   rotate_left
   ·intro w'
    go_simp
    with_reducible rfl
   rotate_left
   ·simp only [Act.put,List.setIfInBounds_toArray,List.set_cons_zero,List.set_cons_succ,i64_w,i32_w]
    rfl
   refine take_ (i:=6) (N:=some 22) (v:=?_) (a':=?_) fl5_13_ rfl rfl (take_ofW HT_.out HW_.out (by kernel_rfl)) (fun _ _ _ h=>h) (Or.inl ⟨by rfl,?_⟩) hHeld ?_ ?_
   rotate_left
   ·rintro w' ⟨s0,s1,s2,s3,s4,s5,s6,s7,s8,s9,s10,s11⟩
    go_simp
    with_reducible rfl
   rotate_left
   ·simp only [Act.put,List.setIfInBounds_toArray,List.set_cons_zero,List.set_cons_succ,i64_w,i32_w]
    rfl
   refine take_ (i:=9) (N:=some 25) (v:=?_) (a':=?_) fl5_14_ rfl rfl (take_ofW HT_.out HW_.out (by kernel_rfl)) (fun _ _ _ h=>h) (Or.inl ⟨by rfl,?_⟩) hHeld ?_ ?_
   rotate_left
   ·rintro w' ⟨s0,s1,s2,s3,s4,s5,s6,s7,s8,s9,s10,s11⟩
    go_simp
    with_reducible rfl
   rotate_left
   ·simp only [Act.put,List.setIfInBounds_toArray,List.set_cons_zero,List.set_cons_succ,i64_w,i32_w]
    rfl
   refine pure_ (i:=11) (N:=some 27) (v:=?_) (a':=?_) fl5_15_ rfl rfl (any_of HT_.out (by kernel_rfl)) (fun _ _ _ h=>h) (Or.inl ⟨by rfl,?_⟩) ?_ ?_
   rotate_left
   ·intro w'
    go_simp
    with_reducible rfl
   rotate_left
   ·simp only [Act.put,List.setIfInBounds_toArray,List.set_cons_zero,List.set_cons_succ,i64_w,i32_w]
    rfl
   refine pure_ (i:=12) (N:=some 28) (v:=?_) (a':=?_) fl5_16_ rfl rfl (any_of HT_.out (by kernel_rfl)) (fun _ _ _ h=>h) (Or.inl ⟨by rfl,?_⟩) ?_ ?_
   rotate_left
   ·intro w'
    go_simp
    with_reducible rfl
   rotate_left
   ·simp only [Act.put,List.setIfInBounds_toArray,List.set_cons_zero,List.set_cons_succ,i64_w,i32_w]
    rfl
   refine take_ (i:=13) (N:=some 29) (v:=?_) (a':=?_) fl5_17_ rfl rfl (take_ofW HT_.out HW_.out (by kernel_rfl)) (fun _ _ _ h=>h) (Or.inl ⟨by rfl,?_⟩) hHeld ?_ ?_
   rotate_left
   ·rintro w' ⟨s0,s1,s2,s3,s4,s5,s6,s7,s8,s9,s10,s11⟩
    go_simp
    with_reducible rfl
   rotate_left
   ·simp only [Act.put,List.setIfInBounds_toArray,List.set_cons_zero,List.set_cons_succ,i64_w,i32_w]
    rfl
   refine pure_ (i:=14) (N:=some 30) (v:=?_) (a':=?_) fl5_18_ rfl rfl (any_of HT_.out (by kernel_rfl)) (fun _ _ _ h=>h) (Or.inl ⟨by rfl,?_⟩) ?_ ?_
   rotate_left
   ·intro w'
    go_simp
    with_reducible rfl
   rotate_left
   ·simp only [Act.put,List.setIfInBounds_toArray,List.set_cons_zero,List.set_cons_succ,i64_w,i32_w]
    rfl
   refine take_ (i:=15) (N:=some 31) (v:=?_) (a':=?_) fl5_19_ rfl rfl (take_ofW HT_.out HW_.out (by kernel_rfl)) (fun _ _ _ h=>h) (Or.inl ⟨by rfl,?_⟩) hHeld ?_ ?_
   rotate_left
   ·rintro w' ⟨s0,s1,s2,s3,s4,s5,s6,s7,s8,s9,s10,s11⟩
    go_simp
    with_reducible rfl
   rotate_left
   ·simp only [Act.put,List.setIfInBounds_toArray,List.set_cons_zero,List.set_cons_succ,i64_w,i32_w]
    rfl
   refine take_ (i:=19) (N:=some 35) (v:=?_) (a':=?_) fl5_20_ rfl rfl (take_ofW HT_.out HW_.out (by kernel_rfl)) (fun _ _ _ h=>h) (Or.inl ⟨by rfl,?_⟩) hHeld ?_ ?_
   rotate_left
   ·rintro w' ⟨s0,s1,s2,s3,s4,s5,s6,s7,s8,s9,s10,s11⟩
    go_simp
    with_reducible rfl
   rotate_left
   ·simp only [Act.put,List.setIfInBounds_toArray,List.set_cons_zero,List.set_cons_succ,i64_w,i32_w]
    rfl
   refine pure_ (i:=20) (N:=some 36) (v:=?_) (a':=?_) fl5_21_ rfl rfl (any_of HT_.out (by kernel_rfl)) (fun _ _ _ h=>h) (Or.inl ⟨by rfl,?_⟩) ?_ ?_
   rotate_left
   ·intro w'
    go_simp
    with_reducible rfl
   rotate_left
   ·simp only [Act.put,List.setIfInBounds_toArray,List.set_cons_zero,List.set_cons_succ,i64_w,i32_w]
    rfl
   refine pure_ (i:=21) (N:=some 37) (v:=?_) (a':=?_) fl5_22_ rfl rfl (any_of HT_.out (by kernel_rfl)) (fun _ _ _ h=>h) (Or.inl ⟨by rfl,?_⟩) ?_ ?_
   rotate_left
   ·intro w'
    go_simp
    with_reducible rfl
   rotate_left
   ·simp only [Act.put,List.setIfInBounds_toArray,List.set_cons_zero,List.set_cons_succ,i64_w,i32_w]
    rfl
   refine last_ (i:=22) (N:=none) fl5_23_ rfl rfl (one_of HT_.out (by kernel_rfl)) (by decide) (fun K hK=>?_)
   refine skip_ (w1:=?_) (by rfl) rfl ?_ ?_
   rotate_left
   ·go_simp
    rfl
   refine hK.out _ _ ?_
   clear hK K
   refine done_ (done_of HT_.out (by kernel_rfl)) ?_
   try go_wp2
   have n0_ : Aside0 (Kd.R (Kd.int .i64) 3 (w18.setCell ⟨go14,(((rd_T67 l0_1 x6_1).f0) : Int).toNat,none⟩ (.int .i64 (wrap64 ((rd x5_1 ((rd_T67 l0_1 x6_1).f0)) + (rd l1 x6_1))))) w.heap.size (fun _=>True) (.slice (some ⟨go14,0,none⟩) x5_1.length co19) y181):=⟨by exact HQ20.out⟩
   have n1_ : Aside0 ((w18.setCell ⟨go14,(((rd_T67 l0_1 x6_1).f0) : Int).toNat,none⟩ (.int .i64 (wrap64 ((rd x5_1 ((rd_T67 l0_1 x6_1).f0)) + (rd l1 x6_1))))).heap[gb173]? = some (.cells #[.int .i64 a0_0,.slice (some ad177) l0_1.length c0_1] 30 (0,0))):=⟨by refine blk_far ?_ (by have h_:=Kd.R_ne HO_5.out BK173.out (by decide);intro e_;exact h_ (by rw [e_];rfl)) _;exact BK173.out⟩
   have n2_ : Aside0 (Below w.heap.size w (w18.setCell ⟨go14,(((rd_T67 l0_1 x6_1).f0) : Int).toNat,none⟩ (.int .i64 (wrap64 ((rd x5_1 ((rd_T67 l0_1 x6_1).f0)) + (rd l1 x6_1)))))):=⟨by repeat ((with_reducible first|exact HB.out|refine below_set ?_ GB14.out))⟩
   (try clear HO_5)
   (try clear BK173)
   (try clear HB)
   generalize (w18.setCell ⟨go14,(((rd_T67 l0_1 x6_1).f0) : Int).toNat,none⟩ (.int .i64 (wrap64 ((rd x5_1 ((rd_T67 l0_1 x6_1).f0)) + (rd l1 x6_1))))) = w21 at n0_ n1_ n2_ ⊢
   have HO_5:=n0_
   have BK173:=n1_
   have HB:=n2_
   clear n0_ n1_ n2_
   have n0_:=am_ (Kd.R_drew HO_5.out)
   have n1_:=am_ (blk_drew BK173.out)
   have n2_:=am_ (below_drew1 HB.out)
   clear HO_5
   clear BK173
   clear HB
   have HO_5:=n0_
   have BK173:=n1_
   have HB:=n2_
   clear n0_ n1_ n2_
   have p182 : 0 ≤ (x6_1 : Int):=of_decide_eq_true (by (with_reducible assumption))
   have q182 : x6_1 < (l0_1.length : Int):=of_decide_eq_true (by (with_reducible assumption))
   obtain ⟨ad182,e182,hx182_0,hx182_1,hx182_2,hx182_3⟩:=at_T67 HR0_1.out x6_1 p182 q182
   have hw182_3:=hx182_3
   have hw182_2:=hx182_2
   have hw182_1:=hx182_1
   have hw182_0:=hx182_0
   obtain rfl : ad177 = ad182:=(by injection e182)
   replace hx182_0:=kc_ HB.out hx182_0
   replace hx182_1:=kc_ HB.out hx182_1
   replace hx182_2:=kc_ HB.out hx182_2
   replace hx182_3:=kc_ HB.out hx182_3
   replace p182:=eq_true p182
   replace q182:=eq_true q182
   have p183 : 0 ≤ (x6_1 : Int):=of_decide_eq_true (by (with_reducible assumption))
   have q183 : x6_1 < (l0_1.length : Int):=of_decide_eq_true (by (with_reducible assumption))
   obtain ⟨ad183,e183,hx183_0,hx183_1,hx183_2,hx183_3⟩:=at_T67 HR0_1.out x6_1 p183 q183
   have hw183_3:=hx183_3
   have hw183_2:=hx183_2
   have hw183_1:=hx183_1
   have hw183_0:=hx183_0
   obtain rfl : ad177 = ad183:=(by injection e183)
   replace hx183_0:=kc_ HB.out hx183_0
   replace hx183_1:=kc_ HB.out hx183_1
   replace hx183_2:=kc_ HB.out hx183_2
   replace hx183_3:=kc_ HB.out hx183_3
   replace p183:=eq_true p183
   replace q183:=eq_true q183
   have p184 : 0 ≤ (((rd_T67 l0_1 x6_1).f1) : Int):=of_decide_eq_true (by (with_reducible assumption))
   have q184 : ((rd_T67 l0_1 x6_1).f1) < (y181.length : Int):=(by have h_ : (((rd_T67 l0_1 x6_1).f1) : Int) < ((x5_1.length : Int) : Int):=of_decide_eq_true (by (with_reducible assumption));(have e_:=(Kd.R_reads' HO_5.out).1;omega))
   have ql184 : ((((rd_T67 l0_1 x6_1).f1) : Int) < ((x5_1.length : Int) : Int)) = True:=eq_true (of_decide_eq_true (by (with_reducible assumption)))
   obtain ⟨ad184,e184,hx184_0⟩:=Kd.at_int (Kd.R_reads' HO_5.out).2.2 ((rd_T67 l0_1 x6_1).f1) p184 q184
   obtain rfl : (⟨go14,0,none⟩ : Addr) = ad184:=(by injection e184)
   (simp only [add_plain] at hx184_0)
   replace p184:=eq_true p184
   replace q184:=eq_true q184
   have p185 : 0 ≤ (x6_1 : Int):=of_decide_eq_true (by (with_reducible assumption))
   have q185 : x6_1 < (l1.length : Int):=of_decide_eq_true (by (with_reducible assumption))
   obtain ⟨ad185,e185,hx185_0⟩:=Kd.at_int HR1.out x6_1 p185 q185
   have hw185_0:=hx185_0
   obtain rfl : ad180 = ad185:=(by injection e185)
   replace hx185_0:=kc_ HB.out hx185_0
   replace p185:=eq_true p185
   replace q185:=eq_true q185
   have p17 : 0 ≤ (((rd_T67 l0_1 x6_1).f1) : Int):=of_decide_eq_true (by (with_reducible assumption))
   have q17 : (((rd_T67 l0_1 x6_1).f1) : Int) < ((x5_1.length : Int) : Int):=of_decide_eq_true (by (with_reducible assumption))
   obtain ⟨hx17_0,hf17_0⟩:=Kd.R_celln 0 HO_5.out (((rd_T67 l0_1 x6_1).f1) : Int) p17 q17
   replace p17:=eq_true p17
   replace q17:=eq_true q17
   have HP23:=Kd.R_putn HO_5.out (((rd_T67 l0_1 x6_1).f1) : Int) (wrap64 ((rd y181 ((rd_T67 l0_1 x6_1).f1)) - (rd l1 x6_1)))
   rw [← Ny186.out] at HP23
   have HQ23:=am_ HP23
   clear HP23
   refine start_ (n:=23) (S:=fun w'=>w'.cell? ⟨gb173,0,none⟩ = some (.int .i64 a0_0) ∧ w'.cell? ⟨gb173,1,none⟩ = some (.slice (some ad177) l0_1.length c0_1) ∧ w'.cell? (ad177.add ((x6_1).toNat * 4)) = some (.int .i64 ((rd_T67 l0_1 x6_1).f0)) ∧ w'.cell? ⟨(ad177.add ((x6_1).toNat * 4)).block,(ad177.add ((x6_1).toNat * 4)).off + 1,none⟩ = some (.int .i64 ((rd_T67 l0_1 x6_1).f1)) ∧ w'.cell? ⟨(ad177.add ((x6_1).toNat * 4)).block,(ad177.add ((x6_1).toNat * 4)).off + 2,none⟩ = some (.int .i64 ((rd_T67 l0_1 x6_1).f2)) ∧ w'.cell? ⟨(ad177.add ((x6_1).toNat * 4)).block,(ad177.add ((x6_1).toNat * 4)).off + 3,none⟩ = some (.int .i64 ((rd_T67 l0_1 x6_1).f3)) ∧ w'.cell? (ad177.add ((x6_1).toNat * 4)) = some (.int .i64 ((rd_T67 l0_1 x6_1).f0)) ∧ w'.cell? ⟨(ad177.add ((x6_1).toNat * 4)).block,(ad177.add ((x6_1).toNat * 4)).off + 1,none⟩ = some (.int .i64 ((rd_T67 l0_1 x6_1).f1)) ∧ w'.cell? ⟨(ad177.add ((x6_1).toNat * 4)).block,(ad177.add ((x6_1).toNat * 4)).off + 2,none⟩ = some (.int .i64 ((rd_T67 l0_1 x6_1).f2)) ∧ w'.cell? ⟨(ad177.add ((x6_1).toNat * 4)).block,(ad177.add ((x6_1).toNat * 4)).off + 3,none⟩ = some (.int .i64 ((rd_T67 l0_1 x6_1).f3)) ∧ w'.cell? ⟨go14,(((rd_T67 l0_1 x6_1).f1)).toNat,none⟩ = some (.int .i64 (rd y181 ((rd_T67 l0_1 x6_1).f1))) ∧ w'.cell? (ad180.add (x6_1).toNat) = some (.int .i64 (rd l1 x6_1))) (ds:=[22]) fl5_0_ (by kernel_rfl) rfl rfl ⟨(blk_cell BK173.out 0).trans rfl,(blk_cell BK173.out 1).trans rfl,(kc_ HB.out hw182_0),(kc_ HB.out hw182_1),(kc_ HB.out hw182_2),(kc_ HB.out hw182_3),(kc_ HB.out hw183_0),(kc_ HB.out hw183_1),(kc_ HB.out hw183_2),(kc_ HB.out hw183_3),hx184_0,(kc_ HB.out hw185_0)⟩ (fun hHeld=>?_);refine with_tabW spec_l06Out.tab6 spec_l06Out.bits6 (fun HT_ HW_=>?_)
   generalize w21.drew = w22 at HO_5 BK173 HB HQ20 HQ23 hf17_0 hx17_0 hx182_0 hx182_1 hx182_2 hx182_3 hx183_0 hx183_1 hx183_2 hx183_3 hx184_0 hx185_0 hHeld ⊢
   refine pure_ (i:=0) (N:=some 38) (v:=?_) (a':=?_) fl5_1_ rfl rfl (any_of HT_.out (by kernel_rfl)) (fun _ _ _ h=>h) (Or.inl ⟨by rfl,?_⟩) ?_ ?_
   rotate_left
   ·intro w'
    go_simp
    with_reducible rfl
   rotate_left
   ·simp only [Act.put,List.setIfInBounds_toArray,List.set_cons_zero,List.set_cons_succ,i64_w,i32_w]
    rfl
   refine pure_ (i:=1) (N:=some 39) (v:=?_) (a':=?_) fl5_2_ rfl rfl (any_of HT_.out (by kernel_rfl)) (fun _ _ _ h=>h) (Or.inl ⟨by rfl,?_⟩) ?_ ?_
   rotate_left
   ·intro w'
    go_simp
    with_reducible rfl
   rotate_left
   ·simp only [Act.put,List.setIfInBounds_toArray,List.set_cons_zero,List.set_cons_succ,i64_w,i32_w]
    rfl
   refine pure_ (i:=3) (N:=some 41) (v:=?_) (a':=?_) fl5_3_ rfl rfl (any_of HT_.out (by kernel_rfl)) (fun _ _ _ h=>h) (Or.inl ⟨by rfl,?_⟩) ?_ ?_
   rotate_left
   ·intro w'
    go_simp
    with_reducible rfl
   rotate_left
   ·simp only [Act.put,List.setIfInBounds_toArray,List.set_cons_zero,List.set_cons_succ,i64_w,i32_w]
    rfl
   refine pure_ (i:=7) (N:=some 45) (v:=?_) (a':=?_) fl5_4_ rfl rfl (any_of HT_.out (by kernel_rfl)) (fun _ _ _ h=>h) (Or.inl ⟨by rfl,?_⟩) ?_ ?_
   rotate_left
   ·intro w'
    go_simp
    with_reducible rfl
   rotate_left
   ·simp only [Act.put,List.setIfInBounds_toArray,List.set_cons_zero,List.set_cons_succ,i64_w,i32_w]
    rfl
   refine pure_ (i:=8) (N:=some 46) (v:=?_) (a':=?_) fl5_5_ rfl rfl (any_of HT_.out (by kernel_rfl)) (fun _ _ _ h=>h) (Or.inl ⟨by rfl,?_⟩) ?_ ?_
   rotate_left
   ·intro w'
    go_simp
    with_reducible rfl
   rotate_left
   ·simp only [Act.put,List.setIfInBounds_toArray,List.set_cons_zero,List.set_cons_succ,i64_w,i32_w]
    rfl
   refine pure_ (i:=10) (N:=some 48) (v:=?_) (a':=?_) fl5_6_ rfl rfl (any_of HT_.out (by kernel_rfl)) (fun _ _ _ h=>h) (Or.inl ⟨by rfl,?_⟩) ?_ ?_
   rotate_left
   ·intro w'
    go_simp
    with_reducible rfl
   rotate_left
   ·simp only [Act.put,List.setIfInBounds_toArray,List.set_cons_zero,List.set_cons_succ,i64_w,i32_w]
    rfl
   refine pure_ (i:=16) (N:=some 54) (v:=?_) (a':=?_) fl5_7_ rfl rfl (any_of HT_.out (by kernel_rfl)) (fun _ _ _ h=>h) (Or.inl ⟨by rfl,?_⟩) ?_ ?_
   rotate_left
   ·intro w'
    go_simp
    with_reducible rfl
   rotate_left
   ·simp only [Act.put,List.setIfInBounds_toArray,List.set_cons_zero,List.set_cons_succ,i64_w,i32_w]
    rfl
   refine pure_ (i:=17) (N:=some 55) (v:=?_) (a':=?_) fl5_8_ rfl rfl (any_of HT_.out (by kernel_rfl)) (fun _ _ _ h=>h) (Or.inl ⟨by rfl,?_⟩) ?_ ?_
   rotate_left
   ·intro w'
    go_simp
    with_reducible rfl
   rotate_left
   ·simp only [Act.put,List.setIfInBounds_toArray,List.set_cons_zero,List.set_cons_succ,i64_w,i32_w]
    rfl
   refine pure_ (i:=18) (N:=some 56) (v:=?_) (a':=?_) fl5_9_ rfl rfl (any_of HT_.out (by kernel_rfl)) (fun _ _ _ h=>h) (Or.inl ⟨by rfl,?_⟩) ?_ ?_
   rotate_left
   ·intro w'
    go_simp
    with_reducible rfl
   rotate_left
   ·simp only [Act.put,List.setIfInBounds_toArray,List.set_cons_zero,List.set_cons_succ,i64_w,i32_w]
    rfl
   refine take_ (i:=2) (N:=some 40) (v:=?_) (a':=?_) fl5_10_ rfl rfl (take_ofW HT_.out HW_.out (by kernel_rfl)) (fun _ _ _ h=>h) (Or.inl ⟨by rfl,?_⟩) hHeld ?_ ?_
   rotate_left
   ·rintro w' ⟨s0,s1,s2,s3,s4,s5,s6,s7,s8,s9,s10,s11⟩
    go_simp
    with_reducible rfl
   rotate_left
   ·simp only [Act.put,List.setIfInBounds_toArray,List.set_cons_zero,List.set_cons_succ,i64_w,i32_w]
    rfl
   refine pure_ (i:=4) (N:=some 42) (v:=?_) (a':=?_) fl5_11_ rfl rfl (any_of HT_.out (by kernel_rfl)) (fun _ _ _ h=>h) (Or.inl ⟨by rfl,?_⟩) ?_ ?_
   rotate_left
   ·intro w'
    go_simp
    with_reducible rfl
   rotate_left
   ·simp only [Act.put,List.setIfInBounds_toArray,List.set_cons_zero,List.set_cons_succ,i64_w,i32_w]
    rfl
   refine pure_ (i:=5) (N:=some 43) (v:=?_) (a':=?_) fl5_12_ rfl rfl (any_of HT_.out (by kernel_rfl)) (fun _ _ _ h=>h) (Or.inl ⟨by rfl,?_⟩) ?_ ?_
   rotate_left
   ·intro w'
    go_simp
    with_reducible rfl
   rotate_left
   ·simp only [Act.put,List.setIfInBounds_toArray,List.set_cons_zero,List.set_cons_succ,i64_w,i32_w]
    rfl
   refine take_ (i:=6) (N:=some 44) (v:=?_) (a':=?_) fl5_13_ rfl rfl (take_ofW HT_.out HW_.out (by kernel_rfl)) (fun _ _ _ h=>h) (Or.inl ⟨by rfl,?_⟩) hHeld ?_ ?_
   rotate_left
   ·rintro w' ⟨s0,s1,s2,s3,s4,s5,s6,s7,s8,s9,s10,s11⟩
    go_simp
    with_reducible rfl
   rotate_left
   ·simp only [Act.put,List.setIfInBounds_toArray,List.set_cons_zero,List.set_cons_succ,i64_w,i32_w]
    rfl
   refine take_ (i:=9) (N:=some 47) (v:=?_) (a':=?_) fl5_14_ rfl rfl (take_ofW HT_.out HW_.out (by kernel_rfl)) (fun _ _ _ h=>h) (Or.inl ⟨by rfl,?_⟩) hHeld ?_ ?_
   rotate_left
   ·rintro w' ⟨s0,s1,s2,s3,s4,s5,s6,s7,s8,s9,s10,s11⟩
    go_simp
    with_reducible rfl
   rotate_left
   ·simp only [Act.put,List.setIfInBounds_toArray,List.set_cons_zero,List.set_cons_succ,i64_w,i32_w]
    rfl
   refine pure_ (i:=11) (N:=some 49) (v:=?_) (a':=?_) fl5_15_ rfl rfl (any_of HT_.out (by kernel_rfl)) (fun _ _ _ h=>h) (Or.inl ⟨by rfl,?_⟩) ?_ ?_
   rotate_left
   ·intro w'
    go_simp
    with_reducible rfl
   rotate_left
   ·simp only [Act.put,List.setIfInBounds_toArray,List.set_cons_zero,List.set_cons_succ,i64_w,i32_w]
    rfl
   refine pure_ (i:=12) (N:=some 50) (v:=?_) (a':=?_) fl5_16_ rfl rfl (any_of HT_.out (by kernel_rfl)) (fun _ _ _ h=>h) (Or.inl ⟨by rfl,?_⟩) ?_ ?_
   rotate_left
   ·intro w'
    go_simp
    with_reducible rfl
   rotate_left
   ·simp only [Act.put,List.setIfInBounds_toArray,List.set_cons_zero,List.set_cons_succ,i64_w,i32_w]
    rfl
   refine take_ (i:=13) (N:=some 51) (v:=?_) (a':=?_) fl5_17_ rfl rfl (take_ofW HT_.out HW_.out (by kernel_rfl)) (fun _ _ _ h=>h) (Or.inl ⟨by rfl,?_⟩) hHeld ?_ ?_
   rotate_left
   ·rintro w' ⟨s0,s1,s2,s3,s4,s5,s6,s7,s8,s9,s10,s11⟩
    go_simp
    with_reducible rfl
   rotate_left
   ·simp only [Act.put,List.setIfInBounds_toArray,List.set_cons_zero,List.set_cons_succ,i64_w,i32_w]
    rfl
   refine pure_ (i:=14) (N:=some 52) (v:=?_) (a':=?_) fl5_18_ rfl rfl (any_of HT_.out (by kernel_rfl)) (fun _ _ _ h=>h) (Or.inl ⟨by rfl,?_⟩) ?_ ?_
   rotate_left
   ·intro w'
    go_simp
    with_reducible rfl
   rotate_left
   ·simp only [Act.put,List.setIfInBounds_toArray,List.set_cons_zero,List.set_cons_succ,i64_w,i32_w]
    rfl
   refine take_ (i:=15) (N:=some 53) (v:=?_) (a':=?_) fl5_19_ rfl rfl (take_ofW HT_.out HW_.out (by kernel_rfl)) (fun _ _ _ h=>h) (Or.inl ⟨by rfl,?_⟩) hHeld ?_ ?_
   rotate_left
   ·rintro w' ⟨s0,s1,s2,s3,s4,s5,s6,s7,s8,s9,s10,s11⟩
    go_simp
    with_reducible rfl
   rotate_left
   ·simp only [Act.put,List.setIfInBounds_toArray,List.set_cons_zero,List.set_cons_succ,i64_w,i32_w]
    rfl
   refine take_ (i:=19) (N:=some 57) (v:=?_) (a':=?_) fl5_20_ rfl rfl (take_ofW HT_.out HW_.out (by kernel_rfl)) (fun _ _ _ h=>h) (Or.inl ⟨by rfl,?_⟩) hHeld ?_ ?_
   rotate_left
   ·rintro w' ⟨s0,s1,s2,s3,s4,s5,s6,s7,s8,s9,s10,s11⟩
    go_simp
    with_reducible rfl
   rotate_left
   ·simp only [Act.put,List.setIfInBounds_toArray,List.set_cons_zero,List.set_cons_succ,i64_w,i32_w]
    rfl
   refine pure_ (i:=20) (N:=some 58) (v:=?_) (a':=?_) fl5_21_ rfl rfl (any_of HT_.out (by kernel_rfl)) (fun _ _ _ h=>h) (Or.inl ⟨by rfl,?_⟩) ?_ ?_
   rotate_left
   ·intro w'
    go_simp
    with_reducible rfl
   rotate_left
   ·simp only [Act.put,List.setIfInBounds_toArray,List.set_cons_zero,List.set_cons_succ,i64_w,i32_w]
    rfl
   refine pure_ (i:=21) (N:=some 59) (v:=?_) (a':=?_) fl5_22_ rfl rfl (any_of HT_.out (by kernel_rfl)) (fun _ _ _ h=>h) (Or.inl ⟨by rfl,?_⟩) ?_ ?_
   rotate_left
   ·intro w'
    go_simp
    with_reducible rfl
   rotate_left
   ·simp only [Act.put,List.setIfInBounds_toArray,List.set_cons_zero,List.set_cons_succ,i64_w,i32_w]
    rfl
   refine last_ (i:=22) (N:=none) fl5_23_ rfl rfl (one_of HT_.out (by kernel_rfl)) (by decide) (fun K hK=>?_)
   refine skip_ (w1:=?_) (by rfl) rfl ?_ ?_
   rotate_left
   ·go_simp
    rfl
   refine hK.out _ _ ?_
   clear hK K
   refine done_ (done_of HT_.out (by kernel_rfl)) ?_
   try go_wp2
   go_roundg k1
   case measure=>have:=HK1.out;omega
   case rel=>exact ⟨(y186),(wrap64 (x6_1 + 1)),(by rfl),H',⟨by have:=HK1.out;omega⟩,⟨by exact HQ23.out⟩,⟨by refine blk_far ?_ (by have h_:=Kd.R_ne HO_5.out BK173.out (by decide);intro e_;exact h_ (by rw [e_];rfl)) _;exact BK173.out⟩,⟨by repeat ((with_reducible first|exact HB.out|refine below_set ?_ GB14.out))⟩⟩

end Go.Proofs.Ytgkpgigoonhgdaa.PFnExactLeastCost
