-- Made by the session's wip/pp.py, a changed call of the kit's printer; Lean checks it.
import Derived.Test.YtgkpgigoonhgdaaPFnMostCutx0
namespace Go.Proofs.Ytgkpgigoonhgdaa.PFnMostCut
open Go.RowKit Go.Proofs.YtgkpgigoonhgdaaW.PrintWords Go.Proofs.YtgkpgigoonhgdaaW.PrintLast Go.Proofs.YtgkpgigoonhgdaaW.PrintMore
attribute [local go_sem] max2_int min2_int max_two min_two max_three min_three max_four min_four   -- for this text's walks alone
set_option linter.unusedVariables false
set_option linter.unusedSimpArgs false

abbrev fl12_0_ : Array Bool:=#[false,false,false,false,false,false,false,false,false,false,false,false,false,false,false,false,false,false,false,false,false,false,false]
abbrev fl12_1_ : Array Bool:=#[true,false,false,false,false,false,false,false,false,false,false,false,false,false,false,false,false,false,false,false,false,false,false]
abbrev fl12_2_ : Array Bool:=#[true,true,false,false,false,false,false,false,false,false,false,false,false,false,false,false,false,false,false,false,false,false,false]
abbrev fl12_3_ : Array Bool:=#[true,true,false,true,false,false,false,false,false,false,false,false,false,false,false,false,false,false,false,false,false,false,false]
abbrev fl12_4_ : Array Bool:=#[true,true,false,true,false,false,false,true,false,false,false,false,false,false,false,false,false,false,false,false,false,false,false]
abbrev fl12_5_ : Array Bool:=#[true,true,false,true,false,false,false,true,true,false,false,false,false,false,false,false,false,false,false,false,false,false,false]
abbrev fl12_6_ : Array Bool:=#[true,true,false,true,false,false,false,true,true,false,true,false,false,false,false,false,false,false,false,false,false,false,false]
abbrev fl12_7_ : Array Bool:=#[true,true,false,true,false,false,false,true,true,false,true,false,false,false,false,false,true,false,false,false,false,false,false]
abbrev fl12_8_ : Array Bool:=#[true,true,false,true,false,false,false,true,true,false,true,false,false,false,false,false,true,true,false,false,false,false,false]
abbrev fl12_9_ : Array Bool:=#[true,true,false,true,false,false,false,true,true,false,true,false,false,false,false,false,true,true,true,false,false,false,false]
abbrev fl12_10_ : Array Bool:=#[true,true,true,true,false,false,false,true,true,false,true,false,false,false,false,false,true,true,true,false,false,false,false]
abbrev fl12_11_ : Array Bool:=#[true,true,true,true,true,false,false,true,true,false,true,false,false,false,false,false,true,true,true,false,false,false,false]
abbrev fl12_12_ : Array Bool:=#[true,true,true,true,true,true,false,true,true,false,true,false,false,false,false,false,true,true,true,false,false,false,false]
abbrev fl12_13_ : Array Bool:=#[true,true,true,true,true,true,true,true,true,false,true,false,false,false,false,false,true,true,true,false,false,false,false]
abbrev fl12_14_ : Array Bool:=#[true,true,true,true,true,true,true,true,true,true,true,false,false,false,false,false,true,true,true,false,false,false,false]
abbrev fl12_15_ : Array Bool:=#[true,true,true,true,true,true,true,true,true,true,true,true,false,false,false,false,true,true,true,false,false,false,false]
abbrev fl12_16_ : Array Bool:=#[true,true,true,true,true,true,true,true,true,true,true,true,true,false,false,false,true,true,true,false,false,false,false]
abbrev fl12_17_ : Array Bool:=#[true,true,true,true,true,true,true,true,true,true,true,true,true,true,false,false,true,true,true,false,false,false,false]
abbrev fl12_18_ : Array Bool:=#[true,true,true,true,true,true,true,true,true,true,true,true,true,true,true,false,true,true,true,false,false,false,false]
abbrev fl12_19_ : Array Bool:=#[true,true,true,true,true,true,true,true,true,true,true,true,true,true,true,true,true,true,true,false,false,false,false]
abbrev fl12_20_ : Array Bool:=#[true,true,true,true,true,true,true,true,true,true,true,true,true,true,true,true,true,true,true,true,false,false,false]
abbrev fl12_21_ : Array Bool:=#[true,true,true,true,true,true,true,true,true,true,true,true,true,true,true,true,true,true,true,true,true,false,false]
abbrev fl12_22_ : Array Bool:=#[true,true,true,true,true,true,true,true,true,true,true,true,true,true,true,true,true,true,true,true,true,true,false]
abbrev fl12_23_ : Array Bool:=#[true,true,true,true,true,true,true,true,true,true,true,true,true,true,true,true,true,true,true,true,true,true,true]
/-! ### spec_l06Out: function 63 -/
def spec_l06Out.l0 : Nat → List Int → List Int → Int → Int → List (S67) → Option (List Int)
 | 0, _, _, _, _, _ => none
 | k + 1, x1, x5, x6, x110000, x110001 => if x6 < (x1.length : Int) then (if 0 ≤ x6 then (if x6 < (x110001.length : Int) then (if 0 ≤ ((rd_T67 x110001 x6).f0) then (if ((rd_T67 x110001 x6).f0) < (x5.length : Int) then ((some (x5.set (((rd_T67 x110001 x6).f0) : Int).toNat (wrap64 ((rd x5 ((rd_T67 x110001 x6).f0)) + (rd x1 x6))) : List Int)).bind fun y117 => (if 0 ≤ ((rd_T67 x110001 x6).f1) then (if ((rd_T67 x110001 x6).f1) < (x5.length : Int) then (spec_l06Out.l0 k x1 (y117.set (((rd_T67 x110001 x6).f1) : Int).toNat (wrap64 ((rd y117 ((rd_T67 x110001 x6).f1)) - (rd x1 x6)))) (wrap64 (x6 + 1)) x110000 x110001) else (none)) else (none))) else (none)) else (none)) else (none)) else (none)) else (some x5)
def spec_l06Out.f (k : Nat) (a0_0 : Int) (l0_1 : List (S67)) (l1 : List Int) : Option (List Int):=if 0 ≤ a0_0 then (if (a0_0 : Int).toNat ≤ 35184372088832 then (spec_l06Out.l0 k l1 (List.replicate (a0_0 : Int).toNat 0) 0 a0_0 l0_1) else (none)) else (none)
theorem spec_l06Out.mono_l : ∀ k,(∀ y0 y1 y2 y3 y4,LeO (spec_l06Out.l0 k y0 y1 y2 y3 y4) (spec_l06Out.l0 (k + 1) y0 y1 y2 y3 y4))
 | 0 => fun _ _ _ _ _ r h => by simp [spec_l06Out.l0] at h
 | k + 1 => by
  have ih0:=spec_l06Out.mono_l k
  ·intro y0 y1 y2 y3 y4
   unfold spec_l06Out.l0
   repeat' first
   | (with_reducible exact ih0 _ _ _ _ _)
   | (with_reducible exact LeO.refl _)
   | (with_reducible refine LeO.ite ?_ ?_)
   | (with_reducible refine LeO.bind ?_ (fun _ => ?_))
theorem spec_l06Out.mono : ∀ a0 a1 a2 k,LeO (spec_l06Out.f k a0 a1 a2) (spec_l06Out.f (k + 1) a0 a1 a2):=by
 intro a0 a1 a2 k
 have ih0:=spec_l06Out.mono_l k
 unfold spec_l06Out.f
 repeat' first
   | (with_reducible exact ih0 _ _ _ _ _)
   | (with_reducible exact LeO.refl _)
   | (with_reducible refine LeO.ite ?_ ?_)
def spec_l06Out.T5 : Bool × List (List Nat × List Nat):=(true,[([],[]),([],[]),([1],[1]),([],[]),([2,3],[2,3]),([4],[4]),([5],[5]),([],[]),([],[]),([8],[8]),([],[]),([9,10],[9,10]),([11],[11]),([12],[12]),([7,13],[7,13]),([14],[14]),([],[]),([],[]),([16,17],[16,17]),([18],[18]),([15,19],[15,19]),([0,6,0,1,2,3,4,5,6,7,8,9,10,11,12,13,14,15,16,17,18,19,20],[0,6]),([21,20,0,1,2,3,4,5,6,7,8,9,10,11,12,13,14,15,16,17,18,19,20],[20,21])])
def spec_l06Out.B5 : List Nat:=[0,0,2,0,14,30,62,0,0,256,0,1792,3840,7936,16256,32640,0,0,196608,458752,1048448,2097151,4194303]
theorem spec_l06Out.tab5 : rtab .any (opsOf Try.f63 5) = spec_l06Out.T5:=by kernel_rfl
theorem spec_l06Out.bits5 : waitsOk spec_l06Out.T5.2 spec_l06Out.B5 = true:=by kernel_rfl
def spec_l06Out.T6 : Bool × List (List Nat × List Nat):=(true,[([],[]),([],[]),([1],[1]),([],[]),([2,3],[2,3]),([4],[4]),([5],[5]),([],[]),([],[]),([8],[8]),([],[]),([9,10],[9,10]),([11],[11]),([12],[12]),([7,13],[7,13]),([14],[14]),([],[]),([],[]),([16,17],[16,17]),([18],[18]),([15,19],[15,19]),([0,6,0,1,2,3,4,5,6,7,8,9,10,11,12,13,14,15,16,17,18,19,20],[0,6]),([21,20,0,1,2,3,4,5,6,7,8,9,10,11,12,13,14,15,16,17,18,19,20],[20,21])])
def spec_l06Out.B6 : List Nat:=[0,0,2,0,14,30,62,0,0,256,0,1792,3840,7936,16256,32640,0,0,196608,458752,1048448,2097151,4194303]
theorem spec_l06Out.tab6 : rtab .any (opsOf Try.f63 6) = spec_l06Out.T6:=by kernel_rfl
theorem spec_l06Out.bits6 : waitsOk spec_l06Out.T6.2 spec_l06Out.B6 = true:=by kernel_rfl
set_option maxHeartbeats 8000000 in
set_option maxRecDepth 100000 in
theorem spec_l06Out.calls (k : Nat) (a0_0 : Int) (A0_1 : Option Addr) (c0_1 : Nat) (l0_1 : List (S67)) (A1 : Option Addr) (c1 : Nat) (l1 : List Int) (r : List Int) (w : World) (hr0_1 : Kd.C k67 w A0_1 l0_1.length l0_1) (hc0_1 : l0_1.length ≤ c0_1) (hr1 : Kd.C (Kd.int .i64) w A1 l1.length l1) (hc1 : l1.length ≤ c1) (h : spec_l06Out.f k a0_0 l0_1 l1 = some r) :
  Calls Try.prog 63 #[.agg #[.int .i64 a0_0,.slice A0_1 l0_1.length c0_1],.slice A1 l1.length c1] w fun e w'=>∃ v0_ : Value,e = .returned (v0_) ∧ Kd.R (Kd.int .i64) 3 w' w.heap.size (fun _=>True) v0_ r ∧ Below w.heap.size w w':=by
 have hu30:=Try.underlying30
 have HR0_1:=am_ hr0_1
 have HC0_1:=am_ hc0_1
 clear hr0_1 hc0_1
 have HR1:=am_ hr1
 have HC1:=am_ hc1
 clear hr1 hc1
 have HB:=am_ (Below.refl w.heap.size w)
 have H : (if 0 ≤ a0_0 then (if (a0_0 : Int).toNat ≤ 35184372088832 then (spec_l06Out.l0 k l1 (List.replicate (a0_0 : Int).toNat 0) 0 a0_0 l0_1) else (none)) else (none)) = some r:=h
 clear h
 by_cases c3 : 0 ≤ a0_0
 rotate_left
 ·rw [if_neg c3] at H
  exact absurd H (by simp)
 rw [if_pos c3] at H
 have c3b0:=eq_true c3
 have c3b1 : decide (0 ≤ a0_0) = true:=decide_eq_true c3
 clear c3
 by_cases c4 : (a0_0 : Int).toNat ≤ 35184372088832
 rotate_left
 ·rw [if_neg c4] at H
  exact absurd H (by simp)
 rw [if_pos c4] at H
 have c4b0:=eq_true c4
 have c4b1 : decide ((a0_0 : Int).toNat ≤ 35184372088832) = true:=decide_eq_true c4
 clear c4
 obtain ⟨y110,hy110⟩ : ∃ y_ : List Int,y_ = (List.replicate (a0_0 : Int).toNat 0):=⟨_,rfl⟩
 replace H : (spec_l06Out.l0 k l1 y110 0 a0_0 l0_1) = some r:=by (rw [hy110];with_reducible exact H)
 have Ny110:=am_ hy110
 clear hy110
 have H':=am_ H
 clear H
 go_enter Try.func63,Try.ntmps63
 go_wp2_with (first|((with_reducible refine gate_dst (N:=2) rfl ?_);refine box_event ?hg (N:=2) ?hd (cs:=#[.int .i64 a0_0,.slice A0_1 l0_1.length c0_1]) (t:=30) ?hr ?_;(case hd=>rfl);(case hg=>rfl);(case hr=>(go_simp;done));intro gb109 hg w5 hbox hb;have n0_:=am_ (below_step HB.out hb);have n1_:=am_ (hbox);have n2_:=am_ ((by rw [hg];exact (below_size HB.out) : w.heap.size ≤ gb109));have n3_:=n2_;clear HB;have HB:=n0_;have BK109:=n1_;have GW109:=n2_;have GE109:=n3_;clear n0_ n1_ n2_ n3_ hb hbox hg;have hcz6_0 : w5.cell? ⟨gb109,0,none⟩ = some (.int .i64 a0_0):=bc_ BK109.out 0;have hcz6_1 : w5.cell? ⟨gb109,1,none⟩ = some (.slice A0_1 l0_1.length c0_1):=bc_ BK109.out 1;have hfz6_0:=blk_frozen BK109.out 0;have hfz6_1:=blk_frozen BK109.out 1)|((with_reducible refine gate_dst (N:=9) rfl ?_);refine Kd.R_make (Kd.int .i64) _ 3 rfl (N:=9) rfl 25 _ _ rfl a0_0 rfl rfl Try.underlying25 (.int .i64 0) 8 info3 rfl (by decide) (by omega) 0 (ok:=fun _=>True) (okp:=fun _=>True) rfl (fun _ hk=>hk) trivial (od_ (by (with_reducible assumption))) (Nat.le_trans (Nat.mul_le_mul_right _ (od_ (by (with_reducible assumption)) : a0_0.toNat ≤ 35184372088832)) (by omega)) (Below.refl _ _) (Nat.le_refl _) ?_;intro v111 w7 ho8 hb hg_ hnew_;clear hg_ hnew_;(rw [← Ny110.out] at ho8);have n0_:=am_ (Kd.R_lower ho8 (below_size HB.out));have n1_:=am_ (blk_below BK109.out hb);have n2_:=am_ (below_step HB.out hb);clear BK109 HB;have HO112:=n0_;have BK109:=n1_;have HB:=n2_;clear n0_ n1_ n2_ hb ho8))
 go_loopg [6] k (fun kq v6 w'=>∃ (x5_1 : List Int) (x6_1 : Int),v6 = .int .i64 x6_1 ∧ Aside0 (spec_l06Out.l0 kq l1 x5_1 x6_1 a0_0 l0_1 = some r) ∧ Aside0 (kq ≤ k) ∧ Aside0 (Kd.R (Kd.int .i64) 3 w' w.heap.size (fun _=>True) v111 x5_1) ∧ Aside0 (w'.heap[gb109]? = some (.cells #[.int .i64 a0_0,(.slice A0_1 l0_1.length c0_1)] 30 (0,0))) ∧ Aside0 (Below w.heap.size w w'))
 case atStart=>exact ⟨(y110),(0),(by rfl),H',⟨Nat.le_refl _⟩,⟨by exact HO112.out⟩,⟨by exact BK109.out⟩,⟨by exact HB.out⟩⟩
 case round =>
  clear H'
  try clear c1
  try clear p2
  try clear c3
  try clear c3b0
  try clear c3b1
  try clear c4
  try clear c4b0
  try clear c4b1
  try clear c6
  try clear hcz6_0
  try clear hcz6_1
  try clear hfz6_0
  try clear hfz6_1
  obtain ⟨x5_1,x6_1,rfl,HA,HK1,HO_5,BK109,HB⟩:=hrel
  cases gk with
  | zero => exact absurd HA.out (by simp [spec_l06Out.l0])
  | succ k1 =>
   have H:=HA.out
   clear HA
   simp only [spec_l06Out.l0] at H
   by_cases c9 : x6_1 < (l1.length : Int)
   rotate_left
   ·rw [if_neg c9] at H
    have c9b0 : decide (x6_1 < (l1.length : Int)) = false:=decide_eq_false c9
    clear c9
    obtain rfl:=Option.some.inj H
    go_wp2
    go_ret
    exact ⟨_,by rfl,by exact HO_5.out,by exact HB.out⟩
   rw [if_pos c9] at H
   have c9b0 : decide (x6_1 < (l1.length : Int)) = true:=decide_eq_true c9
   clear c9
   by_cases c10 : 0 ≤ x6_1
   rotate_left
   ·rw [if_neg c10] at H
    exact absurd H (by simp)
   rw [if_pos c10] at H
   have c10b0 : decide (0 ≤ x6_1) = true:=decide_eq_true c10
   clear c10
   by_cases c11 : x6_1 < (l0_1.length : Int)
   rotate_left
   ·rw [if_neg c11] at H
    exact absurd H (by simp)
   rw [if_pos c11] at H
   have c11b0 : decide (x6_1 < (l0_1.length : Int)) = true:=decide_eq_true c11
   clear c11
   by_cases c12 : 0 ≤ ((rd_T67 l0_1 x6_1).f0)
   rotate_left
   ·rw [if_neg c12] at H
    exact absurd H (by simp)
   rw [if_pos c12] at H
   have c12b0 : decide (0 ≤ ((rd_T67 l0_1 x6_1).f0)) = true:=decide_eq_true c12
   clear c12
   by_cases c13 : ((rd_T67 l0_1 x6_1).f0) < (x5_1.length : Int)
   rotate_left
   ·rw [if_neg c13] at H
    exact absurd H (by simp)
   rw [if_pos c13] at H
   have c13b0 : decide (((rd_T67 l0_1 x6_1).f0) < (x5_1.length : Int)) = true:=decide_eq_true c13
   clear c13
   obtain ⟨y117,hy117⟩ : ∃ y_ : List Int,y_ = (x5_1.set (((rd_T67 l0_1 x6_1).f0) : Int).toNat (wrap64 ((rd x5_1 ((rd_T67 l0_1 x6_1).f0)) + (rd l1 x6_1)))):=⟨_,rfl⟩
   replace H : (if 0 ≤ ((rd_T67 l0_1 x6_1).f1) then (if ((rd_T67 l0_1 x6_1).f1) < (x5_1.length : Int) then (spec_l06Out.l0 k1 l1 (y117.set (((rd_T67 l0_1 x6_1).f1) : Int).toNat (wrap64 ((rd y117 ((rd_T67 l0_1 x6_1).f1)) - (rd l1 x6_1)))) (wrap64 (x6_1 + 1)) a0_0 l0_1) else (none)) else (none)) = some r:=by (have H2_:=(Option.bind_some _ _).symm.trans H;rw [hy117];with_reducible exact H2_)
   have Ny117:=am_ hy117
   clear hy117
   by_cases c15 : 0 ≤ ((rd_T67 l0_1 x6_1).f1)
   rotate_left
   ·rw [if_neg c15] at H
    exact absurd H (by simp)
   rw [if_pos c15] at H
   have c15b0 : decide (0 ≤ ((rd_T67 l0_1 x6_1).f1)) = true:=decide_eq_true c15
   clear c15
   by_cases c16 : ((rd_T67 l0_1 x6_1).f1) < (x5_1.length : Int)
   rotate_left
   ·rw [if_neg c16] at H
    exact absurd H (by simp)
   rw [if_pos c16] at H
   have c16b0 : decide (((rd_T67 l0_1 x6_1).f1) < (x5_1.length : Int)) = true:=decide_eq_true c16
   clear c16
   obtain ⟨y122,hy122⟩ : ∃ y_ : List Int,y_ = (y117.set (((rd_T67 l0_1 x6_1).f1) : Int).toNat (wrap64 ((rd y117 ((rd_T67 l0_1 x6_1).f1)) - (rd l1 x6_1)))):=⟨_,rfl⟩
   replace H : (spec_l06Out.l0 k1 l1 y122 (wrap64 (x6_1 + 1)) a0_0 l0_1) = some r:=by (rw [hy122];with_reducible exact H)
   have Ny122:=am_ hy122
   clear hy122
   have H':=am_ H
   clear H
   try go_wp2
   have n0_:=am_ (Kd.R_drew HO_5.out)
   have n1_:=am_ (blk_drew BK109.out)
   have n2_:=am_ (below_drew1 HB.out)
   clear HO_5
   clear BK109
   clear HB
   have HO_5:=n0_
   have BK109:=n1_
   have HB:=n2_
   clear n0_ n1_ n2_
   have p113 : 0 ≤ (x6_1 : Int):=od_ (by (with_reducible assumption))
   have q113 : x6_1 < (l0_1.length : Int):=od_ (by (with_reducible assumption))
   obtain ⟨ad113,e113,hx113_0,hx113_1,hx113_2,hx113_3⟩:=at_T67 HR0_1.out x6_1 p113 q113
   have hw113_3:=hx113_3
   have hw113_2:=hx113_2
   have hw113_1:=hx113_1
   have hw113_0:=hx113_0
   cases e113
   replace hx113_0:=kc_ HB.out hx113_0
   replace hx113_1:=kc_ HB.out hx113_1
   replace hx113_2:=kc_ HB.out hx113_2
   replace hx113_3:=kc_ HB.out hx113_3
   replace p113:=eq_true p113
   replace q113:=eq_true q113
   have p114 : 0 ≤ (x6_1 : Int):=od_ (by (with_reducible assumption))
   have q114 : x6_1 < (l0_1.length : Int):=od_ (by (with_reducible assumption))
   obtain ⟨ad114,e114,hx114_0,hx114_1,hx114_2,hx114_3⟩:=at_T67 HR0_1.out x6_1 p114 q114
   have hw114_3:=hx114_3
   have hw114_2:=hx114_2
   have hw114_1:=hx114_1
   have hw114_0:=hx114_0
   obtain rfl : ad113 = ad114:=(by injection e114)
   replace hx114_0:=kc_ HB.out hx114_0
   replace hx114_1:=kc_ HB.out hx114_1
   replace hx114_2:=kc_ HB.out hx114_2
   replace hx114_3:=kc_ HB.out hx114_3
   replace p114:=eq_true p114
   replace q114:=eq_true q114
   obtain ⟨Ao19,co19,eo19⟩:=Kd.R_slice HO_5.out
   (subst eo19)
   have p115 : 0 ≤ (((rd_T67 l0_1 x6_1).f0) : Int):=od_ (by (with_reducible assumption))
   have q115 : ((rd_T67 l0_1 x6_1).f0) < (x5_1.length : Int):=od_ (by (with_reducible assumption))
   obtain ⟨ad115,e115,hx115_0⟩:=Kd.at_int (Kd.R_reads' HO_5.out).2.2 ((rd_T67 l0_1 x6_1).f0) p115 q115
   cases e115
   replace p115:=eq_true p115
   replace q115:=eq_true q115
   have p116 : 0 ≤ (x6_1 : Int):=od_ (by (with_reducible assumption))
   have q116 : x6_1 < (l1.length : Int):=od_ (by (with_reducible assumption))
   obtain ⟨ad116,e116,hx116_0⟩:=Kd.at_int HR1.out x6_1 p116 q116
   have hw116_0:=hx116_0
   cases e116
   replace hx116_0:=kc_ HB.out hx116_0
   replace p116:=eq_true p116
   replace q116:=eq_true q116
   have p14 : 0 ≤ (((rd_T67 l0_1 x6_1).f0) : Int):=od_ (by (with_reducible assumption))
   have q14 : (((rd_T67 l0_1 x6_1).f0) : Int) < ((x5_1.length : Int) : Int):=od_ (by (with_reducible assumption))
   obtain ⟨go14,co14,eo14,gb14,gl14,cl14,HG14⟩:=Kd.R_form HO_5.out (by omega)
   (cases eo14)
   have GB14:=am_ gb14
   have GG14:=am_ HG14
   clear gb14 gl14 HG14
   (simp only [add_plain] at hx115_0)
   obtain ⟨hx14_0,hf14_0⟩:=Kd.R_celln 0 HO_5.out (((rd_T67 l0_1 x6_1).f0) : Int) p14 q14
   replace p14:=eq_true p14
   replace q14:=eq_true q14
   have HP20:=Kd.R_putn HO_5.out (((rd_T67 l0_1 x6_1).f0) : Int) (wrap64 ((rd x5_1 ((rd_T67 l0_1 x6_1).f0)) + (rd l1 x6_1)))
   rw [← Ny117.out] at HP20
   have HQ20:=am_ HP20
   clear HP20
   refine start_ (n:=23) (S:=fun w'=>w'.cell? ⟨gb109,0,none⟩ = some (.int .i64 a0_0) ∧ w'.cell? ⟨gb109,1,none⟩ = some (.slice (some ad113) l0_1.length c0_1) ∧ w'.cell? (ad113.add ((x6_1).toNat * 4)) = some (.int .i64 ((rd_T67 l0_1 x6_1).f0)) ∧ w'.cell? ⟨(ad113.add ((x6_1).toNat * 4)).block,(ad113.add ((x6_1).toNat * 4)).off + 1,none⟩ = some (.int .i64 ((rd_T67 l0_1 x6_1).f1)) ∧ w'.cell? ⟨(ad113.add ((x6_1).toNat * 4)).block,(ad113.add ((x6_1).toNat * 4)).off + 2,none⟩ = some (.int .i64 ((rd_T67 l0_1 x6_1).f2)) ∧ w'.cell? ⟨(ad113.add ((x6_1).toNat * 4)).block,(ad113.add ((x6_1).toNat * 4)).off + 3,none⟩ = some (.int .i64 ((rd_T67 l0_1 x6_1).f3)) ∧ w'.cell? (ad113.add ((x6_1).toNat * 4)) = some (.int .i64 ((rd_T67 l0_1 x6_1).f0)) ∧ w'.cell? ⟨(ad113.add ((x6_1).toNat * 4)).block,(ad113.add ((x6_1).toNat * 4)).off + 1,none⟩ = some (.int .i64 ((rd_T67 l0_1 x6_1).f1)) ∧ w'.cell? ⟨(ad113.add ((x6_1).toNat * 4)).block,(ad113.add ((x6_1).toNat * 4)).off + 2,none⟩ = some (.int .i64 ((rd_T67 l0_1 x6_1).f2)) ∧ w'.cell? ⟨(ad113.add ((x6_1).toNat * 4)).block,(ad113.add ((x6_1).toNat * 4)).off + 3,none⟩ = some (.int .i64 ((rd_T67 l0_1 x6_1).f3)) ∧ w'.cell? ⟨go14,(((rd_T67 l0_1 x6_1).f0)).toNat,none⟩ = some (.int .i64 (rd x5_1 ((rd_T67 l0_1 x6_1).f0))) ∧ w'.cell? (ad116.add (x6_1).toNat) = some (.int .i64 (rd l1 x6_1))) (ds:=[22]) fl12_0_ (by kernel_rfl) rfl rfl ⟨bc_ BK109.out 0,bc_ BK109.out 1,(kc_ HB.out hw113_0),(kc_ HB.out hw113_1),(kc_ HB.out hw113_2),(kc_ HB.out hw113_3),(kc_ HB.out hw114_0),(kc_ HB.out hw114_1),(kc_ HB.out hw114_2),(kc_ HB.out hw114_3),hx115_0,(kc_ HB.out hw116_0)⟩ (fun hHeld=>?_);refine with_tabW spec_l06Out.tab5 spec_l06Out.bits5 (fun HT_ HW_=>?_)
   generalize wr.drew = w18 at HO_5 BK109 HB GG14 HQ20 hf14_0 hx113_0 hx113_1 hx113_2 hx113_3 hx114_0 hx114_1 hx114_2 hx114_3 hx115_0 hx116_0 hx14_0 hHeld ⊢
   refine pure_ (i:=0) (N:=some 16) (v:=?_) (a':=?_) fl12_1_ rfl rfl (any_of HT_.out (by kernel_rfl)) (fun _ _ _ h=>h) (Or.inl ⟨by rfl,?_⟩) ?_ ?_
   rotate_left
   ·intro w'
    go_simp
    with_reducible rfl
   rotate_left
   ·simp only [Act.put,sb_,sz_,ss_,i64_w,i32_w]
    rfl
   refine pure_ (i:=1) (N:=some 17) (v:=?_) (a':=?_) fl12_2_ rfl rfl (any_of HT_.out (by kernel_rfl)) (fun _ _ _ h=>h) (Or.inl ⟨by rfl,?_⟩) ?_ ?_
   rotate_left
   ·intro w'
    go_simp
    with_reducible rfl
   rotate_left
   ·simp only [Act.put,sb_,sz_,ss_,i64_w,i32_w]
    rfl
   refine pure_ (i:=3) (N:=some 19) (v:=?_) (a':=?_) fl12_3_ rfl rfl (any_of HT_.out (by kernel_rfl)) (fun _ _ _ h=>h) (Or.inl ⟨by rfl,?_⟩) ?_ ?_
   rotate_left
   ·intro w'
    go_simp
    with_reducible rfl
   rotate_left
   ·simp only [Act.put,sb_,sz_,ss_,i64_w,i32_w]
    rfl
   refine pure_ (i:=7) (N:=some 23) (v:=?_) (a':=?_) fl12_4_ rfl rfl (any_of HT_.out (by kernel_rfl)) (fun _ _ _ h=>h) (Or.inl ⟨by rfl,?_⟩) ?_ ?_
   rotate_left
   ·intro w'
    go_simp
    with_reducible rfl
   rotate_left
   ·simp only [Act.put,sb_,sz_,ss_,i64_w,i32_w]
    rfl
   refine pure_ (i:=8) (N:=some 24) (v:=?_) (a':=?_) fl12_5_ rfl rfl (any_of HT_.out (by kernel_rfl)) (fun _ _ _ h=>h) (Or.inl ⟨by rfl,?_⟩) ?_ ?_
   rotate_left
   ·intro w'
    go_simp
    with_reducible rfl
   rotate_left
   ·simp only [Act.put,sb_,sz_,ss_,i64_w,i32_w]
    rfl
   refine pure_ (i:=10) (N:=some 26) (v:=?_) (a':=?_) fl12_6_ rfl rfl (any_of HT_.out (by kernel_rfl)) (fun _ _ _ h=>h) (Or.inl ⟨by rfl,?_⟩) ?_ ?_
   rotate_left
   ·intro w'
    go_simp
    with_reducible rfl
   rotate_left
   ·simp only [Act.put,sb_,sz_,ss_,i64_w,i32_w]
    rfl
   refine pure_ (i:=16) (N:=some 32) (v:=?_) (a':=?_) fl12_7_ rfl rfl (any_of HT_.out (by kernel_rfl)) (fun _ _ _ h=>h) (Or.inl ⟨by rfl,?_⟩) ?_ ?_
   rotate_left
   ·intro w'
    go_simp
    with_reducible rfl
   rotate_left
   ·simp only [Act.put,sb_,sz_,ss_,i64_w,i32_w]
    rfl
   refine pure_ (i:=17) (N:=some 33) (v:=?_) (a':=?_) fl12_8_ rfl rfl (any_of HT_.out (by kernel_rfl)) (fun _ _ _ h=>h) (Or.inl ⟨by rfl,?_⟩) ?_ ?_
   rotate_left
   ·intro w'
    go_simp
    with_reducible rfl
   rotate_left
   ·simp only [Act.put,sb_,sz_,ss_,i64_w,i32_w]
    rfl
   refine pure_ (i:=18) (N:=some 34) (v:=?_) (a':=?_) fl12_9_ rfl rfl (any_of HT_.out (by kernel_rfl)) (fun _ _ _ h=>h) (Or.inl ⟨by rfl,?_⟩) ?_ ?_
   rotate_left
   ·intro w'
    go_simp
    with_reducible rfl
   rotate_left
   ·simp only [Act.put,sb_,sz_,ss_,i64_w,i32_w]
    rfl
   refine take_ (i:=2) (N:=some 18) (v:=?_) (a':=?_) fl12_10_ rfl rfl (take_ofW HT_.out HW_.out (by kernel_rfl)) (fun _ _ _ h=>h) (Or.inl ⟨by rfl,?_⟩) hHeld ?_ ?_
   rotate_left
   ·rintro w' ⟨s0,s1,s2,s3,s4,s5,s6,s7,s8,s9,s10,s11⟩
    go_simp
    with_reducible rfl
   rotate_left
   ·simp only [Act.put,sb_,sz_,ss_,i64_w,i32_w]
    rfl
   refine pure_ (i:=4) (N:=some 20) (v:=?_) (a':=?_) fl12_11_ rfl rfl (any_of HT_.out (by kernel_rfl)) (fun _ _ _ h=>h) (Or.inl ⟨by rfl,?_⟩) ?_ ?_
   rotate_left
   ·intro w'
    go_simp
    with_reducible rfl
   rotate_left
   ·simp only [Act.put,sb_,sz_,ss_,i64_w,i32_w]
    rfl
   refine pure_ (i:=5) (N:=some 21) (v:=?_) (a':=?_) fl12_12_ rfl rfl (any_of HT_.out (by kernel_rfl)) (fun _ _ _ h=>h) (Or.inl ⟨by rfl,?_⟩) ?_ ?_
   rotate_left
   ·intro w'
    go_simp
    with_reducible rfl
   rotate_left
   ·simp only [Act.put,sb_,sz_,ss_,i64_w,i32_w]
    rfl
   refine take_ (i:=6) (N:=some 22) (v:=?_) (a':=?_) fl12_13_ rfl rfl (take_ofW HT_.out HW_.out (by kernel_rfl)) (fun _ _ _ h=>h) (Or.inl ⟨by rfl,?_⟩) hHeld ?_ ?_
   rotate_left
   ·rintro w' ⟨s0,s1,s2,s3,s4,s5,s6,s7,s8,s9,s10,s11⟩
    go_simp
    with_reducible rfl
   rotate_left
   ·simp only [Act.put,sb_,sz_,ss_,i64_w,i32_w]
    rfl
   refine take_ (i:=9) (N:=some 25) (v:=?_) (a':=?_) fl12_14_ rfl rfl (take_ofW HT_.out HW_.out (by kernel_rfl)) (fun _ _ _ h=>h) (Or.inl ⟨by rfl,?_⟩) hHeld ?_ ?_
   rotate_left
   ·rintro w' ⟨s0,s1,s2,s3,s4,s5,s6,s7,s8,s9,s10,s11⟩
    go_simp
    with_reducible rfl
   rotate_left
   ·simp only [Act.put,sb_,sz_,ss_,i64_w,i32_w]
    rfl
   refine pure_ (i:=11) (N:=some 27) (v:=?_) (a':=?_) fl12_15_ rfl rfl (any_of HT_.out (by kernel_rfl)) (fun _ _ _ h=>h) (Or.inl ⟨by rfl,?_⟩) ?_ ?_
   rotate_left
   ·intro w'
    go_simp
    with_reducible rfl
   rotate_left
   ·simp only [Act.put,sb_,sz_,ss_,i64_w,i32_w]
    rfl
   refine pure_ (i:=12) (N:=some 28) (v:=?_) (a':=?_) fl12_16_ rfl rfl (any_of HT_.out (by kernel_rfl)) (fun _ _ _ h=>h) (Or.inl ⟨by rfl,?_⟩) ?_ ?_
   rotate_left
   ·intro w'
    go_simp
    with_reducible rfl
   rotate_left
   ·simp only [Act.put,sb_,sz_,ss_,i64_w,i32_w]
    rfl
   refine take_ (i:=13) (N:=some 29) (v:=?_) (a':=?_) fl12_17_ rfl rfl (take_ofW HT_.out HW_.out (by kernel_rfl)) (fun _ _ _ h=>h) (Or.inl ⟨by rfl,?_⟩) hHeld ?_ ?_
   rotate_left
   ·rintro w' ⟨s0,s1,s2,s3,s4,s5,s6,s7,s8,s9,s10,s11⟩
    go_simp
    with_reducible rfl
   rotate_left
   ·simp only [Act.put,sb_,sz_,ss_,i64_w,i32_w]
    rfl
   refine pure_ (i:=14) (N:=some 30) (v:=?_) (a':=?_) fl12_18_ rfl rfl (any_of HT_.out (by kernel_rfl)) (fun _ _ _ h=>h) (Or.inl ⟨by rfl,?_⟩) ?_ ?_
   rotate_left
   ·intro w'
    go_simp
    with_reducible rfl
   rotate_left
   ·simp only [Act.put,sb_,sz_,ss_,i64_w,i32_w]
    rfl
   refine take_ (i:=15) (N:=some 31) (v:=?_) (a':=?_) fl12_19_ rfl rfl (take_ofW HT_.out HW_.out (by kernel_rfl)) (fun _ _ _ h=>h) (Or.inl ⟨by rfl,?_⟩) hHeld ?_ ?_
   rotate_left
   ·rintro w' ⟨s0,s1,s2,s3,s4,s5,s6,s7,s8,s9,s10,s11⟩
    go_simp
    with_reducible rfl
   rotate_left
   ·simp only [Act.put,sb_,sz_,ss_,i64_w,i32_w]
    rfl
   refine take_ (i:=19) (N:=some 35) (v:=?_) (a':=?_) fl12_20_ rfl rfl (take_ofW HT_.out HW_.out (by kernel_rfl)) (fun _ _ _ h=>h) (Or.inl ⟨by rfl,?_⟩) hHeld ?_ ?_
   rotate_left
   ·rintro w' ⟨s0,s1,s2,s3,s4,s5,s6,s7,s8,s9,s10,s11⟩
    go_simp
    with_reducible rfl
   rotate_left
   ·simp only [Act.put,sb_,sz_,ss_,i64_w,i32_w]
    rfl
   refine pure_ (i:=20) (N:=some 36) (v:=?_) (a':=?_) fl12_21_ rfl rfl (any_of HT_.out (by kernel_rfl)) (fun _ _ _ h=>h) (Or.inl ⟨by rfl,?_⟩) ?_ ?_
   rotate_left
   ·intro w'
    go_simp
    with_reducible rfl
   rotate_left
   ·simp only [Act.put,sb_,sz_,ss_,i64_w,i32_w]
    rfl
   refine pure_ (i:=21) (N:=some 37) (v:=?_) (a':=?_) fl12_22_ rfl rfl (any_of HT_.out (by kernel_rfl)) (fun _ _ _ h=>h) (Or.inl ⟨by rfl,?_⟩) ?_ ?_
   rotate_left
   ·intro w'
    go_simp
    with_reducible rfl
   rotate_left
   ·simp only [Act.put,sb_,sz_,ss_,i64_w,i32_w]
    rfl
   refine last_ (i:=22) (N:=none) fl12_23_ rfl rfl (one_of HT_.out (by kernel_rfl)) (by decide) (fun K hK=>?_)
   refine skip_ (w1:=?_) (by rfl) rfl ?_ ?_
   rotate_left
   ·go_simp
    rfl
   refine hK.out _ _ ?_
   clear hK K
   refine done_ (done_of HT_.out (by kernel_rfl)) ?_
   try go_wp2
   have n0_ : Aside0 (Kd.R (Kd.int .i64) 3 (w18.setCell ⟨go14,(((rd_T67 l0_1 x6_1).f0) : Int).toNat,none⟩ (.int .i64 (wrap64 ((rd x5_1 ((rd_T67 l0_1 x6_1).f0)) + (rd l1 x6_1))))) w.heap.size (fun _=>True) (.slice (some ⟨go14,0,none⟩) x5_1.length co19) y117):=⟨by exact HQ20.out⟩
   have n1_ : Aside0 ((w18.setCell ⟨go14,(((rd_T67 l0_1 x6_1).f0) : Int).toNat,none⟩ (.int .i64 (wrap64 ((rd x5_1 ((rd_T67 l0_1 x6_1).f0)) + (rd l1 x6_1))))).heap[gb109]? = some (.cells #[.int .i64 a0_0,.slice (some ad113) l0_1.length c0_1] 30 (0,0))):=⟨by refine blk_far ?_ (by have h_:=Kd.R_ne HO_5.out BK109.out (by decide);intro e_;exact h_ (by rw [e_];rfl)) _;exact BK109.out⟩
   have n2_ : Aside0 (Below w.heap.size w (w18.setCell ⟨go14,(((rd_T67 l0_1 x6_1).f0) : Int).toNat,none⟩ (.int .i64 (wrap64 ((rd x5_1 ((rd_T67 l0_1 x6_1).f0)) + (rd l1 x6_1)))))):=⟨by repeat ((with_reducible first|exact HB.out|refine below_set ?_ GB14.out))⟩
   (try clear HO_5)
   (try clear BK109)
   (try clear HB)
   generalize (w18.setCell ⟨go14,(((rd_T67 l0_1 x6_1).f0) : Int).toNat,none⟩ (.int .i64 (wrap64 ((rd x5_1 ((rd_T67 l0_1 x6_1).f0)) + (rd l1 x6_1))))) = w21 at n0_ n1_ n2_ ⊢
   have HO_5:=n0_
   have BK109:=n1_
   have HB:=n2_
   clear n0_ n1_ n2_
   have n0_:=am_ (Kd.R_drew HO_5.out)
   have n1_:=am_ (blk_drew BK109.out)
   have n2_:=am_ (below_drew1 HB.out)
   clear HO_5
   clear BK109
   clear HB
   have HO_5:=n0_
   have BK109:=n1_
   have HB:=n2_
   clear n0_ n1_ n2_
   have p118 : 0 ≤ (x6_1 : Int):=od_ (by (with_reducible assumption))
   have q118 : x6_1 < (l0_1.length : Int):=od_ (by (with_reducible assumption))
   obtain ⟨ad118,e118,hx118_0,hx118_1,hx118_2,hx118_3⟩:=at_T67 HR0_1.out x6_1 p118 q118
   have hw118_3:=hx118_3
   have hw118_2:=hx118_2
   have hw118_1:=hx118_1
   have hw118_0:=hx118_0
   obtain rfl : ad113 = ad118:=(by injection e118)
   replace hx118_0:=kc_ HB.out hx118_0
   replace hx118_1:=kc_ HB.out hx118_1
   replace hx118_2:=kc_ HB.out hx118_2
   replace hx118_3:=kc_ HB.out hx118_3
   replace p118:=eq_true p118
   replace q118:=eq_true q118
   have p119 : 0 ≤ (x6_1 : Int):=od_ (by (with_reducible assumption))
   have q119 : x6_1 < (l0_1.length : Int):=od_ (by (with_reducible assumption))
   obtain ⟨ad119,e119,hx119_0,hx119_1,hx119_2,hx119_3⟩:=at_T67 HR0_1.out x6_1 p119 q119
   have hw119_3:=hx119_3
   have hw119_2:=hx119_2
   have hw119_1:=hx119_1
   have hw119_0:=hx119_0
   obtain rfl : ad113 = ad119:=(by injection e119)
   replace hx119_0:=kc_ HB.out hx119_0
   replace hx119_1:=kc_ HB.out hx119_1
   replace hx119_2:=kc_ HB.out hx119_2
   replace hx119_3:=kc_ HB.out hx119_3
   replace p119:=eq_true p119
   replace q119:=eq_true q119
   have p120 : 0 ≤ (((rd_T67 l0_1 x6_1).f1) : Int):=od_ (by (with_reducible assumption))
   have q120 : ((rd_T67 l0_1 x6_1).f1) < (y117.length : Int):=(by have h_ : (((rd_T67 l0_1 x6_1).f1) : Int) < ((x5_1.length : Int) : Int):=od_ (by (with_reducible assumption));(have e_:=(Kd.R_reads' HO_5.out).1;omega))
   have ql120 : ((((rd_T67 l0_1 x6_1).f1) : Int) < ((x5_1.length : Int) : Int)) = True:=eq_true (od_ (by (with_reducible assumption)))
   obtain ⟨ad120,e120,hx120_0⟩:=Kd.at_int (Kd.R_reads' HO_5.out).2.2 ((rd_T67 l0_1 x6_1).f1) p120 q120
   obtain rfl : (⟨go14,0,none⟩ : Addr) = ad120:=(by injection e120)
   (simp only [add_plain] at hx120_0)
   replace p120:=eq_true p120
   replace q120:=eq_true q120
   have p121 : 0 ≤ (x6_1 : Int):=od_ (by (with_reducible assumption))
   have q121 : x6_1 < (l1.length : Int):=od_ (by (with_reducible assumption))
   obtain ⟨ad121,e121,hx121_0⟩:=Kd.at_int HR1.out x6_1 p121 q121
   have hw121_0:=hx121_0
   obtain rfl : ad116 = ad121:=(by injection e121)
   replace hx121_0:=kc_ HB.out hx121_0
   replace p121:=eq_true p121
   replace q121:=eq_true q121
   have p17 : 0 ≤ (((rd_T67 l0_1 x6_1).f1) : Int):=od_ (by (with_reducible assumption))
   have q17 : (((rd_T67 l0_1 x6_1).f1) : Int) < ((x5_1.length : Int) : Int):=od_ (by (with_reducible assumption))
   obtain ⟨hx17_0,hf17_0⟩:=Kd.R_celln 0 HO_5.out (((rd_T67 l0_1 x6_1).f1) : Int) p17 q17
   replace p17:=eq_true p17
   replace q17:=eq_true q17
   have HP23:=Kd.R_putn HO_5.out (((rd_T67 l0_1 x6_1).f1) : Int) (wrap64 ((rd y117 ((rd_T67 l0_1 x6_1).f1)) - (rd l1 x6_1)))
   rw [← Ny122.out] at HP23
   have HQ23:=am_ HP23
   clear HP23
   refine start_ (n:=23) (S:=fun w'=>w'.cell? ⟨gb109,0,none⟩ = some (.int .i64 a0_0) ∧ w'.cell? ⟨gb109,1,none⟩ = some (.slice (some ad113) l0_1.length c0_1) ∧ w'.cell? (ad113.add ((x6_1).toNat * 4)) = some (.int .i64 ((rd_T67 l0_1 x6_1).f0)) ∧ w'.cell? ⟨(ad113.add ((x6_1).toNat * 4)).block,(ad113.add ((x6_1).toNat * 4)).off + 1,none⟩ = some (.int .i64 ((rd_T67 l0_1 x6_1).f1)) ∧ w'.cell? ⟨(ad113.add ((x6_1).toNat * 4)).block,(ad113.add ((x6_1).toNat * 4)).off + 2,none⟩ = some (.int .i64 ((rd_T67 l0_1 x6_1).f2)) ∧ w'.cell? ⟨(ad113.add ((x6_1).toNat * 4)).block,(ad113.add ((x6_1).toNat * 4)).off + 3,none⟩ = some (.int .i64 ((rd_T67 l0_1 x6_1).f3)) ∧ w'.cell? (ad113.add ((x6_1).toNat * 4)) = some (.int .i64 ((rd_T67 l0_1 x6_1).f0)) ∧ w'.cell? ⟨(ad113.add ((x6_1).toNat * 4)).block,(ad113.add ((x6_1).toNat * 4)).off + 1,none⟩ = some (.int .i64 ((rd_T67 l0_1 x6_1).f1)) ∧ w'.cell? ⟨(ad113.add ((x6_1).toNat * 4)).block,(ad113.add ((x6_1).toNat * 4)).off + 2,none⟩ = some (.int .i64 ((rd_T67 l0_1 x6_1).f2)) ∧ w'.cell? ⟨(ad113.add ((x6_1).toNat * 4)).block,(ad113.add ((x6_1).toNat * 4)).off + 3,none⟩ = some (.int .i64 ((rd_T67 l0_1 x6_1).f3)) ∧ w'.cell? ⟨go14,(((rd_T67 l0_1 x6_1).f1)).toNat,none⟩ = some (.int .i64 (rd y117 ((rd_T67 l0_1 x6_1).f1))) ∧ w'.cell? (ad116.add (x6_1).toNat) = some (.int .i64 (rd l1 x6_1))) (ds:=[22]) fl12_0_ (by kernel_rfl) rfl rfl ⟨bc_ BK109.out 0,bc_ BK109.out 1,(kc_ HB.out hw118_0),(kc_ HB.out hw118_1),(kc_ HB.out hw118_2),(kc_ HB.out hw118_3),(kc_ HB.out hw119_0),(kc_ HB.out hw119_1),(kc_ HB.out hw119_2),(kc_ HB.out hw119_3),hx120_0,(kc_ HB.out hw121_0)⟩ (fun hHeld=>?_);refine with_tabW spec_l06Out.tab6 spec_l06Out.bits6 (fun HT_ HW_=>?_)
   generalize w21.drew = w22 at HO_5 BK109 HB HQ20 HQ23 hf17_0 hx118_0 hx118_1 hx118_2 hx118_3 hx119_0 hx119_1 hx119_2 hx119_3 hx120_0 hx121_0 hx17_0 hHeld ⊢
   refine pure_ (i:=0) (N:=some 38) (v:=?_) (a':=?_) fl12_1_ rfl rfl (any_of HT_.out (by kernel_rfl)) (fun _ _ _ h=>h) (Or.inl ⟨by rfl,?_⟩) ?_ ?_
   rotate_left
   ·intro w'
    go_simp
    with_reducible rfl
   rotate_left
   ·simp only [Act.put,sb_,sz_,ss_,i64_w,i32_w]
    rfl
   refine pure_ (i:=1) (N:=some 39) (v:=?_) (a':=?_) fl12_2_ rfl rfl (any_of HT_.out (by kernel_rfl)) (fun _ _ _ h=>h) (Or.inl ⟨by rfl,?_⟩) ?_ ?_
   rotate_left
   ·intro w'
    go_simp
    with_reducible rfl
   rotate_left
   ·simp only [Act.put,sb_,sz_,ss_,i64_w,i32_w]
    rfl
   refine pure_ (i:=3) (N:=some 41) (v:=?_) (a':=?_) fl12_3_ rfl rfl (any_of HT_.out (by kernel_rfl)) (fun _ _ _ h=>h) (Or.inl ⟨by rfl,?_⟩) ?_ ?_
   rotate_left
   ·intro w'
    go_simp
    with_reducible rfl
   rotate_left
   ·simp only [Act.put,sb_,sz_,ss_,i64_w,i32_w]
    rfl
   refine pure_ (i:=7) (N:=some 45) (v:=?_) (a':=?_) fl12_4_ rfl rfl (any_of HT_.out (by kernel_rfl)) (fun _ _ _ h=>h) (Or.inl ⟨by rfl,?_⟩) ?_ ?_
   rotate_left
   ·intro w'
    go_simp
    with_reducible rfl
   rotate_left
   ·simp only [Act.put,sb_,sz_,ss_,i64_w,i32_w]
    rfl
   refine pure_ (i:=8) (N:=some 46) (v:=?_) (a':=?_) fl12_5_ rfl rfl (any_of HT_.out (by kernel_rfl)) (fun _ _ _ h=>h) (Or.inl ⟨by rfl,?_⟩) ?_ ?_
   rotate_left
   ·intro w'
    go_simp
    with_reducible rfl
   rotate_left
   ·simp only [Act.put,sb_,sz_,ss_,i64_w,i32_w]
    rfl
   refine pure_ (i:=10) (N:=some 48) (v:=?_) (a':=?_) fl12_6_ rfl rfl (any_of HT_.out (by kernel_rfl)) (fun _ _ _ h=>h) (Or.inl ⟨by rfl,?_⟩) ?_ ?_
   rotate_left
   ·intro w'
    go_simp
    with_reducible rfl
   rotate_left
   ·simp only [Act.put,sb_,sz_,ss_,i64_w,i32_w]
    rfl
   refine pure_ (i:=16) (N:=some 54) (v:=?_) (a':=?_) fl12_7_ rfl rfl (any_of HT_.out (by kernel_rfl)) (fun _ _ _ h=>h) (Or.inl ⟨by rfl,?_⟩) ?_ ?_
   rotate_left
   ·intro w'
    go_simp
    with_reducible rfl
   rotate_left
   ·simp only [Act.put,sb_,sz_,ss_,i64_w,i32_w]
    rfl
   refine pure_ (i:=17) (N:=some 55) (v:=?_) (a':=?_) fl12_8_ rfl rfl (any_of HT_.out (by kernel_rfl)) (fun _ _ _ h=>h) (Or.inl ⟨by rfl,?_⟩) ?_ ?_
   rotate_left
   ·intro w'
    go_simp
    with_reducible rfl
   rotate_left
   ·simp only [Act.put,sb_,sz_,ss_,i64_w,i32_w]
    rfl
   refine pure_ (i:=18) (N:=some 56) (v:=?_) (a':=?_) fl12_9_ rfl rfl (any_of HT_.out (by kernel_rfl)) (fun _ _ _ h=>h) (Or.inl ⟨by rfl,?_⟩) ?_ ?_
   rotate_left
   ·intro w'
    go_simp
    with_reducible rfl
   rotate_left
   ·simp only [Act.put,sb_,sz_,ss_,i64_w,i32_w]
    rfl
   refine take_ (i:=2) (N:=some 40) (v:=?_) (a':=?_) fl12_10_ rfl rfl (take_ofW HT_.out HW_.out (by kernel_rfl)) (fun _ _ _ h=>h) (Or.inl ⟨by rfl,?_⟩) hHeld ?_ ?_
   rotate_left
   ·rintro w' ⟨s0,s1,s2,s3,s4,s5,s6,s7,s8,s9,s10,s11⟩
    go_simp
    with_reducible rfl
   rotate_left
   ·simp only [Act.put,sb_,sz_,ss_,i64_w,i32_w]
    rfl
   refine pure_ (i:=4) (N:=some 42) (v:=?_) (a':=?_) fl12_11_ rfl rfl (any_of HT_.out (by kernel_rfl)) (fun _ _ _ h=>h) (Or.inl ⟨by rfl,?_⟩) ?_ ?_
   rotate_left
   ·intro w'
    go_simp
    with_reducible rfl
   rotate_left
   ·simp only [Act.put,sb_,sz_,ss_,i64_w,i32_w]
    rfl
   refine pure_ (i:=5) (N:=some 43) (v:=?_) (a':=?_) fl12_12_ rfl rfl (any_of HT_.out (by kernel_rfl)) (fun _ _ _ h=>h) (Or.inl ⟨by rfl,?_⟩) ?_ ?_
   rotate_left
   ·intro w'
    go_simp
    with_reducible rfl
   rotate_left
   ·simp only [Act.put,sb_,sz_,ss_,i64_w,i32_w]
    rfl
   refine take_ (i:=6) (N:=some 44) (v:=?_) (a':=?_) fl12_13_ rfl rfl (take_ofW HT_.out HW_.out (by kernel_rfl)) (fun _ _ _ h=>h) (Or.inl ⟨by rfl,?_⟩) hHeld ?_ ?_
   rotate_left
   ·rintro w' ⟨s0,s1,s2,s3,s4,s5,s6,s7,s8,s9,s10,s11⟩
    go_simp
    with_reducible rfl
   rotate_left
   ·simp only [Act.put,sb_,sz_,ss_,i64_w,i32_w]
    rfl
   refine take_ (i:=9) (N:=some 47) (v:=?_) (a':=?_) fl12_14_ rfl rfl (take_ofW HT_.out HW_.out (by kernel_rfl)) (fun _ _ _ h=>h) (Or.inl ⟨by rfl,?_⟩) hHeld ?_ ?_
   rotate_left
   ·rintro w' ⟨s0,s1,s2,s3,s4,s5,s6,s7,s8,s9,s10,s11⟩
    go_simp
    with_reducible rfl
   rotate_left
   ·simp only [Act.put,sb_,sz_,ss_,i64_w,i32_w]
    rfl
   refine pure_ (i:=11) (N:=some 49) (v:=?_) (a':=?_) fl12_15_ rfl rfl (any_of HT_.out (by kernel_rfl)) (fun _ _ _ h=>h) (Or.inl ⟨by rfl,?_⟩) ?_ ?_
   rotate_left
   ·intro w'
    go_simp
    with_reducible rfl
   rotate_left
   ·simp only [Act.put,sb_,sz_,ss_,i64_w,i32_w]
    rfl
   refine pure_ (i:=12) (N:=some 50) (v:=?_) (a':=?_) fl12_16_ rfl rfl (any_of HT_.out (by kernel_rfl)) (fun _ _ _ h=>h) (Or.inl ⟨by rfl,?_⟩) ?_ ?_
   rotate_left
   ·intro w'
    go_simp
    with_reducible rfl
   rotate_left
   ·simp only [Act.put,sb_,sz_,ss_,i64_w,i32_w]
    rfl
   refine take_ (i:=13) (N:=some 51) (v:=?_) (a':=?_) fl12_17_ rfl rfl (take_ofW HT_.out HW_.out (by kernel_rfl)) (fun _ _ _ h=>h) (Or.inl ⟨by rfl,?_⟩) hHeld ?_ ?_
   rotate_left
   ·rintro w' ⟨s0,s1,s2,s3,s4,s5,s6,s7,s8,s9,s10,s11⟩
    go_simp
    with_reducible rfl
   rotate_left
   ·simp only [Act.put,sb_,sz_,ss_,i64_w,i32_w]
    rfl
   refine pure_ (i:=14) (N:=some 52) (v:=?_) (a':=?_) fl12_18_ rfl rfl (any_of HT_.out (by kernel_rfl)) (fun _ _ _ h=>h) (Or.inl ⟨by rfl,?_⟩) ?_ ?_
   rotate_left
   ·intro w'
    go_simp
    with_reducible rfl
   rotate_left
   ·simp only [Act.put,sb_,sz_,ss_,i64_w,i32_w]
    rfl
   refine take_ (i:=15) (N:=some 53) (v:=?_) (a':=?_) fl12_19_ rfl rfl (take_ofW HT_.out HW_.out (by kernel_rfl)) (fun _ _ _ h=>h) (Or.inl ⟨by rfl,?_⟩) hHeld ?_ ?_
   rotate_left
   ·rintro w' ⟨s0,s1,s2,s3,s4,s5,s6,s7,s8,s9,s10,s11⟩
    go_simp
    with_reducible rfl
   rotate_left
   ·simp only [Act.put,sb_,sz_,ss_,i64_w,i32_w]
    rfl
   refine take_ (i:=19) (N:=some 57) (v:=?_) (a':=?_) fl12_20_ rfl rfl (take_ofW HT_.out HW_.out (by kernel_rfl)) (fun _ _ _ h=>h) (Or.inl ⟨by rfl,?_⟩) hHeld ?_ ?_
   rotate_left
   ·rintro w' ⟨s0,s1,s2,s3,s4,s5,s6,s7,s8,s9,s10,s11⟩
    go_simp
    with_reducible rfl
   rotate_left
   ·simp only [Act.put,sb_,sz_,ss_,i64_w,i32_w]
    rfl
   refine pure_ (i:=20) (N:=some 58) (v:=?_) (a':=?_) fl12_21_ rfl rfl (any_of HT_.out (by kernel_rfl)) (fun _ _ _ h=>h) (Or.inl ⟨by rfl,?_⟩) ?_ ?_
   rotate_left
   ·intro w'
    go_simp
    with_reducible rfl
   rotate_left
   ·simp only [Act.put,sb_,sz_,ss_,i64_w,i32_w]
    rfl
   refine pure_ (i:=21) (N:=some 59) (v:=?_) (a':=?_) fl12_22_ rfl rfl (any_of HT_.out (by kernel_rfl)) (fun _ _ _ h=>h) (Or.inl ⟨by rfl,?_⟩) ?_ ?_
   rotate_left
   ·intro w'
    go_simp
    with_reducible rfl
   rotate_left
   ·simp only [Act.put,sb_,sz_,ss_,i64_w,i32_w]
    rfl
   refine last_ (i:=22) (N:=none) fl12_23_ rfl rfl (one_of HT_.out (by kernel_rfl)) (by decide) (fun K hK=>?_)
   refine skip_ (w1:=?_) (by rfl) rfl ?_ ?_
   rotate_left
   ·go_simp
    rfl
   refine hK.out _ _ ?_
   clear hK K
   refine done_ (done_of HT_.out (by kernel_rfl)) ?_
   try go_wp2
   go_roundg k1
   case measure=>have:=HK1.out;omega
   case rel=>exact ⟨(y122),(wrap64 (x6_1 + 1)),(by rfl),H',⟨by have:=HK1.out;omega⟩,⟨by exact HQ23.out⟩,⟨by refine blk_far ?_ (by have h_:=Kd.R_ne HO_5.out BK109.out (by decide);intro e_;exact h_ (by rw [e_];rfl)) _;exact BK109.out⟩,⟨by repeat ((with_reducible first|exact HB.out|refine below_set ?_ GB14.out))⟩⟩

end Go.Proofs.Ytgkpgigoonhgdaa.PFnMostCut
