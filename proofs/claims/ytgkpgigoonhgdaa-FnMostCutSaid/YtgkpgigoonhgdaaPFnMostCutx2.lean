-- Made by the session's wip/pp.py, a changed call of the kit's printer; Lean checks it.
import Derived.Test.YtgkpgigoonhgdaaPFnMostCutx0
namespace Go.Proofs.Ytgkpgigoonhgdaa.PFnMostCut
open Go.RowKit Go.Proofs.YtgkpgigoonhgdaaW.PrintWords Go.Proofs.YtgkpgigoonhgdaaW.PrintLast Go.Proofs.YtgkpgigoonhgdaaW.PrintMore
attribute [local go_sem] max2_int min2_int max_two min_two max_three min_three max_four min_four   -- for this text's walks alone
set_option linter.unusedVariables false
set_option linter.unusedSimpArgs false

abbrev fl2_0_ : Array Bool:=#[false,false,false,false,false,false,false,false,false,false,false,false]
abbrev fl2_1_ : Array Bool:=#[true,false,false,false,false,false,false,false,false,false,false,false]
abbrev fl2_2_ : Array Bool:=#[true,true,false,false,false,false,false,false,false,false,false,false]
abbrev fl2_3_ : Array Bool:=#[true,true,false,false,false,true,false,false,false,false,false,false]
abbrev fl2_4_ : Array Bool:=#[true,true,false,false,false,true,true,false,false,false,false,false]
abbrev fl2_5_ : Array Bool:=#[true,true,false,false,false,true,true,true,false,false,false,false]
abbrev fl2_6_ : Array Bool:=#[true,true,true,false,false,true,true,true,false,false,false,false]
abbrev fl2_7_ : Array Bool:=#[true,true,true,true,false,true,true,true,false,false,false,false]
abbrev fl2_8_ : Array Bool:=#[true,true,true,true,true,true,true,true,false,false,false,false]
abbrev fl2_9_ : Array Bool:=#[true,true,true,true,true,true,true,true,true,false,false,false]
abbrev fl2_10_ : Array Bool:=#[true,true,true,true,true,true,true,true,true,true,false,false]
abbrev fl2_11_ : Array Bool:=#[true,true,true,true,true,true,true,true,true,true,true,false]
abbrev fl2_12_ : Array Bool:=#[true,true,true,true,true,true,true,true,true,true,true,true]
/-! ### impl_excess: function 54 -/
def impl_excess.l0 : Nat → List Int → List Int → List (S67) → Int → Int → Option (List Int)
 | 0, _, _, _, _, _ => none
 | k + 1, x1, x5, x12, x13, x14 => if x14 < x13 then (if 0 ≤ x14 then (if x14 < (x12.length : Int) then (if 0 ≤ ((rd_T67 x12 x14).f1) then (if ((rd_T67 x12 x14).f1) < (x5.length : Int) then (if x14 < (x1.length : Int) then ((some (x5.set (((rd_T67 x12 x14).f1) : Int).toNat (wrap64 ((rd x5 ((rd_T67 x12 x14).f1)) + (rd x1 x14))) : List Int)).bind fun y161 => (if 0 ≤ ((rd_T67 x12 x14).f0) then (if ((rd_T67 x12 x14).f0) < (x5.length : Int) then (impl_excess.l0 k x1 (y161.set (((rd_T67 x12 x14).f0) : Int).toNat (wrap64 ((rd y161 ((rd_T67 x12 x14).f0)) - (rd x1 x14)))) x12 x13 (wrap64 (x14 + 1))) else (none)) else (none))) else (none)) else (none)) else (none)) else (none)) else (none)) else (some x5)
def impl_excess.f (k : Nat) (a0_0 : Int) (l0_1 : List (S67)) (l1 : List Int) : Option (List Int):=if 0 ≤ a0_0 then (if (a0_0 : Int).toNat ≤ 35184372088832 then (impl_excess.l0 k l1 (List.replicate (a0_0 : Int).toNat 0) l0_1 (l0_1.length : Int) 0) else (none)) else (none)
theorem impl_excess.mono_l : ∀ k,(∀ y0 y1 y2 y3 y4,LeO (impl_excess.l0 k y0 y1 y2 y3 y4) (impl_excess.l0 (k + 1) y0 y1 y2 y3 y4))
 | 0 => fun _ _ _ _ _ r h => by simp [impl_excess.l0] at h
 | k + 1 => by
  have ih0:=impl_excess.mono_l k
  ·intro y0 y1 y2 y3 y4
   unfold impl_excess.l0
   repeat' first
   | (with_reducible exact ih0 _ _ _ _ _)
   | (with_reducible exact LeO.refl _)
   | (with_reducible refine LeO.ite ?_ ?_)
   | (with_reducible refine LeO.bind ?_ (fun _ => ?_))
theorem impl_excess.mono : ∀ a0 a1 a2 k,LeO (impl_excess.f k a0 a1 a2) (impl_excess.f (k + 1) a0 a1 a2):=by
 intro a0 a1 a2 k
 have ih0:=impl_excess.mono_l k
 unfold impl_excess.f
 repeat' first
   | (with_reducible exact ih0 _ _ _ _ _)
   | (with_reducible exact LeO.refl _)
   | (with_reducible refine LeO.ite ?_ ?_)
def impl_excess.T5 : Bool × List (List Nat × List Nat):=(true,[([],[]),([],[]),([1],[1]),([0,2],[0,2]),([3],[3]),([],[]),([],[]),([5,6],[5,6]),([7],[7]),([4,8],[4,8]),([0,2,0,1,2,3,4,5,6,7,8,9],[0,2]),([10,9,0,1,2,3,4,5,6,7,8,9],[9,10])])
def impl_excess.B5 : List Nat:=[0,0,2,7,15,0,0,96,224,511,1023,2047]
theorem impl_excess.tab5 : rtab .any (opsOf Try.f54 5) = impl_excess.T5:=by kernel_rfl
theorem impl_excess.bits5 : waitsOk impl_excess.T5.2 impl_excess.B5 = true:=by kernel_rfl
def impl_excess.T6 : Bool × List (List Nat × List Nat):=(true,[([],[]),([],[]),([1],[1]),([0,2],[0,2]),([3],[3]),([],[]),([],[]),([5,6],[5,6]),([7],[7]),([4,8],[4,8]),([0,2,0,1,2,3,4,5,6,7,8,9],[0,2]),([10,9,0,1,2,3,4,5,6,7,8,9],[9,10])])
def impl_excess.B6 : List Nat:=[0,0,2,7,15,0,0,96,224,511,1023,2047]
theorem impl_excess.tab6 : rtab .any (opsOf Try.f54 6) = impl_excess.T6:=by kernel_rfl
theorem impl_excess.bits6 : waitsOk impl_excess.T6.2 impl_excess.B6 = true:=by kernel_rfl
set_option maxHeartbeats 8000000 in
set_option maxRecDepth 100000 in
theorem impl_excess.calls (k : Nat) (a0_0 : Int) (A0_1 : Option Addr) (c0_1 : Nat) (l0_1 : List (S67)) (A1 : Option Addr) (c1 : Nat) (l1 : List Int) (r : List Int) (w : World) (hr0_1 : Kd.C k67 w A0_1 l0_1.length l0_1) (hc0_1 : l0_1.length ≤ c0_1) (hr1 : Kd.C (Kd.int .i64) w A1 l1.length l1) (hc1 : l1.length ≤ c1) (h : impl_excess.f k a0_0 l0_1 l1 = some r) :
  Calls Try.prog 54 #[.agg #[.int .i64 a0_0,.slice A0_1 l0_1.length c0_1],.slice A1 l1.length c1] w fun e w'=>∃ v0_ : Value,e = .returned (v0_) ∧ Kd.R (Kd.int .i64) 3 w' w.heap.size (fun _=>True) v0_ r ∧ Below w.heap.size w w':=by
 have hu30:=Try.underlying30
 have hu67:=Try.underlying67
 have HR0_1:=am_ hr0_1
 have HC0_1:=am_ hc0_1
 clear hr0_1 hc0_1
 have HR1:=am_ hr1
 have HC1:=am_ hc1
 clear hr1 hc1
 have HB:=am_ (Below.refl w.heap.size w)
 have H : (if 0 ≤ a0_0 then (if (a0_0 : Int).toNat ≤ 35184372088832 then (impl_excess.l0 k l1 (List.replicate (a0_0 : Int).toNat 0) l0_1 (l0_1.length : Int) 0) else (none)) else (none)) = some r:=h
 clear h
 by_cases c3 : 0 ≤ a0_0
 rotate_left
 ·rw [if_neg c3] at H
  exact absurd H (by simp)
 rw [if_pos c3] at H
 have c3b0:=eq_true c3
 have c3b1 : decide (0 ≤ a0_0) = true:=decide_eq_true c3
 clear c3
 by_cases c4 : (a0_0 : Int).toNat ≤ 35184372088832
 rotate_left
 ·rw [if_neg c4] at H
  exact absurd H (by simp)
 rw [if_pos c4] at H
 have c4b0:=eq_true c4
 have c4b1 : decide ((a0_0 : Int).toNat ≤ 35184372088832) = true:=decide_eq_true c4
 clear c4
 obtain ⟨y154,hy154⟩ : ∃ y_ : List Int,y_ = (List.replicate (a0_0 : Int).toNat 0):=⟨_,rfl⟩
 replace H : (impl_excess.l0 k l1 y154 l0_1 (l0_1.length : Int) 0) = some r:=by (rw [hy154];with_reducible exact H)
 have Ny154:=am_ hy154
 clear hy154
 have H':=am_ H
 clear H
 go_enter Try.func54,Try.ntmps54
 go_wp2_with (first|((with_reducible refine gate_dst (N:=2) rfl ?_);refine box_event ?hg (N:=2) ?hd (cs:=#[.int .i64 a0_0,.slice A0_1 l0_1.length c0_1]) (t:=30) ?hr ?_;(case hd=>rfl);(case hg=>rfl);(case hr=>(go_simp;done));intro gb153 hg w5 hbox hb;have n0_:=am_ (below_step HB.out hb);have n1_:=am_ (hbox);have n2_:=am_ ((by rw [hg];exact (below_size HB.out) : w.heap.size ≤ gb153));have n3_:=n2_;clear HB;have HB:=n0_;have BK153:=n1_;have GW153:=n2_;have GE153:=n3_;clear n0_ n1_ n2_ n3_ hb hbox hg;have hcz6_0 : w5.cell? ⟨gb153,0,none⟩ = some (.int .i64 a0_0):=bc_ BK153.out 0;have hcz6_1 : w5.cell? ⟨gb153,1,none⟩ = some (.slice A0_1 l0_1.length c0_1):=bc_ BK153.out 1;have hfz6_0:=blk_frozen BK153.out 0;have hfz6_1:=blk_frozen BK153.out 1)|((with_reducible refine gate_dst (N:=10) rfl ?_);refine Kd.R_make (Kd.int .i64) _ 3 rfl (N:=10) rfl 25 _ _ rfl a0_0 rfl rfl Try.underlying25 (.int .i64 0) 8 info3 rfl (by decide) (by omega) 0 (ok:=fun _=>True) (okp:=fun _=>True) rfl (fun _ hk=>hk) trivial (od_ (by (with_reducible assumption))) (Nat.le_trans (Nat.mul_le_mul_right _ (od_ (by (with_reducible assumption)) : a0_0.toNat ≤ 35184372088832)) (by omega)) (Below.refl _ _) (Nat.le_refl _) ?_;intro v155 w7 ho8 hb hg_ hnew_;clear hg_ hnew_;(rw [← Ny154.out] at ho8);have n0_:=am_ (Kd.R_lower ho8 (below_size HB.out));have n1_:=am_ (blk_below BK153.out hb);have n2_:=am_ (below_step HB.out hb);clear BK153 HB;have HO156:=n0_;have BK153:=n1_;have HB:=n2_;clear n0_ n1_ n2_ hb ho8;have hcz9_0 : w7.cell? ⟨gb153,0,none⟩ = some (.int .i64 a0_0):=bc_ BK153.out 0;have hcz9_1 : w7.cell? ⟨gb153,1,none⟩ = some (.slice A0_1 l0_1.length c0_1):=bc_ BK153.out 1;have hfz9_0:=blk_frozen BK153.out 0;have hfz9_1:=blk_frozen BK153.out 1))
 go_loopg [14] k (fun kq v14 w'=>∃ (x5_1 : List Int) (x14_1 : Int),v14 = .int .i64 x14_1 ∧ Aside0 (impl_excess.l0 kq l1 x5_1 l0_1 (l0_1.length : Int) x14_1 = some r) ∧ Aside0 (kq ≤ k) ∧ Aside0 (Kd.R (Kd.int .i64) 3 w' w.heap.size (fun _=>True) v155 x5_1) ∧ Aside0 (w'.heap[gb153]? = some (.cells #[.int .i64 a0_0,(.slice A0_1 l0_1.length c0_1)] 30 (0,0))) ∧ Aside0 (Below w.heap.size w w'))
 case atStart=>exact ⟨(y154),(0),(by rfl),H',⟨Nat.le_refl _⟩,⟨by exact HO156.out⟩,⟨by exact BK153.out⟩,⟨by exact HB.out⟩⟩
 case round =>
  clear H'
  try clear c1
  try clear p2
  try clear c3
  try clear c3b0
  try clear c3b1
  try clear c4
  try clear c4b0
  try clear c4b1
  try clear c5
  try clear hcz6_0
  try clear hcz6_1
  try clear hcz9_0
  try clear hcz9_1
  try clear hfz6_0
  try clear hfz6_1
  try clear hfz9_0
  try clear hfz9_1
  obtain ⟨x5_1,x14_1,rfl,HA,HK1,HO_5,BK153,HB⟩:=hrel
  cases gk with
  | zero => exact absurd HA.out (by simp [impl_excess.l0])
  | succ k1 =>
   have H:=HA.out
   clear HA
   simp only [impl_excess.l0] at H
   by_cases c10 : x14_1 < (l0_1.length : Int)
   rotate_left
   ·rw [if_neg c10] at H
    have c10b0 : decide (x14_1 < (l0_1.length : Int)) = false:=decide_eq_false c10
    clear c10
    obtain rfl:=Option.some.inj H
    go_wp2
    go_ret
    exact ⟨_,by rfl,by exact HO_5.out,by exact HB.out⟩
   rw [if_pos c10] at H
   have c10b0 : decide (x14_1 < (l0_1.length : Int)) = true:=decide_eq_true c10
   clear c10
   by_cases c11 : 0 ≤ x14_1
   rotate_left
   ·rw [if_neg c11] at H
    exact absurd H (by simp)
   rw [if_pos c11] at H
   have c11b0 : decide (0 ≤ x14_1) = true:=decide_eq_true c11
   clear c11
   by_cases c12 : x14_1 < (l0_1.length : Int)
   rotate_left
   ·rw [if_neg c12] at H
    exact absurd H (by simp)
   rw [if_pos c12] at H
   have c12b0 : decide (x14_1 < (l0_1.length : Int)) = true:=decide_eq_true c12
   clear c12
   by_cases c13 : 0 ≤ ((rd_T67 l0_1 x14_1).f1)
   rotate_left
   ·rw [if_neg c13] at H
    exact absurd H (by simp)
   rw [if_pos c13] at H
   have c13b0 : decide (0 ≤ ((rd_T67 l0_1 x14_1).f1)) = true:=decide_eq_true c13
   clear c13
   by_cases c14 : ((rd_T67 l0_1 x14_1).f1) < (x5_1.length : Int)
   rotate_left
   ·rw [if_neg c14] at H
    exact absurd H (by simp)
   rw [if_pos c14] at H
   have c14b0 : decide (((rd_T67 l0_1 x14_1).f1) < (x5_1.length : Int)) = true:=decide_eq_true c14
   clear c14
   by_cases c15 : x14_1 < (l1.length : Int)
   rotate_left
   ·rw [if_neg c15] at H
    exact absurd H (by simp)
   rw [if_pos c15] at H
   have c15b0 : decide (x14_1 < (l1.length : Int)) = true:=decide_eq_true c15
   clear c15
   obtain ⟨y161,hy161⟩ : ∃ y_ : List Int,y_ = (x5_1.set (((rd_T67 l0_1 x14_1).f1) : Int).toNat (wrap64 ((rd x5_1 ((rd_T67 l0_1 x14_1).f1)) + (rd l1 x14_1)))):=⟨_,rfl⟩
   replace H : (if 0 ≤ ((rd_T67 l0_1 x14_1).f0) then (if ((rd_T67 l0_1 x14_1).f0) < (x5_1.length : Int) then (impl_excess.l0 k1 l1 (y161.set (((rd_T67 l0_1 x14_1).f0) : Int).toNat (wrap64 ((rd y161 ((rd_T67 l0_1 x14_1).f0)) - (rd l1 x14_1)))) l0_1 (l0_1.length : Int) (wrap64 (x14_1 + 1))) else (none)) else (none)) = some r:=by (have H2_:=(Option.bind_some _ _).symm.trans H;rw [hy161];with_reducible exact H2_)
   have Ny161:=am_ hy161
   clear hy161
   by_cases c17 : 0 ≤ ((rd_T67 l0_1 x14_1).f0)
   rotate_left
   ·rw [if_neg c17] at H
    exact absurd H (by simp)
   rw [if_pos c17] at H
   have c17b0 : decide (0 ≤ ((rd_T67 l0_1 x14_1).f0)) = true:=decide_eq_true c17
   clear c17
   by_cases c18 : ((rd_T67 l0_1 x14_1).f0) < (x5_1.length : Int)
   rotate_left
   ·rw [if_neg c18] at H
    exact absurd H (by simp)
   rw [if_pos c18] at H
   have c18b0 : decide (((rd_T67 l0_1 x14_1).f0) < (x5_1.length : Int)) = true:=decide_eq_true c18
   clear c18
   obtain ⟨y164,hy164⟩ : ∃ y_ : List Int,y_ = (y161.set (((rd_T67 l0_1 x14_1).f0) : Int).toNat (wrap64 ((rd y161 ((rd_T67 l0_1 x14_1).f0)) - (rd l1 x14_1)))):=⟨_,rfl⟩
   replace H : (impl_excess.l0 k1 l1 y164 l0_1 (l0_1.length : Int) (wrap64 (x14_1 + 1))) = some r:=by (rw [hy164];with_reducible exact H)
   have Ny164:=am_ hy164
   clear hy164
   have H':=am_ H
   clear H
   have p157 : 0 ≤ (x14_1 : Int):=od_ (by (with_reducible assumption))
   have q157 : x14_1 < (l0_1.length : Int):=od_ (by (with_reducible assumption))
   obtain ⟨ad157,e157,hx157_0,hx157_1,hx157_2,hx157_3⟩:=at_T67 HR0_1.out x14_1 p157 q157
   cases e157
   replace hx157_0:=kc_ HB.out hx157_0
   replace hx157_1:=kc_ HB.out hx157_1
   replace hx157_2:=kc_ HB.out hx157_2
   replace hx157_3:=kc_ HB.out hx157_3
   replace p157:=eq_true p157
   replace q157:=eq_true q157
   try go_wp2_with (((with_reducible refine gate_dst (N:=7) rfl ?_);refine box_event ?hg (N:=7) ?hd (cs:=#[.int .i64 0,.int .i64 0,.int .i64 0,.int .i64 0]) (t:=67) ?hr ?_;(case hd=>rfl);(case hg=>rfl);(case hr=>(go_simp;done));intro gb158 hg w20 hbox hb;have n0_:=am_ (Kd.R_below HO_5.out hb);have n1_:=am_ (blk_below BK153.out hb);have n2_:=am_ (below_step HB.out hb);have n3_:=am_ (hbox);have n4_:=am_ ((by rw [hg];exact (below_size HB.out) : w.heap.size ≤ gb158));have n5_:=n4_;have n6_:=am_ ((by rw [hg];exact Nat.ne_of_lt (blk_lt (g:=gb153) (o:=.cells #[.int .i64 a0_0,.slice (some ad157) l0_1.length c0_1] 30 (0,0)) BK153.out) : gb153 ≠ gb158));have n7_:=am_ ((by rw [hg];exact Nat.ne_of_gt (blk_lt (g:=gb153) (o:=.cells #[.int .i64 a0_0,.slice (some ad157) l0_1.length c0_1] 30 (0,0)) BK153.out) : gb158 ≠ gb153));clear HO_5 BK153 HB;have HO_5:=n0_;have BK153:=n1_;have HB:=n2_;have BK158:=n3_;have GW158:=n4_;have GE158:=n5_;have NB153_158:=n6_;have NB158_153:=n7_;clear n0_ n1_ n2_ n3_ n4_ n5_ n6_ n7_ hb hbox hg;have hnb21:=NB158_153.out;have hnc21:=NB153_158.out;have hcz22_0 : w20.cell? ⟨gb158,0,none⟩ = some (.int .i64 0):=bc_ BK158.out 0;have hcz22_1 : w20.cell? ⟨gb158,1,none⟩ = some (.int .i64 0):=bc_ BK158.out 1;have hcz22_2 : w20.cell? ⟨gb158,2,none⟩ = some (.int .i64 0):=bc_ BK158.out 2;have hcz22_3 : w20.cell? ⟨gb158,3,none⟩ = some (.int .i64 0):=bc_ BK158.out 3;have hfz22_0:=blk_frozen BK158.out 0;have hfz22_1:=blk_frozen BK158.out 1;have hfz22_2:=blk_frozen BK158.out 2;have hfz22_3:=blk_frozen BK158.out 3))
   have n0_ : Aside0 (Kd.R (Kd.int .i64) 3 ((((w20.setCell ⟨gb158,0,none⟩ (.int .i64 ((rd_T67 l0_1 x14_1).f0))).setCell ⟨gb158,1,none⟩ (.int .i64 ((rd_T67 l0_1 x14_1).f1))).setCell ⟨gb158,2,none⟩ (.int .i64 ((rd_T67 l0_1 x14_1).f2))).setCell ⟨gb158,3,none⟩ (.int .i64 ((rd_T67 l0_1 x14_1).f3))) w.heap.size (fun _=>True) v155 x5_1):=⟨by exact Kd.R_mono (Kd.R_far (p:=⟨gb158,3,none⟩) (Kd.R_far (p:=⟨gb158,2,none⟩) (Kd.R_far (p:=⟨gb158,1,none⟩) (Kd.R_far (p:=⟨gb158,0,none⟩) (Kd.R_types HO_5.out BK158.out (by decide)) (fun _ hk=>hk.2) (.int .i64 ((rd_T67 l0_1 x14_1).f0))) (fun _ hk=>hk.2) (.int .i64 ((rd_T67 l0_1 x14_1).f1))) (fun _ hk=>hk.2) (.int .i64 ((rd_T67 l0_1 x14_1).f2))) (fun _ hk=>hk.2) (.int .i64 ((rd_T67 l0_1 x14_1).f3))) (fun _ hk=>trivial)⟩
   have n1_ : Aside0 (((((w20.setCell ⟨gb158,0,none⟩ (.int .i64 ((rd_T67 l0_1 x14_1).f0))).setCell ⟨gb158,1,none⟩ (.int .i64 ((rd_T67 l0_1 x14_1).f1))).setCell ⟨gb158,2,none⟩ (.int .i64 ((rd_T67 l0_1 x14_1).f2))).setCell ⟨gb158,3,none⟩ (.int .i64 ((rd_T67 l0_1 x14_1).f3))).heap[gb153]? = some (.cells #[.int .i64 a0_0,.slice (some ad157) l0_1.length c0_1] 30 (0,0))):=⟨by refine blk_far ?_ NB153_158.out _;refine blk_far ?_ NB153_158.out _;refine blk_far ?_ NB153_158.out _;refine blk_far ?_ NB153_158.out _;exact BK153.out⟩
   have n2_ : Aside0 (((((w20.setCell ⟨gb158,0,none⟩ (.int .i64 ((rd_T67 l0_1 x14_1).f0))).setCell ⟨gb158,1,none⟩ (.int .i64 ((rd_T67 l0_1 x14_1).f1))).setCell ⟨gb158,2,none⟩ (.int .i64 ((rd_T67 l0_1 x14_1).f2))).setCell ⟨gb158,3,none⟩ (.int .i64 ((rd_T67 l0_1 x14_1).f3))).heap[gb158]? = some (.cells #[.int .i64 ((rd_T67 l0_1 x14_1).f0),.int .i64 ((rd_T67 l0_1 x14_1).f1),.int .i64 ((rd_T67 l0_1 x14_1).f2),.int .i64 ((rd_T67 l0_1 x14_1).f3)] 67 (0,0))):=⟨by refine blk_put (cs:=#[.int .i64 ((rd_T67 l0_1 x14_1).f0),.int .i64 ((rd_T67 l0_1 x14_1).f1),.int .i64 ((rd_T67 l0_1 x14_1).f2),.int .i64 0]) ?_ 3 _ rfl;refine blk_put (cs:=#[.int .i64 ((rd_T67 l0_1 x14_1).f0),.int .i64 ((rd_T67 l0_1 x14_1).f1),.int .i64 0,.int .i64 0]) ?_ 2 _ rfl;refine blk_put (cs:=#[.int .i64 ((rd_T67 l0_1 x14_1).f0),.int .i64 0,.int .i64 0,.int .i64 0]) ?_ 1 _ rfl;refine blk_put (cs:=#[.int .i64 0,.int .i64 0,.int .i64 0,.int .i64 0]) ?_ 0 _ rfl;exact BK158.out⟩
   have n3_ : Aside0 (Below w.heap.size w ((((w20.setCell ⟨gb158,0,none⟩ (.int .i64 ((rd_T67 l0_1 x14_1).f0))).setCell ⟨gb158,1,none⟩ (.int .i64 ((rd_T67 l0_1 x14_1).f1))).setCell ⟨gb158,2,none⟩ (.int .i64 ((rd_T67 l0_1 x14_1).f2))).setCell ⟨gb158,3,none⟩ (.int .i64 ((rd_T67 l0_1 x14_1).f3)))):=⟨by repeat ((with_reducible first|exact HB.out|refine below_set ?_ GE158.out))⟩
   (try clear HO_5)
   (try clear BK153)
   (try clear BK158)
   (try clear HB)
   generalize ((((w20.setCell ⟨gb158,0,none⟩ (.int .i64 ((rd_T67 l0_1 x14_1).f0))).setCell ⟨gb158,1,none⟩ (.int .i64 ((rd_T67 l0_1 x14_1).f1))).setCell ⟨gb158,2,none⟩ (.int .i64 ((rd_T67 l0_1 x14_1).f2))).setCell ⟨gb158,3,none⟩ (.int .i64 ((rd_T67 l0_1 x14_1).f3))) = w23 at n0_ n1_ n2_ n3_ ⊢
   have HO_5:=n0_
   have BK153:=n1_
   have BK158:=n2_
   have HB:=n3_
   clear n0_ n1_ n2_ n3_
   have n0_:=am_ (Kd.R_drew HO_5.out)
   have n1_:=am_ (blk_drew BK153.out)
   have n2_:=am_ (blk_drew BK158.out)
   have n3_:=am_ (below_drew1 HB.out)
   clear HO_5
   clear BK153
   clear BK158
   clear HB
   have HO_5:=n0_
   have BK153:=n1_
   have BK158:=n2_
   have HB:=n3_
   clear n0_ n1_ n2_ n3_
   obtain ⟨Ao25,co25,eo25⟩:=Kd.R_slice HO_5.out
   (subst eo25)
   have p159 : 0 ≤ (((rd_T67 l0_1 x14_1).f1) : Int):=od_ (by (with_reducible assumption))
   have q159 : ((rd_T67 l0_1 x14_1).f1) < (x5_1.length : Int):=od_ (by (with_reducible assumption))
   obtain ⟨ad159,e159,hx159_0⟩:=Kd.at_int (Kd.R_reads' HO_5.out).2.2 ((rd_T67 l0_1 x14_1).f1) p159 q159
   cases e159
   replace p159:=eq_true p159
   replace q159:=eq_true q159
   have p160 : 0 ≤ (x14_1 : Int):=od_ (by (with_reducible assumption))
   have q160 : x14_1 < (l1.length : Int):=od_ (by (with_reducible assumption))
   obtain ⟨ad160,e160,hx160_0⟩:=Kd.at_int HR1.out x14_1 p160 q160
   have hw160_0:=hx160_0
   cases e160
   replace hx160_0:=kc_ HB.out hx160_0
   replace p160:=eq_true p160
   replace q160:=eq_true q160
   have p16 : 0 ≤ (((rd_T67 l0_1 x14_1).f1) : Int):=od_ (by (with_reducible assumption))
   have q16 : (((rd_T67 l0_1 x14_1).f1) : Int) < ((x5_1.length : Int) : Int):=od_ (by (with_reducible assumption))
   obtain ⟨go16,co16,eo16,gb16,gl16,cl16,HG16⟩:=Kd.R_form HO_5.out (by omega)
   (cases eo16)
   have GB16:=am_ gb16
   have GG16:=am_ HG16
   clear gb16 gl16 HG16
   (simp only [add_plain] at hx159_0)
   obtain ⟨hx16_0,hf16_0⟩:=Kd.R_celln 0 HO_5.out (((rd_T67 l0_1 x14_1).f1) : Int) p16 q16
   replace p16:=eq_true p16
   replace q16:=eq_true q16
   have HP26:=Kd.R_putn HO_5.out (((rd_T67 l0_1 x14_1).f1) : Int) (wrap64 ((rd x5_1 ((rd_T67 l0_1 x14_1).f1)) + (rd l1 x14_1)))
   rw [← Ny161.out] at HP26
   have HQ26:=am_ HP26
   clear HP26
   refine start_ (n:=12) (S:=fun w'=>w'.cell? ⟨gb158,0,none⟩ = some (.int .i64 ((rd_T67 l0_1 x14_1).f0)) ∧ w'.cell? ⟨gb158,1,none⟩ = some (.int .i64 ((rd_T67 l0_1 x14_1).f1)) ∧ w'.cell? ⟨gb158,2,none⟩ = some (.int .i64 ((rd_T67 l0_1 x14_1).f2)) ∧ w'.cell? ⟨gb158,3,none⟩ = some (.int .i64 ((rd_T67 l0_1 x14_1).f3)) ∧ w'.cell? ⟨go16,(((rd_T67 l0_1 x14_1).f1)).toNat,none⟩ = some (.int .i64 (rd x5_1 ((rd_T67 l0_1 x14_1).f1))) ∧ w'.cell? (ad160.add (x14_1).toNat) = some (.int .i64 (rd l1 x14_1))) (ds:=[11]) fl2_0_ (by kernel_rfl) rfl rfl ⟨bc_ BK158.out 0,bc_ BK158.out 1,bc_ BK158.out 2,bc_ BK158.out 3,hx159_0,(kc_ HB.out hw160_0)⟩ (fun hHeld=>?_);refine with_tabW impl_excess.tab5 impl_excess.bits5 (fun HT_ HW_=>?_)
   generalize w23.drew = w24 at HO_5 BK153 BK158 HB GG16 HQ26 hf16_0 hx159_0 hx160_0 hx16_0 hHeld ⊢
   refine pure_ (i:=0) (N:=some 19) (v:=?_) (a':=?_) fl2_1_ rfl rfl (any_of HT_.out (by kernel_rfl)) (fun _ _ _ h=>h) (Or.inl ⟨by rfl,?_⟩) ?_ ?_
   rotate_left
   ·intro w'
    go_simp
    with_reducible rfl
   rotate_left
   ·simp only [Act.put,sb_,sz_,ss_,i64_w,i32_w]
    rfl
   refine pure_ (i:=1) (N:=some 20) (v:=?_) (a':=?_) fl2_2_ rfl rfl (any_of HT_.out (by kernel_rfl)) (fun _ _ _ h=>h) (Or.inl ⟨by rfl,?_⟩) ?_ ?_
   rotate_left
   ·intro w'
    go_simp
    with_reducible rfl
   rotate_left
   ·simp only [Act.put,sb_,sz_,ss_,i64_w,i32_w]
    rfl
   refine pure_ (i:=5) (N:=some 24) (v:=?_) (a':=?_) fl2_3_ rfl rfl (any_of HT_.out (by kernel_rfl)) (fun _ _ _ h=>h) (Or.inl ⟨by rfl,?_⟩) ?_ ?_
   rotate_left
   ·intro w'
    go_simp
    with_reducible rfl
   rotate_left
   ·simp only [Act.put,sb_,sz_,ss_,i64_w,i32_w]
    rfl
   refine pure_ (i:=6) (N:=some 25) (v:=?_) (a':=?_) fl2_4_ rfl rfl (any_of HT_.out (by kernel_rfl)) (fun _ _ _ h=>h) (Or.inl ⟨by rfl,?_⟩) ?_ ?_
   rotate_left
   ·intro w'
    go_simp
    with_reducible rfl
   rotate_left
   ·simp only [Act.put,sb_,sz_,ss_,i64_w,i32_w]
    rfl
   refine pure_ (i:=7) (N:=some 26) (v:=?_) (a':=?_) fl2_5_ rfl rfl (any_of HT_.out (by kernel_rfl)) (fun _ _ _ h=>h) (Or.inl ⟨by rfl,?_⟩) ?_ ?_
   rotate_left
   ·intro w'
    go_simp
    with_reducible rfl
   rotate_left
   ·simp only [Act.put,sb_,sz_,ss_,i64_w,i32_w]
    rfl
   refine take_ (i:=2) (N:=some 21) (v:=?_) (a':=?_) fl2_6_ rfl rfl (take_ofW HT_.out HW_.out (by kernel_rfl)) (fun _ _ _ h=>h) (Or.inl ⟨by rfl,?_⟩) hHeld ?_ ?_
   rotate_left
   ·rintro w' ⟨s0,s1,s2,s3,s4,s5⟩
    go_simp
    with_reducible rfl
   rotate_left
   ·simp only [Act.put,sb_,sz_,ss_,i64_w,i32_w]
    rfl
   refine pure_ (i:=3) (N:=some 22) (v:=?_) (a':=?_) fl2_7_ rfl rfl (any_of HT_.out (by kernel_rfl)) (fun _ _ _ h=>h) (Or.inl ⟨by rfl,?_⟩) ?_ ?_
   rotate_left
   ·intro w'
    go_simp
    with_reducible rfl
   rotate_left
   ·simp only [Act.put,sb_,sz_,ss_,i64_w,i32_w]
    rfl
   refine take_ (i:=4) (N:=some 23) (v:=?_) (a':=?_) fl2_8_ rfl rfl (take_ofW HT_.out HW_.out (by kernel_rfl)) (fun _ _ _ h=>h) (Or.inl ⟨by rfl,?_⟩) hHeld ?_ ?_
   rotate_left
   ·rintro w' ⟨s0,s1,s2,s3,s4,s5⟩
    go_simp
    with_reducible rfl
   rotate_left
   ·simp only [Act.put,sb_,sz_,ss_,i64_w,i32_w]
    rfl
   refine take_ (i:=8) (N:=some 27) (v:=?_) (a':=?_) fl2_9_ rfl rfl (take_ofW HT_.out HW_.out (by kernel_rfl)) (fun _ _ _ h=>h) (Or.inl ⟨by rfl,?_⟩) hHeld ?_ ?_
   rotate_left
   ·rintro w' ⟨s0,s1,s2,s3,s4,s5⟩
    go_simp
    with_reducible rfl
   rotate_left
   ·simp only [Act.put,sb_,sz_,ss_,i64_w,i32_w]
    rfl
   refine pure_ (i:=9) (N:=some 28) (v:=?_) (a':=?_) fl2_10_ rfl rfl (any_of HT_.out (by kernel_rfl)) (fun _ _ _ h=>h) (Or.inl ⟨by rfl,?_⟩) ?_ ?_
   rotate_left
   ·intro w'
    go_simp
    with_reducible rfl
   rotate_left
   ·simp only [Act.put,sb_,sz_,ss_,i64_w,i32_w]
    rfl
   refine pure_ (i:=10) (N:=some 29) (v:=?_) (a':=?_) fl2_11_ rfl rfl (any_of HT_.out (by kernel_rfl)) (fun _ _ _ h=>h) (Or.inl ⟨by rfl,?_⟩) ?_ ?_
   rotate_left
   ·intro w'
    go_simp
    with_reducible rfl
   rotate_left
   ·simp only [Act.put,sb_,sz_,ss_,i64_w,i32_w]
    rfl
   refine last_ (i:=11) (N:=none) fl2_12_ rfl rfl (one_of HT_.out (by kernel_rfl)) (by decide) (fun K hK=>?_)
   refine skip_ (w1:=?_) (by rfl) rfl ?_ ?_
   rotate_left
   ·go_simp
    rfl
   refine hK.out _ _ ?_
   clear hK K
   refine done_ (done_of HT_.out (by kernel_rfl)) ?_
   try go_wp2
   have n0_ : Aside0 (Kd.R (Kd.int .i64) 3 (w24.setCell ⟨go16,(((rd_T67 l0_1 x14_1).f1) : Int).toNat,none⟩ (.int .i64 (wrap64 ((rd x5_1 ((rd_T67 l0_1 x14_1).f1)) + (rd l1 x14_1))))) w.heap.size (fun _=>True) (.slice (some ⟨go16,0,none⟩) x5_1.length co25) y161):=⟨by exact HQ26.out⟩
   have n1_ : Aside0 ((w24.setCell ⟨go16,(((rd_T67 l0_1 x14_1).f1) : Int).toNat,none⟩ (.int .i64 (wrap64 ((rd x5_1 ((rd_T67 l0_1 x14_1).f1)) + (rd l1 x14_1))))).heap[gb153]? = some (.cells #[.int .i64 a0_0,.slice (some ad157) l0_1.length c0_1] 30 (0,0))):=⟨by refine blk_far ?_ (by have h_:=Kd.R_ne HO_5.out BK153.out (by decide);intro e_;exact h_ (by rw [e_];rfl)) _;exact BK153.out⟩
   have n2_ : Aside0 ((w24.setCell ⟨go16,(((rd_T67 l0_1 x14_1).f1) : Int).toNat,none⟩ (.int .i64 (wrap64 ((rd x5_1 ((rd_T67 l0_1 x14_1).f1)) + (rd l1 x14_1))))).heap[gb158]? = some (.cells #[.int .i64 ((rd_T67 l0_1 x14_1).f0),.int .i64 ((rd_T67 l0_1 x14_1).f1),.int .i64 ((rd_T67 l0_1 x14_1).f2),.int .i64 ((rd_T67 l0_1 x14_1).f3)] 67 (0,0))):=⟨by refine blk_far ?_ (by have h_:=Kd.R_ne HO_5.out BK158.out (by decide);intro e_;exact h_ (by rw [e_];rfl)) _;exact BK158.out⟩
   have n3_ : Aside0 (Below w.heap.size w (w24.setCell ⟨go16,(((rd_T67 l0_1 x14_1).f1) : Int).toNat,none⟩ (.int .i64 (wrap64 ((rd x5_1 ((rd_T67 l0_1 x14_1).f1)) + (rd l1 x14_1)))))):=⟨by repeat ((with_reducible first|exact HB.out|refine below_set ?_ GB16.out))⟩
   (try clear HO_5)
   (try clear BK153)
   (try clear BK158)
   (try clear HB)
   generalize (w24.setCell ⟨go16,(((rd_T67 l0_1 x14_1).f1) : Int).toNat,none⟩ (.int .i64 (wrap64 ((rd x5_1 ((rd_T67 l0_1 x14_1).f1)) + (rd l1 x14_1))))) = w27 at n0_ n1_ n2_ n3_ ⊢
   have HO_5:=n0_
   have BK153:=n1_
   have BK158:=n2_
   have HB:=n3_
   clear n0_ n1_ n2_ n3_
   have n0_:=am_ (Kd.R_drew HO_5.out)
   have n1_:=am_ (blk_drew BK153.out)
   have n2_:=am_ (blk_drew BK158.out)
   have n3_:=am_ (below_drew1 HB.out)
   clear HO_5
   clear BK153
   clear BK158
   clear HB
   have HO_5:=n0_
   have BK153:=n1_
   have BK158:=n2_
   have HB:=n3_
   clear n0_ n1_ n2_ n3_
   have p162 : 0 ≤ (((rd_T67 l0_1 x14_1).f0) : Int):=od_ (by (with_reducible assumption))
   have q162 : ((rd_T67 l0_1 x14_1).f0) < (y161.length : Int):=(by have h_ : (((rd_T67 l0_1 x14_1).f0) : Int) < ((x5_1.length : Int) : Int):=od_ (by (with_reducible assumption));(have e_:=(Kd.R_reads' HO_5.out).1;omega))
   have ql162 : ((((rd_T67 l0_1 x14_1).f0) : Int) < ((x5_1.length : Int) : Int)) = True:=eq_true (od_ (by (with_reducible assumption)))
   obtain ⟨ad162,e162,hx162_0⟩:=Kd.at_int (Kd.R_reads' HO_5.out).2.2 ((rd_T67 l0_1 x14_1).f0) p162 q162
   obtain rfl : (⟨go16,0,none⟩ : Addr) = ad162:=(by injection e162)
   (simp only [add_plain] at hx162_0)
   replace p162:=eq_true p162
   replace q162:=eq_true q162
   have p163 : 0 ≤ (x14_1 : Int):=od_ (by (with_reducible assumption))
   have q163 : x14_1 < (l1.length : Int):=od_ (by (with_reducible assumption))
   obtain ⟨ad163,e163,hx163_0⟩:=Kd.at_int HR1.out x14_1 p163 q163
   have hw163_0:=hx163_0
   obtain rfl : ad160 = ad163:=(by injection e163)
   replace hx163_0:=kc_ HB.out hx163_0
   replace p163:=eq_true p163
   replace q163:=eq_true q163
   have p19 : 0 ≤ (((rd_T67 l0_1 x14_1).f0) : Int):=od_ (by (with_reducible assumption))
   have q19 : (((rd_T67 l0_1 x14_1).f0) : Int) < ((x5_1.length : Int) : Int):=od_ (by (with_reducible assumption))
   obtain ⟨hx19_0,hf19_0⟩:=Kd.R_celln 0 HO_5.out (((rd_T67 l0_1 x14_1).f0) : Int) p19 q19
   replace p19:=eq_true p19
   replace q19:=eq_true q19
   have HP29:=Kd.R_putn HO_5.out (((rd_T67 l0_1 x14_1).f0) : Int) (wrap64 ((rd y161 ((rd_T67 l0_1 x14_1).f0)) - (rd l1 x14_1)))
   rw [← Ny164.out] at HP29
   have HQ29:=am_ HP29
   clear HP29
   refine start_ (n:=12) (S:=fun w'=>w'.cell? ⟨gb158,0,none⟩ = some (.int .i64 ((rd_T67 l0_1 x14_1).f0)) ∧ w'.cell? ⟨gb158,1,none⟩ = some (.int .i64 ((rd_T67 l0_1 x14_1).f1)) ∧ w'.cell? ⟨gb158,2,none⟩ = some (.int .i64 ((rd_T67 l0_1 x14_1).f2)) ∧ w'.cell? ⟨gb158,3,none⟩ = some (.int .i64 ((rd_T67 l0_1 x14_1).f3)) ∧ w'.cell? ⟨go16,(((rd_T67 l0_1 x14_1).f0)).toNat,none⟩ = some (.int .i64 (rd y161 ((rd_T67 l0_1 x14_1).f0))) ∧ w'.cell? (ad160.add (x14_1).toNat) = some (.int .i64 (rd l1 x14_1))) (ds:=[11]) fl2_0_ (by kernel_rfl) rfl rfl ⟨bc_ BK158.out 0,bc_ BK158.out 1,bc_ BK158.out 2,bc_ BK158.out 3,hx162_0,(kc_ HB.out hw163_0)⟩ (fun hHeld=>?_);refine with_tabW impl_excess.tab6 impl_excess.bits6 (fun HT_ HW_=>?_)
   generalize w27.drew = w28 at HO_5 BK153 BK158 HB HQ26 HQ29 hf19_0 hx162_0 hx163_0 hx19_0 hHeld ⊢
   refine pure_ (i:=0) (N:=some 30) (v:=?_) (a':=?_) fl2_1_ rfl rfl (any_of HT_.out (by kernel_rfl)) (fun _ _ _ h=>h) (Or.inl ⟨by rfl,?_⟩) ?_ ?_
   rotate_left
   ·intro w'
    go_simp
    with_reducible rfl
   rotate_left
   ·simp only [Act.put,sb_,sz_,ss_,i64_w,i32_w]
    rfl
   refine pure_ (i:=1) (N:=some 31) (v:=?_) (a':=?_) fl2_2_ rfl rfl (any_of HT_.out (by kernel_rfl)) (fun _ _ _ h=>h) (Or.inl ⟨by rfl,?_⟩) ?_ ?_
   rotate_left
   ·intro w'
    go_simp
    with_reducible rfl
   rotate_left
   ·simp only [Act.put,sb_,sz_,ss_,i64_w,i32_w]
    rfl
   refine pure_ (i:=5) (N:=some 35) (v:=?_) (a':=?_) fl2_3_ rfl rfl (any_of HT_.out (by kernel_rfl)) (fun _ _ _ h=>h) (Or.inl ⟨by rfl,?_⟩) ?_ ?_
   rotate_left
   ·intro w'
    go_simp
    with_reducible rfl
   rotate_left
   ·simp only [Act.put,sb_,sz_,ss_,i64_w,i32_w]
    rfl
   refine pure_ (i:=6) (N:=some 36) (v:=?_) (a':=?_) fl2_4_ rfl rfl (any_of HT_.out (by kernel_rfl)) (fun _ _ _ h=>h) (Or.inl ⟨by rfl,?_⟩) ?_ ?_
   rotate_left
   ·intro w'
    go_simp
    with_reducible rfl
   rotate_left
   ·simp only [Act.put,sb_,sz_,ss_,i64_w,i32_w]
    rfl
   refine pure_ (i:=7) (N:=some 37) (v:=?_) (a':=?_) fl2_5_ rfl rfl (any_of HT_.out (by kernel_rfl)) (fun _ _ _ h=>h) (Or.inl ⟨by rfl,?_⟩) ?_ ?_
   rotate_left
   ·intro w'
    go_simp
    with_reducible rfl
   rotate_left
   ·simp only [Act.put,sb_,sz_,ss_,i64_w,i32_w]
    rfl
   refine take_ (i:=2) (N:=some 32) (v:=?_) (a':=?_) fl2_6_ rfl rfl (take_ofW HT_.out HW_.out (by kernel_rfl)) (fun _ _ _ h=>h) (Or.inl ⟨by rfl,?_⟩) hHeld ?_ ?_
   rotate_left
   ·rintro w' ⟨s0,s1,s2,s3,s4,s5⟩
    go_simp
    with_reducible rfl
   rotate_left
   ·simp only [Act.put,sb_,sz_,ss_,i64_w,i32_w]
    rfl
   refine pure_ (i:=3) (N:=some 33) (v:=?_) (a':=?_) fl2_7_ rfl rfl (any_of HT_.out (by kernel_rfl)) (fun _ _ _ h=>h) (Or.inl ⟨by rfl,?_⟩) ?_ ?_
   rotate_left
   ·intro w'
    go_simp
    with_reducible rfl
   rotate_left
   ·simp only [Act.put,sb_,sz_,ss_,i64_w,i32_w]
    rfl
   refine take_ (i:=4) (N:=some 34) (v:=?_) (a':=?_) fl2_8_ rfl rfl (take_ofW HT_.out HW_.out (by kernel_rfl)) (fun _ _ _ h=>h) (Or.inl ⟨by rfl,?_⟩) hHeld ?_ ?_
   rotate_left
   ·rintro w' ⟨s0,s1,s2,s3,s4,s5⟩
    go_simp
    with_reducible rfl
   rotate_left
   ·simp only [Act.put,sb_,sz_,ss_,i64_w,i32_w]
    rfl
   refine take_ (i:=8) (N:=some 38) (v:=?_) (a':=?_) fl2_9_ rfl rfl (take_ofW HT_.out HW_.out (by kernel_rfl)) (fun _ _ _ h=>h) (Or.inl ⟨by rfl,?_⟩) hHeld ?_ ?_
   rotate_left
   ·rintro w' ⟨s0,s1,s2,s3,s4,s5⟩
    go_simp
    with_reducible rfl
   rotate_left
   ·simp only [Act.put,sb_,sz_,ss_,i64_w,i32_w]
    rfl
   refine pure_ (i:=9) (N:=some 39) (v:=?_) (a':=?_) fl2_10_ rfl rfl (any_of HT_.out (by kernel_rfl)) (fun _ _ _ h=>h) (Or.inl ⟨by rfl,?_⟩) ?_ ?_
   rotate_left
   ·intro w'
    go_simp
    with_reducible rfl
   rotate_left
   ·simp only [Act.put,sb_,sz_,ss_,i64_w,i32_w]
    rfl
   refine pure_ (i:=10) (N:=some 40) (v:=?_) (a':=?_) fl2_11_ rfl rfl (any_of HT_.out (by kernel_rfl)) (fun _ _ _ h=>h) (Or.inl ⟨by rfl,?_⟩) ?_ ?_
   rotate_left
   ·intro w'
    go_simp
    with_reducible rfl
   rotate_left
   ·simp only [Act.put,sb_,sz_,ss_,i64_w,i32_w]
    rfl
   refine last_ (i:=11) (N:=none) fl2_12_ rfl rfl (one_of HT_.out (by kernel_rfl)) (by decide) (fun K hK=>?_)
   refine skip_ (w1:=?_) (by rfl) rfl ?_ ?_
   rotate_left
   ·go_simp
    rfl
   refine hK.out _ _ ?_
   clear hK K
   refine done_ (done_of HT_.out (by kernel_rfl)) ?_
   try go_wp2
   go_roundg k1
   case measure=>have:=HK1.out;omega
   case rel=>exact ⟨(y164),(wrap64 (x14_1 + 1)),(by rfl),H',⟨by have:=HK1.out;omega⟩,⟨by exact HQ29.out⟩,⟨by refine blk_far ?_ (by have h_:=Kd.R_ne HO_5.out BK153.out (by decide);intro e_;exact h_ (by rw [e_];rfl)) _;exact BK153.out⟩,⟨by repeat ((with_reducible first|exact HB.out|refine below_set ?_ GB16.out))⟩⟩

end Go.Proofs.Ytgkpgigoonhgdaa.PFnMostCut
