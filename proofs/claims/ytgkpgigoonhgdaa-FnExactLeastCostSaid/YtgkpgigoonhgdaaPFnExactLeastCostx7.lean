-- Made by the session's wip/pp.py, a changed call of the kit's printer; Lean checks it.
import Derived.Test.YtgkpgigoonhgdaaPFnExactLeastCostx0
import Derived.Test.YtgkpgigoonhgdaaPFnExactLeastCostx1
import Derived.Test.YtgkpgigoonhgdaaPFnExactLeastCostx2
import Derived.Test.YtgkpgigoonhgdaaPFnExactLeastCostx3
import Derived.Test.YtgkpgigoonhgdaaPFnExactLeastCostx4
import Derived.Test.YtgkpgigoonhgdaaPFnExactLeastCostx6
namespace Go.Proofs.Ytgkpgigoonhgdaa.PFnExactLeastCost
open Go.RowKit Go.Proofs.YtgkpgigoonhgdaaW.PrintWords Go.Proofs.YtgkpgigoonhgdaaW.PrintLast Go.Proofs.YtgkpgigoonhgdaaW.PrintMore
attribute [local go_sem] max2_int min2_int max_two min_two max_three min_three max_four min_four   -- for this text's walks alone
set_option linter.unusedVariables false
set_option linter.unusedSimpArgs false

/-! ### spec_Cheapest: function 58 -/
mutual
def spec_Cheapest.j0 : Nat → Int → Bool → Int → List (S67) → Option (List Int × Int × Bool)
 | 0, _, _, _, _ => none
 | k + 1, x1, x21, x201000, x201001 => if x21 = true then (some ((([] : List Int)), 0, false)) else (if 0 ≤ (x201001.length : Int) then (if ((x201001.length : Int) : Int).toNat ≤ 35184372088832 then (spec_Cheapest.l0 k x1 (List.replicate ((x201001.length : Int) : Int).toNat 0) 0 x201000 x201001) else (none)) else (none))
def spec_Cheapest.l0 : Nat → Int → List Int → Int → Int → List (S67) → Option (List Int × Int × Bool)
 | 0, _, _, _, _, _ => none
 | k + 1, x1, x7, x8, x201000, x201001 => if x8 < x1 then ((spec_l08Far.f k x201000 x201001 x7).bind fun t210 => (if 1 < (t210.length : Int) then (if (rd t210 1) ≥ 1152921504606846976 then (some ((([] : List Int)), 0, false)) else ((some (([] : List Int) : List Int)).bind fun y217 => (if y217.length + x7.length < 17592186044416 then (spec_Cheapest.l1 k x1 x7 x8 t210 (y217 ++ x7) 1 0 x201000 x201001) else (none)))) else (none))) else ((spec_FlowCost.f k x201000 x201001 x7).bind fun t209 => (some (x7, t209, true)))
def spec_Cheapest.l1 : Nat → Int → List Int → Int → List Int → List Int → Int → Int → Int → List (S67) → Option (List Int × Int × Bool)
 | 0, _, _, _, _, _, _, _, _, _ => none
 | k + 1, x1, x7, x8, x9, x10, x11, x12, x201000, x201001 => if x11 = 0 then (spec_Cheapest.j3 k x1 x7 x8 x9 x10 x11 x12 false x201000 x201001) else (spec_Cheapest.j3 k x1 x7 x8 x9 x10 x11 x12 (decide (x12 < x201000)) x201000 x201001)
def spec_Cheapest.j3 : Nat → Int → List Int → Int → List Int → List Int → Int → Int → Bool → Int → List (S67) → Option (List Int × Int × Bool)
 | 0, _, _, _, _, _, _, _, _, _, _ => none
 | k + 1, x1, x7, x8, x9, x10, x11, x12, x50, x201000, x201001 => if x50 = true then ((spec_l08Back.f k x201000 x201001 x7 x9 x11).bind fun t223 => (if t223 > 0 then (if 0 ≤ (wrap64 (t223 - 1)) then (if (wrap64 (t223 - 1)) < (x10.length : Int) then (if (wrap64 (t223 - 1)) < (x201001.length : Int) then (spec_Cheapest.l1 k x1 x7 x8 x9 (x10.set ((wrap64 (t223 - 1)) : Int).toNat (wrap64 ((rd x10 (wrap64 (t223 - 1))) + 1))) ((rd_T67 x201001 (wrap64 (t223 - 1))).f0) (wrap64 (x12 + 1)) x201000 x201001) else (none)) else (none)) else (none)) else (if t223 < 0 then (if 0 ≤ (wrap64 ((wrap64 (-t223)) - 1)) then (if (wrap64 ((wrap64 (-t223)) - 1)) < (x10.length : Int) then (if (wrap64 ((wrap64 (-t223)) - 1)) < (x201001.length : Int) then (spec_Cheapest.l1 k x1 x7 x8 x9 (x10.set ((wrap64 ((wrap64 (-t223)) - 1)) : Int).toNat (wrap64 ((rd x10 (wrap64 ((wrap64 (-t223)) - 1))) - 1))) ((rd_T67 x201001 (wrap64 ((wrap64 (-t223)) - 1))).f1) (wrap64 (x12 + 1)) x201000 x201001) else (none)) else (none)) else (none)) else (spec_Cheapest.l1 k x1 x7 x8 x9 x10 x11 (wrap64 (x12 + 1)) x201000 x201001)))) else (spec_Cheapest.l0 k x1 x10 (wrap64 (x8 + 1)) x201000 x201001)
end
def spec_Cheapest.f (k : Nat) (a0_0 : Int) (l0_1 : List (S67)) (a1 : Int) : Option (List Int × Int × Bool):=(spec_NetOk.f k a0_0 l0_1).bind fun t201=>(if t201 = true then ((spec_l01In.f a1 0 16).bind fun t202=>(spec_Cheapest.j0 k a1 (!t202) a0_0 l0_1)) else (spec_Cheapest.j0 k a1 true a0_0 l0_1))
theorem spec_Cheapest.mono_l : ∀ k,(∀ y0 y1 y2 y3,LeO (spec_Cheapest.j0 k y0 y1 y2 y3) (spec_Cheapest.j0 (k + 1) y0 y1 y2 y3)) ∧ (∀ y0 y1 y2 y3 y4,LeO (spec_Cheapest.l0 k y0 y1 y2 y3 y4) (spec_Cheapest.l0 (k + 1) y0 y1 y2 y3 y4)) ∧ (∀ y0 y1 y2 y3 y4 y5 y6 y7 y8,LeO (spec_Cheapest.l1 k y0 y1 y2 y3 y4 y5 y6 y7 y8) (spec_Cheapest.l1 (k + 1) y0 y1 y2 y3 y4 y5 y6 y7 y8)) ∧ (∀ y0 y1 y2 y3 y4 y5 y6 y7 y8 y9,LeO (spec_Cheapest.j3 k y0 y1 y2 y3 y4 y5 y6 y7 y8 y9) (spec_Cheapest.j3 (k + 1) y0 y1 y2 y3 y4 y5 y6 y7 y8 y9))
 | 0 => ⟨fun _ _ _ _ r h => by simp [spec_Cheapest.j0] at h, fun _ _ _ _ _ r h => by simp [spec_Cheapest.l0] at h, fun _ _ _ _ _ _ _ _ _ r h => by simp [spec_Cheapest.l1] at h, fun _ _ _ _ _ _ _ _ _ _ r h => by simp [spec_Cheapest.j3] at h⟩
 | k + 1 => by
  obtain ⟨ih0,ih1,ih2,ih3⟩:=spec_Cheapest.mono_l k
  refine ⟨?_,?_,?_,?_⟩
  ·intro y0 y1 y2 y3
   unfold spec_Cheapest.j0
   repeat' first
   | (with_reducible exact ih1 _ _ _ _ _)
   | (with_reducible exact LeO.refl _)
   | (with_reducible refine LeO.ite ?_ ?_)
  ·intro y0 y1 y2 y3 y4
   unfold spec_Cheapest.l0
   repeat' first
   | (with_reducible exact ih2 _ _ _ _ _ _ _ _ _)
   | (with_reducible exact spec_FlowCost.mono _ _ _ _)
   | (with_reducible exact spec_l08Far.mono _ _ _ _)
   | (with_reducible exact LeO.refl _)
   | (with_reducible refine LeO.ite ?_ ?_)
   | (with_reducible refine LeO.bind ?_ (fun _ => ?_))
  ·intro y0 y1 y2 y3 y4 y5 y6 y7 y8
   unfold spec_Cheapest.l1
   repeat' first
   | (with_reducible exact ih3 _ _ _ _ _ _ _ _ _ _)
   | (with_reducible refine LeO.ite ?_ ?_)
  ·intro y0 y1 y2 y3 y4 y5 y6 y7 y8 y9
   unfold spec_Cheapest.j3
   repeat' first
   | (with_reducible exact ih1 _ _ _ _ _)
   | (with_reducible exact ih2 _ _ _ _ _ _ _ _ _)
   | (with_reducible exact spec_l08Back.mono _ _ _ _ _ _)
   | (with_reducible exact LeO.refl _)
   | (with_reducible refine LeO.ite ?_ ?_)
   | (with_reducible refine LeO.bind ?_ (fun _ => ?_))
theorem spec_Cheapest.mono : ∀ a0 a1 a2 k,LeO (spec_Cheapest.f k a0 a1 a2) (spec_Cheapest.f (k + 1) a0 a1 a2):=by
 intro a0 a1 a2 k
 obtain ⟨ih0,ih1,ih2,ih3⟩:=spec_Cheapest.mono_l k
 unfold spec_Cheapest.f
 repeat' first
   | (with_reducible exact ih0 _ _ _ _)
   | (with_reducible exact spec_NetOk.mono _ _ _)
   | (with_reducible exact LeO.refl _)
   | (with_reducible refine LeO.ite ?_ ?_)
   | (with_reducible refine LeO.bind ?_ (fun _ => ?_))
set_option maxHeartbeats 8000000 in
set_option maxRecDepth 100000 in
theorem spec_Cheapest.calls (k : Nat) (a0_0 : Int) (A0_1 : Option Addr) (c0_1 : Nat) (l0_1 : List (S67)) (a1 : Int) (r1 : List Int) (r2 : Int) (r3 : Bool) (w : World) (hr0_1 : Kd.C k67 w A0_1 l0_1.length l0_1) (hc0_1 : l0_1.length ≤ c0_1) (h : spec_Cheapest.f k a0_0 l0_1 a1 = some (r1,r2,r3)) :
  Calls Try.prog 58 #[.agg #[.int .i64 a0_0,.slice A0_1 l0_1.length c0_1],.int .i64 a1] w fun e w'=>∃ v0_ : Value,e = .returned (.tuple #[v0_,.int .i64 r2,.bool r3]) ∧ Kd.R (Kd.int .i64) 3 w' w.heap.size (fun _=>True) v0_ r1 ∧ Below w.heap.size w w':=by
 have hu30:=Try.underlying30
 have HR0_1:=am_ hr0_1
 have HC0_1:=am_ hc0_1
 clear hr0_1 hc0_1
 have HB:=am_ (Below.refl w.heap.size w)
 have H : ((spec_NetOk.f k a0_0 l0_1).bind fun t201=>(if t201 = true then ((spec_l01In.f a1 0 16).bind fun t202=>(spec_Cheapest.j0 k a1 (!t202) a0_0 l0_1)) else (spec_Cheapest.j0 k a1 true a0_0 l0_1))) = some (r1,r2,r3):=h
 clear h
 have HC3:=am_ H
 clear H
 go_enter Try.func58,Try.ntmps58
 go_upto_region 1 with (((with_reducible refine gate_dst (N:=2) rfl ?_);refine box_event ?hg (N:=2) ?hd (cs:=#[.int .i64 a0_0,.slice A0_1 l0_1.length c0_1]) (t:=30) ?hr ?_;(case hd=>rfl);(case hg=>rfl);(case hr=>(go_simp;done));intro gb200 hg w4 hbox hb;have n0_:=am_ (below_step HB.out hb);have n1_:=am_ (hbox);have n2_:=am_ ((by rw [hg];exact (below_size HB.out) : w.heap.size ≤ gb200));have n3_:=n2_;clear HB;have HB:=n0_;have BK200:=n1_;have GW200:=n2_;have GE200:=n3_;clear n0_ n1_ n2_ n3_ hb hbox hg))
 (skip)
 go_cut [21] (fun v21 wc=>∃ (kq : Nat) (x21_2 : Bool),v21 = .bool x21_2 ∧ Aside0 (spec_Cheapest.j0 kq a1 x21_2 a0_0 l0_1 = some (r1,r2,r3)) ∧ Aside0 (kq ≤ k) ∧ Aside0 (wc.heap[gb200]? = some (.cells #[.int .i64 a0_0,(.slice A0_1 l0_1.length c0_1)] 30 (0,0))) ∧ Aside0 (Below w.heap.size w wc))
 case first =>
  have H:=HC3.out
  clear HC3
  replace H:=Option.bind_eq_some_iff.mp H
  obtain ⟨t201,A50,H⟩:=H
  replace H : (if t201 = true then ((spec_l01In.f a1 0 16).bind fun t202=>(spec_Cheapest.j0 k a1 (!t202) a0_0 l0_1)) else (spec_Cheapest.j0 k a1 true a0_0 l0_1)) = some (r1,r2,r3):=H
  have A5:=am_ A50
  clear A50
  by_cases c6 : t201 = true
  ·subst c6
   have H1 : ((spec_l01In.f a1 0 16).bind fun t202=>(spec_Cheapest.j0 k a1 (!t202) a0_0 l0_1)) = some (r1,r2,r3):=by rw [if_pos rfl] at H;exact H
   clear H
   have H:=H1
   clear H1
   replace H:=Option.bind_eq_some_iff.mp H
   obtain ⟨t202,A70,H⟩:=H
   replace H : (spec_Cheapest.j0 k a1 (!t202) a0_0 l0_1) = some (r1,r2,r3):=H
   have A7:=am_ A70
   clear A70
   have H':=am_ H
   clear H
   have hcz8_0 : w4.cell? ⟨gb200,0,none⟩ = some (.int .i64 a0_0):=(blk_cell BK200.out 0).trans rfl
   have hcz8_1 : w4.cell? ⟨gb200,1,none⟩ = some (.slice A0_1 l0_1.length c0_1):=(blk_cell BK200.out 1).trans rfl
   have hfz8_0:=blk_frozen BK200.out 0
   have hfz8_1:=blk_frozen BK200.out 1
   go_wp2_with (first|((with_reducible refine gate_callee (f:=51) rfl ?_);refine goesL_ (some 15) rfl rfl Try.func51 (by kernel_rfl) rfl #[.agg #[.int .i64 a0_0,.slice A0_1 l0_1.length c0_1]] rfl (by (try simp only [List.map_toArray,List.map_cons,List.map_nil]);rfl) ?_;(with_reducible refine (spec_NetOk.calls k a0_0 _ _ l0_1 true _ ?side1 ?side2 A5.out).mono ?_);(case side1=>exact (Kd.C_below HR0_1.out HB.out));(case side2=>exact HC0_1.out);rintro e w9 ⟨rfl,hb⟩;refine ⟨_,rfl,?_⟩;have n0_:=am_ (blk_below BK200.out hb);have n1_:=am_ (below_step HB.out hb);clear BK200 HB;have BK200:=n0_;have HB:=n1_;clear n0_ n1_;(try clear hb))|(go_at_call 68;(with_reducible refine (spec_l01In.calls a1 0 16 t202 _ A7.out).mono ?_);rintro e w' ⟨rfl,⟨nd,rfl⟩⟩))
   go_meet
   case rel=>exact ⟨_,(!t202),(by rfl),H',⟨by omega⟩,⟨by (with_reducible repeat (refine blk_drewN ?_ _));exact BK200.out⟩,⟨by repeat ((with_reducible first|exact HB.out|apply pw_below_drewN))⟩⟩
  replace c6:=Bool.eq_false_iff.mpr c6
  subst c6
  have H1 : (spec_Cheapest.j0 k a1 true a0_0 l0_1) = some (r1,r2,r3):=by rw [if_neg (show ¬ (false = true) by decide)] at H;exact H
  clear H
  have H:=H1
  clear H1
  have H':=am_ H
  clear H
  have hcz10_0 : w4.cell? ⟨gb200,0,none⟩ = some (.int .i64 a0_0):=(blk_cell BK200.out 0).trans rfl
  have hcz10_1 : w4.cell? ⟨gb200,1,none⟩ = some (.slice A0_1 l0_1.length c0_1):=(blk_cell BK200.out 1).trans rfl
  have hfz10_0:=blk_frozen BK200.out 0
  have hfz10_1:=blk_frozen BK200.out 1
  go_wp2_with (((with_reducible refine gate_callee (f:=51) rfl ?_);refine goesL_ (some 15) rfl rfl Try.func51 (by kernel_rfl) rfl #[.agg #[.int .i64 a0_0,.slice A0_1 l0_1.length c0_1]] rfl (by (try simp only [List.map_toArray,List.map_cons,List.map_nil]);rfl) ?_;(with_reducible refine (spec_NetOk.calls k a0_0 _ _ l0_1 false _ ?side1 ?side2 A5.out).mono ?_);(case side1=>exact (Kd.C_below HR0_1.out HB.out));(case side2=>exact HC0_1.out);rintro e w11 ⟨rfl,hb⟩;refine ⟨_,rfl,?_⟩;have n0_:=am_ (blk_below BK200.out hb);have n1_:=am_ (below_step HB.out hb);clear BK200 HB;have BK200:=n0_;have HB:=n1_;clear n0_ n1_;(try clear hb)))
  go_meet
  case rel=>exact ⟨_,(true),(by rfl),H',⟨by omega⟩,⟨by exact BK200.out⟩,⟨by exact HB.out⟩⟩
 case rest =>
  clear HC3
  try clear p2
  try clear c5
  try clear c6
  try clear hcz10_0
  try clear hcz10_1
  try clear hcz8_0
  try clear hcz8_1
  try clear hfz10_0
  try clear hfz10_1
  try clear hfz8_0
  try clear hfz8_1
  obtain ⟨kq,x21_2,rfl,HA,HJ2,BK200,HB⟩:=hcut
  cases kq with
  | zero => exact absurd HA.out (by simp [spec_Cheapest.j0])
  | succ kj2 =>
   have H:=HA.out
   clear HA
   simp only [spec_Cheapest.j0] at H
   by_cases c12 : x21_2 = true
   ·subst c12
    have H1 : (some ((([] : List Int)),0,false)) = some (r1,r2,r3):=by rw [if_pos rfl] at H;exact H
    clear H
    have H:=H1
    clear H1
    obtain ⟨y203,hy203⟩ : ∃ y_ : List Int,y_ = (([] : List Int)):=⟨_,rfl⟩
    replace H : (some (y203,0,false)) = some (r1,r2,r3):=by (rw [hy203];with_reducible exact H)
    have Ny203:=am_ hy203
    clear hy203
    simp only [Option.some.injEq,Prod.mk.injEq] at H
    obtain ⟨rfl,rfl,rfl⟩:=H
    go_wp2_with (((with_reducible refine gate_dst (N:=22) rfl ?_);refine Kd.R_lit (Kd.int .i64) _ 3 ?hg (N:=22) ?hd (xs:=([] : List Int)) (inner:=[]) (ok:=fun _=>True) (okp:=fun _=>True) ?hr ?hp (fun _ hk=>hk) trivial (Below.refl _ _) (Nat.le_refl _) (by simp) ?_;(case hd=>rfl);(case hg=>rfl);(case hr=>(go_simp;done));(case hp=>exact (Reps.none _ _));intro v204 w13 ho14 hb hg_ hnew_;clear hg_ hnew_;(rw [← Ny203.out] at ho14);have n0_:=am_ (Kd.R_lower ho14 (below_size HB.out));have n1_:=am_ (blk_below BK200.out hb);have n2_:=am_ (below_step HB.out hb);clear BK200 HB;have HO205:=n0_;have BK200:=n1_;have HB:=n2_;clear n0_ n1_ n2_ hb ho14))
    go_ret3
    exact ⟨_,by rfl,by exact HO205.out,by exact HB.out⟩
   replace c12:=Bool.eq_false_iff.mpr c12
   subst c12
   have H1 : (if 0 ≤ (l0_1.length : Int) then (if ((l0_1.length : Int) : Int).toNat ≤ 35184372088832 then (spec_Cheapest.l0 kj2 a1 (List.replicate ((l0_1.length : Int) : Int).toNat 0) 0 a0_0 l0_1) else (none)) else (none)) = some (r1,r2,r3):=by rw [if_neg (show ¬ (false = true) by decide)] at H;exact H
   clear H
   have H:=H1
   clear H1
   by_cases c15 : 0 ≤ (l0_1.length : Int)
   rotate_left
   ·rw [if_neg c15] at H
    exact absurd H (by simp)
   rw [if_pos c15] at H
   have c15b0:=eq_true c15
   have c15b1 : decide (0 ≤ (l0_1.length : Int)) = true:=decide_eq_true c15
   clear c15
   by_cases c16 : ((l0_1.length : Int) : Int).toNat ≤ 35184372088832
   rotate_left
   ·rw [if_neg c16] at H
    exact absurd H (by simp)
   rw [if_pos c16] at H
   have c16b0:=eq_true c16
   have c16b1 : decide (((l0_1.length : Int) : Int).toNat ≤ 35184372088832) = true:=decide_eq_true c16
   clear c16
   obtain ⟨y206,hy206⟩ : ∃ y_ : List Int,y_ = (List.replicate ((l0_1.length : Int) : Int).toNat 0):=⟨_,rfl⟩
   replace H : (spec_Cheapest.l0 kj2 a1 y206 0 a0_0 l0_1) = some (r1,r2,r3):=by (rw [hy206];with_reducible exact H)
   have Ny206:=am_ hy206
   clear hy206
   have H':=am_ H
   clear H
   have hcz17_0 : wc.cell? ⟨gb200,0,none⟩ = some (.int .i64 a0_0):=(blk_cell BK200.out 0).trans rfl
   have hcz17_1 : wc.cell? ⟨gb200,1,none⟩ = some (.slice A0_1 l0_1.length c0_1):=(blk_cell BK200.out 1).trans rfl
   have hfz17_0:=blk_frozen BK200.out 0
   have hfz17_1:=blk_frozen BK200.out 1
   go_wp2_with (((with_reducible refine gate_dst (N:=26) rfl ?_);refine Kd.R_make (Kd.int .i64) _ 3 rfl (N:=26) rfl 25 _ _ rfl (l0_1.length : Int) rfl rfl Try.underlying25 (.int .i64 0) 8 info3 rfl (by decide) (by omega) 0 (ok:=fun _=>True) (okp:=fun _=>True) rfl (fun _ hk=>hk) trivial (of_decide_eq_true (by (with_reducible assumption))) (Nat.le_trans (Nat.mul_le_mul_right _ (of_decide_eq_true (by (with_reducible assumption)) : (l0_1.length : Int).toNat ≤ 35184372088832)) (by omega)) (Below.refl _ _) (Nat.le_refl _) ?_;intro v207 w18 ho19 hb hg_ hnew_;clear hg_ hnew_;(rw [← Ny206.out] at ho19);have n0_:=am_ (Kd.R_lower ho19 (below_size HB.out));have n1_:=am_ (blk_below BK200.out hb);have n2_:=am_ (below_step HB.out hb);clear BK200 HB;have HO208:=n0_;have BK200:=n1_;have HB:=n2_;clear n0_ n1_ n2_ hb ho19))
   go_loopg [7,8] kj2 (fun kq v7 v8 w'=>∃ (x7_2 : List Int) (x8_2 : Int),v8 = .int .i64 x8_2 ∧ Aside0 (spec_Cheapest.l0 kq a1 x7_2 x8_2 a0_0 l0_1 = some (r1,r2,r3)) ∧ Aside0 (kq ≤ kj2) ∧ Aside0 (Kd.R (Kd.int .i64) 3 w' w.heap.size (fun _=>True) v7 x7_2) ∧ Aside0 (w'.heap[gb200]? = some (.cells #[.int .i64 a0_0,(.slice A0_1 l0_1.length c0_1)] 30 (0,0))) ∧ Aside0 (Below w.heap.size w w'))
   case atStart=>exact ⟨(y206),(0),(by rfl),H',⟨Nat.le_refl _⟩,⟨by exact HO208.out⟩,⟨by exact BK200.out⟩,⟨by exact HB.out⟩⟩
   case round =>
    clear H'
    try clear c1
    try clear p2
    try clear c5
    try clear c6
    try clear c12
    try clear c15
    try clear c15b0
    try clear c15b1
    try clear c16
    try clear c16b0
    try clear c16b1
    try clear hcz10_0
    try clear hcz10_1
    try clear hcz17_0
    try clear hcz17_1
    try clear hcz8_0
    try clear hcz8_1
    try clear hfz10_0
    try clear hfz10_1
    try clear hfz17_0
    try clear hfz17_1
    try clear hfz8_0
    try clear hfz8_1
    try clear p2
    obtain ⟨x7_2,x8_2,rfl,HA,HK2,HO_7,BK200,HB⟩:=hrel
    cases gk with
    | zero => exact absurd HA.out (by simp [spec_Cheapest.l0])
    | succ k2 =>
     have H:=HA.out
     clear HA
     simp only [spec_Cheapest.l0] at H
     by_cases c20 : x8_2 < a1
     rotate_left
     ·rw [if_neg c20] at H
      have c20b0 : decide (x8_2 < a1) = false:=decide_eq_false c20
      clear c20
      replace H:=Option.bind_eq_some_iff.mp H
      obtain ⟨t209,A690,H⟩:=H
      replace H : (some (x7_2,t209,true)) = some (r1,r2,r3):=H
      have A69:=am_ A690
      clear A690
      simp only [Option.some.injEq,Prod.mk.injEq] at H
      obtain ⟨rfl,rfl,rfl⟩:=H
      have hcz70_0 : wr.cell? ⟨gb200,0,none⟩ = some (.int .i64 a0_0):=(blk_cell BK200.out 0).trans rfl
      have hcz70_1 : wr.cell? ⟨gb200,1,none⟩ = some (.slice A0_1 l0_1.length c0_1):=(blk_cell BK200.out 1).trans rfl
      have hfz70_0:=blk_frozen BK200.out 0
      have hfz70_1:=blk_frozen BK200.out 1
      obtain ⟨Ao71,co71,eo71⟩:=Kd.R_slice HO_7.out
      subst eo71
      go_wp2_with (((with_reducible refine gate_callee (f:=73) rfl ?_);refine goesL_ (some 103) rfl rfl Try.func73 (by kernel_rfl) rfl #[.agg #[.int .i64 a0_0,.slice A0_1 l0_1.length c0_1],.slice Ao71 x7_2.length co71] rfl (by (try simp only [List.map_toArray,List.map_cons,List.map_nil]);rfl) ?_;(with_reducible refine (spec_FlowCost.calls k2 a0_0 _ _ l0_1 _ _ x7_2 t209 _ ?side1 ?side2 ?side3 ?side4 A69.out).mono ?_);(case side1=>exact (Kd.C_below HR0_1.out HB.out));(case side2=>exact HC0_1.out);(case side3=>repeat (exact (Kd.R_reads' HO_7.out).2.2));(case side4=>exact (Kd.R_reads' HO_7.out).2.1);rintro e w72 ⟨rfl,hb⟩;refine ⟨_,rfl,?_⟩;have n0_:=am_ (Kd.R_below HO_7.out hb);have n1_:=am_ (blk_below BK200.out hb);have n2_:=am_ (below_step HB.out hb);clear HO_7 BK200 HB;have HO_7:=n0_;have BK200:=n1_;have HB:=n2_;clear n0_ n1_ n2_;(try clear hb)))
      go_ret3
      exact ⟨_,by rfl,by exact HO_7.out,by exact HB.out⟩
     rw [if_pos c20] at H
     have c20b0 : decide (x8_2 < a1) = true:=decide_eq_true c20
     clear c20
     replace H:=Option.bind_eq_some_iff.mp H
     obtain ⟨t210,A210,H⟩:=H
     replace H : (if 1 < (t210.length : Int) then (if (rd t210 1) ≥ 1152921504606846976 then (some ((([] : List Int)),0,false)) else ((some (([] : List Int) : List Int)).bind fun y217=>(if y217.length + x7_2.length < 17592186044416 then (spec_Cheapest.l1 k2 a1 x7_2 x8_2 t210 (y217 ++ x7_2) 1 0 a0_0 l0_1) else (none)))) else (none)) = some (r1,r2,r3):=H
     have A21:=am_ A210
     clear A210
     by_cases c22 : 1 < (t210.length : Int)
     rotate_left
     ·rw [if_neg c22] at H
      exact absurd H (by simp)
     rw [if_pos c22] at H
     have c22b0 : decide (1 < (t210.length : Int)) = true:=decide_eq_true c22
     have c22b1 : decide (1 < t210.length) = true:=decide_eq_true (by omega)
     clear c22
     by_cases c23 : (rd t210 1) ≥ 1152921504606846976
     ·rw [if_pos c23] at H
      have c23b0 : decide (1152921504606846976 ≤ (rd t210 1)) = true:=decide_eq_true c23
      clear c23
      obtain ⟨y214,hy214⟩ : ∃ y_ : List Int,y_ = (([] : List Int)):=⟨_,rfl⟩
      replace H : (some (y214,0,false)) = some (r1,r2,r3):=by (rw [hy214];with_reducible exact H)
      have Ny214:=am_ hy214
      clear hy214
      simp only [Option.some.injEq,Prod.mk.injEq] at H
      obtain ⟨rfl,rfl,rfl⟩:=H
      have hcz24_0 : wr.cell? ⟨gb200,0,none⟩ = some (.int .i64 a0_0):=(blk_cell BK200.out 0).trans rfl
      have hcz24_1 : wr.cell? ⟨gb200,1,none⟩ = some (.slice A0_1 l0_1.length c0_1):=(blk_cell BK200.out 1).trans rfl
      have hfz24_0:=blk_frozen BK200.out 0
      have hfz24_1:=blk_frozen BK200.out 1
      obtain ⟨Ao25,co25,eo25⟩:=Kd.R_slice HO_7.out
      subst eo25
      go_wp2_with (first|((with_reducible refine gate_callee (f:=71) rfl ?_);refine goesL_ (some 34) rfl rfl Try.func71 (by kernel_rfl) rfl #[.agg #[.int .i64 a0_0,.slice A0_1 l0_1.length c0_1],.slice Ao25 x7_2.length co25] rfl (by (try simp only [List.map_toArray,List.map_cons,List.map_nil]);rfl) ?_;(with_reducible refine (spec_l08Far.calls k2 a0_0 _ _ l0_1 _ _ x7_2 t210 _ ?side1 ?side2 ?side3 ?side4 A21.out).mono ?_);(case side1=>exact (Kd.C_below HR0_1.out HB.out));(case side2=>exact HC0_1.out);(case side3=>repeat (exact (Kd.R_reads' HO_7.out).2.2));(case side4=>exact (Kd.R_reads' HO_7.out).2.1);rintro e w26 ⟨v211,rfl,ho0,hb⟩;refine ⟨_,rfl,?_⟩;have n0_:=am_ (Kd.R_elder' HO_7.out (Kd.R_base ho0) hb);have n1_:=am_ (Kd.R_lower (Kd.R_new' ho0 (Kd.R_lt HO_7.out)) (below_size HB.out));have n2_:=am_ (blk_below BK200.out hb);have n3_:=am_ (below_step HB.out hb);clear HO_7 BK200 HB;have HO_7:=n0_;have HO212:=n1_;have BK200:=n2_;have HB:=n3_;clear n0_ n1_ n2_ n3_;(try clear hb);(try clear ho0);obtain ⟨Ao27,co27,eo27⟩:=Kd.R_slice HO212.out;subst eo27;have p213 : 0 ≤ (1 : Int):=(by omega);have q213 : 1 < (t210.length : Int):=of_decide_eq_true (by (with_reducible assumption));obtain ⟨ad213,e213,hx213_0⟩:=Kd.at_int (Kd.R_reads' HO212.out).2.2 1 p213 q213;cases e213;(try simp only [show (1 : Int).toNat = 1 from rfl,Nat.reduceMul,Nat.reduceEqDiff,Go.Addr.add,↓reduceIte] at hx213_0);have qi213 : (1 < t210.length) = True:=eq_true (by omega);replace p213:=eq_true p213;replace q213:=eq_true q213)|((with_reducible refine gate_dst (N:=39) rfl ?_);refine Kd.R_lit (Kd.int .i64) _ 3 ?hg (N:=39) ?hd (xs:=([] : List Int)) (inner:=[]) (ok:=fun _=>True) (okp:=fun _=>True) ?hr ?hp (fun _ hk=>hk) trivial (Below.refl _ _) (Nat.le_refl _) (by simp) ?_;(case hd=>rfl);(case hg=>rfl);(case hr=>(go_simp;done));(case hp=>exact (Reps.none _ _));intro v215 w28 ho29 hb hg_ hnew_;clear hg_ hnew_;(rw [← Ny214.out] at ho29);have n0_:=am_ (Kd.R_elder' HO_7.out (Kd.R_base ho29) hb);have n1_:=am_ (Kd.R_elder' HO212.out (Kd.R_base ho29) hb);have n2_:=am_ (Kd.R_lower (Kd.R_new' (Kd.R_new' ho29 (Kd.R_lt HO_7.out)) (Kd.R_lt HO212.out)) (below_size HB.out));have n3_:=am_ (blk_below BK200.out hb);have n4_:=am_ (below_step HB.out hb);clear HO_7 HO212 BK200 HB;have HO_7:=n0_;have HO212:=n1_;have HO216:=n2_;have BK200:=n3_;have HB:=n4_;clear n0_ n1_ n2_ n3_ n4_ hb ho29))
      go_ret3
      exact ⟨_,by rfl,by exact Kd.R_mono HO216.out (fun _ hk=>trivial),by exact HB.out⟩
     rw [if_neg c23] at H
     have c23b0 : decide (1152921504606846976 ≤ (rd t210 1)) = false:=decide_eq_false c23
     clear c23
     obtain ⟨y217,hy217⟩ : ∃ y_ : List Int,y_ = (([] : List Int)):=⟨_,rfl⟩
     replace H : (if y217.length + x7_2.length < 17592186044416 then (spec_Cheapest.l1 k2 a1 x7_2 x8_2 t210 (y217 ++ x7_2) 1 0 a0_0 l0_1) else (none)) = some (r1,r2,r3):=by (have H2_:=(Option.bind_some _ _).symm.trans H;rw [hy217];with_reducible exact H2_)
     have Ny217:=am_ hy217
     clear hy217
     by_cases c30 : y217.length + x7_2.length < 17592186044416
     rotate_left
     ·rw [if_neg c30] at H
      exact absurd H (by simp)
     rw [if_pos c30] at H
     have LMc30:=am_ c30
     clear c30
     obtain ⟨y220,hy220⟩ : ∃ y_ : List Int,y_ = (y217 ++ x7_2):=⟨_,rfl⟩
     replace H : (spec_Cheapest.l1 k2 a1 x7_2 x8_2 t210 y220 1 0 a0_0 l0_1) = some (r1,r2,r3):=by (rw [hy220];with_reducible exact H)
     have Ny220:=am_ hy220
     clear hy220
     have H':=am_ H
     clear H
     have hcz31_0 : wr.cell? ⟨gb200,0,none⟩ = some (.int .i64 a0_0):=(blk_cell BK200.out 0).trans rfl
     have hcz31_1 : wr.cell? ⟨gb200,1,none⟩ = some (.slice A0_1 l0_1.length c0_1):=(blk_cell BK200.out 1).trans rfl
     have hfz31_0:=blk_frozen BK200.out 0
     have hfz31_1:=blk_frozen BK200.out 1
     obtain ⟨Ao32,co32,eo32⟩:=Kd.R_slice HO_7.out
     subst eo32
     go_wp2_with (first|((with_reducible refine gate_callee (f:=71) rfl ?_);refine goesL_ (some 34) rfl rfl Try.func71 (by kernel_rfl) rfl #[.agg #[.int .i64 a0_0,.slice A0_1 l0_1.length c0_1],.slice Ao32 x7_2.length co32] rfl (by (try simp only [List.map_toArray,List.map_cons,List.map_nil]);rfl) ?_;(with_reducible refine (spec_l08Far.calls k2 a0_0 _ _ l0_1 _ _ x7_2 t210 _ ?side1 ?side2 ?side3 ?side4 A21.out).mono ?_);(case side1=>exact (Kd.C_below HR0_1.out HB.out));(case side2=>exact HC0_1.out);(case side3=>repeat (exact (Kd.R_reads' HO_7.out).2.2));(case side4=>exact (Kd.R_reads' HO_7.out).2.1);rintro e w33 ⟨v211,rfl,ho0,hb⟩;refine ⟨_,rfl,?_⟩;have n0_:=am_ (Kd.R_elder' HO_7.out (Kd.R_base ho0) hb);have n1_:=am_ (Kd.R_lower (Kd.R_new' ho0 (Kd.R_lt HO_7.out)) (below_size HB.out));have n2_:=am_ (blk_below BK200.out hb);have n3_:=am_ (below_step HB.out hb);clear HO_7 BK200 HB;have HO_7:=n0_;have HO212:=n1_;have BK200:=n2_;have HB:=n3_;clear n0_ n1_ n2_ n3_;(try clear hb);(try clear ho0);obtain ⟨Ao34,co34,eo34⟩:=Kd.R_slice HO212.out;subst eo34;have p213 : 0 ≤ (1 : Int):=(by omega);have q213 : 1 < (t210.length : Int):=of_decide_eq_true (by (with_reducible assumption));obtain ⟨ad213,e213,hx213_0⟩:=Kd.at_int (Kd.R_reads' HO212.out).2.2 1 p213 q213;cases e213;(try simp only [show (1 : Int).toNat = 1 from rfl,Nat.reduceMul,Nat.reduceEqDiff,Go.Addr.add,↓reduceIte] at hx213_0);have qi213 : (1 < t210.length) = True:=eq_true (by omega);replace p213:=eq_true p213;replace q213:=eq_true q213)|((with_reducible refine gate_dst (N:=40) rfl ?_);refine Kd.R_lit (Kd.int .i64) _ 3 ?hg (N:=40) ?hd (xs:=([] : List Int)) (inner:=[]) (ok:=fun _=>True) (okp:=fun _=>True) ?hr ?hp (fun _ hk=>hk) trivial (Below.refl _ _) (Nat.le_refl _) (by simp) ?_;(case hd=>rfl);(case hg=>rfl);(case hr=>(go_simp;done));(case hp=>exact (Reps.none _ _));intro v218 w35 ho36 hb hg_ hnew_;clear hg_ hnew_;(rw [← Ny217.out] at ho36);have n0_:=am_ (Kd.R_elder' HO_7.out (Kd.R_base ho36) hb);have n1_:=am_ (Kd.R_elder' HO212.out (Kd.R_base ho36) hb);have n2_:=am_ (Kd.R_lower (Kd.R_new' (Kd.R_new' ho36 (Kd.R_lt HO_7.out)) (Kd.R_lt HO212.out)) (below_size HB.out));have n3_:=am_ (blk_below BK200.out hb);have n4_:=am_ (below_step HB.out hb);clear HO_7 HO212 BK200 HB;have HO_7:=n0_;have HO212:=n1_;have HO219:=n2_;have BK200:=n3_;have HB:=n4_;clear n0_ n1_ n2_ n3_ n4_ hb ho36)|((with_reducible refine gate_builtin (b:=.append) (xs:=#[.tmp 40,.tmp 41]) rfl ?_);at_builtin;refine Kd.R_append_rows (Kd.int .i64) (w0:=w) w.heap.size rfl (.tmp 40) (.tmp 41) 25 3 (.int .i64 0) 8 rfl Try.underlying25 info3 rfl (by decide) (by omega) v218 y217 x7_2 _ _ _ (fun k_=>some k_ ≠ (.slice Ao32 x7_2.length co32 : Value).ownBlock ∧ some k_ ≠ (.slice (some ad213) t210.length co34 : Value).ownBlock) (fun _=>False) rfl rfl ?aO ?aR (fun _ _ h=>h) (fun _ h=>h.elim) ?aF ?aB ?aS ?aL ?_;(case aR=>repeat (exact (Kd.R_reads' HO_7.out).2.2));(case aB=>exact HB.out);(case aF=>exact (fun k_ hk=>⟨Kd.fresh' (Kd.R_lt HO_7.out) k_ hk,Kd.fresh' (Kd.R_lt HO212.out) k_ hk⟩));(case aO=>exact (by exact Kd.R_mono HO219.out (fun _ hk=>⟨hk.1.2,hk.2⟩)));(case aS=>exact (below_size HB.out));(case aL=>have:=LMc30.out;omega);intro v221 w37 ho hb hg hat;rw [← Ny220.out] at ho;have n0_:=am_ (Kd.R_after (ok:=(fun k_=>some k_ ≠ (.slice (some ad213) t210.length co34 : Value).ownBlock)) (by exact Kd.R_mono HO_7.out (fun _ hk=>⟨hk.1.2,hk.2⟩)) hg hat);have n1_:=am_ (blk_grown (g:=gb200) (o:=.cells #[.int .i64 a0_0,.slice A0_1 l0_1.length c0_1] 30 (0,0)) BK200.out hg (Kd.R_ne HO219.out BK200.out (by decide)));have n2_:=am_ (Kd.R_after (ok:=(fun k_=>some k_ ≠ (.slice Ao32 x7_2.length co32 : Value).ownBlock)) (by exact Kd.R_mono HO212.out (fun _ hk=>⟨hk.1.2,hk.2⟩)) hg hat);have n3_:=am_ (hb);have n4_:=am_ (ho);clear HO_7 BK200 HO212 HB HO219;have HO_7:=n0_;have BK200:=n1_;have HO212:=n2_;have HB:=n3_;have HO222:=n4_;clear n0_ n1_ n2_ n3_ n4_ ho hb hg hat))
     go_loopg [11,12] k2 (fun kq v11 v12 w'=>∃ (x10_3 : List Int) (x11_3 : Int) (x12_3 : Int),v11 = .int .i64 x11_3 ∧ v12 = .int .i64 x12_3 ∧ Aside0 (spec_Cheapest.l1 kq a1 x7_2 x8_2 t210 x10_3 x11_3 x12_3 a0_0 l0_1 = some (r1,r2,r3)) ∧ Aside0 (kq ≤ k2) ∧ Aside0 (Kd.R (Kd.int .i64) 3 w' w.heap.size (fun k_=>some k_ ≠ ((.slice (some ad213) t210.length co34) : Value).ownBlock ∧ some k_ ≠ (v221 : Value).ownBlock) (.slice Ao32 x7_2.length co32) x7_2) ∧ Aside0 (Kd.R (Kd.int .i64) 3 w' w.heap.size (fun k_=>some k_ ≠ ((.slice Ao32 x7_2.length co32) : Value).ownBlock ∧ some k_ ≠ (v221 : Value).ownBlock) (.slice (some ad213) t210.length co34) t210) ∧ Aside0 (Kd.R (Kd.int .i64) 3 w' w.heap.size (fun k_=>some k_ ≠ ((.slice Ao32 x7_2.length co32) : Value).ownBlock ∧ some k_ ≠ ((.slice (some ad213) t210.length co34) : Value).ownBlock) v221 x10_3) ∧ Aside0 (w'.heap[gb200]? = some (.cells #[.int .i64 a0_0,(.slice A0_1 l0_1.length c0_1)] 30 (0,0))) ∧ Aside0 (Below w.heap.size w w'))
     case atStart=>exact ⟨(y220),(1),(0),(by rfl),(by rfl),H',⟨Nat.le_refl _⟩,⟨by exact HO_7.out⟩,⟨by exact HO212.out⟩,⟨by exact HO222.out⟩,⟨by exact BK200.out⟩,⟨by exact HB.out⟩⟩
     case round =>
      clear H'
      try clear c1
      try clear c2
      try clear p2
      try clear q2
      try clear hx2
      try clear qi2
      try clear c3
      try clear c5
      try clear c6
      try clear c7
      try clear c12
      try clear c15
      try clear c15b0
      try clear c15b1
      try clear c16
      try clear c16b0
      try clear c16b1
      try clear c20
      try clear c20b0
      try clear p21
      try clear q21
      try clear hx21
      try clear qi21
      try clear c22
      try clear c22b0
      try clear c22b1
      try clear c23
      try clear c23b0
      try clear c30
      try clear hcz10_0
      try clear hcz10_1
      try clear hcz17_0
      try clear hcz17_1
      try clear hcz24_0
      try clear hcz24_1
      try clear hcz31_0
      try clear hcz31_1
      try clear hcz8_0
      try clear hcz8_1
      try clear hfz10_0
      try clear hfz10_1
      try clear hfz17_0
      try clear hfz17_1
      try clear hfz24_0
      try clear hfz24_1
      try clear hfz31_0
      try clear hfz31_1
      try clear hfz8_0
      try clear hfz8_1
      try clear hx213_0
      try clear p2
      try clear p213
      try clear q213
      obtain ⟨x10_3,x11_3,x12_3,rfl,rfl,HA,HK3,HO_7,HO_9,HO_10,BK200,HB⟩:=hrel
      cases gk with
      | zero => exact absurd HA.out (by simp [spec_Cheapest.l1])
      | succ k3 =>
       have H:=HA.out
       clear HA
       simp only [spec_Cheapest.l1] at H
       have HC38:=am_ H
       clear H
       go_upto_region 13 with (fail)
       go_cut [50] (fun v50 wc=>∃ (kq : Nat) (x50_37 : Bool),v50 = .bool x50_37 ∧ Aside0 (spec_Cheapest.j3 kq a1 x7_2 x8_2 t210 x10_3 x11_3 x12_3 x50_37 a0_0 l0_1 = some (r1,r2,r3)) ∧ Aside0 (kq ≤ k3) ∧ Aside0 (Kd.R (Kd.int .i64) 3 wc w.heap.size (fun k_=>some k_ ≠ ((.slice (some ad213) t210.length co34) : Value).ownBlock ∧ some k_ ≠ (v221 : Value).ownBlock) (.slice Ao32 x7_2.length co32) x7_2) ∧ Aside0 (Kd.R (Kd.int .i64) 3 wc w.heap.size (fun k_=>some k_ ≠ ((.slice Ao32 x7_2.length co32) : Value).ownBlock ∧ some k_ ≠ (v221 : Value).ownBlock) (.slice (some ad213) t210.length co34) t210) ∧ Aside0 (Kd.R (Kd.int .i64) 3 wc w.heap.size (fun k_=>some k_ ≠ ((.slice Ao32 x7_2.length co32) : Value).ownBlock ∧ some k_ ≠ ((.slice (some ad213) t210.length co34) : Value).ownBlock) v221 x10_3) ∧ Aside0 (wc.heap[gb200]? = some (.cells #[.int .i64 a0_0,(.slice A0_1 l0_1.length c0_1)] 30 (0,0))) ∧ Aside0 (Below w.heap.size w wc))
       case first =>
        have H:=HC38.out
        clear HC38
        by_cases c39 : x11_3 = 0
        ·rw [if_pos c39] at H
         have c39b0 : (x11_3 == 0) = true:=beq_iff_eq.mpr c39
         have c39b1 : (x11_3 != 0) = false:=bne_eq_false_iff_eq.mpr c39
         clear c39
         (skip)
         have H':=am_ H
         clear H
         go_wp2
         go_meet
         case rel=>exact ⟨_,(false),(by rfl),H',⟨by have:=HJ2.out;have:=HK2.out;have:=HK3.out;omega⟩,⟨by exact HO_7.out⟩,⟨by exact HO_9.out⟩,⟨by exact HO_10.out⟩,⟨by exact BK200.out⟩,⟨by exact HB.out⟩⟩
        rw [if_neg c39] at H
        have c39b0 : (x11_3 == 0) = false:=beq_eq_false_iff_ne.mpr c39
        have c39b1 : (x11_3 != 0) = true:=bne_iff_ne.mpr c39
        (skip)
        have H':=am_ H
        clear H
        have hcz40_0 : wr.cell? ⟨gb200,0,none⟩ = some (.int .i64 a0_0):=(blk_cell BK200.out 0).trans rfl
        have hcz40_1 : wr.cell? ⟨gb200,1,none⟩ = some (.slice A0_1 l0_1.length c0_1):=(blk_cell BK200.out 1).trans rfl
        have hfz40_0:=blk_frozen BK200.out 0
        have hfz40_1:=blk_frozen BK200.out 1
        go_wp2
        go_meet
        case rel=>exact ⟨_,(decide (x12_3 < a0_0)),(by rfl),H',⟨by have:=HJ2.out;have:=HK2.out;have:=HK3.out;omega⟩,⟨by exact HO_7.out⟩,⟨by exact HO_9.out⟩,⟨by exact HO_10.out⟩,⟨by exact BK200.out⟩,⟨by exact HB.out⟩⟩
       case rest =>
        clear HC38
        try clear c1
        try clear c2
        try clear p2
        try clear q2
        try clear hx2
        try clear qi2
        try clear c3
        try clear c5
        try clear c6
        try clear c7
        try clear c12
        try clear c15
        try clear c15b0
        try clear c15b1
        try clear c16
        try clear c16b0
        try clear c16b1
        try clear c20
        try clear c20b0
        try clear p21
        try clear q21
        try clear hx21
        try clear qi21
        try clear c22
        try clear c22b0
        try clear c22b1
        try clear c23
        try clear c23b0
        try clear c30
        try clear c39
        try clear c39b0
        try clear c39b1
        try clear hcz10_0
        try clear hcz10_1
        try clear hcz17_0
        try clear hcz17_1
        try clear hcz24_0
        try clear hcz24_1
        try clear hcz31_0
        try clear hcz31_1
        try clear hcz40_0
        try clear hcz40_1
        try clear hcz8_0
        try clear hcz8_1
        try clear hfz10_0
        try clear hfz10_1
        try clear hfz17_0
        try clear hfz17_1
        try clear hfz24_0
        try clear hfz24_1
        try clear hfz31_0
        try clear hfz31_1
        try clear hfz40_0
        try clear hfz40_1
        try clear hfz8_0
        try clear hfz8_1
        try clear hx213_0
        try clear p2
        try clear p21
        try clear p213
        try clear q2
        try clear q21
        try clear q213
        obtain ⟨kq,x50_37,rfl,HA,HJ37,HO_7,HO_9,HO_10,BK200,HB⟩:=hcut
        cases kq with
        | zero => exact absurd HA.out (by simp [spec_Cheapest.j3])
        | succ kj37 =>
         have H:=HA.out
         clear HA
         simp only [spec_Cheapest.j3] at H
         by_cases c41 : x50_37 = true
         rotate_left
         ·replace c41:=Bool.eq_false_iff.mpr c41
          subst c41
          have H1 : (spec_Cheapest.l0 kj37 a1 x10_3 (wrap64 (x8_2 + 1)) a0_0 l0_1) = some (r1,r2,r3):=by rw [if_neg (show ¬ (false = true) by decide)] at H;exact H
          clear H
          have H:=H1
          clear H1
          have H':=am_ H
          clear H
          go_wp2
          go_roundg kj37
          case measure=>have:=HJ2.out;have:=HK2.out;have:=HK3.out;have:=HJ37.out;omega
          case rel=>exact ⟨(x10_3),(wrap64 (x8_2 + 1)),(by rfl),H',⟨by have:=HJ2.out;have:=HK2.out;have:=HK3.out;have:=HJ37.out;omega⟩,⟨by exact Kd.R_mono HO_10.out (fun _ hk=>trivial)⟩,⟨by exact BK200.out⟩,⟨by exact HB.out⟩⟩
         subst c41
         have H1 : ((spec_l08Back.f kj37 a0_0 l0_1 x7_2 t210 x11_3).bind fun t223=>(if t223 > 0 then (if 0 ≤ (wrap64 (t223 - 1)) then (if (wrap64 (t223 - 1)) < (x10_3.length : Int) then (if (wrap64 (t223 - 1)) < (l0_1.length : Int) then (spec_Cheapest.l1 kj37 a1 x7_2 x8_2 t210 (x10_3.set ((wrap64 (t223 - 1)) : Int).toNat (wrap64 ((rd x10_3 (wrap64 (t223 - 1))) + 1))) ((rd_T67 l0_1 (wrap64 (t223 - 1))).f0) (wrap64 (x12_3 + 1)) a0_0 l0_1) else (none)) else (none)) else (none)) else (if t223 < 0 then (if 0 ≤ (wrap64 ((wrap64 (-t223)) - 1)) then (if (wrap64 ((wrap64 (-t223)) - 1)) < (x10_3.length : Int) then (if (wrap64 ((wrap64 (-t223)) - 1)) < (l0_1.length : Int) then (spec_Cheapest.l1 kj37 a1 x7_2 x8_2 t210 (x10_3.set ((wrap64 ((wrap64 (-t223)) - 1)) : Int).toNat (wrap64 ((rd x10_3 (wrap64 ((wrap64 (-t223)) - 1))) - 1))) ((rd_T67 l0_1 (wrap64 ((wrap64 (-t223)) - 1))).f1) (wrap64 (x12_3 + 1)) a0_0 l0_1) else (none)) else (none)) else (none)) else (spec_Cheapest.l1 kj37 a1 x7_2 x8_2 t210 x10_3 x11_3 (wrap64 (x12_3 + 1)) a0_0 l0_1)))) = some (r1,r2,r3):=by rw [if_pos rfl] at H;exact H
         clear H
         have H:=H1
         clear H1
         replace H:=Option.bind_eq_some_iff.mp H
         obtain ⟨t223,A420,H⟩:=H
         replace H : (if t223 > 0 then (if 0 ≤ (wrap64 (t223 - 1)) then (if (wrap64 (t223 - 1)) < (x10_3.length : Int) then (if (wrap64 (t223 - 1)) < (l0_1.length : Int) then (spec_Cheapest.l1 kj37 a1 x7_2 x8_2 t210 (x10_3.set ((wrap64 (t223 - 1)) : Int).toNat (wrap64 ((rd x10_3 (wrap64 (t223 - 1))) + 1))) ((rd_T67 l0_1 (wrap64 (t223 - 1))).f0) (wrap64 (x12_3 + 1)) a0_0 l0_1) else (none)) else (none)) else (none)) else (if t223 < 0 then (if 0 ≤ (wrap64 ((wrap64 (-t223)) - 1)) then (if (wrap64 ((wrap64 (-t223)) - 1)) < (x10_3.length : Int) then (if (wrap64 ((wrap64 (-t223)) - 1)) < (l0_1.length : Int) then (spec_Cheapest.l1 kj37 a1 x7_2 x8_2 t210 (x10_3.set ((wrap64 ((wrap64 (-t223)) - 1)) : Int).toNat (wrap64 ((rd x10_3 (wrap64 ((wrap64 (-t223)) - 1))) - 1))) ((rd_T67 l0_1 (wrap64 ((wrap64 (-t223)) - 1))).f1) (wrap64 (x12_3 + 1)) a0_0 l0_1) else (none)) else (none)) else (none)) else (spec_Cheapest.l1 kj37 a1 x7_2 x8_2 t210 x10_3 x11_3 (wrap64 (x12_3 + 1)) a0_0 l0_1))) = some (r1,r2,r3):=H
         have A42:=am_ A420
         clear A420
         by_cases c43 : t223 > 0
         ·rw [if_pos c43] at H
          have c43b0 : decide (0 < t223) = true:=decide_eq_true c43
          clear c43
          obtain ⟨ji44,hji44⟩ : ∃ j_ : Int,(wrap64 (t223 - 1)) = j_:=⟨_,rfl⟩
          replace H : (if 0 ≤ (ji44) then (if (ji44) < (x10_3.length : Int) then (if (ji44) < (l0_1.length : Int) then (spec_Cheapest.l1 kj37 a1 x7_2 x8_2 t210 (x10_3.set ((ji44) : Int).toNat (wrap64 ((rd x10_3 (ji44)) + 1))) ((rd_T67 l0_1 (ji44)).f0) (wrap64 (x12_3 + 1)) a0_0 l0_1) else (none)) else (none)) else (none)) = some (r1,r2,r3):=by (rw [hji44] at H;exact H)
          (skip)
          have hji44w : (IntKind.i64.wrap (t223 - 1)) = ji44:=(i64_w _).trans hji44
          by_cases c45 : 0 ≤ (ji44)
          rotate_left
          ·rw [if_neg c45] at H
           exact absurd H (by simp)
          rw [if_pos c45] at H
          have c45b0 : decide (0 ≤ (ji44)) = true:=decide_eq_true c45
          clear c45
          by_cases c46 : (ji44) < (x10_3.length : Int)
          rotate_left
          ·rw [if_neg c46] at H
           exact absurd H (by simp)
          rw [if_pos c46] at H
          have c46b0 : decide ((ji44) < (x10_3.length : Int)) = true:=decide_eq_true c46
          clear c46
          obtain ⟨y225,hy225⟩ : ∃ y_ : List Int,y_ = (x10_3.set ((ji44) : Int).toNat (wrap64 ((rd x10_3 (ji44)) + 1))):=⟨_,rfl⟩
          replace H : (if (ji44) < (l0_1.length : Int) then (spec_Cheapest.l1 kj37 a1 x7_2 x8_2 t210 y225 ((rd_T67 l0_1 (ji44)).f0) (wrap64 (x12_3 + 1)) a0_0 l0_1) else (none)) = some (r1,r2,r3):=by (rw [hy225];with_reducible exact H)
          have Ny225:=am_ hy225
          clear hy225
          by_cases c48 : (ji44) < (l0_1.length : Int)
          ·rw [if_pos c48] at H
           have c48b0 : decide ((ji44) < (l0_1.length : Int)) = true:=decide_eq_true c48
           clear c48
           have H':=am_ H
           clear H
           have hcz49_0 : wc.cell? ⟨gb200,0,none⟩ = some (.int .i64 a0_0):=(blk_cell BK200.out 0).trans rfl
           have hcz49_1 : wc.cell? ⟨gb200,1,none⟩ = some (.slice A0_1 l0_1.length c0_1):=(blk_cell BK200.out 1).trans rfl
           have hfz49_0:=blk_frozen BK200.out 0
           have hfz49_1:=blk_frozen BK200.out 1
           go_wp2_with (first|((with_reducible refine gate_callee (f:=72) rfl ?_);refine goesL_ (some 57) rfl rfl Try.func72 (by kernel_rfl) rfl #[.agg #[.int .i64 a0_0,.slice A0_1 l0_1.length c0_1],.slice Ao32 x7_2.length co32,.slice (some ad213) t210.length co34,.int .i64 x11_3] rfl (by (try simp only [List.map_toArray,List.map_cons,List.map_nil]);rfl) ?_;(with_reducible refine (spec_l08Back.calls kj37 a0_0 _ _ l0_1 _ _ x7_2 _ _ t210 x11_3 t223 _ ?side1 ?side2 ?side3 ?side4 ?side5 ?side6 A42.out).mono ?_);(case side1=>exact (Kd.C_below HR0_1.out HB.out));(case side2=>exact HC0_1.out);(case side3=>repeat (exact (Kd.R_reads' HO_7.out).2.2));(case side4=>exact (Kd.R_reads' HO_7.out).2.1);(case side5=>repeat (exact (Kd.R_reads' HO_9.out).2.2));(case side6=>exact (Kd.R_reads' HO_9.out).2.1);rintro e w50 ⟨rfl,hb⟩;refine ⟨_,rfl,?_⟩;have n0_:=am_ (Kd.R_below HO_7.out hb);have n1_:=am_ (Kd.R_below HO_9.out hb);have n2_:=am_ (Kd.R_below HO_10.out hb);have n3_:=am_ (blk_below BK200.out hb);have n4_:=am_ (below_step HB.out hb);clear HO_7 HO_9 HO_10 BK200 HB;have HO_7:=n0_;have HO_9:=n1_;have HO_10:=n2_;have BK200:=n3_;have HB:=n4_;clear n0_ n1_ n2_ n3_ n4_;(try clear hb);obtain ⟨Ao51,co51,eo51⟩:=Kd.R_slice HO_10.out;subst eo51;have p224 : 0 ≤ ((ji44) : Int):=of_decide_eq_true (by (with_reducible assumption));have q224 : (ji44) < (x10_3.length : Int):=of_decide_eq_true (by (with_reducible assumption));obtain ⟨ad224,e224,hx224_0⟩:=Kd.at_int (Kd.R_reads' HO_10.out).2.2 (ji44) p224 q224;cases e224;replace p224:=eq_true p224;replace q224:=eq_true q224;have p47 : 0 ≤ ((ji44) : Int):=of_decide_eq_true (by (with_reducible assumption));have q47 : ((ji44) : Int) < ((x10_3.length : Int) : Int):=of_decide_eq_true (by (with_reducible assumption));obtain ⟨go47,co47,eo47,gb47,gl47,cl47,HG47⟩:=Kd.R_form HO_10.out (by omega);(cases eo47);have GB47:=am_ gb47;have GG47:=am_ HG47;clear gb47 gl47 HG47;(simp only [add_plain] at hx224_0);obtain ⟨hx47_0,hf47_0⟩:=Kd.R_celln 0 HO_10.out ((ji44) : Int) p47 q47;replace p47:=eq_true p47;replace q47:=eq_true q47;obtain ⟨hy52_,hz52_⟩:=Kd.R_celln 0 HO_10.out ((ji44) : Int) (of_decide_eq_true (by (with_reducible assumption))) (of_decide_eq_true (by (with_reducible assumption)));have HP52:=Kd.R_putg HO_10.out ((ji44) : Int) (wrap64 ((rd x10_3 (ji44)) + 1)))|((with_reducible refine gate_store (t:=3) (p:=69) rfl ?_);refine store_event (t:=3) (p:=69) (v:=?vo_w53) (w1:=(w50.setCell ⟨go47,((ji44) : Int).toNat,none⟩ (.int .i64 (wrap64 ((rd x10_3 (ji44)) + 1))))) ?hg ?ho ?hn ?hr ?_;(case ho=>rfl);(case hg=>rfl);(case hn=>rfl);(case hr=>(go_simp;done));intro w53 hw;have hg : w50.grownBy w53 (some go47):=(by rw [hw];exact HP52.2);have hp_ : Kd.R (Kd.int .i64) 3 w53 w.heap.size (fun k_=>some k_ ≠ (.slice Ao32 x7_2.length co32 : Value).ownBlock ∧ some k_ ≠ (.slice (some ad213) t210.length co34 : Value).ownBlock) (.slice (some ⟨go47,0,none⟩) x10_3.length co51) y225:=(by rw [hw,Ny225.out];exact HP52.1);clear HP52;have n0_:=am_ (Kd.R_after (v:=(.slice (some ⟨go47,0,none⟩) x10_3.length co51)) (v1:=(.slice (some ⟨go47,0,none⟩) x10_3.length co51)) (ok:=(fun k_=>some k_ ≠ (.slice (some ad213) t210.length co34 : Value).ownBlock)) HO_7.out hg (.inl rfl));have n1_:=am_ (Kd.R_after (v:=(.slice (some ⟨go47,0,none⟩) x10_3.length co51)) (v1:=(.slice (some ⟨go47,0,none⟩) x10_3.length co51)) (ok:=(fun k_=>some k_ ≠ (.slice Ao32 x7_2.length co32 : Value).ownBlock)) HO_9.out hg (.inl rfl));have n2_:=am_ (hp_);have n3_:=am_ (blk_grown (g:=gb200) (o:=.cells #[.int .i64 a0_0,.slice A0_1 l0_1.length c0_1] 30 (0,0)) BK200.out hg (Kd.R_ne HO_10.out BK200.out (by decide)));have n4_:=am_ ((by rw [hw];exact below_set (HB.out) GB47.out : Below w.heap.size w w53));clear HO_7 HO_9 HO_10 BK200 HB;have HO_7:=n0_;have HO_9:=n1_;have HO_10:=n2_;have BK200:=n3_;have HB:=n4_;clear n0_ n1_ n2_ n3_ n4_ hg hw hp_;have hcz54_0 : w53.cell? ⟨gb200,0,none⟩ = some (.int .i64 a0_0):=(blk_cell BK200.out 0).trans rfl;have hcz54_1 : w53.cell? ⟨gb200,1,none⟩ = some (.slice A0_1 l0_1.length c0_1):=(blk_cell BK200.out 1).trans rfl;have hfz54_0:=blk_frozen BK200.out 0;have hfz54_1:=blk_frozen BK200.out 1;have p226 : 0 ≤ ((ji44) : Int):=of_decide_eq_true (by (with_reducible assumption));have q226 : (ji44) < (l0_1.length : Int):=of_decide_eq_true (by (with_reducible assumption));obtain ⟨ad226,e226,hx226_0,hx226_1,hx226_2,hx226_3⟩:=at_T67 HR0_1.out (ji44) p226 q226;cases e226;replace hx226_0:=kc_ HB.out hx226_0;replace hx226_1:=kc_ HB.out hx226_1;replace hx226_2:=kc_ HB.out hx226_2;replace hx226_3:=kc_ HB.out hx226_3;replace p226:=eq_true p226;replace q226:=eq_true q226))
           go_roundg kj37
           case measure=>have:=HJ2.out;have:=HK2.out;have:=HK3.out;have:=HJ37.out;omega
           case rel=>exact ⟨(y225),((rd_T67 l0_1 (ji44)).f0),(wrap64 (x12_3 + 1)),(by rfl),(by rfl),H',⟨by have:=HJ2.out;have:=HK2.out;have:=HK3.out;have:=HJ37.out;omega⟩,⟨by exact HO_7.out⟩,⟨by exact HO_9.out⟩,⟨by exact HO_10.out⟩,⟨by exact BK200.out⟩,⟨by exact HB.out⟩⟩
          rw [if_neg c48] at H
          exact absurd H (by simp)
         rw [if_neg c43] at H
         have c43b0 : decide (0 < t223) = false:=decide_eq_false c43
         clear c43
         by_cases c55 : t223 < 0
         rotate_left
         ·rw [if_neg c55] at H
          have c55b0 : decide (t223 < 0) = false:=decide_eq_false c55
          clear c55
          have H':=am_ H
          clear H
          have hcz67_0 : wc.cell? ⟨gb200,0,none⟩ = some (.int .i64 a0_0):=(blk_cell BK200.out 0).trans rfl
          have hcz67_1 : wc.cell? ⟨gb200,1,none⟩ = some (.slice A0_1 l0_1.length c0_1):=(blk_cell BK200.out 1).trans rfl
          have hfz67_0:=blk_frozen BK200.out 0
          have hfz67_1:=blk_frozen BK200.out 1
          go_wp2_with (((with_reducible refine gate_callee (f:=72) rfl ?_);refine goesL_ (some 57) rfl rfl Try.func72 (by kernel_rfl) rfl #[.agg #[.int .i64 a0_0,.slice A0_1 l0_1.length c0_1],.slice Ao32 x7_2.length co32,.slice (some ad213) t210.length co34,.int .i64 x11_3] rfl (by (try simp only [List.map_toArray,List.map_cons,List.map_nil]);rfl) ?_;(with_reducible refine (spec_l08Back.calls kj37 a0_0 _ _ l0_1 _ _ x7_2 _ _ t210 x11_3 t223 _ ?side1 ?side2 ?side3 ?side4 ?side5 ?side6 A42.out).mono ?_);(case side1=>exact (Kd.C_below HR0_1.out HB.out));(case side2=>exact HC0_1.out);(case side3=>repeat (exact (Kd.R_reads' HO_7.out).2.2));(case side4=>exact (Kd.R_reads' HO_7.out).2.1);(case side5=>repeat (exact (Kd.R_reads' HO_9.out).2.2));(case side6=>exact (Kd.R_reads' HO_9.out).2.1);rintro e w68 ⟨rfl,hb⟩;refine ⟨_,rfl,?_⟩;have n0_:=am_ (Kd.R_below HO_7.out hb);have n1_:=am_ (Kd.R_below HO_9.out hb);have n2_:=am_ (Kd.R_below HO_10.out hb);have n3_:=am_ (blk_below BK200.out hb);have n4_:=am_ (below_step HB.out hb);clear HO_7 HO_9 HO_10 BK200 HB;have HO_7:=n0_;have HO_9:=n1_;have HO_10:=n2_;have BK200:=n3_;have HB:=n4_;clear n0_ n1_ n2_ n3_ n4_;(try clear hb)))
          go_roundg kj37
          case measure=>have:=HJ2.out;have:=HK2.out;have:=HK3.out;have:=HJ37.out;omega
          case rel=>exact ⟨(x10_3),(x11_3),(wrap64 (x12_3 + 1)),(by rfl),(by rfl),H',⟨by have:=HJ2.out;have:=HK2.out;have:=HK3.out;have:=HJ37.out;omega⟩,⟨by exact HO_7.out⟩,⟨by exact HO_9.out⟩,⟨by exact HO_10.out⟩,⟨by exact BK200.out⟩,⟨by exact HB.out⟩⟩
         rw [if_pos c55] at H
         have c55b0 : decide (t223 < 0) = true:=decide_eq_true c55
         clear c55
         obtain ⟨ji56,hji56⟩ : ∃ j_ : Int,(wrap64 ((wrap64 (-t223)) - 1)) = j_:=⟨_,rfl⟩
         replace H : (if 0 ≤ (ji56) then (if (ji56) < (x10_3.length : Int) then (if (ji56) < (l0_1.length : Int) then (spec_Cheapest.l1 kj37 a1 x7_2 x8_2 t210 (x10_3.set ((ji56) : Int).toNat (wrap64 ((rd x10_3 (ji56)) - 1))) ((rd_T67 l0_1 (ji56)).f1) (wrap64 (x12_3 + 1)) a0_0 l0_1) else (none)) else (none)) else (none)) = some (r1,r2,r3):=by (rw [hji56] at H;exact H)
         (skip)
         have hji56w : (IntKind.i64.wrap ((wrap64 (-t223)) - 1)) = ji56:=(i64_w _).trans hji56
         by_cases c57 : 0 ≤ (ji56)
         rotate_left
         ·rw [if_neg c57] at H
          exact absurd H (by simp)
         rw [if_pos c57] at H
         have c57b0 : decide (0 ≤ (ji56)) = true:=decide_eq_true c57
         clear c57
         by_cases c58 : (ji56) < (x10_3.length : Int)
         rotate_left
         ·rw [if_neg c58] at H
          exact absurd H (by simp)
         rw [if_pos c58] at H
         have c58b0 : decide ((ji56) < (x10_3.length : Int)) = true:=decide_eq_true c58
         clear c58
         obtain ⟨y228,hy228⟩ : ∃ y_ : List Int,y_ = (x10_3.set ((ji56) : Int).toNat (wrap64 ((rd x10_3 (ji56)) - 1))):=⟨_,rfl⟩
         replace H : (if (ji56) < (l0_1.length : Int) then (spec_Cheapest.l1 kj37 a1 x7_2 x8_2 t210 y228 ((rd_T67 l0_1 (ji56)).f1) (wrap64 (x12_3 + 1)) a0_0 l0_1) else (none)) = some (r1,r2,r3):=by (rw [hy228];with_reducible exact H)
         have Ny228:=am_ hy228
         clear hy228
         by_cases c60 : (ji56) < (l0_1.length : Int)
         ·rw [if_pos c60] at H
          have c60b0 : decide ((ji56) < (l0_1.length : Int)) = true:=decide_eq_true c60
          clear c60
          have H':=am_ H
          clear H
          have hcz61_0 : wc.cell? ⟨gb200,0,none⟩ = some (.int .i64 a0_0):=(blk_cell BK200.out 0).trans rfl
          have hcz61_1 : wc.cell? ⟨gb200,1,none⟩ = some (.slice A0_1 l0_1.length c0_1):=(blk_cell BK200.out 1).trans rfl
          have hfz61_0:=blk_frozen BK200.out 0
          have hfz61_1:=blk_frozen BK200.out 1
          go_wp2_with (first|((with_reducible refine gate_callee (f:=72) rfl ?_);refine goesL_ (some 57) rfl rfl Try.func72 (by kernel_rfl) rfl #[.agg #[.int .i64 a0_0,.slice A0_1 l0_1.length c0_1],.slice Ao32 x7_2.length co32,.slice (some ad213) t210.length co34,.int .i64 x11_3] rfl (by (try simp only [List.map_toArray,List.map_cons,List.map_nil]);rfl) ?_;(with_reducible refine (spec_l08Back.calls kj37 a0_0 _ _ l0_1 _ _ x7_2 _ _ t210 x11_3 t223 _ ?side1 ?side2 ?side3 ?side4 ?side5 ?side6 A42.out).mono ?_);(case side1=>exact (Kd.C_below HR0_1.out HB.out));(case side2=>exact HC0_1.out);(case side3=>repeat (exact (Kd.R_reads' HO_7.out).2.2));(case side4=>exact (Kd.R_reads' HO_7.out).2.1);(case side5=>repeat (exact (Kd.R_reads' HO_9.out).2.2));(case side6=>exact (Kd.R_reads' HO_9.out).2.1);rintro e w62 ⟨rfl,hb⟩;refine ⟨_,rfl,?_⟩;have n0_:=am_ (Kd.R_below HO_7.out hb);have n1_:=am_ (Kd.R_below HO_9.out hb);have n2_:=am_ (Kd.R_below HO_10.out hb);have n3_:=am_ (blk_below BK200.out hb);have n4_:=am_ (below_step HB.out hb);clear HO_7 HO_9 HO_10 BK200 HB;have HO_7:=n0_;have HO_9:=n1_;have HO_10:=n2_;have BK200:=n3_;have HB:=n4_;clear n0_ n1_ n2_ n3_ n4_;(try clear hb);obtain ⟨Ao63,co63,eo63⟩:=Kd.R_slice HO_10.out;subst eo63;have p227 : 0 ≤ ((ji56) : Int):=of_decide_eq_true (by (with_reducible assumption));have q227 : (ji56) < (x10_3.length : Int):=of_decide_eq_true (by (with_reducible assumption));obtain ⟨ad227,e227,hx227_0⟩:=Kd.at_int (Kd.R_reads' HO_10.out).2.2 (ji56) p227 q227;cases e227;replace p227:=eq_true p227;replace q227:=eq_true q227;have p59 : 0 ≤ ((ji56) : Int):=of_decide_eq_true (by (with_reducible assumption));have q59 : ((ji56) : Int) < ((x10_3.length : Int) : Int):=of_decide_eq_true (by (with_reducible assumption));obtain ⟨go59,co59,eo59,gb59,gl59,cl59,HG59⟩:=Kd.R_form HO_10.out (by omega);(cases eo59);have GB59:=am_ gb59;have GG59:=am_ HG59;clear gb59 gl59 HG59;(simp only [add_plain] at hx227_0);obtain ⟨hx59_0,hf59_0⟩:=Kd.R_celln 0 HO_10.out ((ji56) : Int) p59 q59;replace p59:=eq_true p59;replace q59:=eq_true q59;obtain ⟨hy64_,hz64_⟩:=Kd.R_celln 0 HO_10.out ((ji56) : Int) (of_decide_eq_true (by (with_reducible assumption))) (of_decide_eq_true (by (with_reducible assumption)));have HP64:=Kd.R_putg HO_10.out ((ji56) : Int) (wrap64 ((rd x10_3 (ji56)) - 1)))|((with_reducible refine gate_store (t:=3) (p:=90) rfl ?_);refine store_event (t:=3) (p:=90) (v:=?vo_w65) (w1:=(w62.setCell ⟨go59,((ji56) : Int).toNat,none⟩ (.int .i64 (wrap64 ((rd x10_3 (ji56)) - 1))))) ?hg ?ho ?hn ?hr ?_;(case ho=>rfl);(case hg=>rfl);(case hn=>rfl);(case hr=>(go_simp;done));intro w65 hw;have hg : w62.grownBy w65 (some go59):=(by rw [hw];exact HP64.2);have hp_ : Kd.R (Kd.int .i64) 3 w65 w.heap.size (fun k_=>some k_ ≠ (.slice Ao32 x7_2.length co32 : Value).ownBlock ∧ some k_ ≠ (.slice (some ad213) t210.length co34 : Value).ownBlock) (.slice (some ⟨go59,0,none⟩) x10_3.length co63) y228:=(by rw [hw,Ny228.out];exact HP64.1);clear HP64;have n0_:=am_ (Kd.R_after (v:=(.slice (some ⟨go59,0,none⟩) x10_3.length co63)) (v1:=(.slice (some ⟨go59,0,none⟩) x10_3.length co63)) (ok:=(fun k_=>some k_ ≠ (.slice (some ad213) t210.length co34 : Value).ownBlock)) HO_7.out hg (.inl rfl));have n1_:=am_ (Kd.R_after (v:=(.slice (some ⟨go59,0,none⟩) x10_3.length co63)) (v1:=(.slice (some ⟨go59,0,none⟩) x10_3.length co63)) (ok:=(fun k_=>some k_ ≠ (.slice Ao32 x7_2.length co32 : Value).ownBlock)) HO_9.out hg (.inl rfl));have n2_:=am_ (hp_);have n3_:=am_ (blk_grown (g:=gb200) (o:=.cells #[.int .i64 a0_0,.slice A0_1 l0_1.length c0_1] 30 (0,0)) BK200.out hg (Kd.R_ne HO_10.out BK200.out (by decide)));have n4_:=am_ ((by rw [hw];exact below_set (HB.out) GB59.out : Below w.heap.size w w65));clear HO_7 HO_9 HO_10 BK200 HB;have HO_7:=n0_;have HO_9:=n1_;have HO_10:=n2_;have BK200:=n3_;have HB:=n4_;clear n0_ n1_ n2_ n3_ n4_ hg hw hp_;have hcz66_0 : w65.cell? ⟨gb200,0,none⟩ = some (.int .i64 a0_0):=(blk_cell BK200.out 0).trans rfl;have hcz66_1 : w65.cell? ⟨gb200,1,none⟩ = some (.slice A0_1 l0_1.length c0_1):=(blk_cell BK200.out 1).trans rfl;have hfz66_0:=blk_frozen BK200.out 0;have hfz66_1:=blk_frozen BK200.out 1;have p229 : 0 ≤ ((ji56) : Int):=of_decide_eq_true (by (with_reducible assumption));have q229 : (ji56) < (l0_1.length : Int):=of_decide_eq_true (by (with_reducible assumption));obtain ⟨ad229,e229,hx229_0,hx229_1,hx229_2,hx229_3⟩:=at_T67 HR0_1.out (ji56) p229 q229;cases e229;replace hx229_0:=kc_ HB.out hx229_0;replace hx229_1:=kc_ HB.out hx229_1;replace hx229_2:=kc_ HB.out hx229_2;replace hx229_3:=kc_ HB.out hx229_3;replace p229:=eq_true p229;replace q229:=eq_true q229))
          go_roundg kj37
          case measure=>have:=HJ2.out;have:=HK2.out;have:=HK3.out;have:=HJ37.out;omega
          case rel=>exact ⟨(y228),((rd_T67 l0_1 (ji56)).f1),(wrap64 (x12_3 + 1)),(by rfl),(by rfl),H',⟨by have:=HJ2.out;have:=HK2.out;have:=HK3.out;have:=HJ37.out;omega⟩,⟨by exact HO_7.out⟩,⟨by exact HO_9.out⟩,⟨by exact HO_10.out⟩,⟨by exact BK200.out⟩,⟨by exact HB.out⟩⟩
         rw [if_neg c60] at H
         exact absurd H (by simp)

/-! ### spec_LeastCost: function 27 -/
def spec_LeastCost.f (k : Nat) (a0_0 : Int) (l0_1 : List (S67)) (a1 : Int) : Option (Int):=(spec_Cheapest.f k a0_0 l0_1 a1).bind fun bt231=>(if bt231.2.2 = true then (some bt231.2.1) else (some (-1)))
theorem spec_LeastCost.mono : ∀ a0 a1 a2 k,LeO (spec_LeastCost.f k a0 a1 a2) (spec_LeastCost.f (k + 1) a0 a1 a2):=by
 intro a0 a1 a2 k
 unfold spec_LeastCost.f
 repeat' first
   | (with_reducible exact spec_Cheapest.mono _ _ _ _)
   | (with_reducible exact LeO.refl _)
   | (with_reducible refine LeO.bind ?_ (fun _ => ?_))
set_option maxHeartbeats 8000000 in
set_option maxRecDepth 100000 in
theorem spec_LeastCost.calls (k : Nat) (a0_0 : Int) (A0_1 : Option Addr) (c0_1 : Nat) (l0_1 : List (S67)) (a1 : Int) (r : Int) (w : World) (hr0_1 : Kd.C k67 w A0_1 l0_1.length l0_1) (hc0_1 : l0_1.length ≤ c0_1) (h : spec_LeastCost.f k a0_0 l0_1 a1 = some r) :
  Calls Try.prog 27 #[.agg #[.int .i64 a0_0,.slice A0_1 l0_1.length c0_1],.int .i64 a1] w fun e w'=>e = .returned (.int .i64 r) ∧ Below w.heap.size w w':=by
 have hu30:=Try.underlying30
 have HR0_1:=am_ hr0_1
 have HC0_1:=am_ hc0_1
 clear hr0_1 hc0_1
 have HB:=am_ (Below.refl w.heap.size w)
 have H : ((spec_Cheapest.f k a0_0 l0_1 a1).bind fun bt231=>(if bt231.2.2 = true then (some bt231.2.1) else (some (-1)))) = some r:=h
 clear h
 replace H:=Option.bind_eq_some_iff.mp H
 obtain ⟨⟨t231,t234,t235⟩,A30,H⟩:=H
 replace H : (if t235 = true then (some t234) else (some (-1))) = some r:=H
 have A3:=am_ A30
 clear A30
 by_cases c4 : t235 = true
 ·subst c4
  have H1 : (some t234) = some r:=by rw [if_pos rfl] at H;exact H
  clear H
  have H:=H1
  clear H1
  obtain rfl:=Option.some.inj H
  go_enter Try.func27,Try.ntmps27
  go_wp2_with (first|((with_reducible refine gate_dst (N:=2) rfl ?_);refine box_event ?hg (N:=2) ?hd (cs:=#[.int .i64 a0_0,.slice A0_1 l0_1.length c0_1]) (t:=30) ?hr ?_;(case hd=>rfl);(case hg=>rfl);(case hr=>(go_simp;done));intro gb230 hg w5 hbox hb;have n0_:=am_ (below_step HB.out hb);have n1_:=am_ (hbox);have n2_:=am_ ((by rw [hg];exact (below_size HB.out) : w.heap.size ≤ gb230));have n3_:=n2_;clear HB;have HB:=n0_;have BK230:=n1_;have GW230:=n2_;have GE230:=n3_;clear n0_ n1_ n2_ n3_ hb hbox hg;have hcz6_0 : w5.cell? ⟨gb230,0,none⟩ = some (.int .i64 a0_0):=(blk_cell BK230.out 0).trans rfl;have hcz6_1 : w5.cell? ⟨gb230,1,none⟩ = some (.slice A0_1 l0_1.length c0_1):=(blk_cell BK230.out 1).trans rfl;have hfz6_0:=blk_frozen BK230.out 0;have hfz6_1:=blk_frozen BK230.out 1)|((with_reducible refine gate_callee (f:=58) rfl ?_);refine goesL_ (some 11) rfl rfl Try.func58 (by kernel_rfl) rfl #[.agg #[.int .i64 a0_0,.slice A0_1 l0_1.length c0_1],.int .i64 a1] rfl (by (try simp only [List.map_toArray,List.map_cons,List.map_nil]);rfl) ?_;(with_reducible refine (spec_Cheapest.calls k a0_0 _ _ l0_1 a1 t231 t234 true _ ?side1 ?side2 A3.out).mono ?_);(case side1=>exact (Kd.C_below HR0_1.out HB.out));(case side2=>exact HC0_1.out);rintro e w7 ⟨v232,rfl,ho0,hb⟩;refine ⟨_,rfl,?_⟩;have n0_:=am_ (Kd.R_lower ho0 (below_size HB.out));have n1_:=am_ (blk_below BK230.out hb);have n2_:=am_ (below_step HB.out hb);clear BK230 HB;have HO233:=n0_;have BK230:=n1_;have HB:=n2_;clear n0_ n1_ n2_;(try clear hb);(try clear ho0)))
  go_ret
  exact ⟨by rfl,by exact HB.out⟩
 replace c4:=Bool.eq_false_iff.mpr c4
 subst c4
 have H1 : (some (-1)) = some r:=by rw [if_neg (show ¬ (false = true) by decide)] at H;exact H
 clear H
 have H:=H1
 clear H1
 obtain rfl:=Option.some.inj H
 go_enter Try.func27,Try.ntmps27
 go_wp2_with (first|((with_reducible refine gate_dst (N:=2) rfl ?_);refine box_event ?hg (N:=2) ?hd (cs:=#[.int .i64 a0_0,.slice A0_1 l0_1.length c0_1]) (t:=30) ?hr ?_;(case hd=>rfl);(case hg=>rfl);(case hr=>(go_simp;done));intro gb230 hg w8 hbox hb;have n0_:=am_ (below_step HB.out hb);have n1_:=am_ (hbox);have n2_:=am_ ((by rw [hg];exact (below_size HB.out) : w.heap.size ≤ gb230));have n3_:=n2_;clear HB;have HB:=n0_;have BK230:=n1_;have GW230:=n2_;have GE230:=n3_;clear n0_ n1_ n2_ n3_ hb hbox hg;have hcz9_0 : w8.cell? ⟨gb230,0,none⟩ = some (.int .i64 a0_0):=(blk_cell BK230.out 0).trans rfl;have hcz9_1 : w8.cell? ⟨gb230,1,none⟩ = some (.slice A0_1 l0_1.length c0_1):=(blk_cell BK230.out 1).trans rfl;have hfz9_0:=blk_frozen BK230.out 0;have hfz9_1:=blk_frozen BK230.out 1)|((with_reducible refine gate_callee (f:=58) rfl ?_);refine goesL_ (some 11) rfl rfl Try.func58 (by kernel_rfl) rfl #[.agg #[.int .i64 a0_0,.slice A0_1 l0_1.length c0_1],.int .i64 a1] rfl (by (try simp only [List.map_toArray,List.map_cons,List.map_nil]);rfl) ?_;(with_reducible refine (spec_Cheapest.calls k a0_0 _ _ l0_1 a1 t231 t234 false _ ?side1 ?side2 A3.out).mono ?_);(case side1=>exact (Kd.C_below HR0_1.out HB.out));(case side2=>exact HC0_1.out);rintro e w10 ⟨v232,rfl,ho0,hb⟩;refine ⟨_,rfl,?_⟩;have n0_:=am_ (Kd.R_lower ho0 (below_size HB.out));have n1_:=am_ (blk_below BK230.out hb);have n2_:=am_ (below_step HB.out hb);clear BK230 HB;have HO233:=n0_;have BK230:=n1_;have HB:=n2_;clear n0_ n1_ n2_;(try clear hb);(try clear ho0)))
 go_ret
 exact ⟨by rfl,by exact HB.out⟩

/-! ### impl_step_ends: function 55 -/
def impl_step_ends.f (a0_0 : Int) (a0_1 : Bool) (a1_0 : Int) (l1_1 : List (S67)) : Option (Int × Int):=if 0 ≤ a0_0 then (if a0_0 < (l1_1.length : Int) then (if a0_1 = true then (some ((rd_T67 l1_1 a0_0).f1,(rd_T67 l1_1 a0_0).f0)) else (some ((rd_T67 l1_1 a0_0).f0,(rd_T67 l1_1 a0_0).f1))) else (none)) else (none)
set_option maxHeartbeats 8000000 in
set_option maxRecDepth 100000 in
theorem impl_step_ends.calls (a0_0 : Int) (a0_1 : Bool) (a1_0 : Int) (A1_1 : Option Addr) (c1_1 : Nat) (l1_1 : List (S67)) (r1 : Int) (r2 : Int) (w : World) (hr1_1 : Kd.C k67 w A1_1 l1_1.length l1_1) (hc1_1 : l1_1.length ≤ c1_1) (h : impl_step_ends.f a0_0 a0_1 a1_0 l1_1 = some (r1,r2)) :
  Calls Try.prog 55 #[.agg #[.int .i64 a0_0,.bool a0_1],.agg #[.int .i64 a1_0,.slice A1_1 l1_1.length c1_1]] w fun e w'=>e = .returned (.tuple #[.int .i64 r1,.int .i64 r2]) ∧ Below w.heap.size w w':=by
 have hu79:=Try.underlying79
 have hu30:=Try.underlying30
 have hu67:=Try.underlying67
 have HR1_1:=am_ hr1_1
 have HC1_1:=am_ hc1_1
 clear hr1_1 hc1_1
 have HB:=am_ (Below.refl w.heap.size w)
 have H : (if 0 ≤ a0_0 then (if a0_0 < (l1_1.length : Int) then (if a0_1 = true then (some ((rd_T67 l1_1 a0_0).f1,(rd_T67 l1_1 a0_0).f0)) else (some ((rd_T67 l1_1 a0_0).f0,(rd_T67 l1_1 a0_0).f1))) else (none)) else (none)) = some (r1,r2):=h
 clear h
 by_cases c3 : 0 ≤ a0_0
 rotate_left
 ·rw [if_neg c3] at H
  exact absurd H (by simp)
 rw [if_pos c3] at H
 have c3b0 : decide (0 ≤ a0_0) = true:=decide_eq_true c3
 clear c3
 by_cases c4 : a0_0 < (l1_1.length : Int)
 rotate_left
 ·rw [if_neg c4] at H
  exact absurd H (by simp)
 rw [if_pos c4] at H
 have c4b0 : decide (a0_0 < (l1_1.length : Int)) = true:=decide_eq_true c4
 clear c4
 by_cases c5 : a0_1 = true
 ·subst c5
  have H1 : (some ((rd_T67 l1_1 a0_0).f1,(rd_T67 l1_1 a0_0).f0)) = some (r1,r2):=by rw [if_pos rfl] at H;exact H
  clear H
  have H:=H1
  clear H1
  simp only [Option.some.injEq,Prod.mk.injEq] at H
  obtain ⟨rfl,rfl⟩:=H
  go_enter Try.func55,Try.ntmps55
  go_wp2_with (first|((with_reducible refine gate_dst (N:=2) rfl ?_);refine box_event ?hg (N:=2) ?hd (cs:=#[.int .i64 a0_0,.bool true]) (t:=79) ?hr ?_;(case hd=>rfl);(case hg=>rfl);(case hr=>(go_simp;done));intro gb236 hg w6 hbox hb;have n0_:=am_ (below_step HB.out hb);have n1_:=am_ (hbox);have n2_:=am_ ((by rw [hg];exact (below_size HB.out) : w.heap.size ≤ gb236));have n3_:=n2_;clear HB;have HB:=n0_;have BK236:=n1_;have GW236:=n2_;have GE236:=n3_;clear n0_ n1_ n2_ n3_ hb hbox hg)|((with_reducible refine gate_dst (N:=3) rfl ?_);refine box_event ?hg (N:=3) ?hd (cs:=#[.int .i64 a1_0,.slice A1_1 l1_1.length c1_1]) (t:=30) ?hr ?_;(case hd=>rfl);(case hg=>rfl);(case hr=>(go_simp;done));intro gb237 hg w7 hbox hb;have n0_:=am_ (blk_below BK236.out hb);have n1_:=am_ (below_step HB.out hb);have n2_:=am_ (hbox);have n3_:=am_ ((by rw [hg];exact (below_size HB.out) : w.heap.size ≤ gb237));have n4_:=n3_;have n5_:=am_ ((by rw [hg];exact Nat.ne_of_lt (blk_lt (g:=gb236) (o:=.cells #[.int .i64 a0_0,.bool true] 79 (0,0)) BK236.out) : gb236 ≠ gb237));have n6_:=am_ ((by rw [hg];exact Nat.ne_of_gt (blk_lt (g:=gb236) (o:=.cells #[.int .i64 a0_0,.bool true] 79 (0,0)) BK236.out) : gb237 ≠ gb236));clear BK236 HB;have BK236:=n0_;have HB:=n1_;have BK237:=n2_;have GW237:=n3_;have GE237:=n4_;have NB236_237:=n5_;have NB237_236:=n6_;clear n0_ n1_ n2_ n3_ n4_ n5_ n6_ hb hbox hg;have hnb8:=NB237_236.out;have hnc8:=NB236_237.out;have hcz9_0 : w7.cell? ⟨gb237,0,none⟩ = some (.int .i64 a1_0):=(blk_cell BK237.out 0).trans rfl;have hcz9_1 : w7.cell? ⟨gb237,1,none⟩ = some (.slice A1_1 l1_1.length c1_1):=(blk_cell BK237.out 1).trans rfl;have hfz9_0:=blk_frozen BK237.out 0;have hfz9_1:=blk_frozen BK237.out 1;have hcz10_0 : w7.cell? ⟨gb236,0,none⟩ = some (.int .i64 a0_0):=(blk_cell BK236.out 0).trans rfl;have hcz10_1 : w7.cell? ⟨gb236,1,none⟩ = some (.bool true):=(blk_cell BK236.out 1).trans rfl;have hfz10_0:=blk_frozen BK236.out 0;have hfz10_1:=blk_frozen BK236.out 1;have p238 : 0 ≤ (a0_0 : Int):=of_decide_eq_true (by (with_reducible assumption));have q238 : a0_0 < (l1_1.length : Int):=of_decide_eq_true (by (with_reducible assumption));obtain ⟨ad238,e238,hx238_0,hx238_1,hx238_2,hx238_3⟩:=at_T67 HR1_1.out a0_0 p238 q238;cases e238;replace hx238_0:=kc_ HB.out hx238_0;replace hx238_1:=kc_ HB.out hx238_1;replace hx238_2:=kc_ HB.out hx238_2;replace hx238_3:=kc_ HB.out hx238_3;replace p238:=eq_true p238;replace q238:=eq_true q238)|((with_reducible refine gate_dst (N:=6) rfl ?_);refine box_event ?hg (N:=6) ?hd (cs:=#[.int .i64 0,.int .i64 0,.int .i64 0,.int .i64 0]) (t:=67) ?hr ?_;(case hd=>rfl);(case hg=>rfl);(case hr=>(go_simp;done));intro gb239 hg w11 hbox hb;have n0_:=am_ (blk_below BK236.out hb);have n1_:=am_ (blk_below BK237.out hb);have n2_:=am_ (below_step HB.out hb);have n3_:=am_ (hbox);have n4_:=am_ ((by rw [hg];exact (below_size HB.out) : w.heap.size ≤ gb239));have n5_:=n4_;have n6_:=am_ ((by rw [hg];exact Nat.ne_of_lt (blk_lt (g:=gb236) (o:=.cells #[.int .i64 a0_0,.bool true] 79 (0,0)) BK236.out) : gb236 ≠ gb239));have n7_:=am_ ((by rw [hg];exact Nat.ne_of_gt (blk_lt (g:=gb236) (o:=.cells #[.int .i64 a0_0,.bool true] 79 (0,0)) BK236.out) : gb239 ≠ gb236));have n8_:=am_ ((by rw [hg];exact Nat.ne_of_lt (blk_lt (g:=gb237) (o:=.cells #[.int .i64 a1_0,.slice (some ad238) l1_1.length c1_1] 30 (0,0)) BK237.out) : gb237 ≠ gb239));have n9_:=am_ ((by rw [hg];exact Nat.ne_of_gt (blk_lt (g:=gb237) (o:=.cells #[.int .i64 a1_0,.slice (some ad238) l1_1.length c1_1] 30 (0,0)) BK237.out) : gb239 ≠ gb237));clear BK236 BK237 HB;have BK236:=n0_;have BK237:=n1_;have HB:=n2_;have BK239:=n3_;have GW239:=n4_;have GE239:=n5_;have NB236_239:=n6_;have NB239_236:=n7_;have NB237_239:=n8_;have NB239_237:=n9_;clear n0_ n1_ n2_ n3_ n4_ n5_ n6_ n7_ n8_ n9_ hb hbox hg;have hnb12:=NB239_236.out;have hnc12:=NB236_239.out;have hnb13:=NB239_237.out;have hnc13:=NB237_239.out;have hcz14_0 : w11.cell? ⟨gb239,0,none⟩ = some (.int .i64 0):=(blk_cell BK239.out 0).trans rfl;have hcz14_1 : w11.cell? ⟨gb239,1,none⟩ = some (.int .i64 0):=(blk_cell BK239.out 1).trans rfl;have hcz14_2 : w11.cell? ⟨gb239,2,none⟩ = some (.int .i64 0):=(blk_cell BK239.out 2).trans rfl;have hcz14_3 : w11.cell? ⟨gb239,3,none⟩ = some (.int .i64 0):=(blk_cell BK239.out 3).trans rfl;have hfz14_0:=blk_frozen BK239.out 0;have hfz14_1:=blk_frozen BK239.out 1;have hfz14_2:=blk_frozen BK239.out 2;have hfz14_3:=blk_frozen BK239.out 3;have hcz15_0 : w11.cell? ⟨gb236,0,none⟩ = some (.int .i64 a0_0):=(blk_cell BK236.out 0).trans rfl;have hcz15_1 : w11.cell? ⟨gb236,1,none⟩ = some (.bool true):=(blk_cell BK236.out 1).trans rfl;have hfz15_0:=blk_frozen BK236.out 0;have hfz15_1:=blk_frozen BK236.out 1))
  repeat (go_quiet (fail);try go_wp2_with (fail))
  go_ret2
  exact ⟨by rfl,by repeat ((with_reducible first|exact HB.out|apply pw_below_drewN|refine below_set ?_ GE239.out))⟩
 replace c5:=Bool.eq_false_iff.mpr c5
 subst c5
 have H1 : (some ((rd_T67 l1_1 a0_0).f0,(rd_T67 l1_1 a0_0).f1)) = some (r1,r2):=by rw [if_neg (show ¬ (false = true) by decide)] at H;exact H
 clear H
 have H:=H1
 clear H1
 simp only [Option.some.injEq,Prod.mk.injEq] at H
 obtain ⟨rfl,rfl⟩:=H
 go_enter Try.func55,Try.ntmps55
 go_wp2_with (first|((with_reducible refine gate_dst (N:=2) rfl ?_);refine box_event ?hg (N:=2) ?hd (cs:=#[.int .i64 a0_0,.bool false]) (t:=79) ?hr ?_;(case hd=>rfl);(case hg=>rfl);(case hr=>(go_simp;done));intro gb236 hg w16 hbox hb;have n0_:=am_ (below_step HB.out hb);have n1_:=am_ (hbox);have n2_:=am_ ((by rw [hg];exact (below_size HB.out) : w.heap.size ≤ gb236));have n3_:=n2_;clear HB;have HB:=n0_;have BK236:=n1_;have GW236:=n2_;have GE236:=n3_;clear n0_ n1_ n2_ n3_ hb hbox hg)|((with_reducible refine gate_dst (N:=3) rfl ?_);refine box_event ?hg (N:=3) ?hd (cs:=#[.int .i64 a1_0,.slice A1_1 l1_1.length c1_1]) (t:=30) ?hr ?_;(case hd=>rfl);(case hg=>rfl);(case hr=>(go_simp;done));intro gb237 hg w17 hbox hb;have n0_:=am_ (blk_below BK236.out hb);have n1_:=am_ (below_step HB.out hb);have n2_:=am_ (hbox);have n3_:=am_ ((by rw [hg];exact (below_size HB.out) : w.heap.size ≤ gb237));have n4_:=n3_;have n5_:=am_ ((by rw [hg];exact Nat.ne_of_lt (blk_lt (g:=gb236) (o:=.cells #[.int .i64 a0_0,.bool false] 79 (0,0)) BK236.out) : gb236 ≠ gb237));have n6_:=am_ ((by rw [hg];exact Nat.ne_of_gt (blk_lt (g:=gb236) (o:=.cells #[.int .i64 a0_0,.bool false] 79 (0,0)) BK236.out) : gb237 ≠ gb236));clear BK236 HB;have BK236:=n0_;have HB:=n1_;have BK237:=n2_;have GW237:=n3_;have GE237:=n4_;have NB236_237:=n5_;have NB237_236:=n6_;clear n0_ n1_ n2_ n3_ n4_ n5_ n6_ hb hbox hg;have hnb18:=NB237_236.out;have hnc18:=NB236_237.out;have hcz19_0 : w17.cell? ⟨gb237,0,none⟩ = some (.int .i64 a1_0):=(blk_cell BK237.out 0).trans rfl;have hcz19_1 : w17.cell? ⟨gb237,1,none⟩ = some (.slice A1_1 l1_1.length c1_1):=(blk_cell BK237.out 1).trans rfl;have hfz19_0:=blk_frozen BK237.out 0;have hfz19_1:=blk_frozen BK237.out 1;have hcz20_0 : w17.cell? ⟨gb236,0,none⟩ = some (.int .i64 a0_0):=(blk_cell BK236.out 0).trans rfl;have hcz20_1 : w17.cell? ⟨gb236,1,none⟩ = some (.bool false):=(blk_cell BK236.out 1).trans rfl;have hfz20_0:=blk_frozen BK236.out 0;have hfz20_1:=blk_frozen BK236.out 1;have p238 : 0 ≤ (a0_0 : Int):=of_decide_eq_true (by (with_reducible assumption));have q238 : a0_0 < (l1_1.length : Int):=of_decide_eq_true (by (with_reducible assumption));obtain ⟨ad238,e238,hx238_0,hx238_1,hx238_2,hx238_3⟩:=at_T67 HR1_1.out a0_0 p238 q238;cases e238;replace hx238_0:=kc_ HB.out hx238_0;replace hx238_1:=kc_ HB.out hx238_1;replace hx238_2:=kc_ HB.out hx238_2;replace hx238_3:=kc_ HB.out hx238_3;replace p238:=eq_true p238;replace q238:=eq_true q238)|((with_reducible refine gate_dst (N:=6) rfl ?_);refine box_event ?hg (N:=6) ?hd (cs:=#[.int .i64 0,.int .i64 0,.int .i64 0,.int .i64 0]) (t:=67) ?hr ?_;(case hd=>rfl);(case hg=>rfl);(case hr=>(go_simp;done));intro gb239 hg w21 hbox hb;have n0_:=am_ (blk_below BK236.out hb);have n1_:=am_ (blk_below BK237.out hb);have n2_:=am_ (below_step HB.out hb);have n3_:=am_ (hbox);have n4_:=am_ ((by rw [hg];exact (below_size HB.out) : w.heap.size ≤ gb239));have n5_:=n4_;have n6_:=am_ ((by rw [hg];exact Nat.ne_of_lt (blk_lt (g:=gb236) (o:=.cells #[.int .i64 a0_0,.bool false] 79 (0,0)) BK236.out) : gb236 ≠ gb239));have n7_:=am_ ((by rw [hg];exact Nat.ne_of_gt (blk_lt (g:=gb236) (o:=.cells #[.int .i64 a0_0,.bool false] 79 (0,0)) BK236.out) : gb239 ≠ gb236));have n8_:=am_ ((by rw [hg];exact Nat.ne_of_lt (blk_lt (g:=gb237) (o:=.cells #[.int .i64 a1_0,.slice (some ad238) l1_1.length c1_1] 30 (0,0)) BK237.out) : gb237 ≠ gb239));have n9_:=am_ ((by rw [hg];exact Nat.ne_of_gt (blk_lt (g:=gb237) (o:=.cells #[.int .i64 a1_0,.slice (some ad238) l1_1.length c1_1] 30 (0,0)) BK237.out) : gb239 ≠ gb237));clear BK236 BK237 HB;have BK236:=n0_;have BK237:=n1_;have HB:=n2_;have BK239:=n3_;have GW239:=n4_;have GE239:=n5_;have NB236_239:=n6_;have NB239_236:=n7_;have NB237_239:=n8_;have NB239_237:=n9_;clear n0_ n1_ n2_ n3_ n4_ n5_ n6_ n7_ n8_ n9_ hb hbox hg;have hnb22:=NB239_236.out;have hnc22:=NB236_239.out;have hnb23:=NB239_237.out;have hnc23:=NB237_239.out;have hcz24_0 : w21.cell? ⟨gb239,0,none⟩ = some (.int .i64 0):=(blk_cell BK239.out 0).trans rfl;have hcz24_1 : w21.cell? ⟨gb239,1,none⟩ = some (.int .i64 0):=(blk_cell BK239.out 1).trans rfl;have hcz24_2 : w21.cell? ⟨gb239,2,none⟩ = some (.int .i64 0):=(blk_cell BK239.out 2).trans rfl;have hcz24_3 : w21.cell? ⟨gb239,3,none⟩ = some (.int .i64 0):=(blk_cell BK239.out 3).trans rfl;have hfz24_0:=blk_frozen BK239.out 0;have hfz24_1:=blk_frozen BK239.out 1;have hfz24_2:=blk_frozen BK239.out 2;have hfz24_3:=blk_frozen BK239.out 3;have hcz25_0 : w21.cell? ⟨gb236,0,none⟩ = some (.int .i64 a0_0):=(blk_cell BK236.out 0).trans rfl;have hcz25_1 : w21.cell? ⟨gb236,1,none⟩ = some (.bool false):=(blk_cell BK236.out 1).trans rfl;have hfz25_0:=blk_frozen BK236.out 0;have hfz25_1:=blk_frozen BK236.out 1))
 repeat (go_quiet (fail);try go_wp2_with (fail))
 go_ret2
 exact ⟨by rfl,by repeat ((with_reducible first|exact HB.out|apply pw_below_drewN|refine below_set ?_ GE239.out))⟩

end Go.Proofs.Ytgkpgigoonhgdaa.PFnExactLeastCost
