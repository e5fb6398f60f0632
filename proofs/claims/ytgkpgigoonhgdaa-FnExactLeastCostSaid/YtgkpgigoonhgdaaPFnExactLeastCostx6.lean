-- Made by the session's wip/pp.py, a changed call of the kit's printer; Lean checks it.
import Derived.Test.YtgkpgigoonhgdaaPFnExactLeastCostx0
import Derived.Test.YtgkpgigoonhgdaaPFnExactLeastCostx1
import Derived.Test.YtgkpgigoonhgdaaPFnExactLeastCostx2
import Derived.Test.YtgkpgigoonhgdaaPFnExactLeastCostx5
namespace Go.Proofs.Ytgkpgigoonhgdaa.PFnExactLeastCost
open Go.RowKit Go.Proofs.YtgkpgigoonhgdaaW.PrintWords Go.Proofs.YtgkpgigoonhgdaaW.PrintLast Go.Proofs.YtgkpgigoonhgdaaW.PrintMore
attribute [local go_sem] max2_int min2_int max_two min_two max_three min_three max_four min_four   -- for this text's walks alone
set_option linter.unusedVariables false
set_option linter.unusedSimpArgs false

/-! ### spec_FlowOk: function 45 -/
mutual
def spec_FlowOk.j0 : Nat → List Int → Bool → Int → List (S67) → Option (Bool)
 | 0, _, _, _, _ => none
 | k + 1, x1, x18, x188000, x188001 => if x18 = true then (some false) else (spec_FlowOk.l0 k x1 0 x188000 x188001)
def spec_FlowOk.l0 : Nat → List Int → Int → Int → List (S67) → Option (Bool)
 | 0, _, _, _, _ => none
 | k + 1, x1, x5, x188000, x188001 => if x5 < (x1.length : Int) then (if 0 ≤ x5 then (if x5 < (x188001.length : Int) then ((spec_l01In.f (rd x1 x5) 0 ((rd_T67 x188001 x5).f2)).bind fun t191 => (if t191 = true then (spec_FlowOk.l0 k x1 (wrap64 (x5 + 1)) x188000 x188001) else (some false))) else (none)) else (none)) else ((spec_l06Out.f k x188000 x188001 x1).bind fun t192 => (spec_FlowOk.l1 k t192 2 x188000 x188001))
def spec_FlowOk.l1 : Nat → List Int → Int → Int → List (S67) → Option (Bool)
 | 0, _, _, _, _ => none
 | k + 1, x6, x7, x188000, x188001 => if x7 < x188000 then (if 0 ≤ x7 then (if x7 < (x6.length : Int) then (if (rd x6 x7) = 0 then (spec_FlowOk.l1 k x6 (wrap64 (x7 + 1)) x188000 x188001) else (some false)) else (none)) else (none)) else (some true)
end
def spec_FlowOk.f (k : Nat) (a0_0 : Int) (l0_1 : List (S67)) (l1 : List Int) : Option (Bool):=(spec_NetOk.f k a0_0 l0_1).bind fun t188=>(if t188 = true then (spec_FlowOk.j0 k l1 ((l1.length : Int) != (l0_1.length : Int)) a0_0 l0_1) else (spec_FlowOk.j0 k l1 true a0_0 l0_1))
theorem spec_FlowOk.mono_l : ∀ k,(∀ y0 y1 y2 y3,LeO (spec_FlowOk.j0 k y0 y1 y2 y3) (spec_FlowOk.j0 (k + 1) y0 y1 y2 y3)) ∧ (∀ y0 y1 y2 y3,LeO (spec_FlowOk.l0 k y0 y1 y2 y3) (spec_FlowOk.l0 (k + 1) y0 y1 y2 y3)) ∧ (∀ y0 y1 y2 y3,LeO (spec_FlowOk.l1 k y0 y1 y2 y3) (spec_FlowOk.l1 (k + 1) y0 y1 y2 y3))
 | 0 => ⟨fun _ _ _ _ r h => by simp [spec_FlowOk.j0] at h, fun _ _ _ _ r h => by simp [spec_FlowOk.l0] at h, fun _ _ _ _ r h => by simp [spec_FlowOk.l1] at h⟩
 | k + 1 => by
  obtain ⟨ih0,ih1,ih2⟩:=spec_FlowOk.mono_l k
  refine ⟨?_,?_,?_⟩
  ·intro y0 y1 y2 y3
   unfold spec_FlowOk.j0
   repeat' first
   | (with_reducible exact ih1 _ _ _ _)
   | (with_reducible exact LeO.refl _)
   | (with_reducible refine LeO.ite ?_ ?_)
  ·intro y0 y1 y2 y3
   unfold spec_FlowOk.l0
   repeat' first
   | (with_reducible exact ih1 _ _ _ _)
   | (with_reducible exact ih2 _ _ _ _)
   | (with_reducible exact spec_l06Out.mono _ _ _ _)
   | (with_reducible exact LeO.refl _)
   | (with_reducible refine LeO.ite ?_ ?_)
   | (with_reducible refine LeO.bind ?_ (fun _ => ?_))
  ·intro y0 y1 y2 y3
   unfold spec_FlowOk.l1
   repeat' first
   | (with_reducible exact ih2 _ _ _ _)
   | (with_reducible exact LeO.refl _)
   | (with_reducible refine LeO.ite ?_ ?_)
theorem spec_FlowOk.mono : ∀ a0 a1 a2 k,LeO (spec_FlowOk.f k a0 a1 a2) (spec_FlowOk.f (k + 1) a0 a1 a2):=by
 intro a0 a1 a2 k
 obtain ⟨ih0,ih1,ih2⟩:=spec_FlowOk.mono_l k
 unfold spec_FlowOk.f
 repeat' first
   | (with_reducible exact ih0 _ _ _ _)
   | (with_reducible exact spec_NetOk.mono _ _ _)
   | (with_reducible refine LeO.ite ?_ ?_)
   | (with_reducible refine LeO.bind ?_ (fun _ => ?_))
set_option maxHeartbeats 8000000 in
set_option maxRecDepth 100000 in
theorem spec_FlowOk.calls (k : Nat) (a0_0 : Int) (A0_1 : Option Addr) (c0_1 : Nat) (l0_1 : List (S67)) (A1 : Option Addr) (c1 : Nat) (l1 : List Int) (r : Bool) (w : World) (hr0_1 : Kd.C k67 w A0_1 l0_1.length l0_1) (hc0_1 : l0_1.length ≤ c0_1) (hr1 : Kd.C (Kd.int .i64) w A1 l1.length l1) (hc1 : l1.length ≤ c1) (h : spec_FlowOk.f k a0_0 l0_1 l1 = some r) :
  Calls Try.prog 45 #[.agg #[.int .i64 a0_0,.slice A0_1 l0_1.length c0_1],.slice A1 l1.length c1] w fun e w'=>e = .returned (.bool r) ∧ Below w.heap.size w w':=by
 have hu30:=Try.underlying30
 have HR0_1:=am_ hr0_1
 have HC0_1:=am_ hc0_1
 clear hr0_1 hc0_1
 have HR1:=am_ hr1
 have HC1:=am_ hc1
 clear hr1 hc1
 have HB:=am_ (Below.refl w.heap.size w)
 have H : ((spec_NetOk.f k a0_0 l0_1).bind fun t188=>(if t188 = true then (spec_FlowOk.j0 k l1 ((l1.length : Int) != (l0_1.length : Int)) a0_0 l0_1) else (spec_FlowOk.j0 k l1 true a0_0 l0_1))) = some r:=h
 clear h
 have HC3:=am_ H
 clear H
 go_enter Try.func45,Try.ntmps45
 go_upto_region 1 with (((with_reducible refine gate_dst (N:=2) rfl ?_);(try (refine gate_guard (by rfl) ?_;dsimp only));refine box_event ?hg (N:=2) ?hd (cs:=#[.int .i64 a0_0,.slice A0_1 l0_1.length c0_1]) (t:=30) ?hr ?_;(case hd=>rfl);(case hg=>rfl);(case hr=>(go_simp;done));intro gb187 hg w4 hbox hb;have n0_:=am_ (below_step HB.out hb);have n1_:=am_ (hbox);have n2_:=am_ ((by rw [hg];exact (below_size HB.out) : w.heap.size ≤ gb187));have n3_:=n2_;clear HB;have HB:=n0_;have BK187:=n1_;have GW187:=n2_;have GE187:=n3_;clear n0_ n1_ n2_ n3_ hb hbox hg))
 repeat (go_quiet (fail);go_upto_region 1 with (fail))
 (skip)
 go_cut [18] (fun v18 wc=>∃ (kq : Nat) (x18_2 : Bool),v18 = .bool x18_2 ∧ Aside0 (spec_FlowOk.j0 kq l1 x18_2 a0_0 l0_1 = some r) ∧ Aside0 (kq ≤ k) ∧ Aside0 (wc.heap[gb187]? = some (.cells #[.int .i64 a0_0,(.slice A0_1 l0_1.length c0_1)] 30 (0,0))) ∧ Aside0 (Below w.heap.size w wc))
 case first =>
  have H:=HC3.out
  clear HC3
  replace H:=Option.bind_eq_some_iff.mp H
  obtain ⟨t188,A50,H⟩:=H
  replace H : (if t188 = true then (spec_FlowOk.j0 k l1 ((l1.length : Int) != (l0_1.length : Int)) a0_0 l0_1) else (spec_FlowOk.j0 k l1 true a0_0 l0_1)) = some r:=H
  have A5:=am_ A50
  clear A50
  by_cases c6 : t188 = true
  ·subst c6
   have H1 : (spec_FlowOk.j0 k l1 ((l1.length : Int) != (l0_1.length : Int)) a0_0 l0_1) = some r:=by rw [if_pos rfl] at H;exact H
   clear H
   have H:=H1
   clear H1
   have H':=am_ H
   clear H
   have hcz7_0 : w4.cell? ⟨gb187,0,none⟩ = some (.int .i64 a0_0):=(blk_cell BK187.out 0).trans rfl
   have hcz7_1 : w4.cell? ⟨gb187,1,none⟩ = some (.slice A0_1 l0_1.length c0_1):=(blk_cell BK187.out 1).trans rfl
   have hfz7_0:=blk_frozen BK187.out 0
   have hfz7_1:=blk_frozen BK187.out 1
   go_wp2_with ((go_at_call 51;(with_reducible refine (spec_NetOk.calls k a0_0 _ _ l0_1 true _ ?side1 ?side2 A5.out).mono ?_);(case side1=>exact (Kd.C_below HR0_1.out HB.out));(case side2=>exact HC0_1.out);rintro e w8 ⟨rfl,hb⟩;have n0_:=am_ (blk_below BK187.out hb);have n1_:=am_ (below_step HB.out hb);clear BK187 HB;have BK187:=n0_;have HB:=n1_;clear n0_ n1_;(try clear hb);have hcz9_0 : w8.cell? ⟨gb187,0,none⟩ = some (.int .i64 a0_0):=(blk_cell BK187.out 0).trans rfl;have hcz9_1 : w8.cell? ⟨gb187,1,none⟩ = some (.slice A0_1 l0_1.length c0_1):=(blk_cell BK187.out 1).trans rfl;have hfz9_0:=blk_frozen BK187.out 0;have hfz9_1:=blk_frozen BK187.out 1))
   repeat (go_quiet (fail);try go_wp2_with (fail))
   go_meet
   case rel=>exact ⟨_,(((l1.length : Int) != (l0_1.length : Int))),(by rfl),H',⟨by omega⟩,⟨by exact BK187.out⟩,⟨by exact HB.out⟩⟩
  replace c6:=Bool.eq_false_iff.mpr c6
  subst c6
  have H1 : (spec_FlowOk.j0 k l1 true a0_0 l0_1) = some r:=by rw [if_neg (show ¬ (false = true) by decide)] at H;exact H
  clear H
  have H:=H1
  clear H1
  have H':=am_ H
  clear H
  have hcz10_0 : w4.cell? ⟨gb187,0,none⟩ = some (.int .i64 a0_0):=(blk_cell BK187.out 0).trans rfl
  have hcz10_1 : w4.cell? ⟨gb187,1,none⟩ = some (.slice A0_1 l0_1.length c0_1):=(blk_cell BK187.out 1).trans rfl
  have hfz10_0:=blk_frozen BK187.out 0
  have hfz10_1:=blk_frozen BK187.out 1
  go_wp2_with ((go_at_call 51;(with_reducible refine (spec_NetOk.calls k a0_0 _ _ l0_1 false _ ?side1 ?side2 A5.out).mono ?_);(case side1=>exact (Kd.C_below HR0_1.out HB.out));(case side2=>exact HC0_1.out);rintro e w11 ⟨rfl,hb⟩;have n0_:=am_ (blk_below BK187.out hb);have n1_:=am_ (below_step HB.out hb);clear BK187 HB;have BK187:=n0_;have HB:=n1_;clear n0_ n1_;(try clear hb)))
  repeat (go_quiet (fail);try go_wp2_with (fail))
  go_meet
  case rel=>exact ⟨_,(true),(by rfl),H',⟨by omega⟩,⟨by exact BK187.out⟩,⟨by exact HB.out⟩⟩
 case rest =>
  clear HC3
  try clear c1
  try clear p2
  try clear c4
  try clear c6
  try clear hcz10_0
  try clear hcz10_1
  try clear hcz7_0
  try clear hcz7_1
  try clear hcz9_0
  try clear hcz9_1
  try clear hfz10_0
  try clear hfz10_1
  try clear hfz7_0
  try clear hfz7_1
  try clear hfz9_0
  try clear hfz9_1
  obtain ⟨kq,x18_2,rfl,HA,HJ2,BK187,HB⟩:=hcut
  cases kq with
  | zero => exact absurd HA.out (by simp [spec_FlowOk.j0])
  | succ kj2 =>
   have H:=HA.out
   clear HA
   simp only [spec_FlowOk.j0] at H
   by_cases c12 : x18_2 = true
   ·subst c12
    have H1 : (some false) = some r:=by rw [if_pos rfl] at H;exact H
    clear H
    have H:=H1
    clear H1
    obtain rfl:=Option.some.inj H
    go_wp2
    repeat (go_quiet (fail);try go_wp2)
    go_ret
    exact ⟨by rfl,by exact HB.out⟩
   replace c12:=Bool.eq_false_iff.mpr c12
   subst c12
   have H1 : (spec_FlowOk.l0 kj2 l1 0 a0_0 l0_1) = some r:=by rw [if_neg (show ¬ (false = true) by decide)] at H;exact H
   clear H
   have H:=H1
   clear H1
   have H':=am_ H
   clear H
   go_wp2
   repeat (go_quiet (fail);try go_wp2)
   go_loopg [5] kj2 (fun kq v5 w'=>∃ (x5_2 : Int),v5 = .int .i64 x5_2 ∧ Aside0 (spec_FlowOk.l0 kq l1 x5_2 a0_0 l0_1 = some r) ∧ Aside0 (kq ≤ kj2) ∧ Aside0 (w'.heap[gb187]? = some (.cells #[.int .i64 a0_0,(.slice A0_1 l0_1.length c0_1)] 30 (0,0))) ∧ Aside0 (Below w.heap.size w w'))
   case atStart=>exact ⟨(0),(by rfl),H',⟨Nat.le_refl _⟩,⟨by exact BK187.out⟩,⟨by exact HB.out⟩⟩
   case round =>
    clear H'
    try clear c1
    try clear p2
    try clear c4
    try clear c6
    try clear c12
    try clear hcz10_0
    try clear hcz10_1
    try clear hcz7_0
    try clear hcz7_1
    try clear hcz9_0
    try clear hcz9_1
    try clear hfz10_0
    try clear hfz10_1
    try clear hfz7_0
    try clear hfz7_1
    try clear hfz9_0
    try clear hfz9_1
    try clear p2
    obtain ⟨x5_2,rfl,HA,HK2,BK187,HB⟩:=hrel
    cases gk with
    | zero => exact absurd HA.out (by simp [spec_FlowOk.l0])
    | succ k2 =>
     have H:=HA.out
     clear HA
     simp only [spec_FlowOk.l0] at H
     by_cases c13 : x5_2 < (l1.length : Int)
     ·rw [if_pos c13] at H
      have c13b0 : decide (x5_2 < (l1.length : Int)) = true:=decide_eq_true c13
      clear c13
      by_cases c14 : 0 ≤ x5_2
      rotate_left
      ·rw [if_neg c14] at H
       exact absurd H (by simp)
      rw [if_pos c14] at H
      have c14b0 : decide (0 ≤ x5_2) = true:=decide_eq_true c14
      clear c14
      by_cases c15 : x5_2 < (l0_1.length : Int)
      rotate_left
      ·rw [if_neg c15] at H
       exact absurd H (by simp)
      rw [if_pos c15] at H
      have c15b0 : decide (x5_2 < (l0_1.length : Int)) = true:=decide_eq_true c15
      clear c15
      replace H:=Option.bind_eq_some_iff.mp H
      obtain ⟨t191,A160,H⟩:=H
      replace H : (if t191 = true then (spec_FlowOk.l0 k2 l1 (wrap64 (x5_2 + 1)) a0_0 l0_1) else (some false)) = some r:=H
      have A16:=am_ A160
      clear A160
      by_cases c17 : t191 = true
      ·subst c17
       have H1 : (spec_FlowOk.l0 k2 l1 (wrap64 (x5_2 + 1)) a0_0 l0_1) = some r:=by rw [if_pos rfl] at H;exact H
       clear H
       have H:=H1
       clear H1
       have H':=am_ H
       clear H
       have p189 : 0 ≤ (x5_2 : Int):=of_decide_eq_true (by (with_reducible assumption))
       have q189 : x5_2 < (l1.length : Int):=of_decide_eq_true (by (with_reducible assumption))
       obtain ⟨ad189,e189,hx189_0⟩:=Kd.at_int HR1.out x5_2 p189 q189
       cases e189
       replace hx189_0:=kc_ HB.out hx189_0
       replace p189:=eq_true p189
       replace q189:=eq_true q189
       have hcz18_0 : wr.cell? ⟨gb187,0,none⟩ = some (.int .i64 a0_0):=(blk_cell BK187.out 0).trans rfl
       have hcz18_1 : wr.cell? ⟨gb187,1,none⟩ = some (.slice A0_1 l0_1.length c0_1):=(blk_cell BK187.out 1).trans rfl
       have hfz18_0:=blk_frozen BK187.out 0
       have hfz18_1:=blk_frozen BK187.out 1
       have p190 : 0 ≤ (x5_2 : Int):=of_decide_eq_true (by (with_reducible assumption))
       have q190 : x5_2 < (l0_1.length : Int):=of_decide_eq_true (by (with_reducible assumption))
       obtain ⟨ad190,e190,hx190_0,hx190_1,hx190_2,hx190_3⟩:=at_T67 HR0_1.out x5_2 p190 q190
       cases e190
       replace hx190_0:=kc_ HB.out hx190_0
       replace hx190_1:=kc_ HB.out hx190_1
       replace hx190_2:=kc_ HB.out hx190_2
       replace hx190_3:=kc_ HB.out hx190_3
       replace p190:=eq_true p190
       replace q190:=eq_true q190
       go_wp2_with (fail)
       repeat (go_quiet ((go_at_call 68;(with_reducible refine (spec_l01In.calls (rd l1 x5_2) 0 ((rd_T67 l0_1 x5_2).f2) true _ A16.out).mono ?_);rintro e w' ⟨rfl,⟨nd,rfl⟩⟩;(try exact ⟨rfl,_,World.drewN_drewN _ _ _⟩)));try go_wp2_with (fail))
       go_roundg k2
       case measure=>have:=HJ2.out;have:=HK2.out;omega
       case rel=>exact ⟨(wrap64 (x5_2 + 1)),(by rfl),H',⟨by have:=HJ2.out;have:=HK2.out;omega⟩,⟨by (with_reducible repeat (refine blk_drewN ?_ _));exact BK187.out⟩,⟨by repeat ((with_reducible first|exact HB.out|apply pw_below_drewN))⟩⟩
      replace c17:=Bool.eq_false_iff.mpr c17
      subst c17
      have H1 : (some false) = some r:=by rw [if_neg (show ¬ (false = true) by decide)] at H;exact H
      clear H
      have H:=H1
      clear H1
      obtain rfl:=Option.some.inj H
      have p189 : 0 ≤ (x5_2 : Int):=of_decide_eq_true (by (with_reducible assumption))
      have q189 : x5_2 < (l1.length : Int):=of_decide_eq_true (by (with_reducible assumption))
      obtain ⟨ad189,e189,hx189_0⟩:=Kd.at_int HR1.out x5_2 p189 q189
      cases e189
      replace hx189_0:=kc_ HB.out hx189_0
      replace p189:=eq_true p189
      replace q189:=eq_true q189
      have hcz19_0 : wr.cell? ⟨gb187,0,none⟩ = some (.int .i64 a0_0):=(blk_cell BK187.out 0).trans rfl
      have hcz19_1 : wr.cell? ⟨gb187,1,none⟩ = some (.slice A0_1 l0_1.length c0_1):=(blk_cell BK187.out 1).trans rfl
      have hfz19_0:=blk_frozen BK187.out 0
      have hfz19_1:=blk_frozen BK187.out 1
      have p190 : 0 ≤ (x5_2 : Int):=of_decide_eq_true (by (with_reducible assumption))
      have q190 : x5_2 < (l0_1.length : Int):=of_decide_eq_true (by (with_reducible assumption))
      obtain ⟨ad190,e190,hx190_0,hx190_1,hx190_2,hx190_3⟩:=at_T67 HR0_1.out x5_2 p190 q190
      cases e190
      replace hx190_0:=kc_ HB.out hx190_0
      replace hx190_1:=kc_ HB.out hx190_1
      replace hx190_2:=kc_ HB.out hx190_2
      replace hx190_3:=kc_ HB.out hx190_3
      replace p190:=eq_true p190
      replace q190:=eq_true q190
      go_wp2_with (fail)
      repeat (go_quiet ((go_at_call 68;(with_reducible refine (spec_l01In.calls (rd l1 x5_2) 0 ((rd_T67 l0_1 x5_2).f2) false _ A16.out).mono ?_);rintro e w' ⟨rfl,⟨nd,rfl⟩⟩;(try exact ⟨rfl,_,World.drewN_drewN _ _ _⟩)));try go_wp2_with (fail))
      go_ret
      exact ⟨by rfl,by repeat ((with_reducible first|exact HB.out|apply pw_below_drewN))⟩
     rw [if_neg c13] at H
     have c13b0 : decide (x5_2 < (l1.length : Int)) = false:=decide_eq_false c13
     clear c13
     replace H:=Option.bind_eq_some_iff.mp H
     obtain ⟨t192,A200,H⟩:=H
     replace H : (spec_FlowOk.l1 k2 t192 2 a0_0 l0_1) = some r:=H
     have A20:=am_ A200
     clear A200
     have H':=am_ H
     clear H
     have hcz21_0 : wr.cell? ⟨gb187,0,none⟩ = some (.int .i64 a0_0):=(blk_cell BK187.out 0).trans rfl
     have hcz21_1 : wr.cell? ⟨gb187,1,none⟩ = some (.slice A0_1 l0_1.length c0_1):=(blk_cell BK187.out 1).trans rfl
     have hfz21_0:=blk_frozen BK187.out 0
     have hfz21_1:=blk_frozen BK187.out 1
     go_wp2_with ((go_at_call 63;(with_reducible refine (spec_l06Out.calls k2 a0_0 _ _ l0_1 _ _ l1 t192 _ ?side1 ?side2 ?side3 ?side4 A20.out).mono ?_);(case side1=>exact (Kd.C_below HR0_1.out HB.out));(case side2=>exact HC0_1.out);(case side3=>exact (Kd.C_below HR1.out HB.out));(case side4=>exact HC1.out);rintro e w22 ⟨v193,rfl,ho0,hb⟩;have n0_:=am_ (Kd.R_lower ho0 (below_size HB.out));have n1_:=am_ (blk_below BK187.out hb);have n2_:=am_ (below_step HB.out hb);clear BK187 HB;have HO194:=n0_;have BK187:=n1_;have HB:=n2_;clear n0_ n1_ n2_;(try clear hb);(try clear ho0)))
     repeat (go_quiet (fail);try go_wp2_with (fail))
     go_loopg [7] k2 (fun kq v7 w'=>∃ (x7_3 : Int),v7 = .int .i64 x7_3 ∧ Aside0 (spec_FlowOk.l1 kq t192 x7_3 a0_0 l0_1 = some r) ∧ Aside0 (kq ≤ k2) ∧ Aside0 (Kd.R (Kd.int .i64) 3 w' w.heap.size (fun _=>True) v193 t192) ∧ Aside0 (w'.heap[gb187]? = some (.cells #[.int .i64 a0_0,(.slice A0_1 l0_1.length c0_1)] 30 (0,0))) ∧ Aside0 (Below w.heap.size w w'))
     case atStart=>exact ⟨(2),(by rfl),H',⟨Nat.le_refl _⟩,⟨by exact HO194.out⟩,⟨by exact BK187.out⟩,⟨by exact HB.out⟩⟩
     case round =>
      clear H'
      try clear c1
      try clear p1
      try clear q1
      try clear hx1
      try clear p2
      try clear c4
      try clear c6
      try clear p6
      try clear c12
      try clear c13
      try clear c13b0
      try clear c14
      try clear c14b0
      try clear c15
      try clear c15b0
      try clear c17
      try clear p18
      try clear q18
      try clear hx18
      try clear p19
      try clear q19
      try clear hx19
      try clear hcz10_0
      try clear hcz10_1
      try clear hcz18_0
      try clear hcz18_1
      try clear hcz19_0
      try clear hcz19_1
      try clear hcz21_0
      try clear hcz21_1
      try clear hcz7_0
      try clear hcz7_1
      try clear hcz9_0
      try clear hcz9_1
      try clear hfz10_0
      try clear hfz10_1
      try clear hfz18_0
      try clear hfz18_1
      try clear hfz19_0
      try clear hfz19_1
      try clear hfz21_0
      try clear hfz21_1
      try clear hfz7_0
      try clear hfz7_1
      try clear hfz9_0
      try clear hfz9_1
      try clear hx189_0
      try clear hx190_0
      try clear hx190_1
      try clear hx190_2
      try clear hx190_3
      try clear p189
      try clear p190
      try clear p2
      try clear q189
      try clear q190
      obtain ⟨x7_3,rfl,HA,HK3,HO_6,BK187,HB⟩:=hrel
      cases gk with
      | zero => exact absurd HA.out (by simp [spec_FlowOk.l1])
      | succ k3 =>
       have H:=HA.out
       clear HA
       simp only [spec_FlowOk.l1] at H
       by_cases c23 : x7_3 < a0_0
       rotate_left
       ·rw [if_neg c23] at H
        have c23b0 : decide (x7_3 < a0_0) = false:=decide_eq_false c23
        clear c23
        obtain rfl:=Option.some.inj H
        have hcz31_0 : wr.cell? ⟨gb187,0,none⟩ = some (.int .i64 a0_0):=(blk_cell BK187.out 0).trans rfl
        have hcz31_1 : wr.cell? ⟨gb187,1,none⟩ = some (.slice A0_1 l0_1.length c0_1):=(blk_cell BK187.out 1).trans rfl
        have hfz31_0:=blk_frozen BK187.out 0
        have hfz31_1:=blk_frozen BK187.out 1
        go_wp2
        repeat (go_quiet (fail);try go_wp2)
        go_ret
        exact ⟨by rfl,by exact HB.out⟩
       rw [if_pos c23] at H
       have c23b0 : decide (x7_3 < a0_0) = true:=decide_eq_true c23
       clear c23
       by_cases c24 : 0 ≤ x7_3
       rotate_left
       ·rw [if_neg c24] at H
        exact absurd H (by simp)
       rw [if_pos c24] at H
       have c24b0 : decide (0 ≤ x7_3) = true:=decide_eq_true c24
       clear c24
       by_cases c25 : x7_3 < (t192.length : Int)
       rotate_left
       ·rw [if_neg c25] at H
        exact absurd H (by simp)
       rw [if_pos c25] at H
       have c25b0 : decide (x7_3 < (t192.length : Int)) = true:=decide_eq_true c25
       clear c25
       by_cases c26 : (rd t192 x7_3) = 0
       ·rw [if_pos c26] at H
        have c26b0 : ((rd t192 x7_3) == 0) = true:=beq_iff_eq.mpr c26
        have c26b1 : ((rd t192 x7_3) != 0) = false:=bne_eq_false_iff_eq.mpr c26
        clear c26
        have H':=am_ H
        clear H
        have hcz27_0 : wr.cell? ⟨gb187,0,none⟩ = some (.int .i64 a0_0):=(blk_cell BK187.out 0).trans rfl
        have hcz27_1 : wr.cell? ⟨gb187,1,none⟩ = some (.slice A0_1 l0_1.length c0_1):=(blk_cell BK187.out 1).trans rfl
        have hfz27_0:=blk_frozen BK187.out 0
        have hfz27_1:=blk_frozen BK187.out 1
        obtain ⟨Ao28,co28,eo28⟩:=Kd.R_slice HO_6.out
        subst eo28
        have p195 : 0 ≤ (x7_3 : Int):=of_decide_eq_true (by (with_reducible assumption))
        have q195 : x7_3 < (t192.length : Int):=of_decide_eq_true (by (with_reducible assumption))
        obtain ⟨ad195,e195,hx195_0⟩:=Kd.at_int (Kd.R_reads' HO_6.out).2.2 x7_3 p195 q195
        cases e195
        replace p195:=eq_true p195
        replace q195:=eq_true q195
        go_wp2
        repeat (go_quiet (fail);try go_wp2)
        go_roundg k3
        case measure=>have:=HJ2.out;have:=HK2.out;have:=HK3.out;omega
        case rel=>exact ⟨(wrap64 (x7_3 + 1)),(by rfl),H',⟨by have:=HJ2.out;have:=HK2.out;have:=HK3.out;omega⟩,⟨by exact HO_6.out⟩,⟨by exact BK187.out⟩,⟨by exact HB.out⟩⟩
       rw [if_neg c26] at H
       have c26b0 : ((rd t192 x7_3) == 0) = false:=beq_eq_false_iff_ne.mpr c26
       have c26b1 : ((rd t192 x7_3) != 0) = true:=bne_iff_ne.mpr c26
       obtain rfl:=Option.some.inj H
       have hcz29_0 : wr.cell? ⟨gb187,0,none⟩ = some (.int .i64 a0_0):=(blk_cell BK187.out 0).trans rfl
       have hcz29_1 : wr.cell? ⟨gb187,1,none⟩ = some (.slice A0_1 l0_1.length c0_1):=(blk_cell BK187.out 1).trans rfl
       have hfz29_0:=blk_frozen BK187.out 0
       have hfz29_1:=blk_frozen BK187.out 1
       obtain ⟨Ao30,co30,eo30⟩:=Kd.R_slice HO_6.out
       subst eo30
       have p195 : 0 ≤ (x7_3 : Int):=of_decide_eq_true (by (with_reducible assumption))
       have q195 : x7_3 < (t192.length : Int):=of_decide_eq_true (by (with_reducible assumption))
       obtain ⟨ad195,e195,hx195_0⟩:=Kd.at_int (Kd.R_reads' HO_6.out).2.2 x7_3 p195 q195
       cases e195
       replace p195:=eq_true p195
       replace q195:=eq_true q195
       go_wp2
       repeat (go_quiet (fail);try go_wp2)
       go_ret
       exact ⟨by rfl,by exact HB.out⟩

/-! ### spec_FlowCost: function 73 -/
def spec_FlowCost.l0 : Nat → List Int → Int → Int → Int → List (S67) → Option (Int)
 | 0, _, _, _, _, _ => none
 | k + 1, x1, x5, x6, x197000, x197001 => if x6 < (x1.length : Int) then (if 0 ≤ x6 then (if x6 < (x197001.length : Int) then (spec_FlowCost.l0 k x1 (wrap64 (x5 + (wrap64 ((rd x1 x6) * ((rd_T67 x197001 x6).f3))))) (wrap64 (x6 + 1)) x197000 x197001) else (none)) else (none)) else (some x5)
def spec_FlowCost.f (k : Nat) (a0_0 : Int) (l0_1 : List (S67)) (l1 : List Int) : Option (Int):=(spec_FlowOk.f k a0_0 l0_1 l1).bind fun t197=>(if t197 = true then (spec_FlowCost.l0 k l1 0 0 a0_0 l0_1) else (some (-1)))
theorem spec_FlowCost.mono_l : ∀ k,(∀ y0 y1 y2 y3 y4,LeO (spec_FlowCost.l0 k y0 y1 y2 y3 y4) (spec_FlowCost.l0 (k + 1) y0 y1 y2 y3 y4))
 | 0 => fun _ _ _ _ _ r h => by simp [spec_FlowCost.l0] at h
 | k + 1 => by
  have ih0:=spec_FlowCost.mono_l k
  ·intro y0 y1 y2 y3 y4
   unfold spec_FlowCost.l0
   repeat' first
   | (with_reducible exact ih0 _ _ _ _ _)
   | (with_reducible exact LeO.refl _)
   | (with_reducible refine LeO.ite ?_ ?_)
theorem spec_FlowCost.mono : ∀ a0 a1 a2 k,LeO (spec_FlowCost.f k a0 a1 a2) (spec_FlowCost.f (k + 1) a0 a1 a2):=by
 intro a0 a1 a2 k
 have ih0:=spec_FlowCost.mono_l k
 unfold spec_FlowCost.f
 repeat' first
   | (with_reducible exact ih0 _ _ _ _ _)
   | (with_reducible exact spec_FlowOk.mono _ _ _ _)
   | (with_reducible exact LeO.refl _)
   | (with_reducible refine LeO.ite ?_ ?_)
   | (with_reducible refine LeO.bind ?_ (fun _ => ?_))
set_option maxHeartbeats 8000000 in
set_option maxRecDepth 100000 in
theorem spec_FlowCost.calls (k : Nat) (a0_0 : Int) (A0_1 : Option Addr) (c0_1 : Nat) (l0_1 : List (S67)) (A1 : Option Addr) (c1 : Nat) (l1 : List Int) (r : Int) (w : World) (hr0_1 : Kd.C k67 w A0_1 l0_1.length l0_1) (hc0_1 : l0_1.length ≤ c0_1) (hr1 : Kd.C (Kd.int .i64) w A1 l1.length l1) (hc1 : l1.length ≤ c1) (h : spec_FlowCost.f k a0_0 l0_1 l1 = some r) :
  Calls Try.prog 73 #[.agg #[.int .i64 a0_0,.slice A0_1 l0_1.length c0_1],.slice A1 l1.length c1] w fun e w'=>e = .returned (.int .i64 r) ∧ Below w.heap.size w w':=by
 have hu30:=Try.underlying30
 have HR0_1:=am_ hr0_1
 have HC0_1:=am_ hc0_1
 clear hr0_1 hc0_1
 have HR1:=am_ hr1
 have HC1:=am_ hc1
 clear hr1 hc1
 have HB:=am_ (Below.refl w.heap.size w)
 have H : ((spec_FlowOk.f k a0_0 l0_1 l1).bind fun t197=>(if t197 = true then (spec_FlowCost.l0 k l1 0 0 a0_0 l0_1) else (some (-1)))) = some r:=h
 clear h
 replace H:=Option.bind_eq_some_iff.mp H
 obtain ⟨t197,A30,H⟩:=H
 replace H : (if t197 = true then (spec_FlowCost.l0 k l1 0 0 a0_0 l0_1) else (some (-1))) = some r:=H
 have A3:=am_ A30
 clear A30
 by_cases c4 : t197 = true
 rotate_left
 ·replace c4:=Bool.eq_false_iff.mpr c4
  subst c4
  have H1 : (some (-1)) = some r:=by rw [if_neg (show ¬ (false = true) by decide)] at H;exact H
  clear H
  have H:=H1
  clear H1
  obtain rfl:=Option.some.inj H
  go_enter Try.func73,Try.ntmps73
  go_wp2_with (first|((with_reducible refine gate_dst (N:=2) rfl ?_);refine box_event ?hg (N:=2) ?hd (cs:=#[.int .i64 a0_0,.slice A0_1 l0_1.length c0_1]) (t:=30) ?hr ?_;(case hd=>rfl);(case hg=>rfl);(case hr=>(go_simp;done));intro gb196 hg w12 hbox hb;have n0_:=am_ (below_step HB.out hb);have n1_:=am_ (hbox);have n2_:=am_ ((by rw [hg];exact (below_size HB.out) : w.heap.size ≤ gb196));have n3_:=n2_;clear HB;have HB:=n0_;have BK196:=n1_;have GW196:=n2_;have GE196:=n3_;clear n0_ n1_ n2_ n3_ hb hbox hg;have hcz13_0 : w12.cell? ⟨gb196,0,none⟩ = some (.int .i64 a0_0):=(blk_cell BK196.out 0).trans rfl;have hcz13_1 : w12.cell? ⟨gb196,1,none⟩ = some (.slice A0_1 l0_1.length c0_1):=(blk_cell BK196.out 1).trans rfl;have hfz13_0:=blk_frozen BK196.out 0;have hfz13_1:=blk_frozen BK196.out 1)|(go_at_call 45;(with_reducible refine (spec_FlowOk.calls k a0_0 _ _ l0_1 _ _ l1 false _ ?side1 ?side2 ?side3 ?side4 A3.out).mono ?_);(case side1=>exact (Kd.C_below HR0_1.out HB.out));(case side2=>exact HC0_1.out);(case side3=>exact (Kd.C_below HR1.out HB.out));(case side4=>exact HC1.out);rintro e w14 ⟨rfl,hb⟩;have n0_:=am_ (blk_below BK196.out hb);have n1_:=am_ (below_step HB.out hb);clear BK196 HB;have BK196:=n0_;have HB:=n1_;clear n0_ n1_;(try clear hb)))
  repeat (go_quiet (fail);try go_wp2_with (fail))
  go_ret
  exact ⟨by rfl,by exact HB.out⟩
 subst c4
 have H1 : (spec_FlowCost.l0 k l1 0 0 a0_0 l0_1) = some r:=by rw [if_pos rfl] at H;exact H
 clear H
 have H:=H1
 clear H1
 have H':=am_ H
 clear H
 go_enter Try.func73,Try.ntmps73
 go_wp2_with (first|((with_reducible refine gate_dst (N:=2) rfl ?_);refine box_event ?hg (N:=2) ?hd (cs:=#[.int .i64 a0_0,.slice A0_1 l0_1.length c0_1]) (t:=30) ?hr ?_;(case hd=>rfl);(case hg=>rfl);(case hr=>(go_simp;done));intro gb196 hg w5 hbox hb;have n0_:=am_ (below_step HB.out hb);have n1_:=am_ (hbox);have n2_:=am_ ((by rw [hg];exact (below_size HB.out) : w.heap.size ≤ gb196));have n3_:=n2_;clear HB;have HB:=n0_;have BK196:=n1_;have GW196:=n2_;have GE196:=n3_;clear n0_ n1_ n2_ n3_ hb hbox hg;have hcz6_0 : w5.cell? ⟨gb196,0,none⟩ = some (.int .i64 a0_0):=(blk_cell BK196.out 0).trans rfl;have hcz6_1 : w5.cell? ⟨gb196,1,none⟩ = some (.slice A0_1 l0_1.length c0_1):=(blk_cell BK196.out 1).trans rfl;have hfz6_0:=blk_frozen BK196.out 0;have hfz6_1:=blk_frozen BK196.out 1)|(go_at_call 45;(with_reducible refine (spec_FlowOk.calls k a0_0 _ _ l0_1 _ _ l1 true _ ?side1 ?side2 ?side3 ?side4 A3.out).mono ?_);(case side1=>exact (Kd.C_below HR0_1.out HB.out));(case side2=>exact HC0_1.out);(case side3=>exact (Kd.C_below HR1.out HB.out));(case side4=>exact HC1.out);rintro e w7 ⟨rfl,hb⟩;have n0_:=am_ (blk_below BK196.out hb);have n1_:=am_ (below_step HB.out hb);clear BK196 HB;have BK196:=n0_;have HB:=n1_;clear n0_ n1_;(try clear hb)))
 repeat (go_quiet (fail);try go_wp2_with (fail))
 go_loopg [5,6] k (fun kq v5 v6 w'=>∃ (x5_1 : Int) (x6_1 : Int),v5 = .int .i64 x5_1 ∧ v6 = .int .i64 x6_1 ∧ Aside0 (spec_FlowCost.l0 kq l1 x5_1 x6_1 a0_0 l0_1 = some r) ∧ Aside0 (kq ≤ k) ∧ Aside0 (w'.heap[gb196]? = some (.cells #[.int .i64 a0_0,(.slice A0_1 l0_1.length c0_1)] 30 (0,0))) ∧ Aside0 (Below w.heap.size w w'))
 case atStart=>exact ⟨(0),(0),(by rfl),(by rfl),H',⟨Nat.le_refl _⟩,⟨by exact BK196.out⟩,⟨by exact HB.out⟩⟩
 case round =>
  clear H'
  try clear c1
  try clear p2
  try clear c4
  try clear c7
  try clear hcz6_0
  try clear hcz6_1
  try clear hfz6_0
  try clear hfz6_1
  obtain ⟨x5_1,x6_1,rfl,rfl,HA,HK1,BK196,HB⟩:=hrel
  cases gk with
  | zero => exact absurd HA.out (by simp [spec_FlowCost.l0])
  | succ k1 =>
   have H:=HA.out
   clear HA
   simp only [spec_FlowCost.l0] at H
   by_cases c8 : x6_1 < (l1.length : Int)
   rotate_left
   ·rw [if_neg c8] at H
    have c8b0 : decide (x6_1 < (l1.length : Int)) = false:=decide_eq_false c8
    clear c8
    obtain rfl:=Option.some.inj H
    go_wp2
    repeat (go_quiet (fail);try go_wp2)
    go_ret
    exact ⟨by rfl,by exact HB.out⟩
   rw [if_pos c8] at H
   have c8b0 : decide (x6_1 < (l1.length : Int)) = true:=decide_eq_true c8
   clear c8
   by_cases c9 : 0 ≤ x6_1
   rotate_left
   ·rw [if_neg c9] at H
    exact absurd H (by simp)
   rw [if_pos c9] at H
   have c9b0 : decide (0 ≤ x6_1) = true:=decide_eq_true c9
   clear c9
   by_cases c10 : x6_1 < (l0_1.length : Int)
   rotate_left
   ·rw [if_neg c10] at H
    exact absurd H (by simp)
   rw [if_pos c10] at H
   have c10b0 : decide (x6_1 < (l0_1.length : Int)) = true:=decide_eq_true c10
   clear c10
   have H':=am_ H
   clear H
   have p198 : 0 ≤ (x6_1 : Int):=of_decide_eq_true (by (with_reducible assumption))
   have q198 : x6_1 < (l1.length : Int):=of_decide_eq_true (by (with_reducible assumption))
   obtain ⟨ad198,e198,hx198_0⟩:=Kd.at_int HR1.out x6_1 p198 q198
   cases e198
   replace hx198_0:=kc_ HB.out hx198_0
   replace p198:=eq_true p198
   replace q198:=eq_true q198
   have hcz11_0 : wr.cell? ⟨gb196,0,none⟩ = some (.int .i64 a0_0):=(blk_cell BK196.out 0).trans rfl
   have hcz11_1 : wr.cell? ⟨gb196,1,none⟩ = some (.slice A0_1 l0_1.length c0_1):=(blk_cell BK196.out 1).trans rfl
   have hfz11_0:=blk_frozen BK196.out 0
   have hfz11_1:=blk_frozen BK196.out 1
   have p199 : 0 ≤ (x6_1 : Int):=of_decide_eq_true (by (with_reducible assumption))
   have q199 : x6_1 < (l0_1.length : Int):=of_decide_eq_true (by (with_reducible assumption))
   obtain ⟨ad199,e199,hx199_0,hx199_1,hx199_2,hx199_3⟩:=at_T67 HR0_1.out x6_1 p199 q199
   cases e199
   replace hx199_0:=kc_ HB.out hx199_0
   replace hx199_1:=kc_ HB.out hx199_1
   replace hx199_2:=kc_ HB.out hx199_2
   replace hx199_3:=kc_ HB.out hx199_3
   replace p199:=eq_true p199
   replace q199:=eq_true q199
   go_wp2
   repeat (go_quiet (fail);try go_wp2)
   go_roundg k1
   case measure=>have:=HK1.out;omega
   case rel=>exact ⟨(wrap64 (x5_1 + (wrap64 ((rd l1 x6_1) * ((rd_T67 l0_1 x6_1).f3))))),(wrap64 (x6_1 + 1)),(by rfl),(by rfl),H',⟨by have:=HK1.out;omega⟩,⟨by (with_reducible repeat (refine blk_drewN ?_ _));exact BK196.out⟩,⟨by repeat ((with_reducible first|exact HB.out|apply pw_below_drewN))⟩⟩

end Go.Proofs.Ytgkpgigoonhgdaa.PFnExactLeastCost
