-- Made by the session's wip/pp.py, a changed call of the kit's printer; Lean checks it.
import Derived.Test.YtgkpgigoonhgdaaPFnMostCutx0
import Derived.Test.YtgkpgigoonhgdaaPFnMostCutx1
import Derived.Test.YtgkpgigoonhgdaaPFnMostCutx8
import Derived.Test.YtgkpgigoonhgdaaPFnMostCutx9
import Derived.Test.YtgkpgigoonhgdaaPFnMostCutx10
import Derived.Test.YtgkpgigoonhgdaaPFnMostCutx11
import Derived.Test.YtgkpgigoonhgdaaPFnMostCutx12
namespace Go.Proofs.Ytgkpgigoonhgdaa.PFnMostCut
open Go.RowKit Go.Proofs.YtgkpgigoonhgdaaW.PrintWords Go.Proofs.YtgkpgigoonhgdaaW.PrintLast Go.Proofs.YtgkpgigoonhgdaaW.PrintMore
attribute [local go_sem] max2_int min2_int max_two min_two max_three min_three max_four min_four   -- for this text's walks alone
set_option linter.unusedVariables false
set_option linter.unusedSimpArgs false


/-! ### spec_FlowOk: function 45 -/
mutual
def spec_FlowOk.j0 : Nat → List Int → Bool → Int → List (S67) → Option (Bool)
 | 0, _, _, _, _ => none
 | k + 1, x1, x18, x124000, x124001 => if x18 = true then (some false) else (spec_FlowOk.l0 k x1 0 x124000 x124001)
def spec_FlowOk.l0 : Nat → List Int → Int → Int → List (S67) → Option (Bool)
 | 0, _, _, _, _ => none
 | k + 1, x1, x5, x124000, x124001 => if x5 < (x1.length : Int) then (if 0 ≤ x5 then (if x5 < (x124001.length : Int) then ((spec_l01In.f (rd x1 x5) 0 ((rd_T67 x124001 x5).f2)).bind fun t127 => (if t127 = true then (spec_FlowOk.l0 k x1 (wrap64 (x5 + 1)) x124000 x124001) else (some false))) else (none)) else (none)) else ((spec_l06Out.f k x124000 x124001 x1).bind fun t128 => (spec_FlowOk.l1 k t128 2 x124000 x124001))
def spec_FlowOk.l1 : Nat → List Int → Int → Int → List (S67) → Option (Bool)
 | 0, _, _, _, _ => none
 | k + 1, x6, x7, x124000, x124001 => if x7 < x124000 then (if 0 ≤ x7 then (if x7 < (x6.length : Int) then (if (rd x6 x7) = 0 then (spec_FlowOk.l1 k x6 (wrap64 (x7 + 1)) x124000 x124001) else (some false)) else (none)) else (none)) else (some true)
end
def spec_FlowOk.f (k : Nat) (a0_0 : Int) (l0_1 : List (S67)) (l1 : List Int) : Option (Bool):=(spec_NetOk.f k a0_0 l0_1).bind fun t124=>(if t124 = true then (spec_FlowOk.j0 k l1 ((l1.length : Int) != (l0_1.length : Int)) a0_0 l0_1) else (spec_FlowOk.j0 k l1 true a0_0 l0_1))
theorem spec_FlowOk.mono_l : ∀ k,(∀ y0 y1 y2 y3,LeO (spec_FlowOk.j0 k y0 y1 y2 y3) (spec_FlowOk.j0 (k + 1) y0 y1 y2 y3)) ∧ (∀ y0 y1 y2 y3,LeO (spec_FlowOk.l0 k y0 y1 y2 y3) (spec_FlowOk.l0 (k + 1) y0 y1 y2 y3)) ∧ (∀ y0 y1 y2 y3,LeO (spec_FlowOk.l1 k y0 y1 y2 y3) (spec_FlowOk.l1 (k + 1) y0 y1 y2 y3))
 | 0 => ⟨fun _ _ _ _ r h => by simp [spec_FlowOk.j0] at h, fun _ _ _ _ r h => by simp [spec_FlowOk.l0] at h, fun _ _ _ _ r h => by simp [spec_FlowOk.l1] at h⟩
 | k + 1 => by
  obtain ⟨ih0,ih1,ih2⟩:=spec_FlowOk.mono_l k
  refine ⟨?_,?_,?_⟩
  ·intro y0 y1 y2 y3
   unfold spec_FlowOk.j0
   repeat' first
   | (with_reducible exact ih1 _ _ _ _)
   | (with_reducible exact LeO.refl _)
   | (with_reducible refine LeO.ite ?_ ?_)
  ·intro y0 y1 y2 y3
   unfold spec_FlowOk.l0
   repeat' first
   | (with_reducible exact ih1 _ _ _ _)
   | (with_reducible exact ih2 _ _ _ _)
   | (with_reducible exact spec_l06Out.mono _ _ _ _)
   | (with_reducible exact LeO.refl _)
   | (with_reducible refine LeO.ite ?_ ?_)
   | (with_reducible refine LeO.bind ?_ (fun _ => ?_))
  ·intro y0 y1 y2 y3
   unfold spec_FlowOk.l1
   repeat' first
   | (with_reducible exact ih2 _ _ _ _)
   | (with_reducible exact LeO.refl _)
   | (with_reducible refine LeO.ite ?_ ?_)
theorem spec_FlowOk.mono : ∀ a0 a1 a2 k,LeO (spec_FlowOk.f k a0 a1 a2) (spec_FlowOk.f (k + 1) a0 a1 a2):=by
 intro a0 a1 a2 k
 obtain ⟨ih0,ih1,ih2⟩:=spec_FlowOk.mono_l k
 unfold spec_FlowOk.f
 repeat' first
   | (with_reducible exact ih0 _ _ _ _)
   | (with_reducible exact spec_NetOk.mono _ _ _)
   | (with_reducible refine LeO.ite ?_ ?_)
   | (with_reducible refine LeO.bind ?_ (fun _ => ?_))
set_option maxHeartbeats 8000000 in
set_option maxRecDepth 100000 in
theorem spec_FlowOk.calls (k : Nat) (a0_0 : Int) (A0_1 : Option Addr) (c0_1 : Nat) (l0_1 : List (S67)) (A1 : Option Addr) (c1 : Nat) (l1 : List Int) (r : Bool) (w : World) (hr0_1 : Kd.C k67 w A0_1 l0_1.length l0_1) (hc0_1 : l0_1.length ≤ c0_1) (hr1 : Kd.C (Kd.int .i64) w A1 l1.length l1) (hc1 : l1.length ≤ c1) (h : spec_FlowOk.f k a0_0 l0_1 l1 = some r) :
  Calls Try.prog 45 #[.agg #[.int .i64 a0_0,.slice A0_1 l0_1.length c0_1],.slice A1 l1.length c1] w fun e w'=>e = .returned (.bool r) ∧ Below w.heap.size w w':=by
 have hu30:=Try.underlying30
 have HR0_1:=am_ hr0_1
 have HC0_1:=am_ hc0_1
 clear hr0_1 hc0_1
 have HR1:=am_ hr1
 have HC1:=am_ hc1
 clear hr1 hc1
 have HB:=am_ (Below.refl w.heap.size w)
 have H : ((spec_NetOk.f k a0_0 l0_1).bind fun t124=>(if t124 = true then (spec_FlowOk.j0 k l1 ((l1.length : Int) != (l0_1.length : Int)) a0_0 l0_1) else (spec_FlowOk.j0 k l1 true a0_0 l0_1))) = some r:=h
 clear h
 have HC3:=am_ H
 clear H
 go_enter Try.func45,Try.ntmps45
 go_upto_region 1 with (((with_reducible refine gate_dst (N:=2) rfl ?_);(try (refine gate_guard (by rfl) ?_;dsimp only));refine box_event ?hg (N:=2) ?hd (cs:=#[.int .i64 a0_0,.slice A0_1 l0_1.length c0_1]) (t:=30) ?hr ?_;(case hd=>rfl);(case hg=>rfl);(case hr=>(go_simp;done));intro gb123 hg w4 hbox hb;have n0_:=am_ (below_step HB.out hb);have n1_:=am_ (hbox);have n2_:=am_ ((by rw [hg];exact (below_size HB.out) : w.heap.size ≤ gb123));have n3_:=n2_;clear HB;have HB:=n0_;have BK123:=n1_;have GW123:=n2_;have GE123:=n3_;clear n0_ n1_ n2_ n3_ hb hbox hg))
 repeat (go_quiet (fail);go_upto_region 1 with (fail))
 (skip)
 go_cut [18] (fun v18 wc=>∃ (kq : Nat) (x18_2 : Bool),v18 = .bool x18_2 ∧ Aside0 (spec_FlowOk.j0 kq l1 x18_2 a0_0 l0_1 = some r) ∧ Aside0 (kq ≤ k) ∧ Aside0 (wc.heap[gb123]? = some (.cells #[.int .i64 a0_0,(.slice A0_1 l0_1.length c0_1)] 30 (0,0))) ∧ Aside0 (Below w.heap.size w wc))
 case first =>
  have H:=HC3.out
  clear HC3
  replace H:=bs_ H
  obtain ⟨t124,A50,H⟩:=H
  replace H : (if t124 = true then (spec_FlowOk.j0 k l1 ((l1.length : Int) != (l0_1.length : Int)) a0_0 l0_1) else (spec_FlowOk.j0 k l1 true a0_0 l0_1)) = some r:=H
  have A5:=am_ A50
  clear A50
  by_cases c6 : t124 = true
  ·subst c6
   have H1 : (spec_FlowOk.j0 k l1 ((l1.length : Int) != (l0_1.length : Int)) a0_0 l0_1) = some r:=by rw [if_pos rfl] at H;exact H
   clear H
   have H:=H1
   clear H1
   have H':=am_ H
   clear H
   have hcz7_0 : w4.cell? ⟨gb123,0,none⟩ = some (.int .i64 a0_0):=bc_ BK123.out 0
   have hcz7_1 : w4.cell? ⟨gb123,1,none⟩ = some (.slice A0_1 l0_1.length c0_1):=bc_ BK123.out 1
   have hfz7_0:=blk_frozen BK123.out 0
   have hfz7_1:=blk_frozen BK123.out 1
   go_wp2_with ((go_at_call 51;(with_reducible refine (spec_NetOk.calls k a0_0 _ _ l0_1 true _ ?side1 ?side2 A5.out).mono ?_);(case side1=>exact (Kd.C_below HR0_1.out HB.out));(case side2=>exact HC0_1.out);rintro e w8 ⟨rfl,hb⟩;have n0_:=am_ (blk_below BK123.out hb);have n1_:=am_ (below_step HB.out hb);clear BK123 HB;have BK123:=n0_;have HB:=n1_;clear n0_ n1_;(try clear hb);have hcz9_0 : w8.cell? ⟨gb123,0,none⟩ = some (.int .i64 a0_0):=bc_ BK123.out 0;have hcz9_1 : w8.cell? ⟨gb123,1,none⟩ = some (.slice A0_1 l0_1.length c0_1):=bc_ BK123.out 1;have hfz9_0:=blk_frozen BK123.out 0;have hfz9_1:=blk_frozen BK123.out 1))
   repeat (go_quiet (fail);try go_wp2_with (fail))
   go_meet
   case rel=>exact ⟨_,(((l1.length : Int) != (l0_1.length : Int))),(by rfl),H',⟨by omega⟩,⟨by exact BK123.out⟩,⟨by exact HB.out⟩⟩
  replace c6:=Bool.eq_false_iff.mpr c6
  subst c6
  have H1 : (spec_FlowOk.j0 k l1 true a0_0 l0_1) = some r:=by rw [if_neg (show ¬ (false = true) by decide)] at H;exact H
  clear H
  have H:=H1
  clear H1
  have H':=am_ H
  clear H
  have hcz10_0 : w4.cell? ⟨gb123,0,none⟩ = some (.int .i64 a0_0):=bc_ BK123.out 0
  have hcz10_1 : w4.cell? ⟨gb123,1,none⟩ = some (.slice A0_1 l0_1.length c0_1):=bc_ BK123.out 1
  have hfz10_0:=blk_frozen BK123.out 0
  have hfz10_1:=blk_frozen BK123.out 1
  go_wp2_with ((go_at_call 51;(with_reducible refine (spec_NetOk.calls k a0_0 _ _ l0_1 false _ ?side1 ?side2 A5.out).mono ?_);(case side1=>exact (Kd.C_below HR0_1.out HB.out));(case side2=>exact HC0_1.out);rintro e w11 ⟨rfl,hb⟩;have n0_:=am_ (blk_below BK123.out hb);have n1_:=am_ (below_step HB.out hb);clear BK123 HB;have BK123:=n0_;have HB:=n1_;clear n0_ n1_;(try clear hb)))
  repeat (go_quiet (fail);try go_wp2_with (fail))
  go_meet
  case rel=>exact ⟨_,(true),(by rfl),H',⟨by omega⟩,⟨by exact BK123.out⟩,⟨by exact HB.out⟩⟩
 case rest =>
  clear HC3
  try clear c1
  try clear p2
  try clear c4
  try clear c6
  try clear hcz10_0
  try clear hcz10_1
  try clear hcz7_0
  try clear hcz7_1
  try clear hcz9_0
  try clear hcz9_1
  try clear hfz10_0
  try clear hfz10_1
  try clear hfz7_0
  try clear hfz7_1
  try clear hfz9_0
  try clear hfz9_1
  obtain ⟨kq,x18_2,rfl,HA,HJ2,BK123,HB⟩:=hcut
  cases kq with
  | zero => exact absurd HA.out (by simp [spec_FlowOk.j0])
  | succ kj2 =>
   have H:=HA.out
   clear HA
   simp only [spec_FlowOk.j0] at H
   by_cases c12 : x18_2 = true
   ·subst c12
    have H1 : (some false) = some r:=by rw [if_pos rfl] at H;exact H
    clear H
    have H:=H1
    clear H1
    obtain rfl:=Option.some.inj H
    go_wp2
    repeat (go_quiet (fail);try go_wp2)
    go_ret
    exact ⟨by rfl,by exact HB.out⟩
   replace c12:=Bool.eq_false_iff.mpr c12
   subst c12
   have H1 : (spec_FlowOk.l0 kj2 l1 0 a0_0 l0_1) = some r:=by rw [if_neg (show ¬ (false = true) by decide)] at H;exact H
   clear H
   have H:=H1
   clear H1
   have H':=am_ H
   clear H
   go_wp2
   repeat (go_quiet (fail);try go_wp2)
   go_loopg [5] kj2 (fun kq v5 w'=>∃ (x5_2 : Int),v5 = .int .i64 x5_2 ∧ Aside0 (spec_FlowOk.l0 kq l1 x5_2 a0_0 l0_1 = some r) ∧ Aside0 (kq ≤ kj2) ∧ Aside0 (w'.heap[gb123]? = some (.cells #[.int .i64 a0_0,(.slice A0_1 l0_1.length c0_1)] 30 (0,0))) ∧ Aside0 (Below w.heap.size w w'))
   case atStart=>exact ⟨(0),(by rfl),H',⟨Nat.le_refl _⟩,⟨by exact BK123.out⟩,⟨by exact HB.out⟩⟩
   case round =>
    clear H'
    try clear c1
    try clear p2
    try clear c4
    try clear c6
    try clear c12
    try clear hcz10_0
    try clear hcz10_1
    try clear hcz7_0
    try clear hcz7_1
    try clear hcz9_0
    try clear hcz9_1
    try clear hfz10_0
    try clear hfz10_1
    try clear hfz7_0
    try clear hfz7_1
    try clear hfz9_0
    try clear hfz9_1
    try clear p2
    obtain ⟨x5_2,rfl,HA,HK2,BK123,HB⟩:=hrel
    cases gk with
    | zero => exact absurd HA.out (by simp [spec_FlowOk.l0])
    | succ k2 =>
     have H:=HA.out
     clear HA
     simp only [spec_FlowOk.l0] at H
     by_cases c13 : x5_2 < (l1.length : Int)
     ·rw [if_pos c13] at H
      have c13b0 : decide (x5_2 < (l1.length : Int)) = true:=decide_eq_true c13
      clear c13
      by_cases c14 : 0 ≤ x5_2
      rotate_left
      ·rw [if_neg c14] at H
       exact absurd H (by simp)
      rw [if_pos c14] at H
      have c14b0 : decide (0 ≤ x5_2) = true:=decide_eq_true c14
      clear c14
      by_cases c15 : x5_2 < (l0_1.length : Int)
      rotate_left
      ·rw [if_neg c15] at H
       exact absurd H (by simp)
      rw [if_pos c15] at H
      have c15b0 : decide (x5_2 < (l0_1.length : Int)) = true:=decide_eq_true c15
      clear c15
      replace H:=bs_ H
      obtain ⟨t127,A160,H⟩:=H
      replace H : (if t127 = true then (spec_FlowOk.l0 k2 l1 (wrap64 (x5_2 + 1)) a0_0 l0_1) else (some false)) = some r:=H
      have A16:=am_ A160
      clear A160
      by_cases c17 : t127 = true
      ·subst c17
       have H1 : (spec_FlowOk.l0 k2 l1 (wrap64 (x5_2 + 1)) a0_0 l0_1) = some r:=by rw [if_pos rfl] at H;exact H
       clear H
       have H:=H1
       clear H1
       have H':=am_ H
       clear H
       have p125 : 0 ≤ (x5_2 : Int):=od_ (by (with_reducible assumption))
       have q125 : x5_2 < (l1.length : Int):=od_ (by (with_reducible assumption))
       obtain ⟨ad125,e125,hx125_0⟩:=Kd.at_int HR1.out x5_2 p125 q125
       cases e125
       replace hx125_0:=kc_ HB.out hx125_0
       replace p125:=eq_true p125
       replace q125:=eq_true q125
       have hcz18_0 : wr.cell? ⟨gb123,0,none⟩ = some (.int .i64 a0_0):=bc_ BK123.out 0
       have hcz18_1 : wr.cell? ⟨gb123,1,none⟩ = some (.slice A0_1 l0_1.length c0_1):=bc_ BK123.out 1
       have hfz18_0:=blk_frozen BK123.out 0
       have hfz18_1:=blk_frozen BK123.out 1
       have p126 : 0 ≤ (x5_2 : Int):=od_ (by (with_reducible assumption))
       have q126 : x5_2 < (l0_1.length : Int):=od_ (by (with_reducible assumption))
       obtain ⟨ad126,e126,hx126_0,hx126_1,hx126_2,hx126_3⟩:=at_T67 HR0_1.out x5_2 p126 q126
       cases e126
       replace hx126_0:=kc_ HB.out hx126_0
       replace hx126_1:=kc_ HB.out hx126_1
       replace hx126_2:=kc_ HB.out hx126_2
       replace hx126_3:=kc_ HB.out hx126_3
       replace p126:=eq_true p126
       replace q126:=eq_true q126
       go_wp2_with (fail)
       repeat (go_quiet ((go_at_call 68;(with_reducible refine (spec_l01In.calls (rd l1 x5_2) 0 ((rd_T67 l0_1 x5_2).f2) true _ A16.out).mono ?_);rintro e w' ⟨rfl,⟨nd,rfl⟩⟩;(try exact ⟨rfl,_,World.drewN_drewN _ _ _⟩)));try go_wp2_with (fail))
       go_roundg k2
       case measure=>have:=HJ2.out;have:=HK2.out;omega
       case rel=>exact ⟨(wrap64 (x5_2 + 1)),(by rfl),H',⟨by have:=HJ2.out;have:=HK2.out;omega⟩,⟨by (with_reducible repeat (refine blk_drewN ?_ _));exact BK123.out⟩,⟨by repeat ((with_reducible first|exact HB.out|apply pw_below_drewN))⟩⟩
      replace c17:=Bool.eq_false_iff.mpr c17
      subst c17
      have H1 : (some false) = some r:=by rw [if_neg (show ¬ (false = true) by decide)] at H;exact H
      clear H
      have H:=H1
      clear H1
      obtain rfl:=Option.some.inj H
      have p125 : 0 ≤ (x5_2 : Int):=od_ (by (with_reducible assumption))
      have q125 : x5_2 < (l1.length : Int):=od_ (by (with_reducible assumption))
      obtain ⟨ad125,e125,hx125_0⟩:=Kd.at_int HR1.out x5_2 p125 q125
      cases e125
      replace hx125_0:=kc_ HB.out hx125_0
      replace p125:=eq_true p125
      replace q125:=eq_true q125
      have hcz19_0 : wr.cell? ⟨gb123,0,none⟩ = some (.int .i64 a0_0):=bc_ BK123.out 0
      have hcz19_1 : wr.cell? ⟨gb123,1,none⟩ = some (.slice A0_1 l0_1.length c0_1):=bc_ BK123.out 1
      have hfz19_0:=blk_frozen BK123.out 0
      have hfz19_1:=blk_frozen BK123.out 1
      have p126 : 0 ≤ (x5_2 : Int):=od_ (by (with_reducible assumption))
      have q126 : x5_2 < (l0_1.length : Int):=od_ (by (with_reducible assumption))
      obtain ⟨ad126,e126,hx126_0,hx126_1,hx126_2,hx126_3⟩:=at_T67 HR0_1.out x5_2 p126 q126
      cases e126
      replace hx126_0:=kc_ HB.out hx126_0
      replace hx126_1:=kc_ HB.out hx126_1
      replace hx126_2:=kc_ HB.out hx126_2
      replace hx126_3:=kc_ HB.out hx126_3
      replace p126:=eq_true p126
      replace q126:=eq_true q126
      go_wp2_with (fail)
      repeat (go_quiet ((go_at_call 68;(with_reducible refine (spec_l01In.calls (rd l1 x5_2) 0 ((rd_T67 l0_1 x5_2).f2) false _ A16.out).mono ?_);rintro e w' ⟨rfl,⟨nd,rfl⟩⟩;(try exact ⟨rfl,_,World.drewN_drewN _ _ _⟩)));try go_wp2_with (fail))
      go_ret
      exact ⟨by rfl,by repeat ((with_reducible first|exact HB.out|apply pw_below_drewN))⟩
     rw [if_neg c13] at H
     have c13b0 : decide (x5_2 < (l1.length : Int)) = false:=decide_eq_false c13
     clear c13
     replace H:=bs_ H
     obtain ⟨t128,A200,H⟩:=H
     replace H : (spec_FlowOk.l1 k2 t128 2 a0_0 l0_1) = some r:=H
     have A20:=am_ A200
     clear A200
     have H':=am_ H
     clear H
     have hcz21_0 : wr.cell? ⟨gb123,0,none⟩ = some (.int .i64 a0_0):=bc_ BK123.out 0
     have hcz21_1 : wr.cell? ⟨gb123,1,none⟩ = some (.slice A0_1 l0_1.length c0_1):=bc_ BK123.out 1
     have hfz21_0:=blk_frozen BK123.out 0
     have hfz21_1:=blk_frozen BK123.out 1
     go_wp2_with ((go_at_call 63;(with_reducible refine (spec_l06Out.calls k2 a0_0 _ _ l0_1 _ _ l1 t128 _ ?side1 ?side2 ?side3 ?side4 A20.out).mono ?_);(case side1=>exact (Kd.C_below HR0_1.out HB.out));(case side2=>exact HC0_1.out);(case side3=>exact (Kd.C_below HR1.out HB.out));(case side4=>exact HC1.out);rintro e w22 ⟨v129,rfl,ho0,hb⟩;have n0_:=am_ (Kd.R_lower ho0 (below_size HB.out));have n1_:=am_ (blk_below BK123.out hb);have n2_:=am_ (below_step HB.out hb);clear BK123 HB;have HO130:=n0_;have BK123:=n1_;have HB:=n2_;clear n0_ n1_ n2_;(try clear hb);(try clear ho0)))
     repeat (go_quiet (fail);try go_wp2_with (fail))
     go_loopg [7] k2 (fun kq v7 w'=>∃ (x7_3 : Int),v7 = .int .i64 x7_3 ∧ Aside0 (spec_FlowOk.l1 kq t128 x7_3 a0_0 l0_1 = some r) ∧ Aside0 (kq ≤ k2) ∧ Aside0 (Kd.R (Kd.int .i64) 3 w' w.heap.size (fun _=>True) v129 t128) ∧ Aside0 (w'.heap[gb123]? = some (.cells #[.int .i64 a0_0,(.slice A0_1 l0_1.length c0_1)] 30 (0,0))) ∧ Aside0 (Below w.heap.size w w'))
     case atStart=>exact ⟨(2),(by rfl),H',⟨Nat.le_refl _⟩,⟨by exact HO130.out⟩,⟨by exact BK123.out⟩,⟨by exact HB.out⟩⟩
     case round =>
      clear H'
      try clear c1
      try clear p1
      try clear q1
      try clear hx1
      try clear p2
      try clear c4
      try clear c6
      try clear p6
      try clear c12
      try clear p12
      try clear q12
      try clear hx12
      try clear c13
      try clear c13b0
      try clear c14
      try clear c14b0
      try clear c15
      try clear c15b0
      try clear c17
      try clear hcz10_0
      try clear hcz10_1
      try clear hcz18_0
      try clear hcz18_1
      try clear hcz19_0
      try clear hcz19_1
      try clear hcz21_0
      try clear hcz21_1
      try clear hcz7_0
      try clear hcz7_1
      try clear hcz9_0
      try clear hcz9_1
      try clear hfz10_0
      try clear hfz10_1
      try clear hfz18_0
      try clear hfz18_1
      try clear hfz19_0
      try clear hfz19_1
      try clear hfz21_0
      try clear hfz21_1
      try clear hfz7_0
      try clear hfz7_1
      try clear hfz9_0
      try clear hfz9_1
      try clear hx125_0
      try clear hx126_0
      try clear hx126_1
      try clear hx126_2
      try clear hx126_3
      try clear p125
      try clear p126
      try clear p2
      try clear q125
      try clear q126
      obtain ⟨x7_3,rfl,HA,HK3,HO_6,BK123,HB⟩:=hrel
      cases gk with
      | zero => exact absurd HA.out (by simp [spec_FlowOk.l1])
      | succ k3 =>
       have H:=HA.out
       clear HA
       simp only [spec_FlowOk.l1] at H
       by_cases c23 : x7_3 < a0_0
       rotate_left
       ·rw [if_neg c23] at H
        have c23b0 : decide (x7_3 < a0_0) = false:=decide_eq_false c23
        clear c23
        obtain rfl:=Option.some.inj H
        have hcz31_0 : wr.cell? ⟨gb123,0,none⟩ = some (.int .i64 a0_0):=bc_ BK123.out 0
        have hcz31_1 : wr.cell? ⟨gb123,1,none⟩ = some (.slice A0_1 l0_1.length c0_1):=bc_ BK123.out 1
        have hfz31_0:=blk_frozen BK123.out 0
        have hfz31_1:=blk_frozen BK123.out 1
        go_wp2
        repeat (go_quiet (fail);try go_wp2)
        go_ret
        exact ⟨by rfl,by exact HB.out⟩
       rw [if_pos c23] at H
       have c23b0 : decide (x7_3 < a0_0) = true:=decide_eq_true c23
       clear c23
       by_cases c24 : 0 ≤ x7_3
       rotate_left
       ·rw [if_neg c24] at H
        exact absurd H (by simp)
       rw [if_pos c24] at H
       have c24b0 : decide (0 ≤ x7_3) = true:=decide_eq_true c24
       clear c24
       by_cases c25 : x7_3 < (t128.length : Int)
       rotate_left
       ·rw [if_neg c25] at H
        exact absurd H (by simp)
       rw [if_pos c25] at H
       have c25b0 : decide (x7_3 < (t128.length : Int)) = true:=decide_eq_true c25
       clear c25
       by_cases c26 : (rd t128 x7_3) = 0
       ·rw [if_pos c26] at H
        have c26b0 : ((rd t128 x7_3) == 0) = true:=beq_iff_eq.mpr c26
        have c26b1 : ((rd t128 x7_3) != 0) = false:=bne_eq_false_iff_eq.mpr c26
        clear c26
        have H':=am_ H
        clear H
        have hcz27_0 : wr.cell? ⟨gb123,0,none⟩ = some (.int .i64 a0_0):=bc_ BK123.out 0
        have hcz27_1 : wr.cell? ⟨gb123,1,none⟩ = some (.slice A0_1 l0_1.length c0_1):=bc_ BK123.out 1
        have hfz27_0:=blk_frozen BK123.out 0
        have hfz27_1:=blk_frozen BK123.out 1
        obtain ⟨Ao28,co28,eo28⟩:=Kd.R_slice HO_6.out
        subst eo28
        have p131 : 0 ≤ (x7_3 : Int):=od_ (by (with_reducible assumption))
        have q131 : x7_3 < (t128.length : Int):=od_ (by (with_reducible assumption))
        obtain ⟨ad131,e131,hx131_0⟩:=Kd.at_int (Kd.R_reads' HO_6.out).2.2 x7_3 p131 q131
        cases e131
        replace p131:=eq_true p131
        replace q131:=eq_true q131
        go_wp2
        repeat (go_quiet (fail);try go_wp2)
        go_roundg k3
        case measure=>have:=HJ2.out;have:=HK2.out;have:=HK3.out;omega
        case rel=>exact ⟨(wrap64 (x7_3 + 1)),(by rfl),H',⟨by have:=HJ2.out;have:=HK2.out;have:=HK3.out;omega⟩,⟨by exact HO_6.out⟩,⟨by exact BK123.out⟩,⟨by exact HB.out⟩⟩
       rw [if_neg c26] at H
       have c26b0 : ((rd t128 x7_3) == 0) = false:=beq_eq_false_iff_ne.mpr c26
       have c26b1 : ((rd t128 x7_3) != 0) = true:=bne_iff_ne.mpr c26
       obtain rfl:=Option.some.inj H
       have hcz29_0 : wr.cell? ⟨gb123,0,none⟩ = some (.int .i64 a0_0):=bc_ BK123.out 0
       have hcz29_1 : wr.cell? ⟨gb123,1,none⟩ = some (.slice A0_1 l0_1.length c0_1):=bc_ BK123.out 1
       have hfz29_0:=blk_frozen BK123.out 0
       have hfz29_1:=blk_frozen BK123.out 1
       obtain ⟨Ao30,co30,eo30⟩:=Kd.R_slice HO_6.out
       subst eo30
       have p131 : 0 ≤ (x7_3 : Int):=od_ (by (with_reducible assumption))
       have q131 : x7_3 < (t128.length : Int):=od_ (by (with_reducible assumption))
       obtain ⟨ad131,e131,hx131_0⟩:=Kd.at_int (Kd.R_reads' HO_6.out).2.2 x7_3 p131 q131
       cases e131
       replace p131:=eq_true p131
       replace q131:=eq_true q131
       go_wp2
       repeat (go_quiet (fail);try go_wp2)
       go_ret
       exact ⟨by rfl,by exact HB.out⟩

/-! ### spec_FlowSize: function 34 -/
def spec_FlowSize.f (k : Nat) (a0_0 : Int) (l0_1 : List (S67)) (l1 : List Int) : Option (Int):=(spec_FlowOk.f k a0_0 l0_1 l1).bind fun t390=>(if t390 = true then ((spec_l06Out.f k a0_0 l0_1 l1).bind fun t391=>(if 0 < (t391.length : Int) then (some (rd t391 0)) else (none))) else (some (-1)))
theorem spec_FlowSize.mono : ∀ a0 a1 a2 k,LeO (spec_FlowSize.f k a0 a1 a2) (spec_FlowSize.f (k + 1) a0 a1 a2):=by
 intro a0 a1 a2 k
 unfold spec_FlowSize.f
 repeat' first
   | (with_reducible exact spec_FlowOk.mono _ _ _ _)
   | (with_reducible exact spec_l06Out.mono _ _ _ _)
   | (with_reducible exact LeO.refl _)
   | (with_reducible refine LeO.ite ?_ ?_)
   | (with_reducible refine LeO.bind ?_ (fun _ => ?_))
set_option maxHeartbeats 8000000 in
set_option maxRecDepth 100000 in
theorem spec_FlowSize.calls (k : Nat) (a0_0 : Int) (A0_1 : Option Addr) (c0_1 : Nat) (l0_1 : List (S67)) (A1 : Option Addr) (c1 : Nat) (l1 : List Int) (r : Int) (w : World) (hr0_1 : Kd.C k67 w A0_1 l0_1.length l0_1) (hc0_1 : l0_1.length ≤ c0_1) (hr1 : Kd.C (Kd.int .i64) w A1 l1.length l1) (hc1 : l1.length ≤ c1) (h : spec_FlowSize.f k a0_0 l0_1 l1 = some r) :
  Calls Try.prog 34 #[.agg #[.int .i64 a0_0,.slice A0_1 l0_1.length c0_1],.slice A1 l1.length c1] w fun e w'=>e = .returned (.int .i64 r) ∧ Below w.heap.size w w':=by
 have hu30:=Try.underlying30
 have HR0_1:=am_ hr0_1
 have HC0_1:=am_ hc0_1
 clear hr0_1 hc0_1
 have HR1:=am_ hr1
 have HC1:=am_ hc1
 clear hr1 hc1
 have HB:=am_ (Below.refl w.heap.size w)
 have H : ((spec_FlowOk.f k a0_0 l0_1 l1).bind fun t390=>(if t390 = true then ((spec_l06Out.f k a0_0 l0_1 l1).bind fun t391=>(if 0 < (t391.length : Int) then (some (rd t391 0)) else (none))) else (some (-1)))) = some r:=h
 clear h
 replace H:=bs_ H
 obtain ⟨t390,A30,H⟩:=H
 replace H : (if t390 = true then ((spec_l06Out.f k a0_0 l0_1 l1).bind fun t391=>(if 0 < (t391.length : Int) then (some (rd t391 0)) else (none))) else (some (-1))) = some r:=H
 have A3:=am_ A30
 clear A30
 by_cases c4 : t390 = true
 ·subst c4
  have H1 : ((spec_l06Out.f k a0_0 l0_1 l1).bind fun t391=>(if 0 < (t391.length : Int) then (some (rd t391 0)) else (none))) = some r:=by rw [if_pos rfl] at H;exact H
  clear H
  have H:=H1
  clear H1
  replace H:=bs_ H
  obtain ⟨t391,A50,H⟩:=H
  replace H : (if 0 < (t391.length : Int) then (some (rd t391 0)) else (none)) = some r:=H
  have A5:=am_ A50
  clear A50
  by_cases c6 : 0 < (t391.length : Int)
  ·rw [if_pos c6] at H
   have c6b0 : decide (0 < (t391.length : Int)) = true:=decide_eq_true c6
   have c6b1 : decide (0 < t391.length) = true:=decide_eq_true (by omega)
   clear c6
   obtain rfl:=Option.some.inj H
   go_enter Try.func34,Try.ntmps34
   go_wp2_with (first|((with_reducible refine gate_dst (N:=2) rfl ?_);refine box_event ?hg (N:=2) ?hd (cs:=#[.int .i64 a0_0,.slice A0_1 l0_1.length c0_1]) (t:=30) ?hr ?_;(case hd=>rfl);(case hg=>rfl);(case hr=>(go_simp;done));intro gb389 hg w7 hbox hb;have n0_:=am_ (below_step HB.out hb);have n1_:=am_ (hbox);have n2_:=am_ ((by rw [hg];exact (below_size HB.out) : w.heap.size ≤ gb389));have n3_:=n2_;clear HB;have HB:=n0_;have BK389:=n1_;have GW389:=n2_;have GE389:=n3_;clear n0_ n1_ n2_ n3_ hb hbox hg;have hcz8_0 : w7.cell? ⟨gb389,0,none⟩ = some (.int .i64 a0_0):=bc_ BK389.out 0;have hcz8_1 : w7.cell? ⟨gb389,1,none⟩ = some (.slice A0_1 l0_1.length c0_1):=bc_ BK389.out 1;have hfz8_0:=blk_frozen BK389.out 0;have hfz8_1:=blk_frozen BK389.out 1)|((with_reducible refine gate_callee (f:=45) rfl ?_);refine goesL_ (some 7) rfl rfl Try.func45 (by kernel_rfl) rfl #[.agg #[.int .i64 a0_0,.slice A0_1 l0_1.length c0_1],.slice A1 l1.length c1] rfl (by (try simp only [List.map_toArray,List.map_cons,List.map_nil]);rfl) ?_;(with_reducible refine (spec_FlowOk.calls k a0_0 _ _ l0_1 _ _ l1 true _ ?side1 ?side2 ?side3 ?side4 A3.out).mono ?_);(case side1=>exact (Kd.C_below HR0_1.out HB.out));(case side2=>exact HC0_1.out);(case side3=>exact (Kd.C_below HR1.out HB.out));(case side4=>exact HC1.out);rintro e w9 ⟨rfl,hb⟩;refine ⟨_,rfl,?_⟩;have n0_:=am_ (blk_below BK389.out hb);have n1_:=am_ (below_step HB.out hb);clear BK389 HB;have BK389:=n0_;have HB:=n1_;clear n0_ n1_;(try clear hb);have hcz10_0 : w9.cell? ⟨gb389,0,none⟩ = some (.int .i64 a0_0):=bc_ BK389.out 0;have hcz10_1 : w9.cell? ⟨gb389,1,none⟩ = some (.slice A0_1 l0_1.length c0_1):=bc_ BK389.out 1;have hfz10_0:=blk_frozen BK389.out 0;have hfz10_1:=blk_frozen BK389.out 1)|((with_reducible refine gate_callee (f:=63) rfl ?_);refine goesL_ (some 11) rfl rfl Try.func63 (by kernel_rfl) rfl #[.agg #[.int .i64 a0_0,.slice A0_1 l0_1.length c0_1],.slice A1 l1.length c1] rfl (by (try simp only [List.map_toArray,List.map_cons,List.map_nil]);rfl) ?_;(with_reducible refine (spec_l06Out.calls k a0_0 _ _ l0_1 _ _ l1 t391 _ ?side1 ?side2 ?side3 ?side4 A5.out).mono ?_);(case side1=>exact (Kd.C_below HR0_1.out HB.out));(case side2=>exact HC0_1.out);(case side3=>exact (Kd.C_below HR1.out HB.out));(case side4=>exact HC1.out);rintro e w11 ⟨v392,rfl,ho0,hb⟩;refine ⟨_,rfl,?_⟩;have n0_:=am_ (Kd.R_lower ho0 (below_size HB.out));have n1_:=am_ (blk_below BK389.out hb);have n2_:=am_ (below_step HB.out hb);clear BK389 HB;have HO393:=n0_;have BK389:=n1_;have HB:=n2_;clear n0_ n1_ n2_;(try clear hb);(try clear ho0);obtain ⟨Ao12,co12,eo12⟩:=Kd.R_slice HO393.out;subst eo12;have p394 : 0 ≤ (0 : Int):=(by omega);have q394 : 0 < (t391.length : Int):=od_ (by (with_reducible assumption));obtain ⟨ad394,e394,hx394_0⟩:=Kd.at_int (Kd.R_reads' HO393.out).2.2 0 p394 q394;cases e394;have qi394 : (0 < t391.length) = True:=eq_true (by omega);(try rw [show ((0 : Int)).toNat = 0 from rfl] at hx394_0);(try rw [Addr.add_zero'] at hx394_0);replace p394:=eq_true p394;replace q394:=eq_true q394))
   go_ret
   exact ⟨by rfl,by exact HB.out⟩
  rw [if_neg c6] at H
  exact absurd H (by simp)
 replace c4:=Bool.eq_false_iff.mpr c4
 subst c4
 have H1 : (some (-1)) = some r:=by rw [if_neg (show ¬ (false = true) by decide)] at H;exact H
 clear H
 have H:=H1
 clear H1
 obtain rfl:=Option.some.inj H
 go_enter Try.func34,Try.ntmps34
 go_wp2_with (first|((with_reducible refine gate_dst (N:=2) rfl ?_);refine box_event ?hg (N:=2) ?hd (cs:=#[.int .i64 a0_0,.slice A0_1 l0_1.length c0_1]) (t:=30) ?hr ?_;(case hd=>rfl);(case hg=>rfl);(case hr=>(go_simp;done));intro gb389 hg w13 hbox hb;have n0_:=am_ (below_step HB.out hb);have n1_:=am_ (hbox);have n2_:=am_ ((by rw [hg];exact (below_size HB.out) : w.heap.size ≤ gb389));have n3_:=n2_;clear HB;have HB:=n0_;have BK389:=n1_;have GW389:=n2_;have GE389:=n3_;clear n0_ n1_ n2_ n3_ hb hbox hg;have hcz14_0 : w13.cell? ⟨gb389,0,none⟩ = some (.int .i64 a0_0):=bc_ BK389.out 0;have hcz14_1 : w13.cell? ⟨gb389,1,none⟩ = some (.slice A0_1 l0_1.length c0_1):=bc_ BK389.out 1;have hfz14_0:=blk_frozen BK389.out 0;have hfz14_1:=blk_frozen BK389.out 1)|((with_reducible refine gate_callee (f:=45) rfl ?_);refine goesL_ (some 7) rfl rfl Try.func45 (by kernel_rfl) rfl #[.agg #[.int .i64 a0_0,.slice A0_1 l0_1.length c0_1],.slice A1 l1.length c1] rfl (by (try simp only [List.map_toArray,List.map_cons,List.map_nil]);rfl) ?_;(with_reducible refine (spec_FlowOk.calls k a0_0 _ _ l0_1 _ _ l1 false _ ?side1 ?side2 ?side3 ?side4 A3.out).mono ?_);(case side1=>exact (Kd.C_below HR0_1.out HB.out));(case side2=>exact HC0_1.out);(case side3=>exact (Kd.C_below HR1.out HB.out));(case side4=>exact HC1.out);rintro e w15 ⟨rfl,hb⟩;refine ⟨_,rfl,?_⟩;have n0_:=am_ (blk_below BK389.out hb);have n1_:=am_ (below_step HB.out hb);clear BK389 HB;have BK389:=n0_;have HB:=n1_;clear n0_ n1_;(try clear hb)))
 go_ret
 exact ⟨by rfl,by exact HB.out⟩

/-! ### spec_l01Once: function 65 -/
def spec_l01Once.f (s0_0 : List Int) (s0_1 : Int) (s0_2 : Int) (a1 : Int) : Option (Bool × Int × Int):=(spec_l01Below.f s0_0 s0_1 s0_2 a1).bind fun bt393=>(some ((bt393.1 == 0),bt393.2.1,bt393.2.2))
set_option maxHeartbeats 8000000 in
set_option maxRecDepth 100000 in
theorem spec_l01Once.calls (g : Nat) (s0_0 : List Int) (s0_1 : Int) (s0_2 : Int) (a1 : Int) (r1 : Bool) (r2 : Int) (r3 : Int) (w0 w : World) (hI : IsS95 w0 w g s0_0 s0_1 s0_2) (hB : Below w0.heap.size w0 w) (h : spec_l01Once.f s0_0 s0_1 s0_2 a1 = some (r1,r2,r3)) :
  Calls Try.prog 65 #[.pointer (some ⟨g,0,none⟩),.int .i64 a1] w fun e w'=>e = .returned (.bool r1) ∧ IsS95 w0 w' g s0_0 r2 r3 ∧ Below w0.heap.size w0 w' ∧ KeepBut w w' g none:=by
 have HI0:=am_ hI
 have HK:=am_ (KeepBut.refl w g none)
 have HL:=am_ hB.size
 clear hI
 have HW0:=am_ hB.size
 have HB:=am_ hB
 clear hB
 have H : ((spec_l01Below.f s0_0 s0_1 s0_2 a1).bind fun bt393=>(some ((bt393.1 == 0),bt393.2.1,bt393.2.2))) = some (r1,r2,r3):=h
 clear h
 replace H:=bs_ H
 obtain ⟨⟨t393,t394,t395⟩,A30,H⟩:=H
 replace H : (some ((t393 == 0),t394,t395)) = some (r1,r2,r3):=H
 have A3:=am_ A30
 clear A30
 simp only [Option.some.injEq,Prod.mk.injEq] at H
 obtain ⟨rfl,rfl,rfl⟩:=H
 go_enter Try.func65,Try.ntmps65
 go_wp2_with (((with_reducible refine gate_callee (f:=61) rfl ?_);refine goesL_ (some 7) rfl rfl Try.func61 (by kernel_rfl) rfl #[.pointer (some ⟨g,0,none⟩),.int .i64 a1] rfl (by (try simp only [List.map_toArray,List.map_cons,List.map_nil]);rfl) ?_;(with_reducible refine (spec_l01Below.calls g s0_0 s0_1 s0_2 a1 t393 t394 t395 w0 _ ?side1 ?side2 A3.out).mono ?_);(case side1=>exact HI0.out);(case side2=>exact HB.out);rintro e w4 ⟨rfl,hi,hb,hk⟩;refine ⟨_,rfl,?_⟩;have n0_:=am_ (KeepBut.trans (by exact HK.out) hk (.inl rfl));have n1_:=am_ (hb);have n2_:=am_ (hi);clear HK HB HI0;have HK:=n0_;have HB:=n1_;have HI0:=n2_;clear n0_ n1_ n2_;(try clear hb);(try clear hk);(try clear hi)))
 go_ret
 exact ⟨by rfl,by exact HI0.out,by exact HB.out,by exact HK.out⟩

/-! ### spec_DrawCut: function 36 -/
def spec_DrawCut.l0 : Nat → List Bool → Int → List Int → Int → Int → Int → List (S67) → Option (Int × (List (S67)) × List Bool)
 | 0, _, _, _, _, _, _, _ => none
 | k + 1, x6, x7, x401000, x401001, x401002, x408000, x408001 => if x7 < x408000 then ((spec_l01Once.f x401000 x401001 x401002 2).bind fun bt411 => (if x6.length < 140737488355328 then (spec_DrawCut.l0 k (x6 ++ [bt411.1]) (wrap64 (x7 + 1)) x401000 bt411.2.1 bt411.2.2 x408000 x408001) else (none))) else (some (x408000, x408001, x6))
def spec_DrawCut.f (k : Nat) (l0 : List Int) : Option (Int × (List (S67)) × List Bool):=(spec_l01New.f k l0).bind fun bt397=>((spec_l06Right.f k bt397.1 bt397.2.1 bt397.2.2).bind fun bt401=>(spec_DrawCut.l0 k (([true,false] : List Bool)) 2 bt397.1 bt401.2.2.1 bt401.2.2.2 bt401.1 bt401.2.1))
theorem spec_DrawCut.mono_l : ∀ k,(∀ y0 y1 y2 y3 y4 y5 y6,LeO (spec_DrawCut.l0 k y0 y1 y2 y3 y4 y5 y6) (spec_DrawCut.l0 (k + 1) y0 y1 y2 y3 y4 y5 y6))
 | 0 => fun _ _ _ _ _ _ _ r h => by simp [spec_DrawCut.l0] at h
 | k + 1 => by
  have ih0:=spec_DrawCut.mono_l k
  ·intro y0 y1 y2 y3 y4 y5 y6
   unfold spec_DrawCut.l0
   repeat' first
   | (with_reducible exact ih0 _ _ _ _ _ _ _)
   | (with_reducible exact LeO.refl _)
   | (with_reducible refine LeO.ite ?_ ?_)
   | (with_reducible refine LeO.bind ?_ (fun _ => ?_))
theorem spec_DrawCut.mono : ∀ a0 k,LeO (spec_DrawCut.f k a0) (spec_DrawCut.f (k + 1) a0):=by
 intro a0 k
 have ih0:=spec_DrawCut.mono_l k
 unfold spec_DrawCut.f
 repeat' first
   | (with_reducible exact ih0 _ _ _ _ _ _ _)
   | (with_reducible exact spec_l01New.mono _ _)
   | (with_reducible exact spec_l06Right.mono _ _ _ _)
   | (with_reducible refine LeO.bind ?_ (fun _ => ?_))
set_option maxHeartbeats 8000000 in
set_option maxRecDepth 100000 in
theorem spec_DrawCut.calls (k : Nat) (A0 : Option Addr) (c0 : Nat) (l0 : List Int) (r1 : Int) (r2 : List (S67)) (r3 : List Bool) (w : World) (hr0 : Kd.C (Kd.int .u8) w A0 l0.length l0) (hc0 : l0.length ≤ c0) (h : spec_DrawCut.f k l0 = some (r1,r2,r3)) :
  Calls Try.prog 36 #[.slice A0 l0.length c0] w fun e w'=>∃ v1_ v2_ : Value,e = .returned (.tuple #[.agg #[.int .i64 r1,v1_],v2_]) ∧ Kd.R k67 67 w' w.heap.size (fun _=>True) v1_ r2 ∧ Kd.R Kd.bool 4 w' w.heap.size (fun _=>True) v2_ r3 ∧ Below w.heap.size w w':=by
 have hu30:=Try.underlying30
 have HR0:=am_ hr0
 have HC0:=am_ hc0
 clear hr0 hc0
 have HB:=am_ (Below.refl w.heap.size w)
 have H : ((spec_l01New.f k l0).bind fun bt397=>((spec_l06Right.f k bt397.1 bt397.2.1 bt397.2.2).bind fun bt401=>(spec_DrawCut.l0 k (([true,false] : List Bool)) 2 bt397.1 bt401.2.2.1 bt401.2.2.2 bt401.1 bt401.2.1))) = some (r1,r2,r3):=h
 clear h
 replace H:=bs_ H
 obtain ⟨⟨t397,t398,t399⟩,A20,H⟩:=H
 replace H : ((spec_l06Right.f k t397 t398 t399).bind fun bt401=>(spec_DrawCut.l0 k (([true,false] : List Bool)) 2 t397 bt401.2.2.1 bt401.2.2.2 bt401.1 bt401.2.1)) = some (r1,r2,r3):=H
 have A2:=am_ A20
 clear A20
 replace H:=bs_ H
 obtain ⟨⟨t401,t402,t405,t406⟩,A30,H⟩:=H
 replace H : (spec_DrawCut.l0 k (([true,false] : List Bool)) 2 t397 t405 t406 t401 t402) = some (r1,r2,r3):=H
 have A3:=am_ A30
 clear A30
 obtain ⟨y408,hy408⟩ : ∃ y_ : List Bool,y_ = (([true,false] : List Bool)):=⟨_,rfl⟩
 replace H : (spec_DrawCut.l0 k y408 2 t397 t405 t406 t401 t402) = some (r1,r2,r3):=by (rw [hy408];with_reducible exact H)
 have Ny408:=am_ hy408
 clear hy408
 have H':=am_ H
 clear H
 go_enter Try.func36,Try.ntmps36
 go_wp2_with (first|((with_reducible refine gate_dst (N:=2) rfl ?_);refine box_event ?hg (N:=2) ?hd (cs:=#[.int .i64 0,.slice none 0 0]) (t:=30) ?hr ?_;(case hd=>rfl);(case hg=>rfl);(case hr=>(go_simp;done));intro gb396 hg w4 hbox hb;have n0_:=am_ (below_step HB.out hb);have n1_:=am_ (hbox);have n2_:=am_ ((by rw [hg];exact (below_size HB.out) : w.heap.size ≤ gb396));have n3_:=n2_;clear HB;have HB:=n0_;have BK396:=n1_;have GW396:=n2_;have GE396:=n3_;clear n0_ n1_ n2_ n3_ hb hbox hg)|((with_reducible refine gate_callee (f:=59) rfl ?_);refine goesL_ (some 9) rfl rfl Try.func59 (by kernel_rfl) rfl #[.slice A0 l0.length c0] rfl (by (try simp only [List.map_toArray,List.map_cons,List.map_nil]);rfl) ?_;(with_reducible refine (spec_l01New.calls k _ _ l0 t397 t398 t399 w _ ?side1 ?side2 ?side3 A2.out).mono ?_);(case side1=>exact HB.out);(case side2=>exact HR0.out);(case side3=>exact HC0.out);rintro e w5 ⟨g400,rfl,hi,hb,hb2⟩;refine ⟨_,rfl,?_⟩;have n0_:=am_ (blk_below BK396.out hb2);have n1_:=am_ (hb);have n2_:=am_ (hi);have n3_:=am_ (IsS95.ne_blk hi (blk_below BK396.out hb2) (by decide));have n4_:=am_ (Ne.symm (IsS95.ne_blk hi (blk_below BK396.out hb2) (by decide)));clear BK396 HB;have BK396:=n0_;have HB:=n1_;have HI400:=n2_;have NB400_396:=n3_;have NB396_400:=n4_;clear n0_ n1_ n2_ n3_ n4_;(try clear hb);(try clear hb2);(try clear hi))|((with_reducible refine gate_callee (f:=60) rfl ?_);refine goesL_ (some 11) rfl rfl Try.func60 (by kernel_rfl) rfl #[.pointer (some ⟨g400,0,none⟩)] rfl (by (try simp only [List.map_toArray,List.map_cons,List.map_nil]);rfl) ?_;(with_reducible refine (spec_l06Right.calls k g400 t397 t398 t399 t401 t402 t405 t406 w _ ?side1 ?side2 A3.out).mono ?_);(case side1=>exact HI400.out);(case side2=>exact HB.out);rintro e w6 ⟨v403,rfl,ho0,hi,hb,hk⟩;refine ⟨_,rfl,?_⟩;have n0_:=am_ (KeepBut.blk hk (g':=gb396) (o:=.cells #[.int .i64 0,.slice none 0 0] 30 (0,0)) BK396.out NB396_400.out (by simp));have n1_:=am_ (Kd.R_lower ho0 (below_size HB.out));have n2_:=am_ (hb);have n3_:=am_ (hi);clear BK396 HB HI400;have BK396:=n0_;have HO404:=n1_;have HB:=n2_;have HI400:=n3_;clear n0_ n1_ n2_ n3_;(try clear hb);(try clear hk);(try clear hi);(try clear ho0))|((with_reducible refine gate_dst (N:=5) rfl ?_);refine box_event ?hg (N:=5) ?hd (cs:=#[.int .i64 0,.slice none 0 0]) (t:=30) ?hr ?_;(case hd=>rfl);(case hg=>rfl);(case hr=>(go_simp;done));intro gb407 hg w7 hbox hb;have n0_:=am_ (Kd.R_below HO404.out hb);have n1_:=am_ (blk_below BK396.out hb);have n2_:=am_ (IsS95.below (by exact HI400.out) hb);have n3_:=am_ (below_step HB.out hb);have n4_:=am_ (hbox);have n5_:=am_ ((by rw [hg];exact (below_size HB.out) : w.heap.size ≤ gb407));have n6_:=n5_;have n7_:=am_ ((by rw [hg];exact Nat.ne_of_lt (blk_lt (g:=gb396) (o:=.cells #[.int .i64 0,.slice none 0 0] 30 (0,0)) BK396.out) : gb396 ≠ gb407));have n8_:=am_ ((by rw [hg];exact Nat.ne_of_gt (blk_lt (g:=gb396) (o:=.cells #[.int .i64 0,.slice none 0 0] 30 (0,0)) BK396.out) : gb407 ≠ gb396));have n9_:=am_ ((by rw [hg];exact Nat.ne_of_lt (IsS95.lt (show IsS95 w _ g400 t397 t405 t406 from by exact HI400.out)) : g400 ≠ gb407));have n10_:=am_ ((by rw [hg];exact Nat.ne_of_gt (IsS95.lt (show IsS95 w _ g400 t397 t405 t406 from by exact HI400.out)) : gb407 ≠ g400));clear HO404 BK396 HI400 HB;have HO404:=n0_;have BK396:=n1_;have HI400:=n2_;have HB:=n3_;have BK407:=n4_;have GW407:=n5_;have GE407:=n6_;have NB396_407:=n7_;have NB407_396:=n8_;have NB400_407:=n9_;have NB407_400:=n10_;clear n0_ n1_ n2_ n3_ n4_ n5_ n6_ n7_ n8_ n9_ n10_ hb hbox hg;have hnb8:=NB407_396.out;have hnc8:=NB396_407.out;have hnb9:=NB407_400.out;have hnc9:=NB400_407.out;have hcz10_0 : w7.cell? ⟨gb407,0,none⟩ = some (.int .i64 0):=bc_ BK407.out 0;have hcz10_1 : w7.cell? ⟨gb407,1,none⟩ = some (.slice none 0 0):=bc_ BK407.out 1;have hfz10_0:=blk_frozen BK407.out 0;have hfz10_1:=blk_frozen BK407.out 1;obtain ⟨Ao11,co11,eo11⟩:=Kd.R_slice HO404.out;subst eo11)|((with_reducible refine gate_dst (N:=12) rfl ?_);refine Kd.R_lit Kd.bool _ 4 ?hg (N:=12) ?hd (xs:=([true,false] : List Bool)) (inner:=[.bool true,.bool false]) (ok:=fun _=>True) (okp:=fun _=>True) ?hr ?hp (fun _ hk=>hk) trivial (Below.refl _ _) (Nat.le_refl _) (by simp) ?_;(case hd=>rfl);(case hg=>rfl);(case hr=>(go_simp;done));(case hp=>exact (Reps.one (show Kd.M Kd.bool _ _ _ true [.bool true] from rfl) (Reps.one (show Kd.M Kd.bool _ _ _ false [.bool false] from rfl) (Reps.none _ _))));intro v409 w12 ho13 hb hg_ hnew_;clear hg_ hnew_;(rw [← Ny408.out] at ho13);have n0_:=am_ (Kd.R_below (by exact (Kd.R_mono (Kd.R_far (p:=⟨gb407,1,none⟩) (Kd.R_far (p:=⟨gb407,0,none⟩) (Kd.R_types HO404.out BK407.out (by decide)) (fun _ hk=>hk.2) (.int .i64 t401)) (fun _ hk=>hk.2) (.slice Ao11 t402.length co11)) (fun _ h_=>h_.1))) hb);have n1_:=am_ (Kd.R_lower ho13 (below_size (by repeat ((with_reducible first|exact HB.out|refine below_set ?_ GE407.out)))));have n2_:=am_ (blk_below (g:=gb396) (o:=.cells #[.int .i64 0,.slice none 0 0] 30 (0,0)) (by refine blk_far ?_ NB396_407.out _;refine blk_far ?_ NB396_407.out _;exact BK396.out) hb);have n3_:=am_ (IsS95.below (show IsS95 w ((w7.setCell ⟨gb407,0,none⟩ (.int .i64 t401)).setCell ⟨gb407,1,none⟩ (.slice Ao11 t402.length co11)) g400 t397 t405 t406 from by repeat ((with_reducible first|exact HI400.out|refine IsS95.far ?_ NB400_407.out _))) hb);have n4_:=am_ (blk_below (g:=gb407) (o:=.cells #[.int .i64 t401,.slice Ao11 t402.length co11] 30 (0,0)) (by refine blk_put (cs:=#[.int .i64 t401,.slice none 0 0]) ?_ 1 _ rfl;refine blk_put (cs:=#[.int .i64 0,.slice none 0 0]) ?_ 0 _ rfl;exact BK407.out) hb);have n5_:=am_ (below_step (by repeat ((with_reducible first|exact HB.out|refine below_set ?_ GE407.out))) hb);clear HO404 BK396 HI400 BK407 HB;have HO404:=n0_;have HO410:=n1_;have BK396:=n2_;have HI400:=n3_;have BK407:=n4_;have HB:=n5_;clear n0_ n1_ n2_ n3_ n4_ n5_ hb ho13))
 go_loopg [6,7] k (fun kq v6 v7 w'=>∃ (x6_1 : List Bool) (x7_1 : Int) (x401001_1 : Int) (x401002_1 : Int),v7 = .int .i64 x7_1 ∧ Aside0 (spec_DrawCut.l0 kq x6_1 x7_1 t397 x401001_1 x401002_1 t401 t402 = some (r1,r2,r3)) ∧ Aside0 (kq ≤ k) ∧ Aside0 (Kd.R Kd.bool 4 w' w.heap.size (fun _=>True) v6 x6_1) ∧ Aside0 (Kd.R k67 67 w' w.heap.size (fun _=>True) (.slice Ao11 t402.length co11) t402) ∧ Aside0 (w'.heap[gb396]? = some (.cells #[.int .i64 0,(.slice none 0 0)] 30 (0,0))) ∧ Aside0 (w'.heap[gb407]? = some (.cells #[.int .i64 t401,(.slice Ao11 t402.length co11)] 30 (0,0))) ∧ Aside0 (IsS95 w w' g400 t397 x401001_1 x401002_1) ∧ Aside0 (Below w.heap.size w w'))
 case atStart=>exact ⟨(y408),(2),(t405),(t406),(by rfl),H',⟨Nat.le_refl _⟩,⟨by exact HO410.out⟩,⟨by exact HO404.out⟩,⟨by exact BK396.out⟩,⟨by exact BK407.out⟩,⟨by exact HI400.out⟩,⟨by exact HB.out⟩⟩
 case round =>
  clear H'
  try clear p2
  try clear c3
  try clear c5
  try clear c6
  try clear c8
  try clear c9
  try clear hcz10_0
  try clear hcz10_1
  try clear hfz10_0
  try clear hfz10_1
  obtain ⟨x6_1,x7_1,x401001_1,x401002_1,rfl,HA,HK1,HO_6,HO_408001,BK396,BK407,HI400,HB⟩:=hrel
  cases gk with
  | zero => exact absurd HA.out (by simp [spec_DrawCut.l0])
  | succ k1 =>
   have H:=HA.out
   clear HA
   simp only [spec_DrawCut.l0] at H
   by_cases c14 : x7_1 < t401
   ·rw [if_pos c14] at H
    have c14b0 : decide (x7_1 < t401) = true:=decide_eq_true c14
    clear c14
    replace H:=bs_ H
    obtain ⟨⟨t411,t412,t413⟩,A150,H⟩:=H
    replace H : (if x6_1.length < 140737488355328 then (spec_DrawCut.l0 k1 (x6_1 ++ [t411]) (wrap64 (x7_1 + 1)) t397 t412 t413 t401 t402) else (none)) = some (r1,r2,r3):=H
    have A15:=am_ A150
    clear A150
    by_cases c16 : x6_1.length < 140737488355328
    rotate_left
    ·rw [if_neg c16] at H
     exact absurd H (by simp)
    rw [if_pos c16] at H
    have LMc16:=am_ c16
    clear c16
    obtain ⟨y414,hy414⟩ : ∃ y_ : List Bool,y_ = (x6_1 ++ [t411]):=⟨_,rfl⟩
    replace H : (spec_DrawCut.l0 k1 y414 (wrap64 (x7_1 + 1)) t397 t412 t413 t401 t402) = some (r1,r2,r3):=by (rw [hy414];with_reducible exact H)
    have Ny414:=am_ hy414
    clear hy414
    have H':=am_ H
    clear H
    have hnb17:=NB407_396.out
    have hnc17:=NB396_407.out
    have hnb18:=NB407_400.out
    have hnc18:=NB400_407.out
    have hcz19_0 : wr.cell? ⟨gb407,0,none⟩ = some (.int .i64 t401):=bc_ BK407.out 0
    have hcz19_1 : wr.cell? ⟨gb407,1,none⟩ = some (.slice Ao11 t402.length co11):=bc_ BK407.out 1
    have hfz19_0:=blk_frozen BK407.out 0
    have hfz19_1:=blk_frozen BK407.out 1
    go_wp2_with (first|((with_reducible refine gate_callee (f:=65) rfl ?_);refine goesL_ (some 21) rfl rfl Try.func65 (by kernel_rfl) rfl #[.pointer (some ⟨g400,0,none⟩),.int .i64 2] rfl (by (try simp only [List.map_toArray,List.map_cons,List.map_nil]);rfl) ?_;(with_reducible refine (spec_l01Once.calls g400 t397 x401001_1 x401002_1 2 t411 t412 t413 w _ ?side1 ?side2 A15.out).mono ?_);(case side1=>exact HI400.out);(case side2=>exact HB.out);rintro e w20 ⟨rfl,hi,hb,hk⟩;refine ⟨_,rfl,?_⟩;have n0_:=am_ (Kd.R_mono (Kd.R_keep (IsS95.apart (show IsS95 w _ g400 t397 x401001_1 x401002_1 from by exact HI400.out) HO_6.out (by decide)) hk (fun _ h=>h.2)) (fun _ h=>h.1));have n1_:=am_ (Kd.R_mono (Kd.R_keep (IsS95.apart (show IsS95 w _ g400 t397 x401001_1 x401002_1 from by exact HI400.out) HO_408001.out (by decide)) hk (fun _ h=>h.2)) (fun _ h=>h.1));have n2_:=am_ (KeepBut.blk hk (g':=gb396) (o:=.cells #[.int .i64 0,.slice none 0 0] 30 (0,0)) BK396.out NB396_400.out (by simp));have n3_:=am_ (KeepBut.blk hk (g':=gb407) (o:=.cells #[.int .i64 t401,.slice Ao11 t402.length co11] 30 (0,0)) BK407.out NB407_400.out (by simp));have n4_:=am_ (hb);have n5_:=am_ (hi);clear HO_6 HO_408001 BK396 BK407 HB HI400;have HO_6:=n0_;have HO_408001:=n1_;have BK396:=n2_;have BK407:=n3_;have HB:=n4_;have HI400:=n5_;clear n0_ n1_ n2_ n3_ n4_ n5_;(try clear hb);(try clear hk);(try clear hi))|((with_reducible refine gate_builtin (b:=.append) (xs:=#[.tmp 19,.tmp 22]) rfl ?_);at_builtin;refine Kd.R_append Kd.bool (w0:=w) w.heap.size rfl (.tmp 19) (.tmp 22) 38 4 (.bool false) 1 rfl Try.underlying38 info4 rfl (by decide) (by omega) u6 x6_1 t411 [.bool t411] (fun _=>True) (fun _=>False) rfl rfl ?aP (fun _ hk=>hk.elim) ?aF ?aO ?aB ?aS ?aL ?_;(case aP=>exact rfl);(case aB=>exact HB.out);(case aF=>exact (fun _ _=>trivial));(case aO=>exact HO_6.out);(case aS=>exact (below_size HB.out));(case aL=>have:=LMc16.out;omega);intro v415 w21 ho hb hg hat;rw [← Ny414.out] at ho;have n0_:=am_ (Kd.R_over' HO_408001.out (Kd.R_typed HO_6.out) (by decide) hg);have n1_:=am_ (blk_grown (g:=gb396) (o:=.cells #[.int .i64 0,.slice none 0 0] 30 (0,0)) BK396.out hg (Kd.R_ne HO_6.out BK396.out (by decide)));have n2_:=am_ (blk_grown (g:=gb407) (o:=.cells #[.int .i64 t401,.slice Ao11 t402.length co11] 30 (0,0)) BK407.out hg (Kd.R_ne HO_6.out BK407.out (by decide)));have n3_:=am_ (IsS95.grown (by exact HI400.out) hg (IsS95.own_ne HI400.out HO_6.out (by decide)));have n4_:=am_ (hb);have n5_:=am_ (ho);clear HO_408001 BK396 BK407 HI400 HB HO_6;have HO_408001:=n0_;have BK396:=n1_;have BK407:=n2_;have HI400:=n3_;have HB:=n4_;have HO416:=n5_;clear n0_ n1_ n2_ n3_ n4_ n5_ ho hb hg hat))
    go_roundg k1
    case measure=>have:=HK1.out;omega
    case rel=>exact ⟨(y414),(wrap64 (x7_1 + 1)),(t412),(t413),(by rfl),H',⟨by have:=HK1.out;omega⟩,⟨by exact HO416.out⟩,⟨by exact HO_408001.out⟩,⟨by exact BK396.out⟩,⟨by exact BK407.out⟩,⟨by exact HI400.out⟩,⟨by exact HB.out⟩⟩
   rw [if_neg c14] at H
   have c14b0 : decide (x7_1 < t401) = false:=decide_eq_false c14
   clear c14
   simp only [Option.some.injEq,Prod.mk.injEq] at H
   obtain ⟨rfl,rfl,rfl⟩:=H
   have hnb22:=NB407_396.out
   have hnc22:=NB396_407.out
   have hnb23:=NB407_400.out
   have hnc23:=NB400_407.out
   have hcz24_0 : wr.cell? ⟨gb407,0,none⟩ = some (.int .i64 t401):=bc_ BK407.out 0
   have hcz24_1 : wr.cell? ⟨gb407,1,none⟩ = some (.slice Ao11 t402.length co11):=bc_ BK407.out 1
   have hfz24_0:=blk_frozen BK407.out 0
   have hfz24_1:=blk_frozen BK407.out 1
   have hnb25:=NB396_400.out
   have hnc25:=NB400_396.out
   have hcz26_0 : wr.cell? ⟨gb396,0,none⟩ = some (.int .i64 0):=bc_ BK396.out 0
   have hcz26_1 : wr.cell? ⟨gb396,1,none⟩ = some (.slice none 0 0):=bc_ BK396.out 1
   have hfz26_0:=blk_frozen BK396.out 0
   have hfz26_1:=blk_frozen BK396.out 1
   go_wp2
   refine bodyPost_ret (results_ct rfl _ _ gb396 30 #[.int .i64 t401,.slice Ao11 t402.length co11] (0,0) _ rfl (by refine blk_put (cs:=#[.int .i64 t401,.slice none 0 0]) ?_ 1 _ rfl;refine blk_put (cs:=#[.int .i64 0,.slice none 0 0]) ?_ 0 _ rfl;exact BK396.out) Try.underlying30 rfl (by kernel_rfl)) rfl ?_
   exact ⟨_,_,by rfl,by exact Kd.R_mono (Kd.R_far (p:=⟨gb396,1,none⟩) (Kd.R_far (p:=⟨gb396,0,none⟩) (Kd.R_types HO_408001.out BK396.out (by decide)) (fun _ hk=>hk.2) (.int .i64 t401)) (fun _ hk=>hk.2) (.slice Ao11 t402.length co11)) (fun _ hk=>trivial),by exact Kd.R_mono (Kd.R_far (p:=⟨gb396,1,none⟩) (Kd.R_far (p:=⟨gb396,0,none⟩) (Kd.R_types HO_6.out BK396.out (by decide)) (fun _ hk=>hk.2) (.int .i64 t401)) (fun _ hk=>hk.2) (.slice Ao11 t402.length co11)) (fun _ hk=>trivial),by repeat ((with_reducible first|exact HB.out|refine below_set ?_ GE396.out))⟩

/-! ### spec_DrawMost: function 37 -/
def spec_DrawMost.f (k : Nat) (l0 : List Int) : Option (List Int):=(spec_l01New.f k l0).bind fun bt417=>((spec_l06Right.f k bt417.1 bt417.2.1 bt417.2.2).bind fun bt421=>((spec_l06Pushed.f k bt421.1 bt421.2.1 1000).bind fun t427=>(some t427)))
theorem spec_DrawMost.mono : ∀ a0 k,LeO (spec_DrawMost.f k a0) (spec_DrawMost.f (k + 1) a0):=by
 intro a0 k
 unfold spec_DrawMost.f
 repeat' first
   | (with_reducible exact spec_l01New.mono _ _)
   | (with_reducible exact spec_l06Pushed.mono _ _ _ _)
   | (with_reducible exact spec_l06Right.mono _ _ _ _)
   | (with_reducible exact LeO.refl _)
   | (with_reducible refine LeO.bind ?_ (fun _ => ?_))
set_option maxHeartbeats 8000000 in
set_option maxRecDepth 100000 in
theorem spec_DrawMost.calls (k : Nat) (A0 : Option Addr) (c0 : Nat) (l0 : List Int) (r : List Int) (w : World) (hr0 : Kd.C (Kd.int .u8) w A0 l0.length l0) (hc0 : l0.length ≤ c0) (h : spec_DrawMost.f k l0 = some r) :
  Calls Try.prog 37 #[.slice A0 l0.length c0] w fun e w'=>∃ v0_ : Value,e = .returned (v0_) ∧ Kd.R (Kd.int .i64) 3 w' w.heap.size (fun _=>True) v0_ r ∧ Below w.heap.size w w':=by
 have HR0:=am_ hr0
 have HC0:=am_ hc0
 clear hr0 hc0
 have HB:=am_ (Below.refl w.heap.size w)
 have H : ((spec_l01New.f k l0).bind fun bt417=>((spec_l06Right.f k bt417.1 bt417.2.1 bt417.2.2).bind fun bt421=>((spec_l06Pushed.f k bt421.1 bt421.2.1 1000).bind fun t427=>(some t427)))) = some r:=h
 clear h
 replace H:=bs_ H
 obtain ⟨⟨t417,t418,t419⟩,A20,H⟩:=H
 replace H : ((spec_l06Right.f k t417 t418 t419).bind fun bt421=>((spec_l06Pushed.f k bt421.1 bt421.2.1 1000).bind fun t427=>(some t427))) = some r:=H
 have A2:=am_ A20
 clear A20
 replace H:=bs_ H
 obtain ⟨⟨t421,t422,t425,t426⟩,A30,H⟩:=H
 replace H : ((spec_l06Pushed.f k t421 t422 1000).bind fun t427=>(some t427)) = some r:=H
 have A3:=am_ A30
 clear A30
 replace H:=bs_ H
 obtain ⟨t427,A40,H⟩:=H
 replace H : (some t427) = some r:=H
 have A4:=am_ A40
 clear A40
 obtain rfl:=Option.some.inj H
 go_enter Try.func37,Try.ntmps37
 go_wp2_with (first|((with_reducible refine gate_callee (f:=59) rfl ?_);refine goesL_ (some 4) rfl rfl Try.func59 (by kernel_rfl) rfl #[.slice A0 l0.length c0] rfl (by (try simp only [List.map_toArray,List.map_cons,List.map_nil]);rfl) ?_;(with_reducible refine (spec_l01New.calls k _ _ l0 t417 t418 t419 w _ ?side1 ?side2 ?side3 A2.out).mono ?_);(case side1=>exact HB.out);(case side2=>exact HR0.out);(case side3=>exact HC0.out);rintro e w5 ⟨g420,rfl,hi,hb,hb2⟩;refine ⟨_,rfl,?_⟩;have n0_:=am_ (hb);have n1_:=am_ (hi);clear HB;have HB:=n0_;have HI420:=n1_;clear n0_ n1_;(try clear hb);(try clear hb2);(try clear hi))|((with_reducible refine gate_callee (f:=60) rfl ?_);refine goesL_ (some 5) rfl rfl Try.func60 (by kernel_rfl) rfl #[.pointer (some ⟨g420,0,none⟩)] rfl (by (try simp only [List.map_toArray,List.map_cons,List.map_nil]);rfl) ?_;(with_reducible refine (spec_l06Right.calls k g420 t417 t418 t419 t421 t422 t425 t426 w _ ?side1 ?side2 A3.out).mono ?_);(case side1=>exact HI420.out);(case side2=>exact HB.out);rintro e w6 ⟨v423,rfl,ho0,hi,hb,hk⟩;refine ⟨_,rfl,?_⟩;have n0_:=am_ (Kd.R_lower ho0 (below_size HB.out));have n1_:=am_ (hb);have n2_:=am_ (hi);clear HB HI420;have HO424:=n0_;have HB:=n1_;have HI420:=n2_;clear n0_ n1_ n2_;(try clear hb);(try clear hk);(try clear hi);(try clear ho0);obtain ⟨Ao7,co7,eo7⟩:=Kd.R_slice HO424.out;subst eo7)|((with_reducible refine gate_callee (f:=52) rfl ?_);refine goesL_ (some 6) rfl rfl Try.func52 (by kernel_rfl) rfl #[.agg #[.int .i64 t421,.slice Ao7 t422.length co7],.int .i64 1000] rfl (by (try simp only [List.map_toArray,List.map_cons,List.map_nil]);rfl) ?_;(with_reducible refine (spec_l06Pushed.calls k t421 _ _ t422 1000 t427 _ ?side1 ?side2 A4.out).mono ?_);(case side1=>repeat (exact (Kd.R_reads' HO424.out).2.2));(case side2=>exact (Kd.R_reads' HO424.out).2.1);rintro e w8 ⟨v428,rfl,ho0,hb⟩;refine ⟨_,rfl,?_⟩;have n0_:=am_ (Kd.R_below HO424.out hb);have n1_:=am_ (Kd.R_lower ho0 (below_size HB.out));have n2_:=am_ (IsS95.below (by exact HI420.out) hb);have n3_:=am_ (below_step HB.out hb);clear HO424 HI420 HB;have HO424:=n0_;have HO429:=n1_;have HI420:=n2_;have HB:=n3_;clear n0_ n1_ n2_ n3_;(try clear hb);(try clear ho0)))
 go_ret
 exact ⟨_,by rfl,by exact HO429.out,by exact HB.out⟩

/-! ### impl_CutOk: function 38 -/
def impl_CutOk.f (k : Nat) (a0_0 : Int) (l0_1 : List (S67)) (l1 : List Bool) : Option (Bool):=(impl_NetOk.f k a0_0 l0_1).bind fun t431=>(if t431 = true then (if (l1.length : Int) = a0_0 then (if 0 < (l1.length : Int) then (if rdOf false l1 0 = true then (if 1 < (l1.length : Int) then (some (!(rdOf false l1 1))) else (none)) else (some false)) else (none)) else (some false)) else (some false))
theorem impl_CutOk.mono : ∀ a0 a1 a2 k,LeO (impl_CutOk.f k a0 a1 a2) (impl_CutOk.f (k + 1) a0 a1 a2):=by
 intro a0 a1 a2 k
 unfold impl_CutOk.f
 repeat' first
   | (with_reducible exact impl_NetOk.mono _ _ _)
   | (with_reducible exact LeO.refl _)
   | (with_reducible refine LeO.bind ?_ (fun _ => ?_))
set_option maxHeartbeats 8000000 in
set_option maxRecDepth 100000 in
theorem impl_CutOk.calls (k : Nat) (a0_0 : Int) (A0_1 : Option Addr) (c0_1 : Nat) (l0_1 : List (S67)) (A1 : Option Addr) (c1 : Nat) (l1 : List Bool) (r : Bool) (w : World) (hr0_1 : Kd.C k67 w A0_1 l0_1.length l0_1) (hc0_1 : l0_1.length ≤ c0_1) (hr1 : Kd.C Kd.bool w A1 l1.length l1) (hc1 : l1.length ≤ c1) (h : impl_CutOk.f k a0_0 l0_1 l1 = some r) :
  Calls Try.prog 38 #[.agg #[.int .i64 a0_0,.slice A0_1 l0_1.length c0_1],.slice A1 l1.length c1] w fun e w'=>e = .returned (.bool r) ∧ Below w.heap.size w w':=by
 have hu30:=Try.underlying30
 have HR0_1:=am_ hr0_1
 have HC0_1:=am_ hc0_1
 clear hr0_1 hc0_1
 have HR1:=am_ hr1
 have HC1:=am_ hc1
 clear hr1 hc1
 have HB:=am_ (Below.refl w.heap.size w)
 have H : ((impl_NetOk.f k a0_0 l0_1).bind fun t431=>(if t431 = true then (if (l1.length : Int) = a0_0 then (if 0 < (l1.length : Int) then (if rdOf false l1 0 = true then (if 1 < (l1.length : Int) then (some (!(rdOf false l1 1))) else (none)) else (some false)) else (none)) else (some false)) else (some false))) = some r:=h
 clear h
 replace H:=bs_ H
 obtain ⟨t431,A30,H⟩:=H
 replace H : (if t431 = true then (if (l1.length : Int) = a0_0 then (if 0 < (l1.length : Int) then (if rdOf false l1 0 = true then (if 1 < (l1.length : Int) then (some (!(rdOf false l1 1))) else (none)) else (some false)) else (none)) else (some false)) else (some false)) = some r:=H
 have A3:=am_ A30
 clear A30
 by_cases c4 : t431 = true
 rotate_left
 ·replace c4:=Bool.eq_false_iff.mpr c4
  subst c4
  have H1 : (some false) = some r:=by rw [if_neg (show ¬ (false = true) by decide)] at H;exact H
  clear H
  have H:=H1
  clear H1
  obtain rfl:=Option.some.inj H
  go_enter Try.func38,Try.ntmps38
  go_wp2_with (first|((with_reducible refine gate_dst (N:=2) rfl ?_);(try (refine gate_guard (by rfl) ?_;dsimp only));refine box_event ?hg (N:=2) ?hd (cs:=#[.int .i64 a0_0,.slice A0_1 l0_1.length c0_1]) (t:=30) ?hr ?_;(case hd=>rfl);(case hg=>rfl);(case hr=>(go_simp;done));intro gb430 hg w22 hbox hb;have n0_:=am_ (below_step HB.out hb);have n1_:=am_ (hbox);have n2_:=am_ ((by rw [hg];exact (below_size HB.out) : w.heap.size ≤ gb430));have n3_:=n2_;clear HB;have HB:=n0_;have BK430:=n1_;have GW430:=n2_;have GE430:=n3_;clear n0_ n1_ n2_ n3_ hb hbox hg;have hcz23_0 : w22.cell? ⟨gb430,0,none⟩ = some (.int .i64 a0_0):=bc_ BK430.out 0;have hcz23_1 : w22.cell? ⟨gb430,1,none⟩ = some (.slice A0_1 l0_1.length c0_1):=bc_ BK430.out 1;have hfz23_0:=blk_frozen BK430.out 0;have hfz23_1:=blk_frozen BK430.out 1)|((with_reducible refine gate_callee (f:=53) rfl ?_);refine goesL_ (some 6) rfl rfl Try.func53 (by kernel_rfl) rfl #[.agg #[.int .i64 a0_0,.slice A0_1 l0_1.length c0_1]] rfl (by (try simp only [List.map_toArray,List.map_cons,List.map_nil]);rfl) ?_;(with_reducible refine (impl_NetOk.calls k a0_0 _ _ l0_1 false _ ?side1 ?side2 A3.out).mono ?_);(case side1=>exact (Kd.C_below HR0_1.out HB.out));(case side2=>exact HC0_1.out);rintro e w24 ⟨rfl,hb⟩;refine ⟨_,rfl,?_⟩;have n0_:=am_ (blk_below BK430.out hb);have n1_:=am_ (below_step HB.out hb);clear BK430 HB;have BK430:=n0_;have HB:=n1_;clear n0_ n1_;(try clear hb)))
  go_ret
  exact ⟨by rfl,by exact HB.out⟩
 subst c4
 have H1 : (if (l1.length : Int) = a0_0 then (if 0 < (l1.length : Int) then (if rdOf false l1 0 = true then (if 1 < (l1.length : Int) then (some (!(rdOf false l1 1))) else (none)) else (some false)) else (none)) else (some false)) = some r:=by rw [if_pos rfl] at H;exact H
 clear H
 have H:=H1
 clear H1
 by_cases c5 : (l1.length : Int) = a0_0
 rotate_left
 ·rw [if_neg c5] at H
  have c5b0 : ((l1.length : Int) == a0_0) = false:=beq_eq_false_iff_ne.mpr c5
  have c5b1 : ((l1.length : Int) != a0_0) = true:=bne_iff_ne.mpr c5
  obtain rfl:=Option.some.inj H
  go_enter Try.func38,Try.ntmps38
  go_wp2_with (first|((with_reducible refine gate_dst (N:=2) rfl ?_);(try (refine gate_guard (by rfl) ?_;dsimp only));refine box_event ?hg (N:=2) ?hd (cs:=#[.int .i64 a0_0,.slice A0_1 l0_1.length c0_1]) (t:=30) ?hr ?_;(case hd=>rfl);(case hg=>rfl);(case hr=>(go_simp;done));intro gb430 hg w18 hbox hb;have n0_:=am_ (below_step HB.out hb);have n1_:=am_ (hbox);have n2_:=am_ ((by rw [hg];exact (below_size HB.out) : w.heap.size ≤ gb430));have n3_:=n2_;clear HB;have HB:=n0_;have BK430:=n1_;have GW430:=n2_;have GE430:=n3_;clear n0_ n1_ n2_ n3_ hb hbox hg;have hcz19_0 : w18.cell? ⟨gb430,0,none⟩ = some (.int .i64 a0_0):=bc_ BK430.out 0;have hcz19_1 : w18.cell? ⟨gb430,1,none⟩ = some (.slice A0_1 l0_1.length c0_1):=bc_ BK430.out 1;have hfz19_0:=blk_frozen BK430.out 0;have hfz19_1:=blk_frozen BK430.out 1)|((with_reducible refine gate_callee (f:=53) rfl ?_);refine goesL_ (some 6) rfl rfl Try.func53 (by kernel_rfl) rfl #[.agg #[.int .i64 a0_0,.slice A0_1 l0_1.length c0_1]] rfl (by (try simp only [List.map_toArray,List.map_cons,List.map_nil]);rfl) ?_;(with_reducible refine (impl_NetOk.calls k a0_0 _ _ l0_1 true _ ?side1 ?side2 A3.out).mono ?_);(case side1=>exact (Kd.C_below HR0_1.out HB.out));(case side2=>exact HC0_1.out);rintro e w20 ⟨rfl,hb⟩;refine ⟨_,rfl,?_⟩;have n0_:=am_ (blk_below BK430.out hb);have n1_:=am_ (below_step HB.out hb);clear BK430 HB;have BK430:=n0_;have HB:=n1_;clear n0_ n1_;(try clear hb);have hcz21_0 : w20.cell? ⟨gb430,0,none⟩ = some (.int .i64 a0_0):=bc_ BK430.out 0;have hcz21_1 : w20.cell? ⟨gb430,1,none⟩ = some (.slice A0_1 l0_1.length c0_1):=bc_ BK430.out 1;have hfz21_0:=blk_frozen BK430.out 0;have hfz21_1:=blk_frozen BK430.out 1))
  go_ret
  exact ⟨by rfl,by exact HB.out⟩
 rw [if_pos c5] at H
 have c5b0 : ((l1.length : Int) == a0_0) = true:=beq_iff_eq.mpr c5
 have c5b1 : ((l1.length : Int) != a0_0) = false:=bne_eq_false_iff_eq.mpr c5
 clear c5
 by_cases c6 : 0 < (l1.length : Int)
 rotate_left
 ·rw [if_neg c6] at H
  exact absurd H (by simp)
 rw [if_pos c6] at H
 have c6b0 : decide (0 < (l1.length : Int)) = true:=decide_eq_true c6
 have c6b1 : decide (0 < l1.length) = true:=decide_eq_true (by omega)
 clear c6
 obtain ⟨bq7,hbq7⟩ : ∃ b_ : Bool,b_ = (rdOf false l1 0):=⟨_,rfl⟩
 replace H : (if bq7 = true then (if 1 < (l1.length : Int) then (some (!(rdOf false l1 1))) else (none)) else (some false)) = some r:=by rw [← hbq7] at H;exact H
 have Nbq7:=am_ hbq7
 clear hbq7
 by_cases c8 : bq7 = true
 ·subst c8
  have H1 : (if 1 < (l1.length : Int) then (some (!(rdOf false l1 1))) else (none)) = some r:=by rw [if_pos rfl] at H;exact H
  clear H
  have H:=H1
  clear H1
  by_cases c9 : 1 < (l1.length : Int)
  ·rw [if_pos c9] at H
   have c9b0 : decide (1 < (l1.length : Int)) = true:=decide_eq_true c9
   have c9b1 : decide (1 < l1.length) = true:=decide_eq_true (by omega)
   clear c9
   obtain rfl:=Option.some.inj H
   go_enter Try.func38,Try.ntmps38
   go_wp2_with (first|((with_reducible refine gate_dst (N:=2) rfl ?_);(try (refine gate_guard (by rfl) ?_;dsimp only));refine box_event ?hg (N:=2) ?hd (cs:=#[.int .i64 a0_0,.slice A0_1 l0_1.length c0_1]) (t:=30) ?hr ?_;(case hd=>rfl);(case hg=>rfl);(case hr=>(go_simp;done));intro gb430 hg w10 hbox hb;have n0_:=am_ (below_step HB.out hb);have n1_:=am_ (hbox);have n2_:=am_ ((by rw [hg];exact (below_size HB.out) : w.heap.size ≤ gb430));have n3_:=n2_;clear HB;have HB:=n0_;have BK430:=n1_;have GW430:=n2_;have GE430:=n3_;clear n0_ n1_ n2_ n3_ hb hbox hg;have hcz11_0 : w10.cell? ⟨gb430,0,none⟩ = some (.int .i64 a0_0):=bc_ BK430.out 0;have hcz11_1 : w10.cell? ⟨gb430,1,none⟩ = some (.slice A0_1 l0_1.length c0_1):=bc_ BK430.out 1;have hfz11_0:=blk_frozen BK430.out 0;have hfz11_1:=blk_frozen BK430.out 1)|((with_reducible refine gate_callee (f:=53) rfl ?_);refine goesL_ (some 6) rfl rfl Try.func53 (by kernel_rfl) rfl #[.agg #[.int .i64 a0_0,.slice A0_1 l0_1.length c0_1]] rfl (by (try simp only [List.map_toArray,List.map_cons,List.map_nil]);rfl) ?_;(with_reducible refine (impl_NetOk.calls k a0_0 _ _ l0_1 true _ ?side1 ?side2 A3.out).mono ?_);(case side1=>exact (Kd.C_below HR0_1.out HB.out));(case side2=>exact HC0_1.out);rintro e w12 ⟨rfl,hb⟩;refine ⟨_,rfl,?_⟩;have n0_:=am_ (blk_below BK430.out hb);have n1_:=am_ (below_step HB.out hb);clear BK430 HB;have BK430:=n0_;have HB:=n1_;clear n0_ n1_;(try clear hb);have hcz13_0 : w12.cell? ⟨gb430,0,none⟩ = some (.int .i64 a0_0):=bc_ BK430.out 0;have hcz13_1 : w12.cell? ⟨gb430,1,none⟩ = some (.slice A0_1 l0_1.length c0_1):=bc_ BK430.out 1;have hfz13_0:=blk_frozen BK430.out 0;have hfz13_1:=blk_frozen BK430.out 1;have p432 : 0 ≤ (0 : Int):=(by omega);have q432 : 0 < (l1.length : Int):=od_ (by (with_reducible assumption));obtain ⟨ad432,e432,hx432_0⟩:=Kd.at_bool HR1.out 0 p432 q432;(try rw [← Nbq7.out] at hx432_0);cases e432;have qi432 : (0 < l1.length) = True:=eq_true (by omega);(try rw [show ((0 : Int)).toNat = 0 from rfl] at hx432_0);(try rw [Addr.add_zero'] at hx432_0);replace hx432_0:=kc_ HB.out hx432_0;replace p432:=eq_true p432;replace q432:=eq_true q432;have p433 : 0 ≤ (1 : Int):=(by omega);have q433 : 1 < (l1.length : Int):=od_ (by (with_reducible assumption));obtain ⟨ad433,e433,hx433_0⟩:=Kd.at_bool HR1.out 1 p433 q433;obtain rfl : ad432 = ad433:=(by injection e433);(try simp only [show (1 : Int).toNat = 1 from rfl,Nat.reduceMul,Nat.reduceEqDiff,Go.Addr.add,↓reduceIte] at hx433_0);have qi433 : (1 < l1.length) = True:=eq_true (by omega);replace hx433_0:=kc_ HB.out hx433_0;replace p433:=eq_true p433;replace q433:=eq_true q433))
   go_ret
   exact ⟨by rfl,by exact HB.out⟩
  rw [if_neg c9] at H
  exact absurd H (by simp)
 replace c8:=Bool.eq_false_iff.mpr c8
 subst c8
 have H1 : (some false) = some r:=by rw [if_neg (show ¬ (false = true) by decide)] at H;exact H
 clear H
 have H:=H1
 clear H1
 obtain rfl:=Option.some.inj H
 go_enter Try.func38,Try.ntmps38
 go_wp2_with (first|((with_reducible refine gate_dst (N:=2) rfl ?_);(try (refine gate_guard (by rfl) ?_;dsimp only));refine box_event ?hg (N:=2) ?hd (cs:=#[.int .i64 a0_0,.slice A0_1 l0_1.length c0_1]) (t:=30) ?hr ?_;(case hd=>rfl);(case hg=>rfl);(case hr=>(go_simp;done));intro gb430 hg w14 hbox hb;have n0_:=am_ (below_step HB.out hb);have n1_:=am_ (hbox);have n2_:=am_ ((by rw [hg];exact (below_size HB.out) : w.heap.size ≤ gb430));have n3_:=n2_;clear HB;have HB:=n0_;have BK430:=n1_;have GW430:=n2_;have GE430:=n3_;clear n0_ n1_ n2_ n3_ hb hbox hg;have hcz15_0 : w14.cell? ⟨gb430,0,none⟩ = some (.int .i64 a0_0):=bc_ BK430.out 0;have hcz15_1 : w14.cell? ⟨gb430,1,none⟩ = some (.slice A0_1 l0_1.length c0_1):=bc_ BK430.out 1;have hfz15_0:=blk_frozen BK430.out 0;have hfz15_1:=blk_frozen BK430.out 1)|((with_reducible refine gate_callee (f:=53) rfl ?_);refine goesL_ (some 6) rfl rfl Try.func53 (by kernel_rfl) rfl #[.agg #[.int .i64 a0_0,.slice A0_1 l0_1.length c0_1]] rfl (by (try simp only [List.map_toArray,List.map_cons,List.map_nil]);rfl) ?_;(with_reducible refine (impl_NetOk.calls k a0_0 _ _ l0_1 true _ ?side1 ?side2 A3.out).mono ?_);(case side1=>exact (Kd.C_below HR0_1.out HB.out));(case side2=>exact HC0_1.out);rintro e w16 ⟨rfl,hb⟩;refine ⟨_,rfl,?_⟩;have n0_:=am_ (blk_below BK430.out hb);have n1_:=am_ (below_step HB.out hb);clear BK430 HB;have BK430:=n0_;have HB:=n1_;clear n0_ n1_;(try clear hb);have hcz17_0 : w16.cell? ⟨gb430,0,none⟩ = some (.int .i64 a0_0):=bc_ BK430.out 0;have hcz17_1 : w16.cell? ⟨gb430,1,none⟩ = some (.slice A0_1 l0_1.length c0_1):=bc_ BK430.out 1;have hfz17_0:=blk_frozen BK430.out 0;have hfz17_1:=blk_frozen BK430.out 1;have p432 : 0 ≤ (0 : Int):=(by omega);have q432 : 0 < (l1.length : Int):=od_ (by (with_reducible assumption));obtain ⟨ad432,e432,hx432_0⟩:=Kd.at_bool HR1.out 0 p432 q432;(try rw [← Nbq7.out] at hx432_0);cases e432;have qi432 : (0 < l1.length) = True:=eq_true (by omega);(try rw [show ((0 : Int)).toNat = 0 from rfl] at hx432_0);(try rw [Addr.add_zero'] at hx432_0);replace hx432_0:=kc_ HB.out hx432_0;replace p432:=eq_true p432;replace q432:=eq_true q432))
 go_ret
 exact ⟨by rfl,by exact HB.out⟩

end Go.Proofs.Ytgkpgigoonhgdaa.PFnMostCut
