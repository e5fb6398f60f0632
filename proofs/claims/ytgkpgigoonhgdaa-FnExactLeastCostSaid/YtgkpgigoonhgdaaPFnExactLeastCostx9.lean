-- Made by the session's wip/pp.py, a changed call of the kit's printer; Lean checks it.
import Derived.Test.YtgkpgigoonhgdaaPFnExactLeastCostx0
namespace Go.Proofs.Ytgkpgigoonhgdaa.PFnExactLeastCost
open Go.RowKit Go.Proofs.YtgkpgigoonhgdaaW.PrintWords Go.Proofs.YtgkpgigoonhgdaaW.PrintLast Go.Proofs.YtgkpgigoonhgdaaW.PrintMore
attribute [local go_sem] max2_int min2_int max_two min_two max_three min_three max_four min_four   -- for this text's walks alone
set_option linter.unusedVariables false
set_option linter.unusedSimpArgs false

/-! ### impl_NetOk: function 53 -/
mutual
def impl_NetOk.j0 : Nat → Bool → Int → List (S67) → Option (Bool)
 | 0, _, _, _ => none
 | k + 1, x18, x265000, x265001 => if x18 = true then (some false) else (impl_NetOk.l0 k x265001 (x265001.length : Int) 0 x265000 x265001)
def impl_NetOk.l0 : Nat → List (S67) → Int → Int → Int → List (S67) → Option (Bool)
 | 0, _, _, _, _, _ => none
 | k + 1, x20, x21, x22, x265000, x265001 => if x22 < x21 then (if 0 ≤ x22 then (if x22 < (x20.length : Int) then (if ((rd_T67 x20 x22).f0) < 0 then (impl_NetOk.j2 k x20 x21 x22 true x265000 x265001 ((rd_T67 x20 x22).f0) ((rd_T67 x20 x22).f1) ((rd_T67 x20 x22).f2) ((rd_T67 x20 x22).f3)) else (if ((rd_T67 x20 x22).f0) ≥ x265000 then (impl_NetOk.j2 k x20 x21 x22 true x265000 x265001 ((rd_T67 x20 x22).f0) ((rd_T67 x20 x22).f1) ((rd_T67 x20 x22).f2) ((rd_T67 x20 x22).f3)) else (if ((rd_T67 x20 x22).f1) < 0 then (impl_NetOk.j2 k x20 x21 x22 true x265000 x265001 ((rd_T67 x20 x22).f0) ((rd_T67 x20 x22).f1) ((rd_T67 x20 x22).f2) ((rd_T67 x20 x22).f3)) else (if ((rd_T67 x20 x22).f1) ≥ x265000 then (impl_NetOk.j2 k x20 x21 x22 true x265000 x265001 ((rd_T67 x20 x22).f0) ((rd_T67 x20 x22).f1) ((rd_T67 x20 x22).f2) ((rd_T67 x20 x22).f3)) else (impl_NetOk.j2 k x20 x21 x22 (((rd_T67 x20 x22).f0) == ((rd_T67 x20 x22).f1)) x265000 x265001 ((rd_T67 x20 x22).f0) ((rd_T67 x20 x22).f1) ((rd_T67 x20 x22).f2) ((rd_T67 x20 x22).f3)))))) else (none)) else (none)) else (some true)
def impl_NetOk.j2 : Nat → List (S67) → Int → Int → Bool → Int → List (S67) → Int → Int → Int → Int → Option (Bool)
 | 0, _, _, _, _, _, _, _, _, _, _ => none
 | k + 1, x20, x21, x22, x54, x265000, x265001, x267000, x267001, x267002, x267003 => if x54 = true then (some false) else (if x267002 < 0 then (some false) else (if x267002 > 20 then (some false) else (if x267003 < 0 then (some false) else (if x267003 > 100 then (some false) else (impl_NetOk.l0 k x20 x21 (wrap64 (x22 + 1)) x265000 x265001)))))
end
def impl_NetOk.f (k : Nat) (a0_0 : Int) (l0_1 : List (S67)) : Option (Bool):=if a0_0 < 2 then (impl_NetOk.j0 k true a0_0 l0_1) else (if a0_0 > 1500 then (impl_NetOk.j0 k true a0_0 l0_1) else (impl_NetOk.j0 k (decide ((l0_1.length : Int) > 3200)) a0_0 l0_1))
theorem impl_NetOk.mono_l : ∀ k,(∀ y0 y1 y2,LeO (impl_NetOk.j0 k y0 y1 y2) (impl_NetOk.j0 (k + 1) y0 y1 y2)) ∧ (∀ y0 y1 y2 y3 y4,LeO (impl_NetOk.l0 k y0 y1 y2 y3 y4) (impl_NetOk.l0 (k + 1) y0 y1 y2 y3 y4)) ∧ (∀ y0 y1 y2 y3 y4 y5 y6 y7 y8 y9,LeO (impl_NetOk.j2 k y0 y1 y2 y3 y4 y5 y6 y7 y8 y9) (impl_NetOk.j2 (k + 1) y0 y1 y2 y3 y4 y5 y6 y7 y8 y9))
 | 0 => ⟨fun _ _ _ r h => by simp [impl_NetOk.j0] at h, fun _ _ _ _ _ r h => by simp [impl_NetOk.l0] at h, fun _ _ _ _ _ _ _ _ _ _ r h => by simp [impl_NetOk.j2] at h⟩
 | k + 1 => by
  obtain ⟨ih0,ih1,ih2⟩:=impl_NetOk.mono_l k
  refine ⟨?_,?_,?_⟩
  ·intro y0 y1 y2
   unfold impl_NetOk.j0
   repeat' first
   | (with_reducible exact ih1 _ _ _ _ _)
   | (with_reducible exact LeO.refl _)
   | (with_reducible refine LeO.ite ?_ ?_)
  ·intro y0 y1 y2 y3 y4
   unfold impl_NetOk.l0
   repeat' first
   | (with_reducible exact ih2 _ _ _ _ _ _ _ _ _ _)
   | (with_reducible exact LeO.refl _)
   | (with_reducible refine LeO.ite ?_ ?_)
  ·intro y0 y1 y2 y3 y4 y5 y6 y7 y8 y9
   unfold impl_NetOk.j2
   repeat' first
   | (with_reducible exact ih1 _ _ _ _ _)
   | (with_reducible exact LeO.refl _)
   | (with_reducible refine LeO.ite ?_ ?_)
theorem impl_NetOk.mono : ∀ a0 a1 k,LeO (impl_NetOk.f k a0 a1) (impl_NetOk.f (k + 1) a0 a1):=by
 intro a0 a1 k
 obtain ⟨ih0,ih1,ih2⟩:=impl_NetOk.mono_l k
 unfold impl_NetOk.f
 repeat' first
   | (with_reducible exact ih0 _ _ _)
   | (with_reducible refine LeO.ite ?_ ?_)
set_option maxHeartbeats 8000000 in
set_option maxRecDepth 100000 in
theorem impl_NetOk.calls (k : Nat) (a0_0 : Int) (A0_1 : Option Addr) (c0_1 : Nat) (l0_1 : List (S67)) (r : Bool) (w : World) (hr0_1 : Kd.C k67 w A0_1 l0_1.length l0_1) (hc0_1 : l0_1.length ≤ c0_1) (h : impl_NetOk.f k a0_0 l0_1 = some r) :
  Calls Try.prog 53 #[.agg #[.int .i64 a0_0,.slice A0_1 l0_1.length c0_1]] w fun e w'=>e = .returned (.bool r) ∧ Below w.heap.size w w':=by
 have hu30:=Try.underlying30
 have hu67:=Try.underlying67
 have HR0_1:=am_ hr0_1
 have HC0_1:=am_ hc0_1
 clear hr0_1 hc0_1
 have HB:=am_ (Below.refl w.heap.size w)
 have H : (if a0_0 < 2 then (impl_NetOk.j0 k true a0_0 l0_1) else (if a0_0 > 1500 then (impl_NetOk.j0 k true a0_0 l0_1) else (impl_NetOk.j0 k (decide ((l0_1.length : Int) > 3200)) a0_0 l0_1))) = some r:=h
 clear h
 have HC2:=am_ H
 clear H
 go_enter Try.func53,Try.ntmps53
 go_upto_region 1 with (((with_reducible refine gate_dst (N:=1) rfl ?_);(try (refine gate_guard (by rfl) ?_;dsimp only));refine box_event ?hg (N:=1) ?hd (cs:=#[.int .i64 a0_0,.slice A0_1 l0_1.length c0_1]) (t:=30) ?hr ?_;(case hd=>rfl);(case hg=>rfl);(case hr=>(go_simp;done));intro gb264 hg w3 hbox hb;have n0_:=am_ (below_step HB.out hb);have n1_:=am_ (hbox);have n2_:=am_ ((by rw [hg];exact (below_size HB.out) : w.heap.size ≤ gb264));have n3_:=n2_;clear HB;have HB:=n0_;have BK264:=n1_;have GW264:=n2_;have GE264:=n3_;clear n0_ n1_ n2_ n3_ hb hbox hg))
 (skip)
 go_cut [18] (fun v18 wc=>∃ (kq : Nat) (x18_1 : Bool),v18 = .bool x18_1 ∧ Aside0 (impl_NetOk.j0 kq x18_1 a0_0 l0_1 = some r) ∧ Aside0 (kq ≤ k) ∧ Aside0 (wc.heap[gb264]? = some (.cells #[.int .i64 a0_0,(.slice A0_1 l0_1.length c0_1)] 30 (0,0))) ∧ Aside0 (Below w.heap.size w wc))
 case first =>
  have H:=HC2.out
  clear HC2
  by_cases c4 : a0_0 < 2
  ·rw [if_pos c4] at H
   have c4b0 : decide (a0_0 < 2) = true:=decide_eq_true c4
   clear c4
   (skip)
   have H':=am_ H
   clear H
   have hcz5_0 : w3.cell? ⟨gb264,0,none⟩ = some (.int .i64 a0_0):=(blk_cell BK264.out 0).trans rfl
   have hcz5_1 : w3.cell? ⟨gb264,1,none⟩ = some (.slice A0_1 l0_1.length c0_1):=(blk_cell BK264.out 1).trans rfl
   have hfz5_0:=blk_frozen BK264.out 0
   have hfz5_1:=blk_frozen BK264.out 1
   go_wp2
   go_meet
   case rel=>exact ⟨_,(true),(by rfl),H',⟨by omega⟩,⟨by exact BK264.out⟩,⟨by exact HB.out⟩⟩
  rw [if_neg c4] at H
  have c4b0 : decide (a0_0 < 2) = false:=decide_eq_false c4
  clear c4
  (skip)
  by_cases c6 : a0_0 > 1500
  ·rw [if_pos c6] at H
   have c6b0 : decide (1500 < a0_0) = true:=decide_eq_true c6
   clear c6
   have H':=am_ H
   clear H
   have hcz7_0 : w3.cell? ⟨gb264,0,none⟩ = some (.int .i64 a0_0):=(blk_cell BK264.out 0).trans rfl
   have hcz7_1 : w3.cell? ⟨gb264,1,none⟩ = some (.slice A0_1 l0_1.length c0_1):=(blk_cell BK264.out 1).trans rfl
   have hfz7_0:=blk_frozen BK264.out 0
   have hfz7_1:=blk_frozen BK264.out 1
   go_wp2
   go_meet
   case rel=>exact ⟨_,(true),(by rfl),H',⟨by omega⟩,⟨by exact BK264.out⟩,⟨by exact HB.out⟩⟩
  rw [if_neg c6] at H
  have c6b0 : decide (1500 < a0_0) = false:=decide_eq_false c6
  clear c6
  have H':=am_ H
  clear H
  have hcz8_0 : w3.cell? ⟨gb264,0,none⟩ = some (.int .i64 a0_0):=(blk_cell BK264.out 0).trans rfl
  have hcz8_1 : w3.cell? ⟨gb264,1,none⟩ = some (.slice A0_1 l0_1.length c0_1):=(blk_cell BK264.out 1).trans rfl
  have hfz8_0:=blk_frozen BK264.out 0
  have hfz8_1:=blk_frozen BK264.out 1
  go_wp2
  go_meet
  case rel=>exact ⟨_,(decide ((l0_1.length : Int) > 3200)),(by rfl),H',⟨by omega⟩,⟨by exact BK264.out⟩,⟨by exact HB.out⟩⟩
 case rest =>
  clear HC2
  try clear p2
  try clear c4
  try clear c4b0
  try clear c5
  try clear c6
  try clear c6b0
  try clear hcz5_0
  try clear hcz5_1
  try clear hcz7_0
  try clear hcz7_1
  try clear hcz8_0
  try clear hcz8_1
  try clear hfz5_0
  try clear hfz5_1
  try clear hfz7_0
  try clear hfz7_1
  try clear hfz8_0
  try clear hfz8_1
  obtain ⟨kq,x18_1,rfl,HA,HJ1,BK264,HB⟩:=hcut
  cases kq with
  | zero => exact absurd HA.out (by simp [impl_NetOk.j0])
  | succ kj1 =>
   have H:=HA.out
   clear HA
   simp only [impl_NetOk.j0] at H
   by_cases c9 : x18_1 = true
   ·subst c9
    have H1 : (some false) = some r:=by rw [if_pos rfl] at H;exact H
    clear H
    have H:=H1
    clear H1
    obtain rfl:=Option.some.inj H
    go_wp2
    go_ret
    exact ⟨by rfl,by exact HB.out⟩
   replace c9:=Bool.eq_false_iff.mpr c9
   subst c9
   have H1 : (impl_NetOk.l0 kj1 l0_1 (l0_1.length : Int) 0 a0_0 l0_1) = some r:=by rw [if_neg (show ¬ (false = true) by decide)] at H;exact H
   clear H
   have H:=H1
   clear H1
   have H':=am_ H
   clear H
   have hcz10_0 : wc.cell? ⟨gb264,0,none⟩ = some (.int .i64 a0_0):=(blk_cell BK264.out 0).trans rfl
   have hcz10_1 : wc.cell? ⟨gb264,1,none⟩ = some (.slice A0_1 l0_1.length c0_1):=(blk_cell BK264.out 1).trans rfl
   have hfz10_0:=blk_frozen BK264.out 0
   have hfz10_1:=blk_frozen BK264.out 1
   go_wp2
   go_loopg [22] kj1 (fun kq v22 w'=>∃ (x22_2 : Int),v22 = .int .i64 x22_2 ∧ Aside0 (impl_NetOk.l0 kq l0_1 (l0_1.length : Int) x22_2 a0_0 l0_1 = some r) ∧ Aside0 (kq ≤ kj1) ∧ Aside0 (w'.heap[gb264]? = some (.cells #[.int .i64 a0_0,(.slice A0_1 l0_1.length c0_1)] 30 (0,0))) ∧ Aside0 (Below w.heap.size w w'))
   case atStart=>exact ⟨(0),(by rfl),H',⟨Nat.le_refl _⟩,⟨by exact BK264.out⟩,⟨by exact HB.out⟩⟩
   case round =>
    clear H'
    try clear p2
    try clear c4
    try clear c4b0
    try clear c5
    try clear c6
    try clear c6b0
    try clear c9
    try clear hcz10_0
    try clear hcz10_1
    try clear hcz5_0
    try clear hcz5_1
    try clear hcz7_0
    try clear hcz7_1
    try clear hcz8_0
    try clear hcz8_1
    try clear hfz10_0
    try clear hfz10_1
    try clear hfz5_0
    try clear hfz5_1
    try clear hfz7_0
    try clear hfz7_1
    try clear hfz8_0
    try clear hfz8_1
    try clear p2
    obtain ⟨x22_2,rfl,HA,HK2,BK264,HB⟩:=hrel
    cases gk with
    | zero => exact absurd HA.out (by simp [impl_NetOk.l0])
    | succ k2 =>
     have H:=HA.out
     clear HA
     simp only [impl_NetOk.l0] at H
     by_cases c11 : x22_2 < (l0_1.length : Int)
     rotate_left
     ·rw [if_neg c11] at H
      have c11b0 : decide (x22_2 < (l0_1.length : Int)) = false:=decide_eq_false c11
      clear c11
      obtain rfl:=Option.some.inj H
      go_wp2
      go_ret
      exact ⟨by rfl,by exact HB.out⟩
     rw [if_pos c11] at H
     have c11b0 : decide (x22_2 < (l0_1.length : Int)) = true:=decide_eq_true c11
     clear c11
     by_cases c12 : 0 ≤ x22_2
     rotate_left
     ·rw [if_neg c12] at H
      exact absurd H (by simp)
     rw [if_pos c12] at H
     have c12b0 : decide (0 ≤ x22_2) = true:=decide_eq_true c12
     clear c12
     by_cases c13 : x22_2 < (l0_1.length : Int)
     rotate_left
     ·rw [if_neg c13] at H
      exact absurd H (by simp)
     rw [if_pos c13] at H
     have c13b0 : decide (x22_2 < (l0_1.length : Int)) = true:=decide_eq_true c13
     clear c13
     have HC14:=am_ H
     clear H
     have p265 : 0 ≤ (x22_2 : Int):=of_decide_eq_true (by (with_reducible assumption))
     have q265 : x22_2 < (l0_1.length : Int):=of_decide_eq_true (by (with_reducible assumption))
     obtain ⟨ad265,e265,hx265_0,hx265_1,hx265_2,hx265_3⟩:=at_T67 HR0_1.out x22_2 p265 q265
     cases e265
     replace hx265_0:=kc_ HB.out hx265_0
     replace hx265_1:=kc_ HB.out hx265_1
     replace hx265_2:=kc_ HB.out hx265_2
     replace hx265_3:=kc_ HB.out hx265_3
     replace p265:=eq_true p265
     replace q265:=eq_true q265
     go_upto_region 6 with (((with_reducible refine gate_dst (N:=4) rfl ?_);(try (refine gate_guard (by rfl) ?_;dsimp only));refine box_event ?hg (N:=4) ?hd (cs:=#[.int .i64 0,.int .i64 0,.int .i64 0,.int .i64 0]) (t:=67) ?hr ?_;(case hd=>rfl);(case hg=>rfl);(case hr=>(go_simp;done));intro gb266 hg w15 hbox hb;have n0_:=am_ (blk_below BK264.out hb);have n1_:=am_ (below_step HB.out hb);have n2_:=am_ (hbox);have n3_:=am_ ((by rw [hg];exact (below_size HB.out) : w.heap.size ≤ gb266));have n4_:=n3_;have n5_:=am_ ((by rw [hg];exact Nat.ne_of_lt (blk_lt (g:=gb264) (o:=.cells #[.int .i64 a0_0,.slice (some ad265) l0_1.length c0_1] 30 (0,0)) BK264.out) : gb264 ≠ gb266));have n6_:=am_ ((by rw [hg];exact Nat.ne_of_gt (blk_lt (g:=gb264) (o:=.cells #[.int .i64 a0_0,.slice (some ad265) l0_1.length c0_1] 30 (0,0)) BK264.out) : gb266 ≠ gb264));clear BK264 HB;have BK264:=n0_;have HB:=n1_;have BK266:=n2_;have GW266:=n3_;have GE266:=n4_;have NB264_266:=n5_;have NB266_264:=n6_;clear n0_ n1_ n2_ n3_ n4_ n5_ n6_ hb hbox hg;have hnb16:=NB266_264.out;have hnc16:=NB264_266.out;have hcz17_0 : w15.cell? ⟨gb266,0,none⟩ = some (.int .i64 0):=(blk_cell BK266.out 0).trans rfl;have hcz17_1 : w15.cell? ⟨gb266,1,none⟩ = some (.int .i64 0):=(blk_cell BK266.out 1).trans rfl;have hcz17_2 : w15.cell? ⟨gb266,2,none⟩ = some (.int .i64 0):=(blk_cell BK266.out 2).trans rfl;have hcz17_3 : w15.cell? ⟨gb266,3,none⟩ = some (.int .i64 0):=(blk_cell BK266.out 3).trans rfl;have hfz17_0:=blk_frozen BK266.out 0;have hfz17_1:=blk_frozen BK266.out 1;have hfz17_2:=blk_frozen BK266.out 2;have hfz17_3:=blk_frozen BK266.out 3))
     (skip)
     go_cut [54] (fun v54 wc=>∃ (kq : Nat) (x54_13 : Bool),v54 = .bool x54_13 ∧ Aside0 (impl_NetOk.j2 kq l0_1 (l0_1.length : Int) x22_2 x54_13 a0_0 l0_1 ((rd_T67 l0_1 x22_2).f0) ((rd_T67 l0_1 x22_2).f1) ((rd_T67 l0_1 x22_2).f2) ((rd_T67 l0_1 x22_2).f3) = some r) ∧ Aside0 (kq ≤ k2) ∧ Aside0 (wc.heap[gb264]? = some (.cells #[.int .i64 a0_0,(.slice (some ad265) l0_1.length c0_1)] 30 (0,0))) ∧ Aside0 (wc.heap[gb266]? = some (.cells #[.int .i64 ((rd_T67 l0_1 x22_2).f0),.int .i64 ((rd_T67 l0_1 x22_2).f1),.int .i64 ((rd_T67 l0_1 x22_2).f2),.int .i64 ((rd_T67 l0_1 x22_2).f3)] 67 (0,0))) ∧ Aside0 (Below w.heap.size w wc))
     case first =>
      have H:=HC14.out
      clear HC14
      by_cases c18 : ((rd_T67 l0_1 x22_2).f0) < 0
      ·rw [if_pos c18] at H
       have c18b0 : decide (((rd_T67 l0_1 x22_2).f0) < 0) = true:=decide_eq_true c18
       clear c18
       (skip)
       have H':=am_ H
       clear H
       have hnb19:=NB266_264.out
       have hnc19:=NB264_266.out
       have hcz20_0 : w15.cell? ⟨gb266,0,none⟩ = some (.int .i64 0):=(blk_cell BK266.out 0).trans rfl
       have hcz20_1 : w15.cell? ⟨gb266,1,none⟩ = some (.int .i64 0):=(blk_cell BK266.out 1).trans rfl
       have hcz20_2 : w15.cell? ⟨gb266,2,none⟩ = some (.int .i64 0):=(blk_cell BK266.out 2).trans rfl
       have hcz20_3 : w15.cell? ⟨gb266,3,none⟩ = some (.int .i64 0):=(blk_cell BK266.out 3).trans rfl
       have hfz20_0:=blk_frozen BK266.out 0
       have hfz20_1:=blk_frozen BK266.out 1
       have hfz20_2:=blk_frozen BK266.out 2
       have hfz20_3:=blk_frozen BK266.out 3
       go_wp2
       go_meet
       case rel=>exact ⟨_,(true),(by rfl),H',⟨by have:=HJ1.out;have:=HK2.out;omega⟩,⟨by refine blk_far ?_ NB264_266.out _;refine blk_far ?_ NB264_266.out _;refine blk_far ?_ NB264_266.out _;refine blk_far ?_ NB264_266.out _;exact BK264.out⟩,⟨by refine blk_put (cs:=#[.int .i64 ((rd_T67 l0_1 x22_2).f0),.int .i64 ((rd_T67 l0_1 x22_2).f1),.int .i64 ((rd_T67 l0_1 x22_2).f2),.int .i64 0]) ?_ 3 _ rfl;refine blk_put (cs:=#[.int .i64 ((rd_T67 l0_1 x22_2).f0),.int .i64 ((rd_T67 l0_1 x22_2).f1),.int .i64 0,.int .i64 0]) ?_ 2 _ rfl;refine blk_put (cs:=#[.int .i64 ((rd_T67 l0_1 x22_2).f0),.int .i64 0,.int .i64 0,.int .i64 0]) ?_ 1 _ rfl;refine blk_put (cs:=#[.int .i64 0,.int .i64 0,.int .i64 0,.int .i64 0]) ?_ 0 _ rfl;exact BK266.out⟩,⟨by repeat ((with_reducible first|exact HB.out|refine below_set ?_ GE266.out))⟩⟩
      rw [if_neg c18] at H
      have c18b0 : decide (((rd_T67 l0_1 x22_2).f0) < 0) = false:=decide_eq_false c18
      clear c18
      (skip)
      by_cases c21 : ((rd_T67 l0_1 x22_2).f0) ≥ a0_0
      ·rw [if_pos c21] at H
       have c21b0 : decide (a0_0 ≤ ((rd_T67 l0_1 x22_2).f0)) = true:=decide_eq_true c21
       clear c21
       have H':=am_ H
       clear H
       have hnb22:=NB266_264.out
       have hnc22:=NB264_266.out
       have hcz23_0 : w15.cell? ⟨gb266,0,none⟩ = some (.int .i64 0):=(blk_cell BK266.out 0).trans rfl
       have hcz23_1 : w15.cell? ⟨gb266,1,none⟩ = some (.int .i64 0):=(blk_cell BK266.out 1).trans rfl
       have hcz23_2 : w15.cell? ⟨gb266,2,none⟩ = some (.int .i64 0):=(blk_cell BK266.out 2).trans rfl
       have hcz23_3 : w15.cell? ⟨gb266,3,none⟩ = some (.int .i64 0):=(blk_cell BK266.out 3).trans rfl
       have hfz23_0:=blk_frozen BK266.out 0
       have hfz23_1:=blk_frozen BK266.out 1
       have hfz23_2:=blk_frozen BK266.out 2
       have hfz23_3:=blk_frozen BK266.out 3
       have hcz24_0 : w15.cell? ⟨gb264,0,none⟩ = some (.int .i64 a0_0):=(blk_cell BK264.out 0).trans rfl
       have hcz24_1 : w15.cell? ⟨gb264,1,none⟩ = some (.slice (some ad265) l0_1.length c0_1):=(blk_cell BK264.out 1).trans rfl
       have hfz24_0:=blk_frozen BK264.out 0
       have hfz24_1:=blk_frozen BK264.out 1
       go_wp2
       go_meet
       case rel=>exact ⟨_,(true),(by rfl),H',⟨by have:=HJ1.out;have:=HK2.out;omega⟩,⟨by refine blk_far ?_ NB264_266.out _;refine blk_far ?_ NB264_266.out _;refine blk_far ?_ NB264_266.out _;refine blk_far ?_ NB264_266.out _;exact BK264.out⟩,⟨by refine blk_put (cs:=#[.int .i64 ((rd_T67 l0_1 x22_2).f0),.int .i64 ((rd_T67 l0_1 x22_2).f1),.int .i64 ((rd_T67 l0_1 x22_2).f2),.int .i64 0]) ?_ 3 _ rfl;refine blk_put (cs:=#[.int .i64 ((rd_T67 l0_1 x22_2).f0),.int .i64 ((rd_T67 l0_1 x22_2).f1),.int .i64 0,.int .i64 0]) ?_ 2 _ rfl;refine blk_put (cs:=#[.int .i64 ((rd_T67 l0_1 x22_2).f0),.int .i64 0,.int .i64 0,.int .i64 0]) ?_ 1 _ rfl;refine blk_put (cs:=#[.int .i64 0,.int .i64 0,.int .i64 0,.int .i64 0]) ?_ 0 _ rfl;exact BK266.out⟩,⟨by repeat ((with_reducible first|exact HB.out|refine below_set ?_ GE266.out))⟩⟩
      rw [if_neg c21] at H
      have c21b0 : decide (a0_0 ≤ ((rd_T67 l0_1 x22_2).f0)) = false:=decide_eq_false c21
      clear c21
      by_cases c25 : ((rd_T67 l0_1 x22_2).f1) < 0
      ·rw [if_pos c25] at H
       have c25b0 : decide (((rd_T67 l0_1 x22_2).f1) < 0) = true:=decide_eq_true c25
       clear c25
       have H':=am_ H
       clear H
       have hnb26:=NB266_264.out
       have hnc26:=NB264_266.out
       have hcz27_0 : w15.cell? ⟨gb266,0,none⟩ = some (.int .i64 0):=(blk_cell BK266.out 0).trans rfl
       have hcz27_1 : w15.cell? ⟨gb266,1,none⟩ = some (.int .i64 0):=(blk_cell BK266.out 1).trans rfl
       have hcz27_2 : w15.cell? ⟨gb266,2,none⟩ = some (.int .i64 0):=(blk_cell BK266.out 2).trans rfl
       have hcz27_3 : w15.cell? ⟨gb266,3,none⟩ = some (.int .i64 0):=(blk_cell BK266.out 3).trans rfl
       have hfz27_0:=blk_frozen BK266.out 0
       have hfz27_1:=blk_frozen BK266.out 1
       have hfz27_2:=blk_frozen BK266.out 2
       have hfz27_3:=blk_frozen BK266.out 3
       have hcz28_0 : w15.cell? ⟨gb264,0,none⟩ = some (.int .i64 a0_0):=(blk_cell BK264.out 0).trans rfl
       have hcz28_1 : w15.cell? ⟨gb264,1,none⟩ = some (.slice (some ad265) l0_1.length c0_1):=(blk_cell BK264.out 1).trans rfl
       have hfz28_0:=blk_frozen BK264.out 0
       have hfz28_1:=blk_frozen BK264.out 1
       go_wp2
       go_meet
       case rel=>exact ⟨_,(true),(by rfl),H',⟨by have:=HJ1.out;have:=HK2.out;omega⟩,⟨by refine blk_far ?_ NB264_266.out _;refine blk_far ?_ NB264_266.out _;refine blk_far ?_ NB264_266.out _;refine blk_far ?_ NB264_266.out _;exact BK264.out⟩,⟨by refine blk_put (cs:=#[.int .i64 ((rd_T67 l0_1 x22_2).f0),.int .i64 ((rd_T67 l0_1 x22_2).f1),.int .i64 ((rd_T67 l0_1 x22_2).f2),.int .i64 0]) ?_ 3 _ rfl;refine blk_put (cs:=#[.int .i64 ((rd_T67 l0_1 x22_2).f0),.int .i64 ((rd_T67 l0_1 x22_2).f1),.int .i64 0,.int .i64 0]) ?_ 2 _ rfl;refine blk_put (cs:=#[.int .i64 ((rd_T67 l0_1 x22_2).f0),.int .i64 0,.int .i64 0,.int .i64 0]) ?_ 1 _ rfl;refine blk_put (cs:=#[.int .i64 0,.int .i64 0,.int .i64 0,.int .i64 0]) ?_ 0 _ rfl;exact BK266.out⟩,⟨by repeat ((with_reducible first|exact HB.out|refine below_set ?_ GE266.out))⟩⟩
      rw [if_neg c25] at H
      have c25b0 : decide (((rd_T67 l0_1 x22_2).f1) < 0) = false:=decide_eq_false c25
      clear c25
      by_cases c29 : ((rd_T67 l0_1 x22_2).f1) ≥ a0_0
      ·rw [if_pos c29] at H
       have c29b0 : decide (a0_0 ≤ ((rd_T67 l0_1 x22_2).f1)) = true:=decide_eq_true c29
       clear c29
       have H':=am_ H
       clear H
       have hnb30:=NB266_264.out
       have hnc30:=NB264_266.out
       have hcz31_0 : w15.cell? ⟨gb266,0,none⟩ = some (.int .i64 0):=(blk_cell BK266.out 0).trans rfl
       have hcz31_1 : w15.cell? ⟨gb266,1,none⟩ = some (.int .i64 0):=(blk_cell BK266.out 1).trans rfl
       have hcz31_2 : w15.cell? ⟨gb266,2,none⟩ = some (.int .i64 0):=(blk_cell BK266.out 2).trans rfl
       have hcz31_3 : w15.cell? ⟨gb266,3,none⟩ = some (.int .i64 0):=(blk_cell BK266.out 3).trans rfl
       have hfz31_0:=blk_frozen BK266.out 0
       have hfz31_1:=blk_frozen BK266.out 1
       have hfz31_2:=blk_frozen BK266.out 2
       have hfz31_3:=blk_frozen BK266.out 3
       have hcz32_0 : w15.cell? ⟨gb264,0,none⟩ = some (.int .i64 a0_0):=(blk_cell BK264.out 0).trans rfl
       have hcz32_1 : w15.cell? ⟨gb264,1,none⟩ = some (.slice (some ad265) l0_1.length c0_1):=(blk_cell BK264.out 1).trans rfl
       have hfz32_0:=blk_frozen BK264.out 0
       have hfz32_1:=blk_frozen BK264.out 1
       go_wp2
       go_meet
       case rel=>exact ⟨_,(true),(by rfl),H',⟨by have:=HJ1.out;have:=HK2.out;omega⟩,⟨by refine blk_far ?_ NB264_266.out _;refine blk_far ?_ NB264_266.out _;refine blk_far ?_ NB264_266.out _;refine blk_far ?_ NB264_266.out _;exact BK264.out⟩,⟨by refine blk_put (cs:=#[.int .i64 ((rd_T67 l0_1 x22_2).f0),.int .i64 ((rd_T67 l0_1 x22_2).f1),.int .i64 ((rd_T67 l0_1 x22_2).f2),.int .i64 0]) ?_ 3 _ rfl;refine blk_put (cs:=#[.int .i64 ((rd_T67 l0_1 x22_2).f0),.int .i64 ((rd_T67 l0_1 x22_2).f1),.int .i64 0,.int .i64 0]) ?_ 2 _ rfl;refine blk_put (cs:=#[.int .i64 ((rd_T67 l0_1 x22_2).f0),.int .i64 0,.int .i64 0,.int .i64 0]) ?_ 1 _ rfl;refine blk_put (cs:=#[.int .i64 0,.int .i64 0,.int .i64 0,.int .i64 0]) ?_ 0 _ rfl;exact BK266.out⟩,⟨by repeat ((with_reducible first|exact HB.out|refine below_set ?_ GE266.out))⟩⟩
      rw [if_neg c29] at H
      have c29b0 : decide (a0_0 ≤ ((rd_T67 l0_1 x22_2).f1)) = false:=decide_eq_false c29
      clear c29
      have H':=am_ H
      clear H
      have hnb33:=NB266_264.out
      have hnc33:=NB264_266.out
      have hcz34_0 : w15.cell? ⟨gb266,0,none⟩ = some (.int .i64 0):=(blk_cell BK266.out 0).trans rfl
      have hcz34_1 : w15.cell? ⟨gb266,1,none⟩ = some (.int .i64 0):=(blk_cell BK266.out 1).trans rfl
      have hcz34_2 : w15.cell? ⟨gb266,2,none⟩ = some (.int .i64 0):=(blk_cell BK266.out 2).trans rfl
      have hcz34_3 : w15.cell? ⟨gb266,3,none⟩ = some (.int .i64 0):=(blk_cell BK266.out 3).trans rfl
      have hfz34_0:=blk_frozen BK266.out 0
      have hfz34_1:=blk_frozen BK266.out 1
      have hfz34_2:=blk_frozen BK266.out 2
      have hfz34_3:=blk_frozen BK266.out 3
      have hcz35_0 : w15.cell? ⟨gb264,0,none⟩ = some (.int .i64 a0_0):=(blk_cell BK264.out 0).trans rfl
      have hcz35_1 : w15.cell? ⟨gb264,1,none⟩ = some (.slice (some ad265) l0_1.length c0_1):=(blk_cell BK264.out 1).trans rfl
      have hfz35_0:=blk_frozen BK264.out 0
      have hfz35_1:=blk_frozen BK264.out 1
      go_wp2
      go_meet
      case rel=>exact ⟨_,((((rd_T67 l0_1 x22_2).f0) == ((rd_T67 l0_1 x22_2).f1))),(by rfl),H',⟨by have:=HJ1.out;have:=HK2.out;omega⟩,⟨by refine blk_far ?_ NB264_266.out _;refine blk_far ?_ NB264_266.out _;refine blk_far ?_ NB264_266.out _;refine blk_far ?_ NB264_266.out _;exact BK264.out⟩,⟨by refine blk_put (cs:=#[.int .i64 ((rd_T67 l0_1 x22_2).f0),.int .i64 ((rd_T67 l0_1 x22_2).f1),.int .i64 ((rd_T67 l0_1 x22_2).f2),.int .i64 0]) ?_ 3 _ rfl;refine blk_put (cs:=#[.int .i64 ((rd_T67 l0_1 x22_2).f0),.int .i64 ((rd_T67 l0_1 x22_2).f1),.int .i64 0,.int .i64 0]) ?_ 2 _ rfl;refine blk_put (cs:=#[.int .i64 ((rd_T67 l0_1 x22_2).f0),.int .i64 0,.int .i64 0,.int .i64 0]) ?_ 1 _ rfl;refine blk_put (cs:=#[.int .i64 0,.int .i64 0,.int .i64 0,.int .i64 0]) ?_ 0 _ rfl;exact BK266.out⟩,⟨by repeat ((with_reducible first|exact HB.out|refine below_set ?_ GE266.out))⟩⟩
     case rest =>
      clear HC14
      try clear c1
      try clear c2
      try clear p2
      try clear q2
      try clear hx2
      try clear c3
      try clear c4
      try clear c4b0
      try clear c5
      try clear c6
      try clear c6b0
      try clear c9
      try clear c11
      try clear c11b0
      try clear c12
      try clear c12b0
      try clear c13
      try clear c13b0
      try clear c16
      try clear c18
      try clear c18b0
      try clear c19
      try clear c21
      try clear c21b0
      try clear c22
      try clear c25
      try clear c25b0
      try clear c26
      try clear p26
      try clear q26
      try clear hx26
      try clear c29
      try clear c29b0
      try clear c30
      try clear c33
      try clear hcz10_0
      try clear hcz10_1
      try clear hcz17_0
      try clear hcz17_1
      try clear hcz17_2
      try clear hcz17_3
      try clear hcz20_0
      try clear hcz20_1
      try clear hcz20_2
      try clear hcz20_3
      try clear hcz23_0
      try clear hcz23_1
      try clear hcz23_2
      try clear hcz23_3
      try clear hcz24_0
      try clear hcz24_1
      try clear hcz27_0
      try clear hcz27_1
      try clear hcz27_2
      try clear hcz27_3
      try clear hcz28_0
      try clear hcz28_1
      try clear hcz31_0
      try clear hcz31_1
      try clear hcz31_2
      try clear hcz31_3
      try clear hcz32_0
      try clear hcz32_1
      try clear hcz34_0
      try clear hcz34_1
      try clear hcz34_2
      try clear hcz34_3
      try clear hcz35_0
      try clear hcz35_1
      try clear hcz5_0
      try clear hcz5_1
      try clear hcz7_0
      try clear hcz7_1
      try clear hcz8_0
      try clear hcz8_1
      try clear hfz10_0
      try clear hfz10_1
      try clear hfz17_0
      try clear hfz17_1
      try clear hfz17_2
      try clear hfz17_3
      try clear hfz20_0
      try clear hfz20_1
      try clear hfz20_2
      try clear hfz20_3
      try clear hfz23_0
      try clear hfz23_1
      try clear hfz23_2
      try clear hfz23_3
      try clear hfz24_0
      try clear hfz24_1
      try clear hfz27_0
      try clear hfz27_1
      try clear hfz27_2
      try clear hfz27_3
      try clear hfz28_0
      try clear hfz28_1
      try clear hfz31_0
      try clear hfz31_1
      try clear hfz31_2
      try clear hfz31_3
      try clear hfz32_0
      try clear hfz32_1
      try clear hfz34_0
      try clear hfz34_1
      try clear hfz34_2
      try clear hfz34_3
      try clear hfz35_0
      try clear hfz35_1
      try clear hfz5_0
      try clear hfz5_1
      try clear hfz7_0
      try clear hfz7_1
      try clear hfz8_0
      try clear hfz8_1
      try clear hx265_0
      try clear hx265_1
      try clear hx265_2
      try clear hx265_3
      try clear p2
      try clear p265
      try clear q265
      obtain ⟨kq,x54_13,rfl,HA,HJ13,BK264,BK266,HB⟩:=hcut
      cases kq with
      | zero => exact absurd HA.out (by simp [impl_NetOk.j2])
      | succ kj13 =>
       have H:=HA.out
       clear HA
       simp only [impl_NetOk.j2] at H
       by_cases c36 : x54_13 = true
       ·subst c36
        have H1 : (some false) = some r:=by rw [if_pos rfl] at H;exact H
        clear H
        have H:=H1
        clear H1
        obtain rfl:=Option.some.inj H
        go_wp2
        go_ret
        exact ⟨by rfl,by exact HB.out⟩
       replace c36:=Bool.eq_false_iff.mpr c36
       subst c36
       have H1 : (if ((rd_T67 l0_1 x22_2).f2) < 0 then (some false) else (if ((rd_T67 l0_1 x22_2).f2) > 20 then (some false) else (if ((rd_T67 l0_1 x22_2).f3) < 0 then (some false) else (if ((rd_T67 l0_1 x22_2).f3) > 100 then (some false) else (impl_NetOk.l0 kj13 l0_1 (l0_1.length : Int) (wrap64 (x22_2 + 1)) a0_0 l0_1))))) = some r:=by rw [if_neg (show ¬ (false = true) by decide)] at H;exact H
       clear H
       have H:=H1
       clear H1
       by_cases c37 : ((rd_T67 l0_1 x22_2).f2) < 0
       ·rw [if_pos c37] at H
        have c37b0 : decide (((rd_T67 l0_1 x22_2).f2) < 0) = true:=decide_eq_true c37
        clear c37
        obtain rfl:=Option.some.inj H
        have hnb38:=NB266_264.out
        have hnc38:=NB264_266.out
        have hcz39_0 : wc.cell? ⟨gb266,0,none⟩ = some (.int .i64 ((rd_T67 l0_1 x22_2).f0)):=(blk_cell BK266.out 0).trans rfl
        have hcz39_1 : wc.cell? ⟨gb266,1,none⟩ = some (.int .i64 ((rd_T67 l0_1 x22_2).f1)):=(blk_cell BK266.out 1).trans rfl
        have hcz39_2 : wc.cell? ⟨gb266,2,none⟩ = some (.int .i64 ((rd_T67 l0_1 x22_2).f2)):=(blk_cell BK266.out 2).trans rfl
        have hcz39_3 : wc.cell? ⟨gb266,3,none⟩ = some (.int .i64 ((rd_T67 l0_1 x22_2).f3)):=(blk_cell BK266.out 3).trans rfl
        have hfz39_0:=blk_frozen BK266.out 0
        have hfz39_1:=blk_frozen BK266.out 1
        have hfz39_2:=blk_frozen BK266.out 2
        have hfz39_3:=blk_frozen BK266.out 3
        go_wp2
        go_ret
        exact ⟨by rfl,by exact HB.out⟩
       rw [if_neg c37] at H
       have c37b0 : decide (((rd_T67 l0_1 x22_2).f2) < 0) = false:=decide_eq_false c37
       clear c37
       by_cases c40 : ((rd_T67 l0_1 x22_2).f2) > 20
       ·rw [if_pos c40] at H
        have c40b0 : decide (20 < ((rd_T67 l0_1 x22_2).f2)) = true:=decide_eq_true c40
        clear c40
        obtain rfl:=Option.some.inj H
        have hnb41:=NB266_264.out
        have hnc41:=NB264_266.out
        have hcz42_0 : wc.cell? ⟨gb266,0,none⟩ = some (.int .i64 ((rd_T67 l0_1 x22_2).f0)):=(blk_cell BK266.out 0).trans rfl
        have hcz42_1 : wc.cell? ⟨gb266,1,none⟩ = some (.int .i64 ((rd_T67 l0_1 x22_2).f1)):=(blk_cell BK266.out 1).trans rfl
        have hcz42_2 : wc.cell? ⟨gb266,2,none⟩ = some (.int .i64 ((rd_T67 l0_1 x22_2).f2)):=(blk_cell BK266.out 2).trans rfl
        have hcz42_3 : wc.cell? ⟨gb266,3,none⟩ = some (.int .i64 ((rd_T67 l0_1 x22_2).f3)):=(blk_cell BK266.out 3).trans rfl
        have hfz42_0:=blk_frozen BK266.out 0
        have hfz42_1:=blk_frozen BK266.out 1
        have hfz42_2:=blk_frozen BK266.out 2
        have hfz42_3:=blk_frozen BK266.out 3
        go_wp2
        go_ret
        exact ⟨by rfl,by exact HB.out⟩
       rw [if_neg c40] at H
       have c40b0 : decide (20 < ((rd_T67 l0_1 x22_2).f2)) = false:=decide_eq_false c40
       clear c40
       by_cases c43 : ((rd_T67 l0_1 x22_2).f3) < 0
       ·rw [if_pos c43] at H
        have c43b0 : decide (((rd_T67 l0_1 x22_2).f3) < 0) = true:=decide_eq_true c43
        clear c43
        obtain rfl:=Option.some.inj H
        have hnb44:=NB266_264.out
        have hnc44:=NB264_266.out
        have hcz45_0 : wc.cell? ⟨gb266,0,none⟩ = some (.int .i64 ((rd_T67 l0_1 x22_2).f0)):=(blk_cell BK266.out 0).trans rfl
        have hcz45_1 : wc.cell? ⟨gb266,1,none⟩ = some (.int .i64 ((rd_T67 l0_1 x22_2).f1)):=(blk_cell BK266.out 1).trans rfl
        have hcz45_2 : wc.cell? ⟨gb266,2,none⟩ = some (.int .i64 ((rd_T67 l0_1 x22_2).f2)):=(blk_cell BK266.out 2).trans rfl
        have hcz45_3 : wc.cell? ⟨gb266,3,none⟩ = some (.int .i64 ((rd_T67 l0_1 x22_2).f3)):=(blk_cell BK266.out 3).trans rfl
        have hfz45_0:=blk_frozen BK266.out 0
        have hfz45_1:=blk_frozen BK266.out 1
        have hfz45_2:=blk_frozen BK266.out 2
        have hfz45_3:=blk_frozen BK266.out 3
        go_wp2
        go_ret
        exact ⟨by rfl,by exact HB.out⟩
       rw [if_neg c43] at H
       have c43b0 : decide (((rd_T67 l0_1 x22_2).f3) < 0) = false:=decide_eq_false c43
       clear c43
       by_cases c46 : ((rd_T67 l0_1 x22_2).f3) > 100
       ·rw [if_pos c46] at H
        have c46b0 : decide (100 < ((rd_T67 l0_1 x22_2).f3)) = true:=decide_eq_true c46
        clear c46
        obtain rfl:=Option.some.inj H
        have hnb47:=NB266_264.out
        have hnc47:=NB264_266.out
        have hcz48_0 : wc.cell? ⟨gb266,0,none⟩ = some (.int .i64 ((rd_T67 l0_1 x22_2).f0)):=(blk_cell BK266.out 0).trans rfl
        have hcz48_1 : wc.cell? ⟨gb266,1,none⟩ = some (.int .i64 ((rd_T67 l0_1 x22_2).f1)):=(blk_cell BK266.out 1).trans rfl
        have hcz48_2 : wc.cell? ⟨gb266,2,none⟩ = some (.int .i64 ((rd_T67 l0_1 x22_2).f2)):=(blk_cell BK266.out 2).trans rfl
        have hcz48_3 : wc.cell? ⟨gb266,3,none⟩ = some (.int .i64 ((rd_T67 l0_1 x22_2).f3)):=(blk_cell BK266.out 3).trans rfl
        have hfz48_0:=blk_frozen BK266.out 0
        have hfz48_1:=blk_frozen BK266.out 1
        have hfz48_2:=blk_frozen BK266.out 2
        have hfz48_3:=blk_frozen BK266.out 3
        go_wp2
        go_ret
        exact ⟨by rfl,by exact HB.out⟩
       rw [if_neg c46] at H
       have c46b0 : decide (100 < ((rd_T67 l0_1 x22_2).f3)) = false:=decide_eq_false c46
       clear c46
       have H':=am_ H
       clear H
       have hnb49:=NB266_264.out
       have hnc49:=NB264_266.out
       have hcz50_0 : wc.cell? ⟨gb266,0,none⟩ = some (.int .i64 ((rd_T67 l0_1 x22_2).f0)):=(blk_cell BK266.out 0).trans rfl
       have hcz50_1 : wc.cell? ⟨gb266,1,none⟩ = some (.int .i64 ((rd_T67 l0_1 x22_2).f1)):=(blk_cell BK266.out 1).trans rfl
       have hcz50_2 : wc.cell? ⟨gb266,2,none⟩ = some (.int .i64 ((rd_T67 l0_1 x22_2).f2)):=(blk_cell BK266.out 2).trans rfl
       have hcz50_3 : wc.cell? ⟨gb266,3,none⟩ = some (.int .i64 ((rd_T67 l0_1 x22_2).f3)):=(blk_cell BK266.out 3).trans rfl
       have hfz50_0:=blk_frozen BK266.out 0
       have hfz50_1:=blk_frozen BK266.out 1
       have hfz50_2:=blk_frozen BK266.out 2
       have hfz50_3:=blk_frozen BK266.out 3
       go_wp2
       go_roundg kj13
       case measure=>have:=HJ1.out;have:=HK2.out;have:=HJ13.out;omega
       case rel=>exact ⟨(wrap64 (x22_2 + 1)),(by rfl),H',⟨by have:=HJ1.out;have:=HK2.out;have:=HJ13.out;omega⟩,⟨by exact BK264.out⟩,⟨by exact HB.out⟩⟩

/-! ### impl_step_room: function 56 -/
def impl_step_room.f (a0_0 : Int) (a0_1 : Bool) (a1_0 : Int) (l1_1 : List (S67)) (l2 : List Int) : Option (Int):=if a0_1 = true then (if 0 ≤ a0_0 then (if a0_0 < (l2.length : Int) then (some (rd l2 a0_0)) else (none)) else (none)) else (if 0 ≤ a0_0 then (if a0_0 < (l1_1.length : Int) then (if a0_0 < (l2.length : Int) then (some (wrap64 (((rd_T67 l1_1 a0_0).f2) - (rd l2 a0_0)))) else (none)) else (none)) else (none))
set_option maxHeartbeats 8000000 in
set_option maxRecDepth 100000 in
theorem impl_step_room.calls (a0_0 : Int) (a0_1 : Bool) (a1_0 : Int) (A1_1 : Option Addr) (c1_1 : Nat) (l1_1 : List (S67)) (A2 : Option Addr) (c2 : Nat) (l2 : List Int) (r : Int) (w : World) (hr1_1 : Kd.C k67 w A1_1 l1_1.length l1_1) (hc1_1 : l1_1.length ≤ c1_1) (hr2 : Kd.C (Kd.int .i64) w A2 l2.length l2) (hc2 : l2.length ≤ c2) (h : impl_step_room.f a0_0 a0_1 a1_0 l1_1 l2 = some r) :
  Calls Try.prog 56 #[.agg #[.int .i64 a0_0,.bool a0_1],.agg #[.int .i64 a1_0,.slice A1_1 l1_1.length c1_1],.slice A2 l2.length c2] w fun e w'=>e = .returned (.int .i64 r) ∧ Below w.heap.size w w':=by
 have hu79:=Try.underlying79
 have hu30:=Try.underlying30
 have HR1_1:=am_ hr1_1
 have HC1_1:=am_ hc1_1
 clear hr1_1 hc1_1
 have HR2:=am_ hr2
 have HC2:=am_ hc2
 clear hr2 hc2
 have HB:=am_ (Below.refl w.heap.size w)
 have H : (if a0_1 = true then (if 0 ≤ a0_0 then (if a0_0 < (l2.length : Int) then (some (rd l2 a0_0)) else (none)) else (none)) else (if 0 ≤ a0_0 then (if a0_0 < (l1_1.length : Int) then (if a0_0 < (l2.length : Int) then (some (wrap64 (((rd_T67 l1_1 a0_0).f2) - (rd l2 a0_0)))) else (none)) else (none)) else (none))) = some r:=h
 clear h
 by_cases c4 : a0_1 = true
 ·subst c4
  have H1 : (if 0 ≤ a0_0 then (if a0_0 < (l2.length : Int) then (some (rd l2 a0_0)) else (none)) else (none)) = some r:=by rw [if_pos rfl] at H;exact H
  clear H
  have H:=H1
  clear H1
  by_cases c5 : 0 ≤ a0_0
  rotate_left
  ·rw [if_neg c5] at H
   exact absurd H (by simp)
  rw [if_pos c5] at H
  have c5b0 : decide (0 ≤ a0_0) = true:=decide_eq_true c5
  clear c5
  by_cases c6 : a0_0 < (l2.length : Int)
  ·rw [if_pos c6] at H
   have c6b0 : decide (a0_0 < (l2.length : Int)) = true:=decide_eq_true c6
   clear c6
   obtain rfl:=Option.some.inj H
   go_enter Try.func56,Try.ntmps56
   go_wp2_with (first|((with_reducible refine gate_dst (N:=3) rfl ?_);refine box_event ?hg (N:=3) ?hd (cs:=#[.int .i64 a0_0,.bool true]) (t:=79) ?hr ?_;(case hd=>rfl);(case hg=>rfl);(case hr=>(go_simp;done));intro gb267 hg w7 hbox hb;have n0_:=am_ (below_step HB.out hb);have n1_:=am_ (hbox);have n2_:=am_ ((by rw [hg];exact (below_size HB.out) : w.heap.size ≤ gb267));have n3_:=n2_;clear HB;have HB:=n0_;have BK267:=n1_;have GW267:=n2_;have GE267:=n3_;clear n0_ n1_ n2_ n3_ hb hbox hg)|((with_reducible refine gate_dst (N:=4) rfl ?_);refine box_event ?hg (N:=4) ?hd (cs:=#[.int .i64 a1_0,.slice A1_1 l1_1.length c1_1]) (t:=30) ?hr ?_;(case hd=>rfl);(case hg=>rfl);(case hr=>(go_simp;done));intro gb268 hg w8 hbox hb;have n0_:=am_ (blk_below BK267.out hb);have n1_:=am_ (below_step HB.out hb);have n2_:=am_ (hbox);have n3_:=am_ ((by rw [hg];exact (below_size HB.out) : w.heap.size ≤ gb268));have n4_:=n3_;have n5_:=am_ ((by rw [hg];exact Nat.ne_of_lt (blk_lt (g:=gb267) (o:=.cells #[.int .i64 a0_0,.bool true] 79 (0,0)) BK267.out) : gb267 ≠ gb268));have n6_:=am_ ((by rw [hg];exact Nat.ne_of_gt (blk_lt (g:=gb267) (o:=.cells #[.int .i64 a0_0,.bool true] 79 (0,0)) BK267.out) : gb268 ≠ gb267));clear BK267 HB;have BK267:=n0_;have HB:=n1_;have BK268:=n2_;have GW268:=n3_;have GE268:=n4_;have NB267_268:=n5_;have NB268_267:=n6_;clear n0_ n1_ n2_ n3_ n4_ n5_ n6_ hb hbox hg;have hnb9:=NB267_268.out;have hnc9:=NB268_267.out;have hcz10_0 : w8.cell? ⟨gb267,0,none⟩ = some (.int .i64 a0_0):=(blk_cell BK267.out 0).trans rfl;have hcz10_1 : w8.cell? ⟨gb267,1,none⟩ = some (.bool true):=(blk_cell BK267.out 1).trans rfl;have hfz10_0:=blk_frozen BK267.out 0;have hfz10_1:=blk_frozen BK267.out 1;have p269 : 0 ≤ (a0_0 : Int):=of_decide_eq_true (by (with_reducible assumption));have q269 : a0_0 < (l2.length : Int):=of_decide_eq_true (by (with_reducible assumption));obtain ⟨ad269,e269,hx269_0⟩:=Kd.at_int HR2.out a0_0 p269 q269;cases e269;replace hx269_0:=kc_ HB.out hx269_0;replace p269:=eq_true p269;replace q269:=eq_true q269))
   repeat (go_quiet (fail);try go_wp2_with (fail))
   go_ret
   exact ⟨by rfl,by exact HB.out⟩
  rw [if_neg c6] at H
  exact absurd H (by simp)
 replace c4:=Bool.eq_false_iff.mpr c4
 subst c4
 have H1 : (if 0 ≤ a0_0 then (if a0_0 < (l1_1.length : Int) then (if a0_0 < (l2.length : Int) then (some (wrap64 (((rd_T67 l1_1 a0_0).f2) - (rd l2 a0_0)))) else (none)) else (none)) else (none)) = some r:=by rw [if_neg (show ¬ (false = true) by decide)] at H;exact H
 clear H
 have H:=H1
 clear H1
 by_cases c11 : 0 ≤ a0_0
 rotate_left
 ·rw [if_neg c11] at H
  exact absurd H (by simp)
 rw [if_pos c11] at H
 have c11b0 : decide (0 ≤ a0_0) = true:=decide_eq_true c11
 clear c11
 by_cases c12 : a0_0 < (l1_1.length : Int)
 rotate_left
 ·rw [if_neg c12] at H
  exact absurd H (by simp)
 rw [if_pos c12] at H
 have c12b0 : decide (a0_0 < (l1_1.length : Int)) = true:=decide_eq_true c12
 clear c12
 by_cases c13 : a0_0 < (l2.length : Int)
 ·rw [if_pos c13] at H
  have c13b0 : decide (a0_0 < (l2.length : Int)) = true:=decide_eq_true c13
  clear c13
  obtain rfl:=Option.some.inj H
  go_enter Try.func56,Try.ntmps56
  go_wp2_with (first|((with_reducible refine gate_dst (N:=3) rfl ?_);refine box_event ?hg (N:=3) ?hd (cs:=#[.int .i64 a0_0,.bool false]) (t:=79) ?hr ?_;(case hd=>rfl);(case hg=>rfl);(case hr=>(go_simp;done));intro gb267 hg w14 hbox hb;have n0_:=am_ (below_step HB.out hb);have n1_:=am_ (hbox);have n2_:=am_ ((by rw [hg];exact (below_size HB.out) : w.heap.size ≤ gb267));have n3_:=n2_;clear HB;have HB:=n0_;have BK267:=n1_;have GW267:=n2_;have GE267:=n3_;clear n0_ n1_ n2_ n3_ hb hbox hg)|((with_reducible refine gate_dst (N:=4) rfl ?_);refine box_event ?hg (N:=4) ?hd (cs:=#[.int .i64 a1_0,.slice A1_1 l1_1.length c1_1]) (t:=30) ?hr ?_;(case hd=>rfl);(case hg=>rfl);(case hr=>(go_simp;done));intro gb268 hg w15 hbox hb;have n0_:=am_ (blk_below BK267.out hb);have n1_:=am_ (below_step HB.out hb);have n2_:=am_ (hbox);have n3_:=am_ ((by rw [hg];exact (below_size HB.out) : w.heap.size ≤ gb268));have n4_:=n3_;have n5_:=am_ ((by rw [hg];exact Nat.ne_of_lt (blk_lt (g:=gb267) (o:=.cells #[.int .i64 a0_0,.bool false] 79 (0,0)) BK267.out) : gb267 ≠ gb268));have n6_:=am_ ((by rw [hg];exact Nat.ne_of_gt (blk_lt (g:=gb267) (o:=.cells #[.int .i64 a0_0,.bool false] 79 (0,0)) BK267.out) : gb268 ≠ gb267));clear BK267 HB;have BK267:=n0_;have HB:=n1_;have BK268:=n2_;have GW268:=n3_;have GE268:=n4_;have NB267_268:=n5_;have NB268_267:=n6_;clear n0_ n1_ n2_ n3_ n4_ n5_ n6_ hb hbox hg;have hnb16:=NB267_268.out;have hnc16:=NB268_267.out;have hcz17_0 : w15.cell? ⟨gb267,0,none⟩ = some (.int .i64 a0_0):=(blk_cell BK267.out 0).trans rfl;have hcz17_1 : w15.cell? ⟨gb267,1,none⟩ = some (.bool false):=(blk_cell BK267.out 1).trans rfl;have hfz17_0:=blk_frozen BK267.out 0;have hfz17_1:=blk_frozen BK267.out 1;have hcz18_0 : w15.cell? ⟨gb268,0,none⟩ = some (.int .i64 a1_0):=(blk_cell BK268.out 0).trans rfl;have hcz18_1 : w15.cell? ⟨gb268,1,none⟩ = some (.slice A1_1 l1_1.length c1_1):=(blk_cell BK268.out 1).trans rfl;have hfz18_0:=blk_frozen BK268.out 0;have hfz18_1:=blk_frozen BK268.out 1;have p270 : 0 ≤ (a0_0 : Int):=of_decide_eq_true (by (with_reducible assumption));have q270 : a0_0 < (l1_1.length : Int):=of_decide_eq_true (by (with_reducible assumption));obtain ⟨ad270,e270,hx270_0,hx270_1,hx270_2,hx270_3⟩:=at_T67 HR1_1.out a0_0 p270 q270;cases e270;replace hx270_0:=kc_ HB.out hx270_0;replace hx270_1:=kc_ HB.out hx270_1;replace hx270_2:=kc_ HB.out hx270_2;replace hx270_3:=kc_ HB.out hx270_3;replace p270:=eq_true p270;replace q270:=eq_true q270;have p271 : 0 ≤ (a0_0 : Int):=of_decide_eq_true (by (with_reducible assumption));have q271 : a0_0 < (l2.length : Int):=of_decide_eq_true (by (with_reducible assumption));obtain ⟨ad271,e271,hx271_0⟩:=Kd.at_int HR2.out a0_0 p271 q271;cases e271;replace hx271_0:=kc_ HB.out hx271_0;replace p271:=eq_true p271;replace q271:=eq_true q271))
  repeat (go_quiet (fail);try go_wp2_with (fail))
  go_ret
  exact ⟨by rfl,by repeat ((with_reducible first|exact HB.out|apply pw_below_drewN))⟩
 rw [if_neg c13] at H
 exact absurd H (by simp)

/-! ### impl_pushed: function 57 -/
def impl_pushed.f (l0 : List Int) (a1_0 : Int) (a1_1 : Bool) (a2 : Int) : Option (List Int):=if a1_1 = true then (if 0 ≤ a1_0 then (if a1_0 < (l0.length : Int) then (some (l0.set (a1_0 : Int).toNat (wrap64 ((rd l0 a1_0) + (wrap64 (-a2)))))) else (none)) else (none)) else (if 0 ≤ a1_0 then (if a1_0 < (l0.length : Int) then (some (l0.set (a1_0 : Int).toNat (wrap64 ((rd l0 a1_0) + a2)))) else (none)) else (none))
set_option maxHeartbeats 8000000 in
set_option maxRecDepth 100000 in
theorem impl_pushed.calls (P0_ : Nat → Prop) (u9000_ : Value) (l0 : List Int) (a1_0 : Int) (a1_1 : Bool) (a2 : Int) (r : List Int) (w0 w : World) (hB : Below w0.heap.size w0 w) (ho0 : Kd.R (Kd.int .i64) 3 w w0.heap.size P0_ u9000_ l0) (h : impl_pushed.f l0 a1_0 a1_1 a2 = some r) :
  Calls Try.prog 57 #[u9000_,.agg #[.int .i64 a1_0,.bool a1_1],.int .i64 a2] w fun e w'=>e = .returned (.tuple #[]) ∧ Kd.R (Kd.int .i64) 3 w' w0.heap.size (fun k_=>(P0_ k_ ∨ w.heap.size ≤ k_)) u9000_ r ∧ Below w0.heap.size w0 w' ∧ Kept w w' (fun k_=>P0_ k_):=by
 have hu79:=Try.underlying79
 have HO0:=am_ (show Kd.R (Kd.int .i64) 3 w w0.heap.size (fun k_=>(P0_ k_ ∨ w.heap.size ≤ k_)) u9000_ l0 from Kd.R_mono ho0 (fun k_ hk=>(.inl hk)))
 have HK:=am_ (Kept.refl w (fun k_=>P0_ k_))
 have HW0:=am_ hB.size
 have HB:=am_ hB
 clear hB
 have H : (if a1_1 = true then (if 0 ≤ a1_0 then (if a1_0 < (l0.length : Int) then (some (l0.set (a1_0 : Int).toNat (wrap64 ((rd l0 a1_0) + (wrap64 (-a2)))))) else (none)) else (none)) else (if 0 ≤ a1_0 then (if a1_0 < (l0.length : Int) then (some (l0.set (a1_0 : Int).toNat (wrap64 ((rd l0 a1_0) + a2)))) else (none)) else (none))) = some r:=h
 clear h
 by_cases c4 : a1_1 = true
 ·subst c4
  have H1 : (if 0 ≤ a1_0 then (if a1_0 < (l0.length : Int) then (some (l0.set (a1_0 : Int).toNat (wrap64 ((rd l0 a1_0) + (wrap64 (-a2)))))) else (none)) else (none)) = some r:=by rw [if_pos rfl] at H;exact H
  clear H
  have H:=H1
  clear H1
  by_cases c5 : 0 ≤ a1_0
  rotate_left
  ·rw [if_neg c5] at H
   exact absurd H (by simp)
  rw [if_pos c5] at H
  have c5b0 : decide (0 ≤ a1_0) = true:=decide_eq_true c5
  clear c5
  by_cases c6 : a1_0 < (l0.length : Int)
  ·rw [if_pos c6] at H
   have c6b0 : decide (a1_0 < (l0.length : Int)) = true:=decide_eq_true c6
   clear c6
   obtain ⟨y274,hy274⟩ : ∃ y_ : List Int,y_ = (l0.set (a1_0 : Int).toNat (wrap64 ((rd l0 a1_0) + (wrap64 (-a2))))):=⟨_,rfl⟩
   replace H : (some y274) = some r:=by (rw [hy274];with_reducible exact H)
   have Ny274:=am_ hy274
   clear hy274
   obtain rfl:=Option.some.inj H
   go_enter Try.func57,Try.ntmps57
   go_wp2_with (first|((with_reducible refine gate_dst (N:=4) rfl ?_);refine box_event ?hg (N:=4) ?hd (cs:=#[.int .i64 a1_0,.bool true]) (t:=79) ?hr ?_;(case hd=>rfl);(case hg=>rfl);(case hr=>(go_simp;done));intro gb272 hg w8 hbox hb;have n0_:=am_ (Kd.R_below HO0.out hb);have n1_:=am_ (Kept.below (S:=(fun k_=>P0_ k_)) (by exact HK.out) hb);have n2_:=am_ (below_step HB.out hb);have n3_:=am_ (hbox);have n4_:=am_ ((by rw [hg];exact (by exact HK.out.1) : w.heap.size ≤ gb272));have n5_:=am_ ((by rw [hg];exact (below_size HB.out) : w0.heap.size ≤ gb272));clear HO0 HK HB;have HO0:=n0_;have HK:=n1_;have HB:=n2_;have BK272:=n3_;have GW272:=n4_;have GE272:=n5_;clear n0_ n1_ n2_ n3_ n4_ n5_ hb hbox hg;have hcz9_0 : w8.cell? ⟨gb272,0,none⟩ = some (.int .i64 a1_0):=(blk_cell BK272.out 0).trans rfl;have hcz9_1 : w8.cell? ⟨gb272,1,none⟩ = some (.bool true):=(blk_cell BK272.out 1).trans rfl;have hfz9_0:=blk_frozen BK272.out 0;have hfz9_1:=blk_frozen BK272.out 1;obtain ⟨Ao10,co10,eo10⟩:=Kd.R_slice HO0.out;subst eo10;have p273 : 0 ≤ (a1_0 : Int):=of_decide_eq_true (by (with_reducible assumption));have q273 : a1_0 < (l0.length : Int):=of_decide_eq_true (by (with_reducible assumption));obtain ⟨ad273,e273,hx273_0⟩:=Kd.at_int (Kd.R_reads' HO0.out).2.2 a1_0 p273 q273;cases e273;replace p273:=eq_true p273;replace q273:=eq_true q273;have p7 : 0 ≤ (a1_0 : Int):=of_decide_eq_true (by (with_reducible assumption));have q7 : (a1_0 : Int) < ((l0.length : Int) : Int):=of_decide_eq_true (by (with_reducible assumption));obtain ⟨go7,co7,eo7,gb7,gl7,cl7,HG7⟩:=Kd.R_form HO0.out (by omega);(cases eo7);have GB7:=am_ gb7;have GG7:=am_ HG7;clear gb7 gl7 HG7;have HMgo7:=am_ (show (P0_ go7 ∨ w.heap.size ≤ go7) from (HO0.out.1 _ rfl));(simp only [add_plain] at hx273_0);obtain ⟨hx7_0,hf7_0⟩:=Kd.R_celln 0 HO0.out (a1_0 : Int) p7 q7;replace p7:=eq_true p7;replace q7:=eq_true q7;obtain ⟨hy11_,hz11_⟩:=Kd.R_celln 0 HO0.out (a1_0 : Int) (of_decide_eq_true (by (with_reducible assumption))) (of_decide_eq_true (by (with_reducible assumption)));have HP11:=Kd.R_putg HO0.out (a1_0 : Int) (wrap64 ((rd l0 a1_0) + (wrap64 (-a2)))))|((with_reducible refine gate_store (t:=3) (p:=17) rfl ?_);refine store_event (t:=3) (p:=17) (v:=?vo_w12) (w1:=(w8.setCell ⟨go7,(a1_0 : Int).toNat,none⟩ (.int .i64 (wrap64 ((rd l0 a1_0) + (wrap64 (-a2))))))) ?hg ?ho ?hn ?hr ?_;(case ho=>rfl);(case hg=>rfl);(case hn=>rfl);(case hr=>(go_simp;done));intro w12 hw;have hg : w8.grownBy w12 (some go7):=(by rw [hw];exact HP11.2);have hp_ : Kd.R (Kd.int .i64) 3 w12 w0.heap.size (fun k_=>(P0_ k_ ∨ w.heap.size ≤ k_)) (.slice (some ⟨go7,0,none⟩) l0.length co10) y274:=(by rw [hw,Ny274.out];exact HP11.1);clear HP11;have n0_:=am_ (hp_);have n1_:=am_ (blk_grown (g:=gb272) (o:=.cells #[.int .i64 a1_0,.bool true] 79 (0,0)) BK272.out hg (Kd.R_ne HO0.out BK272.out (by decide)));have n2_:=am_ ((by rw [hw];exact below_set (HB.out) GB7.out : Below w0.heap.size w0 w12));have n3_:=am_ (Kept.of_grown (S:=(fun k_=>P0_ k_)) hg (by exact HK.out) (fun k_ e_=>(HO0.out.1 k_ e_)));clear HO0 BK272 HB HK;have HO0:=n0_;have BK272:=n1_;have HB:=n2_;have HK:=n3_;clear n0_ n1_ n2_ n3_ hg hw hp_))
   go_end0
   exact ⟨by rfl,by exact HO0.out,by exact HB.out,by exact HK.out⟩
  rw [if_neg c6] at H
  exact absurd H (by simp)
 replace c4:=Bool.eq_false_iff.mpr c4
 subst c4
 have H1 : (if 0 ≤ a1_0 then (if a1_0 < (l0.length : Int) then (some (l0.set (a1_0 : Int).toNat (wrap64 ((rd l0 a1_0) + a2)))) else (none)) else (none)) = some r:=by rw [if_neg (show ¬ (false = true) by decide)] at H;exact H
 clear H
 have H:=H1
 clear H1
 by_cases c13 : 0 ≤ a1_0
 rotate_left
 ·rw [if_neg c13] at H
  exact absurd H (by simp)
 rw [if_pos c13] at H
 have c13b0 : decide (0 ≤ a1_0) = true:=decide_eq_true c13
 clear c13
 by_cases c14 : a1_0 < (l0.length : Int)
 ·rw [if_pos c14] at H
  have c14b0 : decide (a1_0 < (l0.length : Int)) = true:=decide_eq_true c14
  clear c14
  obtain ⟨y276,hy276⟩ : ∃ y_ : List Int,y_ = (l0.set (a1_0 : Int).toNat (wrap64 ((rd l0 a1_0) + a2))):=⟨_,rfl⟩
  replace H : (some y276) = some r:=by (rw [hy276];with_reducible exact H)
  have Ny276:=am_ hy276
  clear hy276
  obtain rfl:=Option.some.inj H
  go_enter Try.func57,Try.ntmps57
  go_wp2_with (first|((with_reducible refine gate_dst (N:=4) rfl ?_);refine box_event ?hg (N:=4) ?hd (cs:=#[.int .i64 a1_0,.bool false]) (t:=79) ?hr ?_;(case hd=>rfl);(case hg=>rfl);(case hr=>(go_simp;done));intro gb272 hg w16 hbox hb;have n0_:=am_ (Kd.R_below HO0.out hb);have n1_:=am_ (Kept.below (S:=(fun k_=>P0_ k_)) (by exact HK.out) hb);have n2_:=am_ (below_step HB.out hb);have n3_:=am_ (hbox);have n4_:=am_ ((by rw [hg];exact (by exact HK.out.1) : w.heap.size ≤ gb272));have n5_:=am_ ((by rw [hg];exact (below_size HB.out) : w0.heap.size ≤ gb272));clear HO0 HK HB;have HO0:=n0_;have HK:=n1_;have HB:=n2_;have BK272:=n3_;have GW272:=n4_;have GE272:=n5_;clear n0_ n1_ n2_ n3_ n4_ n5_ hb hbox hg;have hcz17_0 : w16.cell? ⟨gb272,0,none⟩ = some (.int .i64 a1_0):=(blk_cell BK272.out 0).trans rfl;have hcz17_1 : w16.cell? ⟨gb272,1,none⟩ = some (.bool false):=(blk_cell BK272.out 1).trans rfl;have hfz17_0:=blk_frozen BK272.out 0;have hfz17_1:=blk_frozen BK272.out 1;obtain ⟨Ao18,co18,eo18⟩:=Kd.R_slice HO0.out;subst eo18;have p275 : 0 ≤ (a1_0 : Int):=of_decide_eq_true (by (with_reducible assumption));have q275 : a1_0 < (l0.length : Int):=of_decide_eq_true (by (with_reducible assumption));obtain ⟨ad275,e275,hx275_0⟩:=Kd.at_int (Kd.R_reads' HO0.out).2.2 a1_0 p275 q275;cases e275;replace p275:=eq_true p275;replace q275:=eq_true q275;have p15 : 0 ≤ (a1_0 : Int):=of_decide_eq_true (by (with_reducible assumption));have q15 : (a1_0 : Int) < ((l0.length : Int) : Int):=of_decide_eq_true (by (with_reducible assumption));obtain ⟨go15,co15,eo15,gb15,gl15,cl15,HG15⟩:=Kd.R_form HO0.out (by omega);(cases eo15);have GB15:=am_ gb15;have GG15:=am_ HG15;clear gb15 gl15 HG15;have HMgo15:=am_ (show (P0_ go15 ∨ w.heap.size ≤ go15) from (HO0.out.1 _ rfl));(simp only [add_plain] at hx275_0);obtain ⟨hx15_0,hf15_0⟩:=Kd.R_celln 0 HO0.out (a1_0 : Int) p15 q15;replace p15:=eq_true p15;replace q15:=eq_true q15;obtain ⟨hy19_,hz19_⟩:=Kd.R_celln 0 HO0.out (a1_0 : Int) (of_decide_eq_true (by (with_reducible assumption))) (of_decide_eq_true (by (with_reducible assumption)));have HP19:=Kd.R_putg HO0.out (a1_0 : Int) (wrap64 ((rd l0 a1_0) + a2)))|((with_reducible refine gate_store (t:=3) (p:=17) rfl ?_);refine store_event (t:=3) (p:=17) (v:=?vo_w20) (w1:=(w16.setCell ⟨go15,(a1_0 : Int).toNat,none⟩ (.int .i64 (wrap64 ((rd l0 a1_0) + a2))))) ?hg ?ho ?hn ?hr ?_;(case ho=>rfl);(case hg=>rfl);(case hn=>rfl);(case hr=>(go_simp;done));intro w20 hw;have hg : w16.grownBy w20 (some go15):=(by rw [hw];exact HP19.2);have hp_ : Kd.R (Kd.int .i64) 3 w20 w0.heap.size (fun k_=>(P0_ k_ ∨ w.heap.size ≤ k_)) (.slice (some ⟨go15,0,none⟩) l0.length co18) y276:=(by rw [hw,Ny276.out];exact HP19.1);clear HP19;have n0_:=am_ (hp_);have n1_:=am_ (blk_grown (g:=gb272) (o:=.cells #[.int .i64 a1_0,.bool false] 79 (0,0)) BK272.out hg (Kd.R_ne HO0.out BK272.out (by decide)));have n2_:=am_ ((by rw [hw];exact below_set (HB.out) GB15.out : Below w0.heap.size w0 w20));have n3_:=am_ (Kept.of_grown (S:=(fun k_=>P0_ k_)) hg (by exact HK.out) (fun k_ e_=>(HO0.out.1 k_ e_)));clear HO0 BK272 HB HK;have HO0:=n0_;have BK272:=n1_;have HB:=n2_;have HK:=n3_;clear n0_ n1_ n2_ n3_ hg hw hp_))
  go_end0
  exact ⟨by rfl,by exact HO0.out,by exact HB.out,by exact HK.out⟩
 rw [if_neg c14] at H
 exact absurd H (by simp)

/-! ### impl_costOf: function 64 -/
def impl_costOf.l0 : Nat → List Int → Int → List (S67) → Int → Int → Option (Int)
 | 0, _, _, _, _, _ => none
 | k + 1, x1, x5, x9, x10, x11 => if x11 < x10 then (if 0 ≤ x11 then (if x11 < (x9.length : Int) then (if x11 < (x1.length : Int) then (impl_costOf.l0 k x1 (wrap64 (x5 + (wrap64 ((rd x1 x11) * ((rd_T67 x9 x11).f3))))) x9 x10 (wrap64 (x11 + 1))) else (none)) else (none)) else (none)) else (some x5)
def impl_costOf.f (k : Nat) (a0_0 : Int) (l0_1 : List (S67)) (l1 : List Int) : Option (Int):=impl_costOf.l0 k l1 0 l0_1 (l0_1.length : Int) 0
theorem impl_costOf.mono_l : ∀ k,(∀ y0 y1 y2 y3 y4,LeO (impl_costOf.l0 k y0 y1 y2 y3 y4) (impl_costOf.l0 (k + 1) y0 y1 y2 y3 y4))
 | 0 => fun _ _ _ _ _ r h => by simp [impl_costOf.l0] at h
 | k + 1 => by
  have ih0:=impl_costOf.mono_l k
  ·intro y0 y1 y2 y3 y4
   unfold impl_costOf.l0
   repeat' first
   | (with_reducible exact ih0 _ _ _ _ _)
   | (with_reducible exact LeO.refl _)
   | (with_reducible refine LeO.ite ?_ ?_)
theorem impl_costOf.mono : ∀ a0 a1 a2 k,LeO (impl_costOf.f k a0 a1 a2) (impl_costOf.f (k + 1) a0 a1 a2):=by
 intro a0 a1 a2 k
 have ih0:=impl_costOf.mono_l k
 unfold impl_costOf.f
 repeat' first
   | (with_reducible exact ih0 _ _ _ _ _)
set_option maxHeartbeats 8000000 in
set_option maxRecDepth 100000 in
theorem impl_costOf.calls (k : Nat) (a0_0 : Int) (A0_1 : Option Addr) (c0_1 : Nat) (l0_1 : List (S67)) (A1 : Option Addr) (c1 : Nat) (l1 : List Int) (r : Int) (w : World) (hr0_1 : Kd.C k67 w A0_1 l0_1.length l0_1) (hc0_1 : l0_1.length ≤ c0_1) (hr1 : Kd.C (Kd.int .i64) w A1 l1.length l1) (hc1 : l1.length ≤ c1) (h : impl_costOf.f k a0_0 l0_1 l1 = some r) :
  Calls Try.prog 64 #[.agg #[.int .i64 a0_0,.slice A0_1 l0_1.length c0_1],.slice A1 l1.length c1] w fun e w'=>e = .returned (.int .i64 r) ∧ Below w.heap.size w w':=by
 have hu30:=Try.underlying30
 have hu67:=Try.underlying67
 have HR0_1:=am_ hr0_1
 have HC0_1:=am_ hc0_1
 clear hr0_1 hc0_1
 have HR1:=am_ hr1
 have HC1:=am_ hc1
 clear hr1 hc1
 have HB:=am_ (Below.refl w.heap.size w)
 have H : (impl_costOf.l0 k l1 0 l0_1 (l0_1.length : Int) 0) = some r:=h
 clear h
 have H':=am_ H
 clear H
 go_enter Try.func64,Try.ntmps64
 go_wp2_with (((with_reducible refine gate_dst (N:=2) rfl ?_);refine box_event ?hg (N:=2) ?hd (cs:=#[.int .i64 a0_0,.slice A0_1 l0_1.length c0_1]) (t:=30) ?hr ?_;(case hd=>rfl);(case hg=>rfl);(case hr=>(go_simp;done));intro gb277 hg w3 hbox hb;have n0_:=am_ (below_step HB.out hb);have n1_:=am_ (hbox);have n2_:=am_ ((by rw [hg];exact (below_size HB.out) : w.heap.size ≤ gb277));have n3_:=n2_;clear HB;have HB:=n0_;have BK277:=n1_;have GW277:=n2_;have GE277:=n3_;clear n0_ n1_ n2_ n3_ hb hbox hg;have hcz4_0 : w3.cell? ⟨gb277,0,none⟩ = some (.int .i64 a0_0):=(blk_cell BK277.out 0).trans rfl;have hcz4_1 : w3.cell? ⟨gb277,1,none⟩ = some (.slice A0_1 l0_1.length c0_1):=(blk_cell BK277.out 1).trans rfl;have hfz4_0:=blk_frozen BK277.out 0;have hfz4_1:=blk_frozen BK277.out 1))
 repeat (go_quiet (fail);try go_wp2_with (fail))
 go_loopg [5,11] k (fun kq v5 v11 w'=>∃ (x5_1 : Int) (x11_1 : Int),v5 = .int .i64 x5_1 ∧ v11 = .int .i64 x11_1 ∧ Aside0 (impl_costOf.l0 kq l1 x5_1 l0_1 (l0_1.length : Int) x11_1 = some r) ∧ Aside0 (kq ≤ k) ∧ Aside0 (w'.heap[gb277]? = some (.cells #[.int .i64 a0_0,(.slice A0_1 l0_1.length c0_1)] 30 (0,0))) ∧ Aside0 (Below w.heap.size w w'))
 case atStart=>exact ⟨(0),(0),(by rfl),(by rfl),H',⟨Nat.le_refl _⟩,⟨by exact BK277.out⟩,⟨by exact HB.out⟩⟩
 case round =>
  clear H'
  try clear c1
  try clear p2
  try clear hcz4_0
  try clear hcz4_1
  try clear hfz4_0
  try clear hfz4_1
  obtain ⟨x5_1,x11_1,rfl,rfl,HA,HK1,BK277,HB⟩:=hrel
  cases gk with
  | zero => exact absurd HA.out (by simp [impl_costOf.l0])
  | succ k1 =>
   have H:=HA.out
   clear HA
   simp only [impl_costOf.l0] at H
   by_cases c5 : x11_1 < (l0_1.length : Int)
   rotate_left
   ·rw [if_neg c5] at H
    have c5b0 : decide (x11_1 < (l0_1.length : Int)) = false:=decide_eq_false c5
    clear c5
    obtain rfl:=Option.some.inj H
    go_wp2
    repeat (go_quiet (fail);try go_wp2)
    go_ret
    exact ⟨by rfl,by exact HB.out⟩
   rw [if_pos c5] at H
   have c5b0 : decide (x11_1 < (l0_1.length : Int)) = true:=decide_eq_true c5
   clear c5
   by_cases c6 : 0 ≤ x11_1
   rotate_left
   ·rw [if_neg c6] at H
    exact absurd H (by simp)
   rw [if_pos c6] at H
   have c6b0 : decide (0 ≤ x11_1) = true:=decide_eq_true c6
   clear c6
   by_cases c7 : x11_1 < (l0_1.length : Int)
   rotate_left
   ·rw [if_neg c7] at H
    exact absurd H (by simp)
   rw [if_pos c7] at H
   have c7b0 : decide (x11_1 < (l0_1.length : Int)) = true:=decide_eq_true c7
   clear c7
   by_cases c8 : x11_1 < (l1.length : Int)
   rotate_left
   ·rw [if_neg c8] at H
    exact absurd H (by simp)
   rw [if_pos c8] at H
   have c8b0 : decide (x11_1 < (l1.length : Int)) = true:=decide_eq_true c8
   clear c8
   have H':=am_ H
   clear H
   have p278 : 0 ≤ (x11_1 : Int):=of_decide_eq_true (by (with_reducible assumption))
   have q278 : x11_1 < (l0_1.length : Int):=of_decide_eq_true (by (with_reducible assumption))
   obtain ⟨ad278,e278,hx278_0,hx278_1,hx278_2,hx278_3⟩:=at_T67 HR0_1.out x11_1 p278 q278
   cases e278
   replace hx278_0:=kc_ HB.out hx278_0
   replace hx278_1:=kc_ HB.out hx278_1
   replace hx278_2:=kc_ HB.out hx278_2
   replace hx278_3:=kc_ HB.out hx278_3
   replace p278:=eq_true p278
   replace q278:=eq_true q278
   go_wp2_with (((with_reducible refine gate_dst (N:=7) rfl ?_);refine box_event ?hg (N:=7) ?hd (cs:=#[.int .i64 0,.int .i64 0,.int .i64 0,.int .i64 0]) (t:=67) ?hr ?_;(case hd=>rfl);(case hg=>rfl);(case hr=>(go_simp;done));intro gb279 hg w9 hbox hb;have n0_:=am_ (blk_below BK277.out hb);have n1_:=am_ (below_step HB.out hb);have n2_:=am_ (hbox);have n3_:=am_ ((by rw [hg];exact (below_size HB.out) : w.heap.size ≤ gb279));have n4_:=n3_;have n5_:=am_ ((by rw [hg];exact Nat.ne_of_lt (blk_lt (g:=gb277) (o:=.cells #[.int .i64 a0_0,.slice (some ad278) l0_1.length c0_1] 30 (0,0)) BK277.out) : gb277 ≠ gb279));have n6_:=am_ ((by rw [hg];exact Nat.ne_of_gt (blk_lt (g:=gb277) (o:=.cells #[.int .i64 a0_0,.slice (some ad278) l0_1.length c0_1] 30 (0,0)) BK277.out) : gb279 ≠ gb277));clear BK277 HB;have BK277:=n0_;have HB:=n1_;have BK279:=n2_;have GW279:=n3_;have GE279:=n4_;have NB277_279:=n5_;have NB279_277:=n6_;clear n0_ n1_ n2_ n3_ n4_ n5_ n6_ hb hbox hg;have hnb10:=NB279_277.out;have hnc10:=NB277_279.out;have hcz11_0 : w9.cell? ⟨gb279,0,none⟩ = some (.int .i64 0):=(blk_cell BK279.out 0).trans rfl;have hcz11_1 : w9.cell? ⟨gb279,1,none⟩ = some (.int .i64 0):=(blk_cell BK279.out 1).trans rfl;have hcz11_2 : w9.cell? ⟨gb279,2,none⟩ = some (.int .i64 0):=(blk_cell BK279.out 2).trans rfl;have hcz11_3 : w9.cell? ⟨gb279,3,none⟩ = some (.int .i64 0):=(blk_cell BK279.out 3).trans rfl;have hfz11_0:=blk_frozen BK279.out 0;have hfz11_1:=blk_frozen BK279.out 1;have hfz11_2:=blk_frozen BK279.out 2;have hfz11_3:=blk_frozen BK279.out 3;have p280 : 0 ≤ (x11_1 : Int):=of_decide_eq_true (by (with_reducible assumption));have q280 : x11_1 < (l1.length : Int):=of_decide_eq_true (by (with_reducible assumption));obtain ⟨ad280,e280,hx280_0⟩:=Kd.at_int HR1.out x11_1 p280 q280;cases e280;have hn280_0 : ad280.block ≠ gb279:=Nat.ne_of_lt (Nat.lt_of_lt_of_le (by have:=World.block_lt_of_cell? _ _ hx280_0;rwa [add_block] at this) GW279.out);have hn280_1 : ad280.block ≠ gb279:=Nat.ne_of_lt (Nat.lt_of_lt_of_le (by have:=World.block_lt_of_cell? _ _ hx280_0;rwa [add_block] at this) GW279.out);have hn280_2 : ad280.block ≠ gb279:=Nat.ne_of_lt (Nat.lt_of_lt_of_le (by have:=World.block_lt_of_cell? _ _ hx280_0;rwa [add_block] at this) GW279.out);have hn280_3 : ad280.block ≠ gb279:=Nat.ne_of_lt (Nat.lt_of_lt_of_le (by have:=World.block_lt_of_cell? _ _ hx280_0;rwa [add_block] at this) GW279.out);replace hx280_0:=kc_ HB.out hx280_0;replace hx280_0:=(cell_far (p:=⟨gb279,0,none⟩) (by (rw [add_block];exact hn280_0)) (.int .i64 ((rd_T67 l0_1 x11_1).f0))).trans hx280_0;replace hx280_0:=(cell_far (p:=⟨gb279,1,none⟩) (by (rw [add_block];exact hn280_1)) (.int .i64 ((rd_T67 l0_1 x11_1).f1))).trans hx280_0;replace hx280_0:=(cell_far (p:=⟨gb279,2,none⟩) (by (rw [add_block];exact hn280_2)) (.int .i64 ((rd_T67 l0_1 x11_1).f2))).trans hx280_0;replace hx280_0:=(cell_far (p:=⟨gb279,3,none⟩) (by (rw [add_block];exact hn280_3)) (.int .i64 ((rd_T67 l0_1 x11_1).f3))).trans hx280_0;(try have hy280_0:=fun (n_ : Nat)=>(show ((((((w9.drewN n_).setCell ⟨gb279,0,none⟩ (.int .i64 ((rd_T67 l0_1 x11_1).f0))).setCell ⟨gb279,1,none⟩ (.int .i64 ((rd_T67 l0_1 x11_1).f1))).setCell ⟨gb279,2,none⟩ (.int .i64 ((rd_T67 l0_1 x11_1).f2))).setCell ⟨gb279,3,none⟩ (.int .i64 ((rd_T67 l0_1 x11_1).f3)))).cell? _ = some _ from hx280_0));clear hn280_0 hn280_1 hn280_2 hn280_3;replace p280:=eq_true p280;replace q280:=eq_true q280))
   repeat (go_quiet (fail);try go_wp2_with (fail))
   go_roundg k1
   case measure=>have:=HK1.out;omega
   case rel=>exact ⟨(wrap64 (x5_1 + (wrap64 ((rd l1 x11_1) * ((rd_T67 l0_1 x11_1).f3))))),(wrap64 (x11_1 + 1)),(by rfl),(by rfl),H',⟨by have:=HK1.out;omega⟩,⟨by (with_reducible repeat (refine blk_drewN ?_ _));refine blk_far ?_ NB277_279.out _;refine blk_far ?_ NB277_279.out _;refine blk_far ?_ NB277_279.out _;refine blk_far ?_ NB277_279.out _;exact BK277.out⟩,⟨by repeat ((with_reducible first|exact HB.out|apply pw_below_drewN|refine below_set ?_ GE279.out))⟩⟩

end Go.Proofs.Ytgkpgigoonhgdaa.PFnExactLeastCost
