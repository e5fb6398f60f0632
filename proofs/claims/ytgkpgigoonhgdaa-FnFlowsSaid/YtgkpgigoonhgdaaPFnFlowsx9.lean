-- Made by the session's wip/pp.py, a changed call of the kit's printer; Lean checks it.
import Derived.Test.YtgkpgigoonhgdaaPFnFlowsx0
import Derived.Test.YtgkpgigoonhgdaaPFnFlowsx8
namespace Go.Proofs.Ytgkpgigoonhgdaa.PFnFlows
open Go.RowKit Go.Proofs.YtgkpgigoonhgdaaW.PrintWords Go.Proofs.YtgkpgigoonhgdaaW.PrintLast Go.Proofs.YtgkpgigoonhgdaaW.PrintMore
attribute [local go_sem] max2_int min2_int max_two min_two max_three min_three max_four min_four   -- for this text's walks alone
set_option linter.unusedVariables false
set_option linter.unusedSimpArgs false

/-! ### impl_FlowMore: function 14 -/
mutual
def impl_FlowMore.j0 : Nat → List Int → List Int → Bool → Int → List (S67) → Option (List Int)
 | 0, _, _, _, _, _ => none
 | k + 1, x1, x2, x18, x176000, x176001 => if x18 = true then (some ([] : List Int)) else (if 0 ≤ (x1.length : Int) then (if ((x1.length : Int) : Int).toNat ≤ 35184372088832 then (impl_FlowMore.l0 k x1 x2 (List.replicate ((x1.length : Int) : Int).toNat 0) (x1.length : Int) 0 x176000 x176001) else (none)) else (none))
def impl_FlowMore.l0 : Nat → List Int → List Int → List Int → Int → Int → Int → List (S67) → Option (List Int)
 | 0, _, _, _, _, _, _, _ => none
 | k + 1, x1, x2, x7, x23, x24, x176000, x176001 => if x24 < x23 then (if 0 ≤ x24 then (if x24 < (x1.length : Int) then (if x24 < (x2.length : Int) then (if x24 < (x7.length : Int) then (impl_FlowMore.l0 k x1 x2 (x7.set (x24 : Int).toNat (wrap64 ((rd x1 x24) + (rd x2 x24)))) x23 (wrap64 (x24 + 1)) x176000 x176001) else (none)) else (none)) else (none)) else (none)) else ((impl_FlowOk.f k x176000 x176001 x7).bind fun t184 => (if t184 = true then (some x7) else (some ([] : List Int))))
end
def impl_FlowMore.f (k : Nat) (a0_0 : Int) (l0_1 : List (S67)) (l1 : List Int) (l2 : List Int) : Option (List Int):=(impl_FlowOk.f k a0_0 l0_1 l1).bind fun t176=>(if t176 = true then ((impl_FlowOk.f k a0_0 l0_1 l2).bind fun t177=>(impl_FlowMore.j0 k l1 l2 (!t177) a0_0 l0_1)) else (impl_FlowMore.j0 k l1 l2 true a0_0 l0_1))
theorem impl_FlowMore.mono_l : ∀ k,(∀ y0 y1 y2 y3 y4,LeO (impl_FlowMore.j0 k y0 y1 y2 y3 y4) (impl_FlowMore.j0 (k + 1) y0 y1 y2 y3 y4)) ∧ (∀ y0 y1 y2 y3 y4 y5 y6,LeO (impl_FlowMore.l0 k y0 y1 y2 y3 y4 y5 y6) (impl_FlowMore.l0 (k + 1) y0 y1 y2 y3 y4 y5 y6))
 | 0 => ⟨fun _ _ _ _ _ r h => by simp [impl_FlowMore.j0] at h, fun _ _ _ _ _ _ _ r h => by simp [impl_FlowMore.l0] at h⟩
 | k + 1 => by
  obtain ⟨ih0,ih1⟩:=impl_FlowMore.mono_l k
  refine ⟨?_,?_⟩
  ·intro y0 y1 y2 y3 y4
   unfold impl_FlowMore.j0
   repeat' first
   | (with_reducible exact ih1 _ _ _ _ _ _ _)
   | (with_reducible exact LeO.refl _)
   | (with_reducible refine LeO.ite ?_ ?_)
  ·intro y0 y1 y2 y3 y4 y5 y6
   unfold impl_FlowMore.l0
   repeat' first
   | (with_reducible exact ih1 _ _ _ _ _ _ _)
   | (with_reducible exact impl_FlowOk.mono _ _ _ _)
   | (with_reducible exact LeO.refl _)
   | (with_reducible refine LeO.ite ?_ ?_)
   | (with_reducible refine LeO.bind ?_ (fun _ => ?_))
theorem impl_FlowMore.mono : ∀ a0 a1 a2 a3 k,LeO (impl_FlowMore.f k a0 a1 a2 a3) (impl_FlowMore.f (k + 1) a0 a1 a2 a3):=by
 intro a0 a1 a2 a3 k
 obtain ⟨ih0,ih1⟩:=impl_FlowMore.mono_l k
 unfold impl_FlowMore.f
 repeat' first
   | (with_reducible exact ih0 _ _ _ _ _)
   | (with_reducible exact impl_FlowOk.mono _ _ _ _)
   | (with_reducible refine LeO.ite ?_ ?_)
   | (with_reducible refine LeO.bind ?_ (fun _ => ?_))
def impl_FlowMore.T7 : Bool × List (List Nat × List Nat):=(true,[([],[]),([],[]),([],[]),([],[]),([2,3],[2,3]),([4],[4]),([],[]),([],[]),([6,7],[6,7]),([8],[8]),([5,9],[5,9]),([0,1,0,1,2,3,4,5,6,7,8,9,10],[0,1]),([11,10,0,1,2,3,4,5,6,7,8,9,10],[10,11])])
def impl_FlowMore.B7 : List Nat:=[0,0,0,0,12,28,0,0,192,448,1020,2047,4095]
theorem impl_FlowMore.tab7 : rtab .any (opsOf Try.f14 7) = impl_FlowMore.T7:=by kernel_rfl
theorem impl_FlowMore.bits7 : waitsOk impl_FlowMore.T7.2 impl_FlowMore.B7 = true:=by kernel_rfl
set_option maxHeartbeats 8000000 in
set_option maxRecDepth 100000 in
theorem impl_FlowMore.calls (k : Nat) (a0_0 : Int) (A0_1 : Option Addr) (c0_1 : Nat) (l0_1 : List (S67)) (A1 : Option Addr) (c1 : Nat) (l1 : List Int) (A2 : Option Addr) (c2 : Nat) (l2 : List Int) (r : List Int) (w : World) (hr0_1 : Kd.C k67 w A0_1 l0_1.length l0_1) (hc0_1 : l0_1.length ≤ c0_1) (hr1 : Kd.C (Kd.int .i64) w A1 l1.length l1) (hc1 : l1.length ≤ c1) (hr2 : Kd.C (Kd.int .i64) w A2 l2.length l2) (hc2 : l2.length ≤ c2) (h : impl_FlowMore.f k a0_0 l0_1 l1 l2 = some r) :
  Calls Try.prog 14 #[.agg #[.int .i64 a0_0,.slice A0_1 l0_1.length c0_1],.slice A1 l1.length c1,.slice A2 l2.length c2] w fun e w'=>∃ v0_ : Value,e = .returned (v0_) ∧ Kd.R (Kd.int .i64) 3 w' w.heap.size (fun _=>True) v0_ r ∧ Below w.heap.size w w':=by
 have hu30:=Try.underlying30
 have HR0_1:=am_ hr0_1
 have HC0_1:=am_ hc0_1
 clear hr0_1 hc0_1
 have HR1:=am_ hr1
 have HC1:=am_ hc1
 clear hr1 hc1
 have HR2:=am_ hr2
 have HC2:=am_ hc2
 clear hr2 hc2
 have HB:=am_ (Below.refl w.heap.size w)
 have H : ((impl_FlowOk.f k a0_0 l0_1 l1).bind fun t176=>(if t176 = true then ((impl_FlowOk.f k a0_0 l0_1 l2).bind fun t177=>(impl_FlowMore.j0 k l1 l2 (!t177) a0_0 l0_1)) else (impl_FlowMore.j0 k l1 l2 true a0_0 l0_1))) = some r:=h
 clear h
 have HC4:=am_ H
 clear H
 go_enter Try.func14,Try.ntmps14
 go_upto_region 1 with (((with_reducible refine gate_dst (N:=3) rfl ?_);refine box_event ?hg (N:=3) ?hd (cs:=#[.int .i64 a0_0,.slice A0_1 l0_1.length c0_1]) (t:=30) ?hr ?_;(case hd=>rfl);(case hg=>rfl);(case hr=>(go_simp;done));intro gb175 hg w5 hbox hb;have n0_:=am_ (below_step HB.out hb);have n1_:=am_ (hbox);have n2_:=am_ ((by rw [hg];exact (below_size HB.out) : w.heap.size ≤ gb175));have n3_:=n2_;clear HB;have HB:=n0_;have BK175:=n1_;have GW175:=n2_;have GE175:=n3_;clear n0_ n1_ n2_ n3_ hb hbox hg))
 (skip)
 go_cut [18] (fun v18 wc=>∃ (kq : Nat) (x18_3 : Bool),v18 = .bool x18_3 ∧ Aside0 (impl_FlowMore.j0 kq l1 l2 x18_3 a0_0 l0_1 = some r) ∧ Aside0 (kq ≤ k) ∧ Aside0 (wc.heap[gb175]? = some (.cells #[.int .i64 a0_0,(.slice A0_1 l0_1.length c0_1)] 30 (0,0))) ∧ Aside0 (Below w.heap.size w wc))
 case first =>
  have H:=HC4.out
  clear HC4
  replace H:=Option.bind_eq_some_iff.mp H
  obtain ⟨t176,A60,H⟩:=H
  replace H : (if t176 = true then ((impl_FlowOk.f k a0_0 l0_1 l2).bind fun t177=>(impl_FlowMore.j0 k l1 l2 (!t177) a0_0 l0_1)) else (impl_FlowMore.j0 k l1 l2 true a0_0 l0_1)) = some r:=H
  have A6:=am_ A60
  clear A60
  by_cases c7 : t176 = true
  ·subst c7
   have H1 : ((impl_FlowOk.f k a0_0 l0_1 l2).bind fun t177=>(impl_FlowMore.j0 k l1 l2 (!t177) a0_0 l0_1)) = some r:=by rw [if_pos rfl] at H;exact H
   clear H
   have H:=H1
   clear H1
   replace H:=Option.bind_eq_some_iff.mp H
   obtain ⟨t177,A80,H⟩:=H
   replace H : (impl_FlowMore.j0 k l1 l2 (!t177) a0_0 l0_1) = some r:=H
   have A8:=am_ A80
   clear A80
   have H':=am_ H
   clear H
   have hcz9_0 : w5.cell? ⟨gb175,0,none⟩ = some (.int .i64 a0_0):=(blk_cell BK175.out 0).trans rfl
   have hcz9_1 : w5.cell? ⟨gb175,1,none⟩ = some (.slice A0_1 l0_1.length c0_1):=(blk_cell BK175.out 1).trans rfl
   have hfz9_0:=blk_frozen BK175.out 0
   have hfz9_1:=blk_frozen BK175.out 1
   go_wp2_with (first|((with_reducible refine gate_callee (f:=31) rfl ?_);refine goesL_ (some 11) rfl rfl Try.func31 (by kernel_rfl) rfl #[.agg #[.int .i64 a0_0,.slice A0_1 l0_1.length c0_1],.slice A1 l1.length c1] rfl (by (try simp only [List.map_toArray,List.map_cons,List.map_nil]);rfl) ?_;(with_reducible refine (impl_FlowOk.calls k a0_0 _ _ l0_1 _ _ l1 true _ ?side1 ?side2 ?side3 ?side4 A6.out).mono ?_);(case side1=>exact (Kd.C_below HR0_1.out HB.out));(case side2=>exact HC0_1.out);(case side3=>exact (Kd.C_below HR1.out HB.out));(case side4=>exact HC1.out);rintro e w10 ⟨rfl,hb⟩;refine ⟨_,rfl,?_⟩;have n0_:=am_ (blk_below BK175.out hb);have n1_:=am_ (below_step HB.out hb);clear BK175 HB;have BK175:=n0_;have HB:=n1_;clear n0_ n1_;(try clear hb);have hcz11_0 : w10.cell? ⟨gb175,0,none⟩ = some (.int .i64 a0_0):=(blk_cell BK175.out 0).trans rfl;have hcz11_1 : w10.cell? ⟨gb175,1,none⟩ = some (.slice A0_1 l0_1.length c0_1):=(blk_cell BK175.out 1).trans rfl;have hfz11_0:=blk_frozen BK175.out 0;have hfz11_1:=blk_frozen BK175.out 1)|(go_at_call 31;(with_reducible refine (impl_FlowOk.calls k a0_0 _ _ l0_1 _ _ l2 t177 _ ?side1 ?side2 ?side3 ?side4 A8.out).mono ?_);(case side1=>exact (Kd.C_below HR0_1.out HB.out));(case side2=>exact HC0_1.out);(case side3=>exact (Kd.C_below HR2.out HB.out));(case side4=>exact HC2.out);rintro e w12 ⟨rfl,hb⟩;have n0_:=am_ (blk_below BK175.out hb);have n1_:=am_ (below_step HB.out hb);clear BK175 HB;have BK175:=n0_;have HB:=n1_;clear n0_ n1_;(try clear hb)))
   go_meet
   case rel=>exact ⟨_,(!t177),(by rfl),H',⟨by omega⟩,⟨by exact BK175.out⟩,⟨by exact HB.out⟩⟩
  replace c7:=Bool.eq_false_iff.mpr c7
  subst c7
  have H1 : (impl_FlowMore.j0 k l1 l2 true a0_0 l0_1) = some r:=by rw [if_neg (show ¬ (false = true) by decide)] at H;exact H
  clear H
  have H:=H1
  clear H1
  have H':=am_ H
  clear H
  have hcz13_0 : w5.cell? ⟨gb175,0,none⟩ = some (.int .i64 a0_0):=(blk_cell BK175.out 0).trans rfl
  have hcz13_1 : w5.cell? ⟨gb175,1,none⟩ = some (.slice A0_1 l0_1.length c0_1):=(blk_cell BK175.out 1).trans rfl
  have hfz13_0:=blk_frozen BK175.out 0
  have hfz13_1:=blk_frozen BK175.out 1
  go_wp2_with (((with_reducible refine gate_callee (f:=31) rfl ?_);refine goesL_ (some 11) rfl rfl Try.func31 (by kernel_rfl) rfl #[.agg #[.int .i64 a0_0,.slice A0_1 l0_1.length c0_1],.slice A1 l1.length c1] rfl (by (try simp only [List.map_toArray,List.map_cons,List.map_nil]);rfl) ?_;(with_reducible refine (impl_FlowOk.calls k a0_0 _ _ l0_1 _ _ l1 false _ ?side1 ?side2 ?side3 ?side4 A6.out).mono ?_);(case side1=>exact (Kd.C_below HR0_1.out HB.out));(case side2=>exact HC0_1.out);(case side3=>exact (Kd.C_below HR1.out HB.out));(case side4=>exact HC1.out);rintro e w14 ⟨rfl,hb⟩;refine ⟨_,rfl,?_⟩;have n0_:=am_ (blk_below BK175.out hb);have n1_:=am_ (below_step HB.out hb);clear BK175 HB;have BK175:=n0_;have HB:=n1_;clear n0_ n1_;(try clear hb)))
  go_meet
  case rel=>exact ⟨_,(true),(by rfl),H',⟨by omega⟩,⟨by exact BK175.out⟩,⟨by exact HB.out⟩⟩
 case rest =>
  clear HC4
  try clear c1
  try clear c2
  try clear p2
  try clear c3
  try clear c7
  try clear c14
  try clear hcz11_0
  try clear hcz11_1
  try clear hcz13_0
  try clear hcz13_1
  try clear hcz9_0
  try clear hcz9_1
  try clear hfz11_0
  try clear hfz11_1
  try clear hfz13_0
  try clear hfz13_1
  try clear hfz9_0
  try clear hfz9_1
  obtain ⟨kq,x18_3,rfl,HA,HJ3,BK175,HB⟩:=hcut
  cases kq with
  | zero => exact absurd HA.out (by simp [impl_FlowMore.j0])
  | succ kj3 =>
   have H:=HA.out
   clear HA
   simp only [impl_FlowMore.j0] at H
   by_cases c15 : x18_3 = true
   ·subst c15
    have H1 : (some ([] : List Int)) = some r:=by rw [if_pos rfl] at H;exact H
    clear H
    have H:=H1
    clear H1
    obtain rfl:=Option.some.inj H
    go_wp2
    go_ret
    exact ⟨_,by rfl,by exact Kd.R_nil _ _ _ _ _,by exact HB.out⟩
   replace c15:=Bool.eq_false_iff.mpr c15
   subst c15
   have H1 : (if 0 ≤ (l1.length : Int) then (if ((l1.length : Int) : Int).toNat ≤ 35184372088832 then (impl_FlowMore.l0 kj3 l1 l2 (List.replicate ((l1.length : Int) : Int).toNat 0) (l1.length : Int) 0 a0_0 l0_1) else (none)) else (none)) = some r:=by rw [if_neg (show ¬ (false = true) by decide)] at H;exact H
   clear H
   have H:=H1
   clear H1
   by_cases c16 : 0 ≤ (l1.length : Int)
   rotate_left
   ·rw [if_neg c16] at H
    exact absurd H (by simp)
   rw [if_pos c16] at H
   have c16b0:=eq_true c16
   have c16b1 : decide (0 ≤ (l1.length : Int)) = true:=decide_eq_true c16
   clear c16
   by_cases c17 : ((l1.length : Int) : Int).toNat ≤ 35184372088832
   rotate_left
   ·rw [if_neg c17] at H
    exact absurd H (by simp)
   rw [if_pos c17] at H
   have c17b0:=eq_true c17
   have c17b1 : decide (((l1.length : Int) : Int).toNat ≤ 35184372088832) = true:=decide_eq_true c17
   clear c17
   obtain ⟨y178,hy178⟩ : ∃ y_ : List Int,y_ = (List.replicate ((l1.length : Int) : Int).toNat 0):=⟨_,rfl⟩
   replace H : (impl_FlowMore.l0 kj3 l1 l2 y178 (l1.length : Int) 0 a0_0 l0_1) = some r:=by (rw [hy178];with_reducible exact H)
   have Ny178:=am_ hy178
   clear hy178
   have H':=am_ H
   clear H
   go_wp2_with (((with_reducible refine gate_dst (N:=21) rfl ?_);refine Kd.R_make (Kd.int .i64) _ 3 rfl (N:=21) rfl 25 _ _ rfl (l1.length : Int) rfl rfl Try.underlying25 (.int .i64 0) 8 info3 rfl (by decide) (by omega) 0 (ok:=fun _=>True) (okp:=fun _=>True) rfl (fun _ hk=>hk) trivial (of_decide_eq_true (by (with_reducible assumption))) (Nat.le_trans (Nat.mul_le_mul_right _ (of_decide_eq_true (by (with_reducible assumption)) : (l1.length : Int).toNat ≤ 35184372088832)) (by omega)) (Below.refl _ _) (Nat.le_refl _) ?_;intro v179 w18 ho19 hb hg_ hnew_;clear hg_ hnew_;(rw [← Ny178.out] at ho19);have n0_:=am_ (Kd.R_lower ho19 (below_size HB.out));have n1_:=am_ (blk_below BK175.out hb);have n2_:=am_ (below_step HB.out hb);clear BK175 HB;have HO180:=n0_;have BK175:=n1_;have HB:=n2_;clear n0_ n1_ n2_ hb ho19))
   go_loopg [24] kj3 (fun kq v24 w'=>∃ (x7_2 : List Int) (x24_2 : Int),v24 = .int .i64 x24_2 ∧ Aside0 (impl_FlowMore.l0 kq l1 l2 x7_2 (l1.length : Int) x24_2 a0_0 l0_1 = some r) ∧ Aside0 (kq ≤ kj3) ∧ Aside0 (Kd.R (Kd.int .i64) 3 w' w.heap.size (fun _=>True) v179 x7_2) ∧ Aside0 (w'.heap[gb175]? = some (.cells #[.int .i64 a0_0,(.slice A0_1 l0_1.length c0_1)] 30 (0,0))) ∧ Aside0 (Below w.heap.size w w'))
   case atStart=>exact ⟨(y178),(0),(by rfl),H',⟨Nat.le_refl _⟩,⟨by exact HO180.out⟩,⟨by exact BK175.out⟩,⟨by exact HB.out⟩⟩
   case round =>
    clear H'
    try clear c1
    try clear c2
    try clear p2
    try clear c3
    try clear c7
    try clear c14
    try clear c15
    try clear c16
    try clear c16b0
    try clear c16b1
    try clear c17
    try clear c17b0
    try clear c17b1
    try clear hcz11_0
    try clear hcz11_1
    try clear hcz13_0
    try clear hcz13_1
    try clear hcz9_0
    try clear hcz9_1
    try clear hfz11_0
    try clear hfz11_1
    try clear hfz13_0
    try clear hfz13_1
    try clear hfz9_0
    try clear hfz9_1
    try clear p2
    obtain ⟨x7_2,x24_2,rfl,HA,HK2,HO_7,BK175,HB⟩:=hrel
    cases gk with
    | zero => exact absurd HA.out (by simp [impl_FlowMore.l0])
    | succ k2 =>
     have H:=HA.out
     clear HA
     simp only [impl_FlowMore.l0] at H
     by_cases c20 : x24_2 < (l1.length : Int)
     rotate_left
     ·rw [if_neg c20] at H
      have c20b0 : decide (x24_2 < (l1.length : Int)) = false:=decide_eq_false c20
      clear c20
      replace H:=Option.bind_eq_some_iff.mp H
      obtain ⟨t184,A280,H⟩:=H
      replace H : (if t184 = true then (some x7_2) else (some ([] : List Int))) = some r:=H
      have A28:=am_ A280
      clear A280
      by_cases c29 : t184 = true
      ·subst c29
       have H1 : (some x7_2) = some r:=by rw [if_pos rfl] at H;exact H
       clear H
       have H:=H1
       clear H1
       obtain rfl:=Option.some.inj H
       have hcz30_0 : wr.cell? ⟨gb175,0,none⟩ = some (.int .i64 a0_0):=(blk_cell BK175.out 0).trans rfl
       have hcz30_1 : wr.cell? ⟨gb175,1,none⟩ = some (.slice A0_1 l0_1.length c0_1):=(blk_cell BK175.out 1).trans rfl
       have hfz30_0:=blk_frozen BK175.out 0
       have hfz30_1:=blk_frozen BK175.out 1
       obtain ⟨Ao31,co31,eo31⟩:=Kd.R_slice HO_7.out
       subst eo31
       go_wp2_with (((with_reducible refine gate_callee (f:=31) rfl ?_);refine goesL_ (some 42) rfl rfl Try.func31 (by kernel_rfl) rfl #[.agg #[.int .i64 a0_0,.slice A0_1 l0_1.length c0_1],.slice Ao31 x7_2.length co31] rfl (by (try simp only [List.map_toArray,List.map_cons,List.map_nil]);rfl) ?_;(with_reducible refine (impl_FlowOk.calls k2 a0_0 _ _ l0_1 _ _ x7_2 true _ ?side1 ?side2 ?side3 ?side4 A28.out).mono ?_);(case side1=>exact (Kd.C_below HR0_1.out HB.out));(case side2=>exact HC0_1.out);(case side3=>repeat (exact (Kd.R_reads' HO_7.out).2.2));(case side4=>exact (Kd.R_reads' HO_7.out).2.1);rintro e w32 ⟨rfl,hb⟩;refine ⟨_,rfl,?_⟩;have n0_:=am_ (Kd.R_below HO_7.out hb);have n1_:=am_ (blk_below BK175.out hb);have n2_:=am_ (below_step HB.out hb);clear HO_7 BK175 HB;have HO_7:=n0_;have BK175:=n1_;have HB:=n2_;clear n0_ n1_ n2_;(try clear hb)))
       go_ret
       exact ⟨_,by rfl,by exact HO_7.out,by exact HB.out⟩
      replace c29:=Bool.eq_false_iff.mpr c29
      subst c29
      have H1 : (some ([] : List Int)) = some r:=by rw [if_neg (show ¬ (false = true) by decide)] at H;exact H
      clear H
      have H:=H1
      clear H1
      obtain rfl:=Option.some.inj H
      have hcz33_0 : wr.cell? ⟨gb175,0,none⟩ = some (.int .i64 a0_0):=(blk_cell BK175.out 0).trans rfl
      have hcz33_1 : wr.cell? ⟨gb175,1,none⟩ = some (.slice A0_1 l0_1.length c0_1):=(blk_cell BK175.out 1).trans rfl
      have hfz33_0:=blk_frozen BK175.out 0
      have hfz33_1:=blk_frozen BK175.out 1
      obtain ⟨Ao34,co34,eo34⟩:=Kd.R_slice HO_7.out
      subst eo34
      go_wp2_with (((with_reducible refine gate_callee (f:=31) rfl ?_);refine goesL_ (some 42) rfl rfl Try.func31 (by kernel_rfl) rfl #[.agg #[.int .i64 a0_0,.slice A0_1 l0_1.length c0_1],.slice Ao34 x7_2.length co34] rfl (by (try simp only [List.map_toArray,List.map_cons,List.map_nil]);rfl) ?_;(with_reducible refine (impl_FlowOk.calls k2 a0_0 _ _ l0_1 _ _ x7_2 false _ ?side1 ?side2 ?side3 ?side4 A28.out).mono ?_);(case side1=>exact (Kd.C_below HR0_1.out HB.out));(case side2=>exact HC0_1.out);(case side3=>repeat (exact (Kd.R_reads' HO_7.out).2.2));(case side4=>exact (Kd.R_reads' HO_7.out).2.1);rintro e w35 ⟨rfl,hb⟩;refine ⟨_,rfl,?_⟩;have n0_:=am_ (Kd.R_below HO_7.out hb);have n1_:=am_ (blk_below BK175.out hb);have n2_:=am_ (below_step HB.out hb);clear HO_7 BK175 HB;have HO_7:=n0_;have BK175:=n1_;have HB:=n2_;clear n0_ n1_ n2_;(try clear hb)))
      go_ret
      exact ⟨_,by rfl,by exact Kd.R_nil _ _ _ _ _,by exact HB.out⟩
     rw [if_pos c20] at H
     have c20b0 : decide (x24_2 < (l1.length : Int)) = true:=decide_eq_true c20
     clear c20
     by_cases c21 : 0 ≤ x24_2
     rotate_left
     ·rw [if_neg c21] at H
      exact absurd H (by simp)
     rw [if_pos c21] at H
     have c21b0 : decide (0 ≤ x24_2) = true:=decide_eq_true c21
     clear c21
     by_cases c22 : x24_2 < (l1.length : Int)
     rotate_left
     ·rw [if_neg c22] at H
      exact absurd H (by simp)
     rw [if_pos c22] at H
     have c22b0 : decide (x24_2 < (l1.length : Int)) = true:=decide_eq_true c22
     clear c22
     by_cases c23 : x24_2 < (l2.length : Int)
     rotate_left
     ·rw [if_neg c23] at H
      exact absurd H (by simp)
     rw [if_pos c23] at H
     have c23b0 : decide (x24_2 < (l2.length : Int)) = true:=decide_eq_true c23
     clear c23
     by_cases c24 : x24_2 < (x7_2.length : Int)
     rotate_left
     ·rw [if_neg c24] at H
      exact absurd H (by simp)
     rw [if_pos c24] at H
     have c24b0 : decide (x24_2 < (x7_2.length : Int)) = true:=decide_eq_true c24
     clear c24
     obtain ⟨y183,hy183⟩ : ∃ y_ : List Int,y_ = (x7_2.set (x24_2 : Int).toNat (wrap64 ((rd l1 x24_2) + (rd l2 x24_2)))):=⟨_,rfl⟩
     replace H : (impl_FlowMore.l0 k2 l1 l2 y183 (l1.length : Int) (wrap64 (x24_2 + 1)) a0_0 l0_1) = some r:=by (rw [hy183];with_reducible exact H)
     have Ny183:=am_ hy183
     clear hy183
     have H':=am_ H
     clear H
     try go_wp2
     have n0_:=am_ (Kd.R_drew HO_7.out)
     have n1_:=am_ (blk_drew BK175.out)
     have n2_:=am_ (below_drew1 HB.out)
     clear HO_7
     clear BK175
     clear HB
     have HO_7:=n0_
     have BK175:=n1_
     have HB:=n2_
     clear n0_ n1_ n2_
     have p181 : 0 ≤ (x24_2 : Int):=of_decide_eq_true (by (with_reducible assumption))
     have q181 : x24_2 < (l1.length : Int):=of_decide_eq_true (by (with_reducible assumption))
     obtain ⟨ad181,e181,hx181_0⟩:=Kd.at_int HR1.out x24_2 p181 q181
     have hw181_0:=hx181_0
     cases e181
     replace hx181_0:=kc_ HB.out hx181_0
     replace p181:=eq_true p181
     replace q181:=eq_true q181
     have p182 : 0 ≤ (x24_2 : Int):=of_decide_eq_true (by (with_reducible assumption))
     have q182 : x24_2 < (l2.length : Int):=of_decide_eq_true (by (with_reducible assumption))
     obtain ⟨ad182,e182,hx182_0⟩:=Kd.at_int HR2.out x24_2 p182 q182
     have hw182_0:=hx182_0
     cases e182
     replace hx182_0:=kc_ HB.out hx182_0
     replace p182:=eq_true p182
     replace q182:=eq_true q182
     have p25 : 0 ≤ (x24_2 : Int):=of_decide_eq_true (by (with_reducible assumption))
     have q25 : (x24_2 : Int) < ((x7_2.length : Int) : Int):=of_decide_eq_true (by (with_reducible assumption))
     obtain ⟨go25,co25,eo25,gb25,gl25,cl25,HG25⟩:=Kd.R_form HO_7.out (by omega)
     (cases eo25)
     have GB25:=am_ gb25
     have GG25:=am_ HG25
     clear gb25 gl25 HG25
     obtain ⟨hx25_0,hf25_0⟩:=Kd.R_celln 0 HO_7.out (x24_2 : Int) p25 q25
     replace p25:=eq_true p25
     replace q25:=eq_true q25
     have HP27:=Kd.R_putn HO_7.out (x24_2 : Int) (wrap64 ((rd l1 x24_2) + (rd l2 x24_2)))
     rw [← Ny183.out] at HP27
     have HQ27:=am_ HP27
     clear HP27
     refine start_ (n:=13) (S:=fun w'=>w'.cell? (ad181.add (x24_2).toNat) = some (.int .i64 (rd l1 x24_2)) ∧ w'.cell? (ad182.add (x24_2).toNat) = some (.int .i64 (rd l2 x24_2))) (ds:=[12]) #[false,false,false,false,false,false,false,false,false,false,false,false,false] (by kernel_rfl) rfl rfl ⟨(kc_ HB.out hw181_0),(kc_ HB.out hw182_0)⟩ (fun hHeld=>?_);refine with_tabW impl_FlowMore.tab7 impl_FlowMore.bits7 (fun HT_ HW_=>?_)
     generalize wr.drew = w26 at HO_7 BK175 HB GG25 HQ27 hf25_0 hx181_0 hx182_0 hx25_0 hHeld ⊢
     refine pure_ (i:=0) (N:=some 27) (v:=?_) (a':=?_) #[true,false,false,false,false,false,false,false,false,false,false,false,false] rfl rfl (any_of HT_.out (by kernel_rfl)) (fun _ _ _ h=>h) (Or.inl ⟨by rfl,?_⟩) ?_ ?_
     rotate_left
     ·intro w'
      go_simp
      with_reducible rfl
     rotate_left
     ·simp only [Act.put,List.setIfInBounds_toArray,List.set_cons_zero,List.set_cons_succ,i64_w,i32_w]
      rfl
     refine pure_ (i:=1) (N:=some 28) (v:=?_) (a':=?_) #[true,true,false,false,false,false,false,false,false,false,false,false,false] rfl rfl (any_of HT_.out (by kernel_rfl)) (fun _ _ _ h=>h) (Or.inl ⟨by rfl,?_⟩) ?_ ?_
     rotate_left
     ·intro w'
      go_simp
      with_reducible rfl
     rotate_left
     ·simp only [Act.put,List.setIfInBounds_toArray,List.set_cons_zero,List.set_cons_succ,i64_w,i32_w]
      rfl
     refine pure_ (i:=2) (N:=some 29) (v:=?_) (a':=?_) #[true,true,true,false,false,false,false,false,false,false,false,false,false] rfl rfl (any_of HT_.out (by kernel_rfl)) (fun _ _ _ h=>h) (Or.inl ⟨by rfl,?_⟩) ?_ ?_
     rotate_left
     ·intro w'
      go_simp
      with_reducible rfl
     rotate_left
     ·simp only [Act.put,List.setIfInBounds_toArray,List.set_cons_zero,List.set_cons_succ,i64_w,i32_w]
      rfl
     refine pure_ (i:=3) (N:=some 30) (v:=?_) (a':=?_) #[true,true,true,true,false,false,false,false,false,false,false,false,false] rfl rfl (any_of HT_.out (by kernel_rfl)) (fun _ _ _ h=>h) (Or.inl ⟨by rfl,?_⟩) ?_ ?_
     rotate_left
     ·intro w'
      go_simp
      with_reducible rfl
     rotate_left
     ·simp only [Act.put,List.setIfInBounds_toArray,List.set_cons_zero,List.set_cons_succ,i64_w,i32_w]
      rfl
     refine pure_ (i:=4) (N:=some 31) (v:=?_) (a':=?_) #[true,true,true,true,true,false,false,false,false,false,false,false,false] rfl rfl (any_of HT_.out (by kernel_rfl)) (fun _ _ _ h=>h) (Or.inl ⟨by rfl,?_⟩) ?_ ?_
     rotate_left
     ·intro w'
      go_simp
      with_reducible rfl
     rotate_left
     ·simp only [Act.put,List.setIfInBounds_toArray,List.set_cons_zero,List.set_cons_succ,i64_w,i32_w]
      rfl
     refine pure_ (i:=6) (N:=some 33) (v:=?_) (a':=?_) #[true,true,true,true,true,false,true,false,false,false,false,false,false] rfl rfl (any_of HT_.out (by kernel_rfl)) (fun _ _ _ h=>h) (Or.inl ⟨by rfl,?_⟩) ?_ ?_
     rotate_left
     ·intro w'
      go_simp
      with_reducible rfl
     rotate_left
     ·simp only [Act.put,List.setIfInBounds_toArray,List.set_cons_zero,List.set_cons_succ,i64_w,i32_w]
      rfl
     refine pure_ (i:=7) (N:=some 34) (v:=?_) (a':=?_) #[true,true,true,true,true,false,true,true,false,false,false,false,false] rfl rfl (any_of HT_.out (by kernel_rfl)) (fun _ _ _ h=>h) (Or.inl ⟨by rfl,?_⟩) ?_ ?_
     rotate_left
     ·intro w'
      go_simp
      with_reducible rfl
     rotate_left
     ·simp only [Act.put,List.setIfInBounds_toArray,List.set_cons_zero,List.set_cons_succ,i64_w,i32_w]
      rfl
     refine pure_ (i:=8) (N:=some 35) (v:=?_) (a':=?_) #[true,true,true,true,true,false,true,true,true,false,false,false,false] rfl rfl (any_of HT_.out (by kernel_rfl)) (fun _ _ _ h=>h) (Or.inl ⟨by rfl,?_⟩) ?_ ?_
     rotate_left
     ·intro w'
      go_simp
      with_reducible rfl
     rotate_left
     ·simp only [Act.put,List.setIfInBounds_toArray,List.set_cons_zero,List.set_cons_succ,i64_w,i32_w]
      rfl
     refine take_ (i:=5) (N:=some 32) (v:=?_) (a':=?_) #[true,true,true,true,true,true,true,true,true,false,false,false,false] rfl rfl (take_ofW HT_.out HW_.out (by kernel_rfl)) (fun _ _ _ h=>h) (Or.inl ⟨by rfl,?_⟩) hHeld ?_ ?_
     rotate_left
     ·rintro w' ⟨s0,s1⟩
      go_simp
      with_reducible rfl
     rotate_left
     ·simp only [Act.put,List.setIfInBounds_toArray,List.set_cons_zero,List.set_cons_succ,i64_w,i32_w]
      rfl
     refine take_ (i:=9) (N:=some 36) (v:=?_) (a':=?_) #[true,true,true,true,true,true,true,true,true,true,false,false,false] rfl rfl (take_ofW HT_.out HW_.out (by kernel_rfl)) (fun _ _ _ h=>h) (Or.inl ⟨by rfl,?_⟩) hHeld ?_ ?_
     rotate_left
     ·rintro w' ⟨s0,s1⟩
      go_simp
      with_reducible rfl
     rotate_left
     ·simp only [Act.put,List.setIfInBounds_toArray,List.set_cons_zero,List.set_cons_succ,i64_w,i32_w]
      rfl
     refine pure_ (i:=10) (N:=some 37) (v:=?_) (a':=?_) #[true,true,true,true,true,true,true,true,true,true,true,false,false] rfl rfl (any_of HT_.out (by kernel_rfl)) (fun _ _ _ h=>h) (Or.inl ⟨by rfl,?_⟩) ?_ ?_
     rotate_left
     ·intro w'
      go_simp
      with_reducible rfl
     rotate_left
     ·simp only [Act.put,List.setIfInBounds_toArray,List.set_cons_zero,List.set_cons_succ,i64_w,i32_w]
      rfl
     refine pure_ (i:=11) (N:=some 38) (v:=?_) (a':=?_) #[true,true,true,true,true,true,true,true,true,true,true,true,false] rfl rfl (any_of HT_.out (by kernel_rfl)) (fun _ _ _ h=>h) (Or.inl ⟨by rfl,?_⟩) ?_ ?_
     rotate_left
     ·intro w'
      go_simp
      with_reducible rfl
     rotate_left
     ·simp only [Act.put,List.setIfInBounds_toArray,List.set_cons_zero,List.set_cons_succ,i64_w,i32_w]
      rfl
     refine last_ (i:=12) (N:=none) #[true,true,true,true,true,true,true,true,true,true,true,true,true] rfl rfl (one_of HT_.out (by kernel_rfl)) (by decide) (fun K hK=>?_)
     refine skip_ (w1:=?_) (by rfl) rfl ?_ ?_
     rotate_left
     ·go_simp
      rfl
     refine hK.out _ _ ?_
     clear hK K
     refine done_ (done_of HT_.out (by kernel_rfl)) ?_
     try go_wp2
     go_roundg k2
     case measure=>have:=HJ3.out;have:=HK2.out;omega
     case rel=>exact ⟨(y183),(wrap64 (x24_2 + 1)),(by rfl),H',⟨by have:=HJ3.out;have:=HK2.out;omega⟩,⟨by exact HQ27.out⟩,⟨by refine blk_far ?_ (by have h_:=Kd.R_ne HO_7.out BK175.out (by decide);intro e_;exact h_ (by rw [e_];rfl)) _;exact BK175.out⟩,⟨by repeat ((with_reducible first|exact HB.out|refine below_set ?_ GB25.out))⟩⟩

/-! ### impl_step_ends: function 55 -/
def impl_step_ends.f (a0_0 : Int) (a0_1 : Bool) (a1_0 : Int) (l1_1 : List (S67)) : Option (Int × Int):=if 0 ≤ a0_0 then (if a0_0 < (l1_1.length : Int) then (if a0_1 = true then (some ((rd_T67 l1_1 a0_0).f1,(rd_T67 l1_1 a0_0).f0)) else (some ((rd_T67 l1_1 a0_0).f0,(rd_T67 l1_1 a0_0).f1))) else (none)) else (none)
set_option maxHeartbeats 8000000 in
set_option maxRecDepth 100000 in
theorem impl_step_ends.calls (a0_0 : Int) (a0_1 : Bool) (a1_0 : Int) (A1_1 : Option Addr) (c1_1 : Nat) (l1_1 : List (S67)) (r1 : Int) (r2 : Int) (w : World) (hr1_1 : Kd.C k67 w A1_1 l1_1.length l1_1) (hc1_1 : l1_1.length ≤ c1_1) (h : impl_step_ends.f a0_0 a0_1 a1_0 l1_1 = some (r1,r2)) :
  Calls Try.prog 55 #[.agg #[.int .i64 a0_0,.bool a0_1],.agg #[.int .i64 a1_0,.slice A1_1 l1_1.length c1_1]] w fun e w'=>e = .returned (.tuple #[.int .i64 r1,.int .i64 r2]) ∧ Below w.heap.size w w':=by
 have hu79:=Try.underlying79
 have hu30:=Try.underlying30
 have hu67:=Try.underlying67
 have HR1_1:=am_ hr1_1
 have HC1_1:=am_ hc1_1
 clear hr1_1 hc1_1
 have HB:=am_ (Below.refl w.heap.size w)
 have H : (if 0 ≤ a0_0 then (if a0_0 < (l1_1.length : Int) then (if a0_1 = true then (some ((rd_T67 l1_1 a0_0).f1,(rd_T67 l1_1 a0_0).f0)) else (some ((rd_T67 l1_1 a0_0).f0,(rd_T67 l1_1 a0_0).f1))) else (none)) else (none)) = some (r1,r2):=h
 clear h
 by_cases c3 : 0 ≤ a0_0
 rotate_left
 ·rw [if_neg c3] at H
  exact absurd H (by simp)
 rw [if_pos c3] at H
 have c3b0 : decide (0 ≤ a0_0) = true:=decide_eq_true c3
 clear c3
 by_cases c4 : a0_0 < (l1_1.length : Int)
 rotate_left
 ·rw [if_neg c4] at H
  exact absurd H (by simp)
 rw [if_pos c4] at H
 have c4b0 : decide (a0_0 < (l1_1.length : Int)) = true:=decide_eq_true c4
 clear c4
 by_cases c5 : a0_1 = true
 ·subst c5
  have H1 : (some ((rd_T67 l1_1 a0_0).f1,(rd_T67 l1_1 a0_0).f0)) = some (r1,r2):=by rw [if_pos rfl] at H;exact H
  clear H
  have H:=H1
  clear H1
  simp only [Option.some.injEq,Prod.mk.injEq] at H
  obtain ⟨rfl,rfl⟩:=H
  go_enter Try.func55,Try.ntmps55
  go_wp2_with (first|((with_reducible refine gate_dst (N:=2) rfl ?_);refine box_event ?hg (N:=2) ?hd (cs:=#[.int .i64 a0_0,.bool true]) (t:=79) ?hr ?_;(case hd=>rfl);(case hg=>rfl);(case hr=>(go_simp;done));intro gb185 hg w6 hbox hb;have n0_:=am_ (below_step HB.out hb);have n1_:=am_ (hbox);have n2_:=am_ ((by rw [hg];exact (below_size HB.out) : w.heap.size ≤ gb185));have n3_:=n2_;clear HB;have HB:=n0_;have BK185:=n1_;have GW185:=n2_;have GE185:=n3_;clear n0_ n1_ n2_ n3_ hb hbox hg)|((with_reducible refine gate_dst (N:=3) rfl ?_);refine box_event ?hg (N:=3) ?hd (cs:=#[.int .i64 a1_0,.slice A1_1 l1_1.length c1_1]) (t:=30) ?hr ?_;(case hd=>rfl);(case hg=>rfl);(case hr=>(go_simp;done));intro gb186 hg w7 hbox hb;have n0_:=am_ (blk_below BK185.out hb);have n1_:=am_ (below_step HB.out hb);have n2_:=am_ (hbox);have n3_:=am_ ((by rw [hg];exact (below_size HB.out) : w.heap.size ≤ gb186));have n4_:=n3_;have n5_:=am_ ((by rw [hg];exact Nat.ne_of_lt (blk_lt (g:=gb185) (o:=.cells #[.int .i64 a0_0,.bool true] 79 (0,0)) BK185.out) : gb185 ≠ gb186));have n6_:=am_ ((by rw [hg];exact Nat.ne_of_gt (blk_lt (g:=gb185) (o:=.cells #[.int .i64 a0_0,.bool true] 79 (0,0)) BK185.out) : gb186 ≠ gb185));clear BK185 HB;have BK185:=n0_;have HB:=n1_;have BK186:=n2_;have GW186:=n3_;have GE186:=n4_;have NB185_186:=n5_;have NB186_185:=n6_;clear n0_ n1_ n2_ n3_ n4_ n5_ n6_ hb hbox hg;have hnb8:=NB186_185.out;have hnc8:=NB185_186.out;have hcz9_0 : w7.cell? ⟨gb186,0,none⟩ = some (.int .i64 a1_0):=(blk_cell BK186.out 0).trans rfl;have hcz9_1 : w7.cell? ⟨gb186,1,none⟩ = some (.slice A1_1 l1_1.length c1_1):=(blk_cell BK186.out 1).trans rfl;have hfz9_0:=blk_frozen BK186.out 0;have hfz9_1:=blk_frozen BK186.out 1;have hcz10_0 : w7.cell? ⟨gb185,0,none⟩ = some (.int .i64 a0_0):=(blk_cell BK185.out 0).trans rfl;have hcz10_1 : w7.cell? ⟨gb185,1,none⟩ = some (.bool true):=(blk_cell BK185.out 1).trans rfl;have hfz10_0:=blk_frozen BK185.out 0;have hfz10_1:=blk_frozen BK185.out 1;have p187 : 0 ≤ (a0_0 : Int):=of_decide_eq_true (by (with_reducible assumption));have q187 : a0_0 < (l1_1.length : Int):=of_decide_eq_true (by (with_reducible assumption));obtain ⟨ad187,e187,hx187_0,hx187_1,hx187_2,hx187_3⟩:=at_T67 HR1_1.out a0_0 p187 q187;cases e187;replace hx187_0:=kc_ HB.out hx187_0;replace hx187_1:=kc_ HB.out hx187_1;replace hx187_2:=kc_ HB.out hx187_2;replace hx187_3:=kc_ HB.out hx187_3;replace p187:=eq_true p187;replace q187:=eq_true q187)|((with_reducible refine gate_dst (N:=6) rfl ?_);refine box_event ?hg (N:=6) ?hd (cs:=#[.int .i64 0,.int .i64 0,.int .i64 0,.int .i64 0]) (t:=67) ?hr ?_;(case hd=>rfl);(case hg=>rfl);(case hr=>(go_simp;done));intro gb188 hg w11 hbox hb;have n0_:=am_ (blk_below BK185.out hb);have n1_:=am_ (blk_below BK186.out hb);have n2_:=am_ (below_step HB.out hb);have n3_:=am_ (hbox);have n4_:=am_ ((by rw [hg];exact (below_size HB.out) : w.heap.size ≤ gb188));have n5_:=n4_;have n6_:=am_ ((by rw [hg];exact Nat.ne_of_lt (blk_lt (g:=gb185) (o:=.cells #[.int .i64 a0_0,.bool true] 79 (0,0)) BK185.out) : gb185 ≠ gb188));have n7_:=am_ ((by rw [hg];exact Nat.ne_of_gt (blk_lt (g:=gb185) (o:=.cells #[.int .i64 a0_0,.bool true] 79 (0,0)) BK185.out) : gb188 ≠ gb185));have n8_:=am_ ((by rw [hg];exact Nat.ne_of_lt (blk_lt (g:=gb186) (o:=.cells #[.int .i64 a1_0,.slice (some ad187) l1_1.length c1_1] 30 (0,0)) BK186.out) : gb186 ≠ gb188));have n9_:=am_ ((by rw [hg];exact Nat.ne_of_gt (blk_lt (g:=gb186) (o:=.cells #[.int .i64 a1_0,.slice (some ad187) l1_1.length c1_1] 30 (0,0)) BK186.out) : gb188 ≠ gb186));clear BK185 BK186 HB;have BK185:=n0_;have BK186:=n1_;have HB:=n2_;have BK188:=n3_;have GW188:=n4_;have GE188:=n5_;have NB185_188:=n6_;have NB188_185:=n7_;have NB186_188:=n8_;have NB188_186:=n9_;clear n0_ n1_ n2_ n3_ n4_ n5_ n6_ n7_ n8_ n9_ hb hbox hg;have hnb12:=NB188_185.out;have hnc12:=NB185_188.out;have hnb13:=NB188_186.out;have hnc13:=NB186_188.out;have hcz14_0 : w11.cell? ⟨gb188,0,none⟩ = some (.int .i64 0):=(blk_cell BK188.out 0).trans rfl;have hcz14_1 : w11.cell? ⟨gb188,1,none⟩ = some (.int .i64 0):=(blk_cell BK188.out 1).trans rfl;have hcz14_2 : w11.cell? ⟨gb188,2,none⟩ = some (.int .i64 0):=(blk_cell BK188.out 2).trans rfl;have hcz14_3 : w11.cell? ⟨gb188,3,none⟩ = some (.int .i64 0):=(blk_cell BK188.out 3).trans rfl;have hfz14_0:=blk_frozen BK188.out 0;have hfz14_1:=blk_frozen BK188.out 1;have hfz14_2:=blk_frozen BK188.out 2;have hfz14_3:=blk_frozen BK188.out 3;have hcz15_0 : w11.cell? ⟨gb185,0,none⟩ = some (.int .i64 a0_0):=(blk_cell BK185.out 0).trans rfl;have hcz15_1 : w11.cell? ⟨gb185,1,none⟩ = some (.bool true):=(blk_cell BK185.out 1).trans rfl;have hfz15_0:=blk_frozen BK185.out 0;have hfz15_1:=blk_frozen BK185.out 1))
  repeat (go_quiet (fail);try go_wp2_with (fail))
  go_ret2
  exact ⟨by rfl,by repeat ((with_reducible first|exact HB.out|apply pw_below_drewN|refine below_set ?_ GE188.out))⟩
 replace c5:=Bool.eq_false_iff.mpr c5
 subst c5
 have H1 : (some ((rd_T67 l1_1 a0_0).f0,(rd_T67 l1_1 a0_0).f1)) = some (r1,r2):=by rw [if_neg (show ¬ (false = true) by decide)] at H;exact H
 clear H
 have H:=H1
 clear H1
 simp only [Option.some.injEq,Prod.mk.injEq] at H
 obtain ⟨rfl,rfl⟩:=H
 go_enter Try.func55,Try.ntmps55
 go_wp2_with (first|((with_reducible refine gate_dst (N:=2) rfl ?_);refine box_event ?hg (N:=2) ?hd (cs:=#[.int .i64 a0_0,.bool false]) (t:=79) ?hr ?_;(case hd=>rfl);(case hg=>rfl);(case hr=>(go_simp;done));intro gb185 hg w16 hbox hb;have n0_:=am_ (below_step HB.out hb);have n1_:=am_ (hbox);have n2_:=am_ ((by rw [hg];exact (below_size HB.out) : w.heap.size ≤ gb185));have n3_:=n2_;clear HB;have HB:=n0_;have BK185:=n1_;have GW185:=n2_;have GE185:=n3_;clear n0_ n1_ n2_ n3_ hb hbox hg)|((with_reducible refine gate_dst (N:=3) rfl ?_);refine box_event ?hg (N:=3) ?hd (cs:=#[.int .i64 a1_0,.slice A1_1 l1_1.length c1_1]) (t:=30) ?hr ?_;(case hd=>rfl);(case hg=>rfl);(case hr=>(go_simp;done));intro gb186 hg w17 hbox hb;have n0_:=am_ (blk_below BK185.out hb);have n1_:=am_ (below_step HB.out hb);have n2_:=am_ (hbox);have n3_:=am_ ((by rw [hg];exact (below_size HB.out) : w.heap.size ≤ gb186));have n4_:=n3_;have n5_:=am_ ((by rw [hg];exact Nat.ne_of_lt (blk_lt (g:=gb185) (o:=.cells #[.int .i64 a0_0,.bool false] 79 (0,0)) BK185.out) : gb185 ≠ gb186));have n6_:=am_ ((by rw [hg];exact Nat.ne_of_gt (blk_lt (g:=gb185) (o:=.cells #[.int .i64 a0_0,.bool false] 79 (0,0)) BK185.out) : gb186 ≠ gb185));clear BK185 HB;have BK185:=n0_;have HB:=n1_;have BK186:=n2_;have GW186:=n3_;have GE186:=n4_;have NB185_186:=n5_;have NB186_185:=n6_;clear n0_ n1_ n2_ n3_ n4_ n5_ n6_ hb hbox hg;have hnb18:=NB186_185.out;have hnc18:=NB185_186.out;have hcz19_0 : w17.cell? ⟨gb186,0,none⟩ = some (.int .i64 a1_0):=(blk_cell BK186.out 0).trans rfl;have hcz19_1 : w17.cell? ⟨gb186,1,none⟩ = some (.slice A1_1 l1_1.length c1_1):=(blk_cell BK186.out 1).trans rfl;have hfz19_0:=blk_frozen BK186.out 0;have hfz19_1:=blk_frozen BK186.out 1;have hcz20_0 : w17.cell? ⟨gb185,0,none⟩ = some (.int .i64 a0_0):=(blk_cell BK185.out 0).trans rfl;have hcz20_1 : w17.cell? ⟨gb185,1,none⟩ = some (.bool false):=(blk_cell BK185.out 1).trans rfl;have hfz20_0:=blk_frozen BK185.out 0;have hfz20_1:=blk_frozen BK185.out 1;have p187 : 0 ≤ (a0_0 : Int):=of_decide_eq_true (by (with_reducible assumption));have q187 : a0_0 < (l1_1.length : Int):=of_decide_eq_true (by (with_reducible assumption));obtain ⟨ad187,e187,hx187_0,hx187_1,hx187_2,hx187_3⟩:=at_T67 HR1_1.out a0_0 p187 q187;cases e187;replace hx187_0:=kc_ HB.out hx187_0;replace hx187_1:=kc_ HB.out hx187_1;replace hx187_2:=kc_ HB.out hx187_2;replace hx187_3:=kc_ HB.out hx187_3;replace p187:=eq_true p187;replace q187:=eq_true q187)|((with_reducible refine gate_dst (N:=6) rfl ?_);refine box_event ?hg (N:=6) ?hd (cs:=#[.int .i64 0,.int .i64 0,.int .i64 0,.int .i64 0]) (t:=67) ?hr ?_;(case hd=>rfl);(case hg=>rfl);(case hr=>(go_simp;done));intro gb188 hg w21 hbox hb;have n0_:=am_ (blk_below BK185.out hb);have n1_:=am_ (blk_below BK186.out hb);have n2_:=am_ (below_step HB.out hb);have n3_:=am_ (hbox);have n4_:=am_ ((by rw [hg];exact (below_size HB.out) : w.heap.size ≤ gb188));have n5_:=n4_;have n6_:=am_ ((by rw [hg];exact Nat.ne_of_lt (blk_lt (g:=gb185) (o:=.cells #[.int .i64 a0_0,.bool false] 79 (0,0)) BK185.out) : gb185 ≠ gb188));have n7_:=am_ ((by rw [hg];exact Nat.ne_of_gt (blk_lt (g:=gb185) (o:=.cells #[.int .i64 a0_0,.bool false] 79 (0,0)) BK185.out) : gb188 ≠ gb185));have n8_:=am_ ((by rw [hg];exact Nat.ne_of_lt (blk_lt (g:=gb186) (o:=.cells #[.int .i64 a1_0,.slice (some ad187) l1_1.length c1_1] 30 (0,0)) BK186.out) : gb186 ≠ gb188));have n9_:=am_ ((by rw [hg];exact Nat.ne_of_gt (blk_lt (g:=gb186) (o:=.cells #[.int .i64 a1_0,.slice (some ad187) l1_1.length c1_1] 30 (0,0)) BK186.out) : gb188 ≠ gb186));clear BK185 BK186 HB;have BK185:=n0_;have BK186:=n1_;have HB:=n2_;have BK188:=n3_;have GW188:=n4_;have GE188:=n5_;have NB185_188:=n6_;have NB188_185:=n7_;have NB186_188:=n8_;have NB188_186:=n9_;clear n0_ n1_ n2_ n3_ n4_ n5_ n6_ n7_ n8_ n9_ hb hbox hg;have hnb22:=NB188_185.out;have hnc22:=NB185_188.out;have hnb23:=NB188_186.out;have hnc23:=NB186_188.out;have hcz24_0 : w21.cell? ⟨gb188,0,none⟩ = some (.int .i64 0):=(blk_cell BK188.out 0).trans rfl;have hcz24_1 : w21.cell? ⟨gb188,1,none⟩ = some (.int .i64 0):=(blk_cell BK188.out 1).trans rfl;have hcz24_2 : w21.cell? ⟨gb188,2,none⟩ = some (.int .i64 0):=(blk_cell BK188.out 2).trans rfl;have hcz24_3 : w21.cell? ⟨gb188,3,none⟩ = some (.int .i64 0):=(blk_cell BK188.out 3).trans rfl;have hfz24_0:=blk_frozen BK188.out 0;have hfz24_1:=blk_frozen BK188.out 1;have hfz24_2:=blk_frozen BK188.out 2;have hfz24_3:=blk_frozen BK188.out 3;have hcz25_0 : w21.cell? ⟨gb185,0,none⟩ = some (.int .i64 a0_0):=(blk_cell BK185.out 0).trans rfl;have hcz25_1 : w21.cell? ⟨gb185,1,none⟩ = some (.bool false):=(blk_cell BK185.out 1).trans rfl;have hfz25_0:=blk_frozen BK185.out 0;have hfz25_1:=blk_frozen BK185.out 1))
 repeat (go_quiet (fail);try go_wp2_with (fail))
 go_ret2
 exact ⟨by rfl,by repeat ((with_reducible first|exact HB.out|apply pw_below_drewN|refine below_set ?_ GE188.out))⟩

end Go.Proofs.Ytgkpgigoonhgdaa.PFnFlows
