-- Made by the session's wip/pp.py, a changed call of the kit's printer; Lean checks it.
import Derived.Test.YtgkpgigoonhgdaaPFnFlowsx0
import Derived.Test.YtgkpgigoonhgdaaPFnFlowsx4
namespace Go.Proofs.Ytgkpgigoonhgdaa.PFnFlows
open Go.RowKit Go.Proofs.YtgkpgigoonhgdaaW.PrintWords Go.Proofs.YtgkpgigoonhgdaaW.PrintLast Go.Proofs.YtgkpgigoonhgdaaW.PrintMore
attribute [local go_sem] max2_int min2_int max_two min_two max_three min_three max_four min_four   -- for this text's walks alone
set_option linter.unusedVariables false
set_option linter.unusedSimpArgs false

/-! ### spec_FlowMore: function 11 -/
mutual
def spec_FlowMore.j0 : Nat → List Int → List Int → Bool → Int → List (S67) → Option (List Int)
 | 0, _, _, _, _, _ => none
 | k + 1, x1, x2, x18, x133000, x133001 => if x18 = true then (some (([] : List Int))) else (spec_FlowMore.l0 k x1 x2 (([] : List Int)) 0 x133000 x133001)
def spec_FlowMore.l0 : Nat → List Int → List Int → List Int → Int → Int → List (S67) → Option (List Int)
 | 0, _, _, _, _, _, _ => none
 | k + 1, x1, x2, x7, x8, x133000, x133001 => if x8 < (x1.length : Int) then (if 0 ≤ x8 then (if x8 < (x2.length : Int) then (if x7.length < 17592186044416 then (spec_FlowMore.l0 k x1 x2 (x7 ++ [wrap64 ((rd x1 x8) + (rd x2 x8))]) (wrap64 (x8 + 1)) x133000 x133001) else (none)) else (none)) else (none)) else ((spec_FlowOk.f k x133000 x133001 x7).bind fun t146 => (if t146 = true then (some x7) else (some (([] : List Int)))))
end
def spec_FlowMore.f (k : Nat) (a0_0 : Int) (l0_1 : List (S67)) (l1 : List Int) (l2 : List Int) : Option (List Int):=(spec_FlowOk.f k a0_0 l0_1 l1).bind fun t133=>(if t133 = true then ((spec_FlowOk.f k a0_0 l0_1 l2).bind fun t134=>(spec_FlowMore.j0 k l1 l2 (!t134) a0_0 l0_1)) else (spec_FlowMore.j0 k l1 l2 true a0_0 l0_1))
theorem spec_FlowMore.mono_l : ∀ k,(∀ y0 y1 y2 y3 y4,LeO (spec_FlowMore.j0 k y0 y1 y2 y3 y4) (spec_FlowMore.j0 (k + 1) y0 y1 y2 y3 y4)) ∧ (∀ y0 y1 y2 y3 y4 y5,LeO (spec_FlowMore.l0 k y0 y1 y2 y3 y4 y5) (spec_FlowMore.l0 (k + 1) y0 y1 y2 y3 y4 y5))
 | 0 => ⟨fun _ _ _ _ _ r h => by simp [spec_FlowMore.j0] at h, fun _ _ _ _ _ _ r h => by simp [spec_FlowMore.l0] at h⟩
 | k + 1 => by
  obtain ⟨ih0,ih1⟩:=spec_FlowMore.mono_l k
  refine ⟨?_,?_⟩
  ·intro y0 y1 y2 y3 y4
   unfold spec_FlowMore.j0
   repeat' first
   | (with_reducible exact ih1 _ _ _ _ _ _)
   | (with_reducible exact LeO.refl _)
   | (with_reducible refine LeO.ite ?_ ?_)
  ·intro y0 y1 y2 y3 y4 y5
   unfold spec_FlowMore.l0
   repeat' first
   | (with_reducible exact ih1 _ _ _ _ _ _)
   | (with_reducible exact spec_FlowOk.mono _ _ _ _)
   | (with_reducible exact LeO.refl _)
   | (with_reducible refine LeO.ite ?_ ?_)
   | (with_reducible refine LeO.bind ?_ (fun _ => ?_))
theorem spec_FlowMore.mono : ∀ a0 a1 a2 a3 k,LeO (spec_FlowMore.f k a0 a1 a2 a3) (spec_FlowMore.f (k + 1) a0 a1 a2 a3):=by
 intro a0 a1 a2 a3 k
 obtain ⟨ih0,ih1⟩:=spec_FlowMore.mono_l k
 unfold spec_FlowMore.f
 repeat' first
   | (with_reducible exact ih0 _ _ _ _ _)
   | (with_reducible exact spec_FlowOk.mono _ _ _ _)
   | (with_reducible refine LeO.ite ?_ ?_)
   | (with_reducible refine LeO.bind ?_ (fun _ => ?_))
def spec_FlowMore.T7 : Bool × List (List Nat × List Nat):=(true,[([],[]),([],[]),([],[]),([1,2],[1,2]),([3],[3]),([],[]),([],[]),([5,6],[5,6]),([7],[7]),([4,8],[4,8]),([9],[9]),([0,10],[0,10]),([11,11,0,1,2,3,4,5,6,7,8,9,10,11],[0,11])])
def spec_FlowMore.B7 : List Nat:=[0,0,0,6,14,0,0,96,224,510,1022,2047,4095]
theorem spec_FlowMore.tab7 : rtab .any (opsOf Try.f11 7) = spec_FlowMore.T7:=by kernel_rfl
theorem spec_FlowMore.bits7 : waitsOk spec_FlowMore.T7.2 spec_FlowMore.B7 = true:=by kernel_rfl
set_option maxHeartbeats 8000000 in
set_option maxRecDepth 100000 in
theorem spec_FlowMore.calls (k : Nat) (a0_0 : Int) (A0_1 : Option Addr) (c0_1 : Nat) (l0_1 : List (S67)) (A1 : Option Addr) (c1 : Nat) (l1 : List Int) (A2 : Option Addr) (c2 : Nat) (l2 : List Int) (r : List Int) (w : World) (hr0_1 : Kd.C k67 w A0_1 l0_1.length l0_1) (hc0_1 : l0_1.length ≤ c0_1) (hr1 : Kd.C (Kd.int .i64) w A1 l1.length l1) (hc1 : l1.length ≤ c1) (hr2 : Kd.C (Kd.int .i64) w A2 l2.length l2) (hc2 : l2.length ≤ c2) (h : spec_FlowMore.f k a0_0 l0_1 l1 l2 = some r) :
  Calls Try.prog 11 #[.agg #[.int .i64 a0_0,.slice A0_1 l0_1.length c0_1],.slice A1 l1.length c1,.slice A2 l2.length c2] w fun e w'=>∃ v0_ : Value,e = .returned (v0_) ∧ Kd.R (Kd.int .i64) 3 w' w.heap.size (fun _=>True) v0_ r ∧ Below w.heap.size w w':=by
 have hu30:=Try.underlying30
 have HR0_1:=am_ hr0_1
 have HC0_1:=am_ hc0_1
 clear hr0_1 hc0_1
 have HR1:=am_ hr1
 have HC1:=am_ hc1
 clear hr1 hc1
 have HR2:=am_ hr2
 have HC2:=am_ hc2
 clear hr2 hc2
 have HB:=am_ (Below.refl w.heap.size w)
 have H : ((spec_FlowOk.f k a0_0 l0_1 l1).bind fun t133=>(if t133 = true then ((spec_FlowOk.f k a0_0 l0_1 l2).bind fun t134=>(spec_FlowMore.j0 k l1 l2 (!t134) a0_0 l0_1)) else (spec_FlowMore.j0 k l1 l2 true a0_0 l0_1))) = some r:=h
 clear h
 have HC4:=am_ H
 clear H
 go_enter Try.func11,Try.ntmps11
 go_upto_region 1 with (((with_reducible refine gate_dst (N:=3) rfl ?_);refine box_event ?hg (N:=3) ?hd (cs:=#[.int .i64 a0_0,.slice A0_1 l0_1.length c0_1]) (t:=30) ?hr ?_;(case hd=>rfl);(case hg=>rfl);(case hr=>(go_simp;done));intro gb132 hg w5 hbox hb;have n0_:=am_ (below_step HB.out hb);have n1_:=am_ (hbox);have n2_:=am_ ((by rw [hg];exact (below_size HB.out) : w.heap.size ≤ gb132));have n3_:=n2_;clear HB;have HB:=n0_;have BK132:=n1_;have GW132:=n2_;have GE132:=n3_;clear n0_ n1_ n2_ n3_ hb hbox hg))
 (skip)
 go_cut [18] (fun v18 wc=>∃ (kq : Nat) (x18_3 : Bool),v18 = .bool x18_3 ∧ Aside0 (spec_FlowMore.j0 kq l1 l2 x18_3 a0_0 l0_1 = some r) ∧ Aside0 (kq ≤ k) ∧ Aside0 (wc.heap[gb132]? = some (.cells #[.int .i64 a0_0,(.slice A0_1 l0_1.length c0_1)] 30 (0,0))) ∧ Aside0 (Below w.heap.size w wc))
 case first =>
  have H:=HC4.out
  clear HC4
  replace H:=Option.bind_eq_some_iff.mp H
  obtain ⟨t133,A60,H⟩:=H
  replace H : (if t133 = true then ((spec_FlowOk.f k a0_0 l0_1 l2).bind fun t134=>(spec_FlowMore.j0 k l1 l2 (!t134) a0_0 l0_1)) else (spec_FlowMore.j0 k l1 l2 true a0_0 l0_1)) = some r:=H
  have A6:=am_ A60
  clear A60
  by_cases c7 : t133 = true
  ·subst c7
   have H1 : ((spec_FlowOk.f k a0_0 l0_1 l2).bind fun t134=>(spec_FlowMore.j0 k l1 l2 (!t134) a0_0 l0_1)) = some r:=by rw [if_pos rfl] at H;exact H
   clear H
   have H:=H1
   clear H1
   replace H:=Option.bind_eq_some_iff.mp H
   obtain ⟨t134,A80,H⟩:=H
   replace H : (spec_FlowMore.j0 k l1 l2 (!t134) a0_0 l0_1) = some r:=H
   have A8:=am_ A80
   clear A80
   have H':=am_ H
   clear H
   have hcz9_0 : w5.cell? ⟨gb132,0,none⟩ = some (.int .i64 a0_0):=(blk_cell BK132.out 0).trans rfl
   have hcz9_1 : w5.cell? ⟨gb132,1,none⟩ = some (.slice A0_1 l0_1.length c0_1):=(blk_cell BK132.out 1).trans rfl
   have hfz9_0:=blk_frozen BK132.out 0
   have hfz9_1:=blk_frozen BK132.out 1
   go_wp2_with (first|((with_reducible refine gate_callee (f:=45) rfl ?_);refine goesL_ (some 11) rfl rfl Try.func45 (by kernel_rfl) rfl #[.agg #[.int .i64 a0_0,.slice A0_1 l0_1.length c0_1],.slice A1 l1.length c1] rfl (by (try simp only [List.map_toArray,List.map_cons,List.map_nil]);rfl) ?_;(with_reducible refine (spec_FlowOk.calls k a0_0 _ _ l0_1 _ _ l1 true _ ?side1 ?side2 ?side3 ?side4 A6.out).mono ?_);(case side1=>exact (Kd.C_below HR0_1.out HB.out));(case side2=>exact HC0_1.out);(case side3=>exact (Kd.C_below HR1.out HB.out));(case side4=>exact HC1.out);rintro e w10 ⟨rfl,hb⟩;refine ⟨_,rfl,?_⟩;have n0_:=am_ (blk_below BK132.out hb);have n1_:=am_ (below_step HB.out hb);clear BK132 HB;have BK132:=n0_;have HB:=n1_;clear n0_ n1_;(try clear hb);have hcz11_0 : w10.cell? ⟨gb132,0,none⟩ = some (.int .i64 a0_0):=(blk_cell BK132.out 0).trans rfl;have hcz11_1 : w10.cell? ⟨gb132,1,none⟩ = some (.slice A0_1 l0_1.length c0_1):=(blk_cell BK132.out 1).trans rfl;have hfz11_0:=blk_frozen BK132.out 0;have hfz11_1:=blk_frozen BK132.out 1)|(go_at_call 45;(with_reducible refine (spec_FlowOk.calls k a0_0 _ _ l0_1 _ _ l2 t134 _ ?side1 ?side2 ?side3 ?side4 A8.out).mono ?_);(case side1=>exact (Kd.C_below HR0_1.out HB.out));(case side2=>exact HC0_1.out);(case side3=>exact (Kd.C_below HR2.out HB.out));(case side4=>exact HC2.out);rintro e w12 ⟨rfl,hb⟩;have n0_:=am_ (blk_below BK132.out hb);have n1_:=am_ (below_step HB.out hb);clear BK132 HB;have BK132:=n0_;have HB:=n1_;clear n0_ n1_;(try clear hb)))
   go_meet
   case rel=>exact ⟨_,(!t134),(by rfl),H',⟨by omega⟩,⟨by exact BK132.out⟩,⟨by exact HB.out⟩⟩
  replace c7:=Bool.eq_false_iff.mpr c7
  subst c7
  have H1 : (spec_FlowMore.j0 k l1 l2 true a0_0 l0_1) = some r:=by rw [if_neg (show ¬ (false = true) by decide)] at H;exact H
  clear H
  have H:=H1
  clear H1
  have H':=am_ H
  clear H
  have hcz13_0 : w5.cell? ⟨gb132,0,none⟩ = some (.int .i64 a0_0):=(blk_cell BK132.out 0).trans rfl
  have hcz13_1 : w5.cell? ⟨gb132,1,none⟩ = some (.slice A0_1 l0_1.length c0_1):=(blk_cell BK132.out 1).trans rfl
  have hfz13_0:=blk_frozen BK132.out 0
  have hfz13_1:=blk_frozen BK132.out 1
  go_wp2_with (((with_reducible refine gate_callee (f:=45) rfl ?_);refine goesL_ (some 11) rfl rfl Try.func45 (by kernel_rfl) rfl #[.agg #[.int .i64 a0_0,.slice A0_1 l0_1.length c0_1],.slice A1 l1.length c1] rfl (by (try simp only [List.map_toArray,List.map_cons,List.map_nil]);rfl) ?_;(with_reducible refine (spec_FlowOk.calls k a0_0 _ _ l0_1 _ _ l1 false _ ?side1 ?side2 ?side3 ?side4 A6.out).mono ?_);(case side1=>exact (Kd.C_below HR0_1.out HB.out));(case side2=>exact HC0_1.out);(case side3=>exact (Kd.C_below HR1.out HB.out));(case side4=>exact HC1.out);rintro e w14 ⟨rfl,hb⟩;refine ⟨_,rfl,?_⟩;have n0_:=am_ (blk_below BK132.out hb);have n1_:=am_ (below_step HB.out hb);clear BK132 HB;have BK132:=n0_;have HB:=n1_;clear n0_ n1_;(try clear hb)))
  go_meet
  case rel=>exact ⟨_,(true),(by rfl),H',⟨by omega⟩,⟨by exact BK132.out⟩,⟨by exact HB.out⟩⟩
 case rest =>
  clear HC4
  try clear c1
  try clear c2
  try clear p2
  try clear c4
  try clear c7
  try clear c11
  try clear hcz11_0
  try clear hcz11_1
  try clear hcz13_0
  try clear hcz13_1
  try clear hcz9_0
  try clear hcz9_1
  try clear hfz11_0
  try clear hfz11_1
  try clear hfz13_0
  try clear hfz13_1
  try clear hfz9_0
  try clear hfz9_1
  obtain ⟨kq,x18_3,rfl,HA,HJ3,BK132,HB⟩:=hcut
  cases kq with
  | zero => exact absurd HA.out (by simp [spec_FlowMore.j0])
  | succ kj3 =>
   have H:=HA.out
   clear HA
   simp only [spec_FlowMore.j0] at H
   by_cases c15 : x18_3 = true
   ·subst c15
    have H1 : (some (([] : List Int))) = some r:=by rw [if_pos rfl] at H;exact H
    clear H
    have H:=H1
    clear H1
    obtain ⟨y135,hy135⟩ : ∃ y_ : List Int,y_ = (([] : List Int)):=⟨_,rfl⟩
    replace H : (some y135) = some r:=by (rw [hy135];with_reducible exact H)
    have Ny135:=am_ hy135
    clear hy135
    obtain rfl:=Option.some.inj H
    go_wp2_with (((with_reducible refine gate_dst (N:=19) rfl ?_);refine Kd.R_lit (Kd.int .i64) _ 3 ?hg (N:=19) ?hd (xs:=([] : List Int)) (inner:=[]) (ok:=fun _=>True) (okp:=fun _=>True) ?hr ?hp (fun _ hk=>hk) trivial (Below.refl _ _) (Nat.le_refl _) (by simp) ?_;(case hd=>rfl);(case hg=>rfl);(case hr=>(go_simp;done));(case hp=>exact (Reps.none _ _));intro v136 w16 ho17 hb hg_ hnew_;clear hg_ hnew_;(rw [← Ny135.out] at ho17);have n0_:=am_ (Kd.R_lower ho17 (below_size HB.out));have n1_:=am_ (blk_below BK132.out hb);have n2_:=am_ (below_step HB.out hb);clear BK132 HB;have HO137:=n0_;have BK132:=n1_;have HB:=n2_;clear n0_ n1_ n2_ hb ho17))
    go_ret
    exact ⟨_,by rfl,by exact HO137.out,by exact HB.out⟩
   replace c15:=Bool.eq_false_iff.mpr c15
   subst c15
   have H1 : (spec_FlowMore.l0 kj3 l1 l2 (([] : List Int)) 0 a0_0 l0_1) = some r:=by rw [if_neg (show ¬ (false = true) by decide)] at H;exact H
   clear H
   have H:=H1
   clear H1
   obtain ⟨y138,hy138⟩ : ∃ y_ : List Int,y_ = (([] : List Int)):=⟨_,rfl⟩
   replace H : (spec_FlowMore.l0 kj3 l1 l2 y138 0 a0_0 l0_1) = some r:=by (rw [hy138];with_reducible exact H)
   have Ny138:=am_ hy138
   clear hy138
   have H':=am_ H
   clear H
   go_wp2_with (((with_reducible refine gate_dst (N:=20) rfl ?_);refine Kd.R_lit (Kd.int .i64) _ 3 ?hg (N:=20) ?hd (xs:=([] : List Int)) (inner:=[]) (ok:=fun _=>True) (okp:=fun _=>True) ?hr ?hp (fun _ hk=>hk) trivial (Below.refl _ _) (Nat.le_refl _) (by simp) ?_;(case hd=>rfl);(case hg=>rfl);(case hr=>(go_simp;done));(case hp=>exact (Reps.none _ _));intro v139 w18 ho19 hb hg_ hnew_;clear hg_ hnew_;(rw [← Ny138.out] at ho19);have n0_:=am_ (Kd.R_lower ho19 (below_size HB.out));have n1_:=am_ (blk_below BK132.out hb);have n2_:=am_ (below_step HB.out hb);clear BK132 HB;have HO140:=n0_;have BK132:=n1_;have HB:=n2_;clear n0_ n1_ n2_ hb ho19))
   go_loopg [7,8] kj3 (fun kq v7 v8 w'=>∃ (x7_2 : List Int) (x8_2 : Int),v8 = .int .i64 x8_2 ∧ Aside0 (spec_FlowMore.l0 kq l1 l2 x7_2 x8_2 a0_0 l0_1 = some r) ∧ Aside0 (kq ≤ kj3) ∧ Aside0 (Kd.R (Kd.int .i64) 3 w' w.heap.size (fun _=>True) v7 x7_2) ∧ Aside0 (w'.heap[gb132]? = some (.cells #[.int .i64 a0_0,(.slice A0_1 l0_1.length c0_1)] 30 (0,0))) ∧ Aside0 (Below w.heap.size w w'))
   case atStart=>exact ⟨(y138),(0),(by rfl),H',⟨Nat.le_refl _⟩,⟨by exact HO140.out⟩,⟨by exact BK132.out⟩,⟨by exact HB.out⟩⟩
   case round =>
    clear H'
    try clear c1
    try clear c2
    try clear p2
    try clear c4
    try clear c7
    try clear c11
    try clear c15
    try clear hcz11_0
    try clear hcz11_1
    try clear hcz13_0
    try clear hcz13_1
    try clear hcz9_0
    try clear hcz9_1
    try clear hfz11_0
    try clear hfz11_1
    try clear hfz13_0
    try clear hfz13_1
    try clear hfz9_0
    try clear hfz9_1
    try clear p2
    obtain ⟨x7_2,x8_2,rfl,HA,HK2,HO_7,BK132,HB⟩:=hrel
    cases gk with
    | zero => exact absurd HA.out (by simp [spec_FlowMore.l0])
    | succ k2 =>
     have H:=HA.out
     clear HA
     simp only [spec_FlowMore.l0] at H
     by_cases c20 : x8_2 < (l1.length : Int)
     rotate_left
     ·rw [if_neg c20] at H
      have c20b0 : decide (x8_2 < (l1.length : Int)) = false:=decide_eq_false c20
      clear c20
      replace H:=Option.bind_eq_some_iff.mp H
      obtain ⟨t146,A260,H⟩:=H
      replace H : (if t146 = true then (some x7_2) else (some (([] : List Int)))) = some r:=H
      have A26:=am_ A260
      clear A260
      by_cases c27 : t146 = true
      ·subst c27
       have H1 : (some x7_2) = some r:=by rw [if_pos rfl] at H;exact H
       clear H
       have H:=H1
       clear H1
       obtain rfl:=Option.some.inj H
       have hcz28_0 : wr.cell? ⟨gb132,0,none⟩ = some (.int .i64 a0_0):=(blk_cell BK132.out 0).trans rfl
       have hcz28_1 : wr.cell? ⟨gb132,1,none⟩ = some (.slice A0_1 l0_1.length c0_1):=(blk_cell BK132.out 1).trans rfl
       have hfz28_0:=blk_frozen BK132.out 0
       have hfz28_1:=blk_frozen BK132.out 1
       obtain ⟨Ao29,co29,eo29⟩:=Kd.R_slice HO_7.out
       subst eo29
       go_wp2_with (((with_reducible refine gate_callee (f:=45) rfl ?_);refine goesL_ (some 41) rfl rfl Try.func45 (by kernel_rfl) rfl #[.agg #[.int .i64 a0_0,.slice A0_1 l0_1.length c0_1],.slice Ao29 x7_2.length co29] rfl (by (try simp only [List.map_toArray,List.map_cons,List.map_nil]);rfl) ?_;(with_reducible refine (spec_FlowOk.calls k2 a0_0 _ _ l0_1 _ _ x7_2 true _ ?side1 ?side2 ?side3 ?side4 A26.out).mono ?_);(case side1=>exact (Kd.C_below HR0_1.out HB.out));(case side2=>exact HC0_1.out);(case side3=>repeat (exact (Kd.R_reads' HO_7.out).2.2));(case side4=>exact (Kd.R_reads' HO_7.out).2.1);rintro e w30 ⟨rfl,hb⟩;refine ⟨_,rfl,?_⟩;have n0_:=am_ (Kd.R_below HO_7.out hb);have n1_:=am_ (blk_below BK132.out hb);have n2_:=am_ (below_step HB.out hb);clear HO_7 BK132 HB;have HO_7:=n0_;have BK132:=n1_;have HB:=n2_;clear n0_ n1_ n2_;(try clear hb)))
       go_ret
       exact ⟨_,by rfl,by exact HO_7.out,by exact HB.out⟩
      replace c27:=Bool.eq_false_iff.mpr c27
      subst c27
      have H1 : (some (([] : List Int))) = some r:=by rw [if_neg (show ¬ (false = true) by decide)] at H;exact H
      clear H
      have H:=H1
      clear H1
      obtain ⟨y147,hy147⟩ : ∃ y_ : List Int,y_ = (([] : List Int)):=⟨_,rfl⟩
      replace H : (some y147) = some r:=by (rw [hy147];with_reducible exact H)
      have Ny147:=am_ hy147
      clear hy147
      obtain rfl:=Option.some.inj H
      have hcz31_0 : wr.cell? ⟨gb132,0,none⟩ = some (.int .i64 a0_0):=(blk_cell BK132.out 0).trans rfl
      have hcz31_1 : wr.cell? ⟨gb132,1,none⟩ = some (.slice A0_1 l0_1.length c0_1):=(blk_cell BK132.out 1).trans rfl
      have hfz31_0:=blk_frozen BK132.out 0
      have hfz31_1:=blk_frozen BK132.out 1
      obtain ⟨Ao32,co32,eo32⟩:=Kd.R_slice HO_7.out
      subst eo32
      go_wp2_with (first|((with_reducible refine gate_callee (f:=45) rfl ?_);refine goesL_ (some 41) rfl rfl Try.func45 (by kernel_rfl) rfl #[.agg #[.int .i64 a0_0,.slice A0_1 l0_1.length c0_1],.slice Ao32 x7_2.length co32] rfl (by (try simp only [List.map_toArray,List.map_cons,List.map_nil]);rfl) ?_;(with_reducible refine (spec_FlowOk.calls k2 a0_0 _ _ l0_1 _ _ x7_2 false _ ?side1 ?side2 ?side3 ?side4 A26.out).mono ?_);(case side1=>exact (Kd.C_below HR0_1.out HB.out));(case side2=>exact HC0_1.out);(case side3=>repeat (exact (Kd.R_reads' HO_7.out).2.2));(case side4=>exact (Kd.R_reads' HO_7.out).2.1);rintro e w33 ⟨rfl,hb⟩;refine ⟨_,rfl,?_⟩;have n0_:=am_ (Kd.R_below HO_7.out hb);have n1_:=am_ (blk_below BK132.out hb);have n2_:=am_ (below_step HB.out hb);clear HO_7 BK132 HB;have HO_7:=n0_;have BK132:=n1_;have HB:=n2_;clear n0_ n1_ n2_;(try clear hb))|((with_reducible refine gate_dst (N:=43) rfl ?_);refine Kd.R_lit (Kd.int .i64) _ 3 ?hg (N:=43) ?hd (xs:=([] : List Int)) (inner:=[]) (ok:=fun _=>True) (okp:=fun _=>True) ?hr ?hp (fun _ hk=>hk) trivial (Below.refl _ _) (Nat.le_refl _) (by simp) ?_;(case hd=>rfl);(case hg=>rfl);(case hr=>(go_simp;done));(case hp=>exact (Reps.none _ _));intro v148 w34 ho35 hb hg_ hnew_;clear hg_ hnew_;(rw [← Ny147.out] at ho35);have n0_:=am_ (Kd.R_elder' HO_7.out (Kd.R_base ho35) hb);have n1_:=am_ (Kd.R_lower (Kd.R_new' ho35 (Kd.R_lt HO_7.out)) (below_size HB.out));have n2_:=am_ (blk_below BK132.out hb);have n3_:=am_ (below_step HB.out hb);clear HO_7 BK132 HB;have HO_7:=n0_;have HO149:=n1_;have BK132:=n2_;have HB:=n3_;clear n0_ n1_ n2_ n3_ hb ho35))
      go_ret
      exact ⟨_,by rfl,by exact Kd.R_mono HO149.out (fun _ hk=>trivial),by exact HB.out⟩
     rw [if_pos c20] at H
     have c20b0 : decide (x8_2 < (l1.length : Int)) = true:=decide_eq_true c20
     clear c20
     by_cases c21 : 0 ≤ x8_2
     rotate_left
     ·rw [if_neg c21] at H
      exact absurd H (by simp)
     rw [if_pos c21] at H
     have c21b0 : decide (0 ≤ x8_2) = true:=decide_eq_true c21
     clear c21
     by_cases c22 : x8_2 < (l2.length : Int)
     rotate_left
     ·rw [if_neg c22] at H
      exact absurd H (by simp)
     rw [if_pos c22] at H
     have c22b0 : decide (x8_2 < (l2.length : Int)) = true:=decide_eq_true c22
     clear c22
     by_cases c23 : x7_2.length < 17592186044416
     rotate_left
     ·rw [if_neg c23] at H
      exact absurd H (by simp)
     rw [if_pos c23] at H
     have LMc23:=am_ c23
     clear c23
     obtain ⟨y143,hy143⟩ : ∃ y_ : List Int,y_ = (x7_2 ++ [wrap64 ((rd l1 x8_2) + (rd l2 x8_2))]):=⟨_,rfl⟩
     replace H : (spec_FlowMore.l0 k2 l1 l2 y143 (wrap64 (x8_2 + 1)) a0_0 l0_1) = some r:=by (rw [hy143];with_reducible exact H)
     have Ny143:=am_ hy143
     clear hy143
     have H':=am_ H
     clear H
     try go_wp2
     have n0_:=am_ (Kd.R_drew HO_7.out)
     have n1_:=am_ (blk_drew BK132.out)
     have n2_:=am_ (below_drew1 HB.out)
     clear HO_7
     clear BK132
     clear HB
     have HO_7:=n0_
     have BK132:=n1_
     have HB:=n2_
     clear n0_ n1_ n2_
     have p141 : 0 ≤ (x8_2 : Int):=of_decide_eq_true (by (with_reducible assumption))
     have q141 : x8_2 < (l1.length : Int):=of_decide_eq_true (by (with_reducible assumption))
     obtain ⟨ad141,e141,hx141_0⟩:=Kd.at_int HR1.out x8_2 p141 q141
     have hw141_0:=hx141_0
     cases e141
     replace hx141_0:=kc_ HB.out hx141_0
     replace p141:=eq_true p141
     replace q141:=eq_true q141
     have p142 : 0 ≤ (x8_2 : Int):=of_decide_eq_true (by (with_reducible assumption))
     have q142 : x8_2 < (l2.length : Int):=of_decide_eq_true (by (with_reducible assumption))
     obtain ⟨ad142,e142,hx142_0⟩:=Kd.at_int HR2.out x8_2 p142 q142
     have hw142_0:=hx142_0
     cases e142
     replace hx142_0:=kc_ HB.out hx142_0
     replace p142:=eq_true p142
     replace q142:=eq_true q142
     refine start_ (n:=13) (S:=fun w'=>w'.cell? (ad141.add (x8_2).toNat) = some (.int .i64 (rd l1 x8_2)) ∧ w'.cell? (ad142.add (x8_2).toNat) = some (.int .i64 (rd l2 x8_2))) (ds:=[]) #[false,false,false,false,false,false,false,false,false,false,false,false,false] (by kernel_rfl) rfl rfl ⟨(kc_ HB.out hw141_0),(kc_ HB.out hw142_0)⟩ (fun hHeld=>?_);refine with_tabW spec_FlowMore.tab7 spec_FlowMore.bits7 (fun HT_ HW_=>?_)
     generalize wr.drew = w24 at HO_7 BK132 HB hx141_0 hx142_0 hHeld ⊢
     refine pure_ (i:=0) (N:=some 27) (v:=?_) (a':=?_) #[true,false,false,false,false,false,false,false,false,false,false,false,false] rfl rfl (any_of HT_.out (by kernel_rfl)) (fun _ _ _ h=>h) (Or.inl ⟨by rfl,?_⟩) ?_ ?_
     rotate_left
     ·intro w'
      go_simp
      with_reducible rfl
     rotate_left
     ·simp only [Act.put,List.setIfInBounds_toArray,List.set_cons_zero,List.set_cons_succ,i64_w,i32_w]
      rfl
     refine pure_ (i:=1) (N:=some 28) (v:=?_) (a':=?_) #[true,true,false,false,false,false,false,false,false,false,false,false,false] rfl rfl (any_of HT_.out (by kernel_rfl)) (fun _ _ _ h=>h) (Or.inl ⟨by rfl,?_⟩) ?_ ?_
     rotate_left
     ·intro w'
      go_simp
      with_reducible rfl
     rotate_left
     ·simp only [Act.put,List.setIfInBounds_toArray,List.set_cons_zero,List.set_cons_succ,i64_w,i32_w]
      rfl
     refine pure_ (i:=2) (N:=some 29) (v:=?_) (a':=?_) #[true,true,true,false,false,false,false,false,false,false,false,false,false] rfl rfl (any_of HT_.out (by kernel_rfl)) (fun _ _ _ h=>h) (Or.inl ⟨by rfl,?_⟩) ?_ ?_
     rotate_left
     ·intro w'
      go_simp
      with_reducible rfl
     rotate_left
     ·simp only [Act.put,List.setIfInBounds_toArray,List.set_cons_zero,List.set_cons_succ,i64_w,i32_w]
      rfl
     refine pure_ (i:=3) (N:=some 30) (v:=?_) (a':=?_) #[true,true,true,true,false,false,false,false,false,false,false,false,false] rfl rfl (any_of HT_.out (by kernel_rfl)) (fun _ _ _ h=>h) (Or.inl ⟨by rfl,?_⟩) ?_ ?_
     rotate_left
     ·intro w'
      go_simp
      with_reducible rfl
     rotate_left
     ·simp only [Act.put,List.setIfInBounds_toArray,List.set_cons_zero,List.set_cons_succ,i64_w,i32_w]
      rfl
     refine pure_ (i:=5) (N:=some 32) (v:=?_) (a':=?_) #[true,true,true,true,false,true,false,false,false,false,false,false,false] rfl rfl (any_of HT_.out (by kernel_rfl)) (fun _ _ _ h=>h) (Or.inl ⟨by rfl,?_⟩) ?_ ?_
     rotate_left
     ·intro w'
      go_simp
      with_reducible rfl
     rotate_left
     ·simp only [Act.put,List.setIfInBounds_toArray,List.set_cons_zero,List.set_cons_succ,i64_w,i32_w]
      rfl
     refine pure_ (i:=6) (N:=some 33) (v:=?_) (a':=?_) #[true,true,true,true,false,true,true,false,false,false,false,false,false] rfl rfl (any_of HT_.out (by kernel_rfl)) (fun _ _ _ h=>h) (Or.inl ⟨by rfl,?_⟩) ?_ ?_
     rotate_left
     ·intro w'
      go_simp
      with_reducible rfl
     rotate_left
     ·simp only [Act.put,List.setIfInBounds_toArray,List.set_cons_zero,List.set_cons_succ,i64_w,i32_w]
      rfl
     refine pure_ (i:=7) (N:=some 34) (v:=?_) (a':=?_) #[true,true,true,true,false,true,true,true,false,false,false,false,false] rfl rfl (any_of HT_.out (by kernel_rfl)) (fun _ _ _ h=>h) (Or.inl ⟨by rfl,?_⟩) ?_ ?_
     rotate_left
     ·intro w'
      go_simp
      with_reducible rfl
     rotate_left
     ·simp only [Act.put,List.setIfInBounds_toArray,List.set_cons_zero,List.set_cons_succ,i64_w,i32_w]
      rfl
     refine take_ (i:=4) (N:=some 31) (v:=?_) (a':=?_) #[true,true,true,true,true,true,true,true,false,false,false,false,false] rfl rfl (take_ofW HT_.out HW_.out (by kernel_rfl)) (fun _ _ _ h=>h) (Or.inl ⟨by rfl,?_⟩) hHeld ?_ ?_
     rotate_left
     ·rintro w' ⟨s0,s1⟩
      go_simp
      with_reducible rfl
     rotate_left
     ·simp only [Act.put,List.setIfInBounds_toArray,List.set_cons_zero,List.set_cons_succ,i64_w,i32_w]
      rfl
     refine take_ (i:=8) (N:=some 35) (v:=?_) (a':=?_) #[true,true,true,true,true,true,true,true,true,false,false,false,false] rfl rfl (take_ofW HT_.out HW_.out (by kernel_rfl)) (fun _ _ _ h=>h) (Or.inl ⟨by rfl,?_⟩) hHeld ?_ ?_
     rotate_left
     ·rintro w' ⟨s0,s1⟩
      go_simp
      with_reducible rfl
     rotate_left
     ·simp only [Act.put,List.setIfInBounds_toArray,List.set_cons_zero,List.set_cons_succ,i64_w,i32_w]
      rfl
     refine pure_ (i:=9) (N:=some 36) (v:=?_) (a':=?_) #[true,true,true,true,true,true,true,true,true,true,false,false,false] rfl rfl (any_of HT_.out (by kernel_rfl)) (fun _ _ _ h=>h) (Or.inl ⟨by rfl,?_⟩) ?_ ?_
     rotate_left
     ·intro w'
      go_simp
      with_reducible rfl
     rotate_left
     ·simp only [Act.put,List.setIfInBounds_toArray,List.set_cons_zero,List.set_cons_succ,i64_w,i32_w]
      rfl
     refine one_ (i:=10) (N:=some 37) #[true,true,true,true,true,true,true,true,true,true,true,false,false] rfl rfl (one_of HT_.out (by kernel_rfl)) (by decide) (fun K hK=>?_)
     refine value_ (w1:=?_) (v:=?_) (by rfl) rfl ?_ ?_
     rotate_left 2
     ·go_simp
      constructor
      ·rfl
      ·rfl
     refine hK.out _ _ ⟨(World.cell?_alloc_lt _ _ _ (World.block_lt_of_cell? _ _ ((kc_ HB.out hw141_0)))).trans ((kc_ HB.out hw141_0)),(World.cell?_alloc_lt _ _ _ (World.block_lt_of_cell? _ _ ((kc_ HB.out hw142_0)))).trans ((kc_ HB.out hw142_0))⟩ (fun hHeld=>?_)
     clear hK K
     refine norm_ (a':=?_) ?_ ?_
     rotate_left
     ·show Act.put _ (some 37) _ = _
      simp only [Act.put,List.setIfInBounds_toArray,List.set_cons_zero,List.set_cons_succ,i64_w,i32_w]
      rfl
     refine one_ (i:=11) (N:=some 38) #[true,true,true,true,true,true,true,true,true,true,true,true,false] rfl rfl (one_of HT_.out (by kernel_rfl)) (by decide) (fun K hK=>?_)
     refine Kd.R_append_step (Kd.int .i64) (w0:=w) w.heap.size (by rfl) (.tmp 27) (.tmp 37) 25 3 (.int .i64 0) 8 rfl Try.underlying25 info3 rfl (by decide) (by omega) u7 x7_2 (wrap64 ((rd l1 x8_2) + (rd l2 x8_2))) [.int .i64 (wrap64 ((rd l1 x8_2) + (rd l2 x8_2)))] (fun _=>True) (fun _=>False) rfl rfl ?aP (fun _ hk=>hk.elim) ?aF ?aO ?aB ?aS ?aL ?_
     (case aP=>exact rfl)
     (case aB=>exact HB.out)
     (case aF=>exact (fun _ _=>trivial))
     (case aO=>exact HO_7.out)
     (case aS=>exact (below_size HB.out))
     (case aL=>have:=LMc23.out;omega)
     intro v144 w25 ho hb hg hat
     rw [← Ny143.out] at ho
     have n0_:=am_ (blk_grown (g:=gb132) (o:=.cells #[.int .i64 a0_0,.slice A0_1 l0_1.length c0_1] 30 (0,0)) BK132.out hg (Kd.R_ne HO_7.out BK132.out (by decide)))
     have n1_:=am_ (hb)
     have n2_:=am_ (ho)
     clear BK132
     clear HB
     clear HO_7
     have BK132:=n0_
     have HB:=n1_
     have HO145:=n2_
     clear n0_ n1_ n2_
     clear ho hb hg hat
     refine hK.out _ _ ⟨(kc_ HB.out hw141_0),(kc_ HB.out hw142_0)⟩ (fun hHeld=>?_)
     clear hK K
     refine norm_ (a':=?_) ?_ ?_
     rotate_left
     ·show Act.put _ (some 38) _ = _
      simp only [Act.put,List.setIfInBounds_toArray,List.set_cons_zero,List.set_cons_succ,i64_w,i32_w]
      rfl
     refine pure_ (i:=12) (N:=some 7) (v:=?_) (a':=?_) #[true,true,true,true,true,true,true,true,true,true,true,true,true] rfl rfl (any_of HT_.out (by kernel_rfl)) (fun _ _ _ h=>h) (Or.inl ⟨by rfl,?_⟩) ?_ ?_
     rotate_left
     ·intro w'
      go_simp
      with_reducible rfl
     rotate_left
     ·simp only [Act.put,List.setIfInBounds_toArray,List.set_cons_zero,List.set_cons_succ,i64_w,i32_w]
      rfl
     refine done_ (done_of HT_.out (by kernel_rfl)) ?_
     try go_wp2
     go_roundg k2
     case measure=>have:=HJ3.out;have:=HK2.out;omega
     case rel=>exact ⟨(y143),(wrap64 (x8_2 + 1)),(by rfl),H',⟨by have:=HJ3.out;have:=HK2.out;omega⟩,⟨by exact HO145.out⟩,⟨by exact BK132.out⟩,⟨by exact HB.out⟩⟩

end Go.Proofs.Ytgkpgigoonhgdaa.PFnFlows
