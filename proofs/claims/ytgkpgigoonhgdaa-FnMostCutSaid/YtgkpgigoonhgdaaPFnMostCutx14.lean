-- Made by the session's wip/pp.py, a changed call of the kit's printer; Lean checks it.
import Derived.Test.YtgkpgigoonhgdaaPFnMostCutx0
import Derived.Test.YtgkpgigoonhgdaaPFnMostCutx2
import Derived.Test.YtgkpgigoonhgdaaPFnMostCutx3
import Derived.Test.YtgkpgigoonhgdaaPFnMostCutx13
namespace Go.Proofs.Ytgkpgigoonhgdaa.PFnMostCut
open Go.RowKit Go.Proofs.YtgkpgigoonhgdaaW.PrintWords Go.Proofs.YtgkpgigoonhgdaaW.PrintLast Go.Proofs.YtgkpgigoonhgdaaW.PrintMore
attribute [local go_sem] max2_int min2_int max_two min_two max_three min_three max_four min_four   -- for this text's walks alone
set_option linter.unusedVariables false
set_option linter.unusedSimpArgs false


/-! ### impl_CutRoom: function 39 -/
def impl_CutRoom.l0 : Nat → List Bool → Int → List (S67) → Int → Int → Option (Int)
 | 0, _, _, _, _, _ => none
 | k + 1, x1, x5, x13, x14, x15 => if x15 < x14 then (if 0 ≤ x15 then (if x15 < (x13.length : Int) then (if 0 ≤ ((rd_T67 x13 x15).f0) then (if ((rd_T67 x13 x15).f0) < (x1.length : Int) then (if rdOf false x1 ((rd_T67 x13 x15).f0) = true then (if 0 ≤ ((rd_T67 x13 x15).f1) then (if ((rd_T67 x13 x15).f1) < (x1.length : Int) then (if (rdOf false x1 ((rd_T67 x13 x15).f1) = true) then (impl_CutRoom.l0 k x1 x5 x13 x14 (wrap64 (x15 + 1))) else (impl_CutRoom.l0 k x1 (wrap64 (x5 + ((rd_T67 x13 x15).f2))) x13 x14 (wrap64 (x15 + 1)))) else (none)) else (none)) else (impl_CutRoom.l0 k x1 x5 x13 x14 (wrap64 (x15 + 1)))) else (none)) else (none)) else (none)) else (none)) else (some x5)
def impl_CutRoom.f (k : Nat) (a0_0 : Int) (l0_1 : List (S67)) (l1 : List Bool) : Option (Int):=(impl_CutOk.f k a0_0 l0_1 l1).bind fun t435=>(if t435 = true then (impl_CutRoom.l0 k l1 0 l0_1 (l0_1.length : Int) 0) else (some (-1)))
theorem impl_CutRoom.mono_l : ∀ k,(∀ y0 y1 y2 y3 y4,LeO (impl_CutRoom.l0 k y0 y1 y2 y3 y4) (impl_CutRoom.l0 (k + 1) y0 y1 y2 y3 y4))
 | 0 => fun _ _ _ _ _ r h => by simp [impl_CutRoom.l0] at h
 | k + 1 => by
  have ih0:=impl_CutRoom.mono_l k
  ·intro y0 y1 y2 y3 y4
   unfold impl_CutRoom.l0
   repeat' first
   | (with_reducible exact ih0 _ _ _ _ _)
   | (with_reducible exact LeO.refl _)
   | (with_reducible refine LeO.ite ?_ ?_)
theorem impl_CutRoom.mono : ∀ a0 a1 a2 k,LeO (impl_CutRoom.f k a0 a1 a2) (impl_CutRoom.f (k + 1) a0 a1 a2):=by
 intro a0 a1 a2 k
 have ih0:=impl_CutRoom.mono_l k
 unfold impl_CutRoom.f
 repeat' first
   | (with_reducible exact ih0 _ _ _ _ _)
   | (with_reducible exact impl_CutOk.mono _ _ _ _)
   | (with_reducible exact LeO.refl _)
   | (with_reducible refine LeO.ite ?_ ?_)
   | (with_reducible refine LeO.bind ?_ (fun _ => ?_))
set_option maxHeartbeats 8000000 in
set_option maxRecDepth 100000 in
theorem impl_CutRoom.calls (k : Nat) (a0_0 : Int) (A0_1 : Option Addr) (c0_1 : Nat) (l0_1 : List (S67)) (A1 : Option Addr) (c1 : Nat) (l1 : List Bool) (r : Int) (w : World) (hr0_1 : Kd.C k67 w A0_1 l0_1.length l0_1) (hc0_1 : l0_1.length ≤ c0_1) (hr1 : Kd.C Kd.bool w A1 l1.length l1) (hc1 : l1.length ≤ c1) (h : impl_CutRoom.f k a0_0 l0_1 l1 = some r) :
  Calls Try.prog 39 #[.agg #[.int .i64 a0_0,.slice A0_1 l0_1.length c0_1],.slice A1 l1.length c1] w fun e w'=>e = .returned (.int .i64 r) ∧ Below w.heap.size w w':=by
 have hu30:=Try.underlying30
 have hu67:=Try.underlying67
 have HR0_1:=am_ hr0_1
 have HC0_1:=am_ hc0_1
 clear hr0_1 hc0_1
 have HR1:=am_ hr1
 have HC1:=am_ hc1
 clear hr1 hc1
 have HB:=am_ (Below.refl w.heap.size w)
 have H : ((impl_CutOk.f k a0_0 l0_1 l1).bind fun t435=>(if t435 = true then (impl_CutRoom.l0 k l1 0 l0_1 (l0_1.length : Int) 0) else (some (-1)))) = some r:=h
 clear h
 replace H:=bs_ H
 obtain ⟨t435,A30,H⟩:=H
 replace H : (if t435 = true then (impl_CutRoom.l0 k l1 0 l0_1 (l0_1.length : Int) 0) else (some (-1))) = some r:=H
 have A3:=am_ A30
 clear A30
 by_cases c4 : t435 = true
 rotate_left
 ·replace c4:=Bool.eq_false_iff.mpr c4
  subst c4
  have H1 : (some (-1)) = some r:=by rw [if_neg (show ¬ (false = true) by decide)] at H;exact H
  clear H
  have H:=H1
  clear H1
  obtain rfl:=Option.some.inj H
  go_enter Try.func39,Try.ntmps39
  go_wp2_with (first|((with_reducible refine gate_dst (N:=2) rfl ?_);refine box_event ?hg (N:=2) ?hd (cs:=#[.int .i64 a0_0,.slice A0_1 l0_1.length c0_1]) (t:=30) ?hr ?_;(case hd=>rfl);(case hg=>rfl);(case hr=>(go_simp;done));intro gb434 hg w29 hbox hb;have n0_:=am_ (below_step HB.out hb);have n1_:=am_ (hbox);have n2_:=am_ ((by rw [hg];exact (below_size HB.out) : w.heap.size ≤ gb434));have n3_:=n2_;clear HB;have HB:=n0_;have BK434:=n1_;have GW434:=n2_;have GE434:=n3_;clear n0_ n1_ n2_ n3_ hb hbox hg;have hcz30_0 : w29.cell? ⟨gb434,0,none⟩ = some (.int .i64 a0_0):=bc_ BK434.out 0;have hcz30_1 : w29.cell? ⟨gb434,1,none⟩ = some (.slice A0_1 l0_1.length c0_1):=bc_ BK434.out 1;have hfz30_0:=blk_frozen BK434.out 0;have hfz30_1:=blk_frozen BK434.out 1)|((with_reducible refine gate_callee (f:=38) rfl ?_);refine goesL_ (some 10) rfl rfl Try.func38 (by kernel_rfl) rfl #[.agg #[.int .i64 a0_0,.slice A0_1 l0_1.length c0_1],.slice A1 l1.length c1] rfl (by (try simp only [List.map_toArray,List.map_cons,List.map_nil]);rfl) ?_;(with_reducible refine (impl_CutOk.calls k a0_0 _ _ l0_1 _ _ l1 false _ ?side1 ?side2 ?side3 ?side4 A3.out).mono ?_);(case side1=>exact (Kd.C_below HR0_1.out HB.out));(case side2=>exact HC0_1.out);(case side3=>exact (Kd.C_below HR1.out HB.out));(case side4=>exact HC1.out);rintro e w31 ⟨rfl,hb⟩;refine ⟨_,rfl,?_⟩;have n0_:=am_ (blk_below BK434.out hb);have n1_:=am_ (below_step HB.out hb);clear BK434 HB;have BK434:=n0_;have HB:=n1_;clear n0_ n1_;(try clear hb)))
  go_ret
  exact ⟨by rfl,by exact HB.out⟩
 subst c4
 have H1 : (impl_CutRoom.l0 k l1 0 l0_1 (l0_1.length : Int) 0) = some r:=by rw [if_pos rfl] at H;exact H
 clear H
 have H:=H1
 clear H1
 have H':=am_ H
 clear H
 go_enter Try.func39,Try.ntmps39
 go_wp2_with (first|((with_reducible refine gate_dst (N:=2) rfl ?_);refine box_event ?hg (N:=2) ?hd (cs:=#[.int .i64 a0_0,.slice A0_1 l0_1.length c0_1]) (t:=30) ?hr ?_;(case hd=>rfl);(case hg=>rfl);(case hr=>(go_simp;done));intro gb434 hg w5 hbox hb;have n0_:=am_ (below_step HB.out hb);have n1_:=am_ (hbox);have n2_:=am_ ((by rw [hg];exact (below_size HB.out) : w.heap.size ≤ gb434));have n3_:=n2_;clear HB;have HB:=n0_;have BK434:=n1_;have GW434:=n2_;have GE434:=n3_;clear n0_ n1_ n2_ n3_ hb hbox hg;have hcz6_0 : w5.cell? ⟨gb434,0,none⟩ = some (.int .i64 a0_0):=bc_ BK434.out 0;have hcz6_1 : w5.cell? ⟨gb434,1,none⟩ = some (.slice A0_1 l0_1.length c0_1):=bc_ BK434.out 1;have hfz6_0:=blk_frozen BK434.out 0;have hfz6_1:=blk_frozen BK434.out 1)|((with_reducible refine gate_callee (f:=38) rfl ?_);refine goesL_ (some 10) rfl rfl Try.func38 (by kernel_rfl) rfl #[.agg #[.int .i64 a0_0,.slice A0_1 l0_1.length c0_1],.slice A1 l1.length c1] rfl (by (try simp only [List.map_toArray,List.map_cons,List.map_nil]);rfl) ?_;(with_reducible refine (impl_CutOk.calls k a0_0 _ _ l0_1 _ _ l1 true _ ?side1 ?side2 ?side3 ?side4 A3.out).mono ?_);(case side1=>exact (Kd.C_below HR0_1.out HB.out));(case side2=>exact HC0_1.out);(case side3=>exact (Kd.C_below HR1.out HB.out));(case side4=>exact HC1.out);rintro e w7 ⟨rfl,hb⟩;refine ⟨_,rfl,?_⟩;have n0_:=am_ (blk_below BK434.out hb);have n1_:=am_ (below_step HB.out hb);clear BK434 HB;have BK434:=n0_;have HB:=n1_;clear n0_ n1_;(try clear hb);have hcz8_0 : w7.cell? ⟨gb434,0,none⟩ = some (.int .i64 a0_0):=bc_ BK434.out 0;have hcz8_1 : w7.cell? ⟨gb434,1,none⟩ = some (.slice A0_1 l0_1.length c0_1):=bc_ BK434.out 1;have hfz8_0:=blk_frozen BK434.out 0;have hfz8_1:=blk_frozen BK434.out 1))
 go_loopg [5,15] k (fun kq v5 v15 w'=>∃ (x5_1 : Int) (x15_1 : Int),v5 = .int .i64 x5_1 ∧ v15 = .int .i64 x15_1 ∧ Aside0 (impl_CutRoom.l0 kq l1 x5_1 l0_1 (l0_1.length : Int) x15_1 = some r) ∧ Aside0 (kq ≤ k) ∧ Aside0 (w'.heap[gb434]? = some (.cells #[.int .i64 a0_0,(.slice A0_1 l0_1.length c0_1)] 30 (0,0))) ∧ Aside0 (Below w.heap.size w w'))
 case atStart=>exact ⟨(0),(0),(by rfl),(by rfl),H',⟨Nat.le_refl _⟩,⟨by exact BK434.out⟩,⟨by exact HB.out⟩⟩
 case round =>
  clear H'
  try clear c1
  try clear p2
  try clear c3
  try clear c4
  try clear hcz6_0
  try clear hcz6_1
  try clear hcz8_0
  try clear hcz8_1
  try clear hfz6_0
  try clear hfz6_1
  try clear hfz8_0
  try clear hfz8_1
  obtain ⟨x5_1,x15_1,rfl,rfl,HA,HK1,BK434,HB⟩:=hrel
  cases gk with
  | zero => exact absurd HA.out (by simp [impl_CutRoom.l0])
  | succ k1 =>
   have H:=HA.out
   clear HA
   simp only [impl_CutRoom.l0] at H
   by_cases c9 : x15_1 < (l0_1.length : Int)
   rotate_left
   ·rw [if_neg c9] at H
    have c9b0 : decide (x15_1 < (l0_1.length : Int)) = false:=decide_eq_false c9
    clear c9
    obtain rfl:=Option.some.inj H
    go_wp2
    go_ret
    exact ⟨by rfl,by exact HB.out⟩
   rw [if_pos c9] at H
   have c9b0 : decide (x15_1 < (l0_1.length : Int)) = true:=decide_eq_true c9
   clear c9
   by_cases c10 : 0 ≤ x15_1
   rotate_left
   ·rw [if_neg c10] at H
    exact absurd H (by simp)
   rw [if_pos c10] at H
   have c10b0 : decide (0 ≤ x15_1) = true:=decide_eq_true c10
   clear c10
   by_cases c11 : x15_1 < (l0_1.length : Int)
   rotate_left
   ·rw [if_neg c11] at H
    exact absurd H (by simp)
   rw [if_pos c11] at H
   have c11b0 : decide (x15_1 < (l0_1.length : Int)) = true:=decide_eq_true c11
   clear c11
   by_cases c12 : 0 ≤ ((rd_T67 l0_1 x15_1).f0)
   rotate_left
   ·rw [if_neg c12] at H
    exact absurd H (by simp)
   rw [if_pos c12] at H
   have c12b0 : decide (0 ≤ ((rd_T67 l0_1 x15_1).f0)) = true:=decide_eq_true c12
   clear c12
   by_cases c13 : ((rd_T67 l0_1 x15_1).f0) < (l1.length : Int)
   rotate_left
   ·rw [if_neg c13] at H
    exact absurd H (by simp)
   rw [if_pos c13] at H
   have c13b0 : decide (((rd_T67 l0_1 x15_1).f0) < (l1.length : Int)) = true:=decide_eq_true c13
   clear c13
   obtain ⟨bq14,hbq14⟩ : ∃ b_ : Bool,b_ = (rdOf false l1 ((rd_T67 l0_1 x15_1).f0)):=⟨_,rfl⟩
   replace H : (if bq14 = true then (if 0 ≤ ((rd_T67 l0_1 x15_1).f1) then (if ((rd_T67 l0_1 x15_1).f1) < (l1.length : Int) then (if (rdOf false l1 ((rd_T67 l0_1 x15_1).f1) = true) then (impl_CutRoom.l0 k1 l1 x5_1 l0_1 (l0_1.length : Int) (wrap64 (x15_1 + 1))) else (impl_CutRoom.l0 k1 l1 (wrap64 (x5_1 + ((rd_T67 l0_1 x15_1).f2))) l0_1 (l0_1.length : Int) (wrap64 (x15_1 + 1)))) else (none)) else (none)) else (impl_CutRoom.l0 k1 l1 x5_1 l0_1 (l0_1.length : Int) (wrap64 (x15_1 + 1)))) = some r:=by rw [← hbq14] at H;exact H
   have Nbq14:=am_ hbq14
   clear hbq14
   by_cases c15 : bq14 = true
   rotate_left
   ·replace c15:=Bool.eq_false_iff.mpr c15
    subst c15
    have H1 : (impl_CutRoom.l0 k1 l1 x5_1 l0_1 (l0_1.length : Int) (wrap64 (x15_1 + 1))) = some r:=by rw [if_neg (show ¬ (false = true) by decide)] at H;exact H
    clear H
    have H:=H1
    clear H1
    have H':=am_ H
    clear H
    have p436 : 0 ≤ (x15_1 : Int):=od_ (by (with_reducible assumption))
    have q436 : x15_1 < (l0_1.length : Int):=od_ (by (with_reducible assumption))
    obtain ⟨ad436,e436,hx436_0,hx436_1,hx436_2,hx436_3⟩:=at_T67 HR0_1.out x15_1 p436 q436
    cases e436
    replace hx436_0:=kc_ HB.out hx436_0
    replace hx436_1:=kc_ HB.out hx436_1
    replace hx436_2:=kc_ HB.out hx436_2
    replace hx436_3:=kc_ HB.out hx436_3
    replace p436:=eq_true p436
    replace q436:=eq_true q436
    go_wp2_with (((with_reducible refine gate_dst (N:=7) rfl ?_);refine box_event ?hg (N:=7) ?hd (cs:=#[.int .i64 0,.int .i64 0,.int .i64 0,.int .i64 0]) (t:=67) ?hr ?_;(case hd=>rfl);(case hg=>rfl);(case hr=>(go_simp;done));intro gb437 hg w26 hbox hb;have n0_:=am_ (blk_below BK434.out hb);have n1_:=am_ (below_step HB.out hb);have n2_:=am_ (hbox);have n3_:=am_ ((by rw [hg];exact (below_size HB.out) : w.heap.size ≤ gb437));have n4_:=n3_;have n5_:=am_ ((by rw [hg];exact Nat.ne_of_lt (blk_lt (g:=gb434) (o:=.cells #[.int .i64 a0_0,.slice (some ad436) l0_1.length c0_1] 30 (0,0)) BK434.out) : gb434 ≠ gb437));have n6_:=am_ ((by rw [hg];exact Nat.ne_of_gt (blk_lt (g:=gb434) (o:=.cells #[.int .i64 a0_0,.slice (some ad436) l0_1.length c0_1] 30 (0,0)) BK434.out) : gb437 ≠ gb434));clear BK434 HB;have BK434:=n0_;have HB:=n1_;have BK437:=n2_;have GW437:=n3_;have GE437:=n4_;have NB434_437:=n5_;have NB437_434:=n6_;clear n0_ n1_ n2_ n3_ n4_ n5_ n6_ hb hbox hg;have hnb27:=NB437_434.out;have hnc27:=NB434_437.out;have hcz28_0 : w26.cell? ⟨gb437,0,none⟩ = some (.int .i64 0):=bc_ BK437.out 0;have hcz28_1 : w26.cell? ⟨gb437,1,none⟩ = some (.int .i64 0):=bc_ BK437.out 1;have hcz28_2 : w26.cell? ⟨gb437,2,none⟩ = some (.int .i64 0):=bc_ BK437.out 2;have hcz28_3 : w26.cell? ⟨gb437,3,none⟩ = some (.int .i64 0):=bc_ BK437.out 3;have hfz28_0:=blk_frozen BK437.out 0;have hfz28_1:=blk_frozen BK437.out 1;have hfz28_2:=blk_frozen BK437.out 2;have hfz28_3:=blk_frozen BK437.out 3;have p438 : 0 ≤ (((rd_T67 l0_1 x15_1).f0) : Int):=od_ (by (with_reducible assumption));have q438 : ((rd_T67 l0_1 x15_1).f0) < (l1.length : Int):=od_ (by (with_reducible assumption));obtain ⟨ad438,e438,hx438_0⟩:=Kd.at_bool HR1.out ((rd_T67 l0_1 x15_1).f0) p438 q438;(try rw [← Nbq14.out] at hx438_0);cases e438;have hn438_0 : ad438.block ≠ gb437:=Nat.ne_of_lt (Nat.lt_of_lt_of_le (by have:=World.block_lt_of_cell? _ _ hx438_0;rwa [add_block] at this) GW437.out);have hn438_1 : ad438.block ≠ gb437:=Nat.ne_of_lt (Nat.lt_of_lt_of_le (by have:=World.block_lt_of_cell? _ _ hx438_0;rwa [add_block] at this) GW437.out);have hn438_2 : ad438.block ≠ gb437:=Nat.ne_of_lt (Nat.lt_of_lt_of_le (by have:=World.block_lt_of_cell? _ _ hx438_0;rwa [add_block] at this) GW437.out);have hn438_3 : ad438.block ≠ gb437:=Nat.ne_of_lt (Nat.lt_of_lt_of_le (by have:=World.block_lt_of_cell? _ _ hx438_0;rwa [add_block] at this) GW437.out);replace hx438_0:=kc_ HB.out hx438_0;replace hx438_0:=(cell_far (p:=⟨gb437,0,none⟩) (by (rw [add_block];exact hn438_0)) (.int .i64 ((rd_T67 l0_1 x15_1).f0))).trans hx438_0;replace hx438_0:=(cell_far (p:=⟨gb437,1,none⟩) (by (rw [add_block];exact hn438_1)) (.int .i64 ((rd_T67 l0_1 x15_1).f1))).trans hx438_0;replace hx438_0:=(cell_far (p:=⟨gb437,2,none⟩) (by (rw [add_block];exact hn438_2)) (.int .i64 ((rd_T67 l0_1 x15_1).f2))).trans hx438_0;replace hx438_0:=(cell_far (p:=⟨gb437,3,none⟩) (by (rw [add_block];exact hn438_3)) (.int .i64 ((rd_T67 l0_1 x15_1).f3))).trans hx438_0;clear hn438_0 hn438_1 hn438_2 hn438_3;replace p438:=eq_true p438;replace q438:=eq_true q438))
    go_roundg k1
    case measure=>have:=HK1.out;omega
    case rel=>exact ⟨(x5_1),(wrap64 (x15_1 + 1)),(by rfl),(by rfl),H',⟨by have:=HK1.out;omega⟩,⟨by refine blk_far ?_ NB434_437.out _;refine blk_far ?_ NB434_437.out _;refine blk_far ?_ NB434_437.out _;refine blk_far ?_ NB434_437.out _;exact BK434.out⟩,⟨by repeat ((with_reducible first|exact HB.out|refine below_set ?_ GE437.out))⟩⟩
   subst c15
   have H1 : (if 0 ≤ ((rd_T67 l0_1 x15_1).f1) then (if ((rd_T67 l0_1 x15_1).f1) < (l1.length : Int) then (if (rdOf false l1 ((rd_T67 l0_1 x15_1).f1) = true) then (impl_CutRoom.l0 k1 l1 x5_1 l0_1 (l0_1.length : Int) (wrap64 (x15_1 + 1))) else (impl_CutRoom.l0 k1 l1 (wrap64 (x5_1 + ((rd_T67 l0_1 x15_1).f2))) l0_1 (l0_1.length : Int) (wrap64 (x15_1 + 1)))) else (none)) else (none)) = some r:=by rw [if_pos rfl] at H;exact H
   clear H
   have H:=H1
   clear H1
   by_cases c16 : 0 ≤ ((rd_T67 l0_1 x15_1).f1)
   rotate_left
   ·rw [if_neg c16] at H
    exact absurd H (by simp)
   rw [if_pos c16] at H
   have c16b0 : decide (0 ≤ ((rd_T67 l0_1 x15_1).f1)) = true:=decide_eq_true c16
   clear c16
   by_cases c17 : ((rd_T67 l0_1 x15_1).f1) < (l1.length : Int)
   rotate_left
   ·rw [if_neg c17] at H
    exact absurd H (by simp)
   rw [if_pos c17] at H
   have c17b0 : decide (((rd_T67 l0_1 x15_1).f1) < (l1.length : Int)) = true:=decide_eq_true c17
   clear c17
   obtain ⟨bq18,hbq18⟩ : ∃ b_ : Bool,b_ = (rdOf false l1 ((rd_T67 l0_1 x15_1).f1)):=⟨_,rfl⟩
   replace H : (if (bq18 = true) then (impl_CutRoom.l0 k1 l1 x5_1 l0_1 (l0_1.length : Int) (wrap64 (x15_1 + 1))) else (impl_CutRoom.l0 k1 l1 (wrap64 (x5_1 + ((rd_T67 l0_1 x15_1).f2))) l0_1 (l0_1.length : Int) (wrap64 (x15_1 + 1)))) = some r:=by rw [← hbq18] at H;exact H
   have Nbq18:=am_ hbq18
   clear hbq18
   by_cases c19 : (bq18 = true)
   ·subst c19
    have H1 : (impl_CutRoom.l0 k1 l1 x5_1 l0_1 (l0_1.length : Int) (wrap64 (x15_1 + 1))) = some r:=by rw [if_pos rfl] at H;exact H
    clear H
    have H:=H1
    clear H1
    have H':=am_ H
    clear H
    have p436 : 0 ≤ (x15_1 : Int):=od_ (by (with_reducible assumption))
    have q436 : x15_1 < (l0_1.length : Int):=od_ (by (with_reducible assumption))
    obtain ⟨ad436,e436,hx436_0,hx436_1,hx436_2,hx436_3⟩:=at_T67 HR0_1.out x15_1 p436 q436
    cases e436
    replace hx436_0:=kc_ HB.out hx436_0
    replace hx436_1:=kc_ HB.out hx436_1
    replace hx436_2:=kc_ HB.out hx436_2
    replace hx436_3:=kc_ HB.out hx436_3
    replace p436:=eq_true p436
    replace q436:=eq_true q436
    go_wp2_with (((with_reducible refine gate_dst (N:=7) rfl ?_);refine box_event ?hg (N:=7) ?hd (cs:=#[.int .i64 0,.int .i64 0,.int .i64 0,.int .i64 0]) (t:=67) ?hr ?_;(case hd=>rfl);(case hg=>rfl);(case hr=>(go_simp;done));intro gb437 hg w20 hbox hb;have n0_:=am_ (blk_below BK434.out hb);have n1_:=am_ (below_step HB.out hb);have n2_:=am_ (hbox);have n3_:=am_ ((by rw [hg];exact (below_size HB.out) : w.heap.size ≤ gb437));have n4_:=n3_;have n5_:=am_ ((by rw [hg];exact Nat.ne_of_lt (blk_lt (g:=gb434) (o:=.cells #[.int .i64 a0_0,.slice (some ad436) l0_1.length c0_1] 30 (0,0)) BK434.out) : gb434 ≠ gb437));have n6_:=am_ ((by rw [hg];exact Nat.ne_of_gt (blk_lt (g:=gb434) (o:=.cells #[.int .i64 a0_0,.slice (some ad436) l0_1.length c0_1] 30 (0,0)) BK434.out) : gb437 ≠ gb434));clear BK434 HB;have BK434:=n0_;have HB:=n1_;have BK437:=n2_;have GW437:=n3_;have GE437:=n4_;have NB434_437:=n5_;have NB437_434:=n6_;clear n0_ n1_ n2_ n3_ n4_ n5_ n6_ hb hbox hg;have hnb21:=NB437_434.out;have hnc21:=NB434_437.out;have hcz22_0 : w20.cell? ⟨gb437,0,none⟩ = some (.int .i64 0):=bc_ BK437.out 0;have hcz22_1 : w20.cell? ⟨gb437,1,none⟩ = some (.int .i64 0):=bc_ BK437.out 1;have hcz22_2 : w20.cell? ⟨gb437,2,none⟩ = some (.int .i64 0):=bc_ BK437.out 2;have hcz22_3 : w20.cell? ⟨gb437,3,none⟩ = some (.int .i64 0):=bc_ BK437.out 3;have hfz22_0:=blk_frozen BK437.out 0;have hfz22_1:=blk_frozen BK437.out 1;have hfz22_2:=blk_frozen BK437.out 2;have hfz22_3:=blk_frozen BK437.out 3;have p438 : 0 ≤ (((rd_T67 l0_1 x15_1).f0) : Int):=od_ (by (with_reducible assumption));have q438 : ((rd_T67 l0_1 x15_1).f0) < (l1.length : Int):=od_ (by (with_reducible assumption));obtain ⟨ad438,e438,hx438_0⟩:=Kd.at_bool HR1.out ((rd_T67 l0_1 x15_1).f0) p438 q438;(try rw [← Nbq14.out] at hx438_0);cases e438;have hn438_0 : ad438.block ≠ gb437:=Nat.ne_of_lt (Nat.lt_of_lt_of_le (by have:=World.block_lt_of_cell? _ _ hx438_0;rwa [add_block] at this) GW437.out);have hn438_1 : ad438.block ≠ gb437:=Nat.ne_of_lt (Nat.lt_of_lt_of_le (by have:=World.block_lt_of_cell? _ _ hx438_0;rwa [add_block] at this) GW437.out);have hn438_2 : ad438.block ≠ gb437:=Nat.ne_of_lt (Nat.lt_of_lt_of_le (by have:=World.block_lt_of_cell? _ _ hx438_0;rwa [add_block] at this) GW437.out);have hn438_3 : ad438.block ≠ gb437:=Nat.ne_of_lt (Nat.lt_of_lt_of_le (by have:=World.block_lt_of_cell? _ _ hx438_0;rwa [add_block] at this) GW437.out);replace hx438_0:=kc_ HB.out hx438_0;replace hx438_0:=(cell_far (p:=⟨gb437,0,none⟩) (by (rw [add_block];exact hn438_0)) (.int .i64 ((rd_T67 l0_1 x15_1).f0))).trans hx438_0;replace hx438_0:=(cell_far (p:=⟨gb437,1,none⟩) (by (rw [add_block];exact hn438_1)) (.int .i64 ((rd_T67 l0_1 x15_1).f1))).trans hx438_0;replace hx438_0:=(cell_far (p:=⟨gb437,2,none⟩) (by (rw [add_block];exact hn438_2)) (.int .i64 ((rd_T67 l0_1 x15_1).f2))).trans hx438_0;replace hx438_0:=(cell_far (p:=⟨gb437,3,none⟩) (by (rw [add_block];exact hn438_3)) (.int .i64 ((rd_T67 l0_1 x15_1).f3))).trans hx438_0;clear hn438_0 hn438_1 hn438_2 hn438_3;replace p438:=eq_true p438;replace q438:=eq_true q438;have p439 : 0 ≤ (((rd_T67 l0_1 x15_1).f1) : Int):=od_ (by (with_reducible assumption));have q439 : ((rd_T67 l0_1 x15_1).f1) < (l1.length : Int):=od_ (by (with_reducible assumption));obtain ⟨ad439,e439,hx439_0⟩:=Kd.at_bool HR1.out ((rd_T67 l0_1 x15_1).f1) p439 q439;(try rw [← Nbq18.out] at hx439_0);obtain rfl : ad438 = ad439:=(by injection e439);have hn439_0 : ad438.block ≠ gb437:=Nat.ne_of_lt (Nat.lt_of_lt_of_le (by have:=World.block_lt_of_cell? _ _ hx439_0;rwa [add_block] at this) GW437.out);have hn439_1 : ad438.block ≠ gb437:=Nat.ne_of_lt (Nat.lt_of_lt_of_le (by have:=World.block_lt_of_cell? _ _ hx439_0;rwa [add_block] at this) GW437.out);have hn439_2 : ad438.block ≠ gb437:=Nat.ne_of_lt (Nat.lt_of_lt_of_le (by have:=World.block_lt_of_cell? _ _ hx439_0;rwa [add_block] at this) GW437.out);have hn439_3 : ad438.block ≠ gb437:=Nat.ne_of_lt (Nat.lt_of_lt_of_le (by have:=World.block_lt_of_cell? _ _ hx439_0;rwa [add_block] at this) GW437.out);replace hx439_0:=kc_ HB.out hx439_0;replace hx439_0:=(cell_far (p:=⟨gb437,0,none⟩) (by (rw [add_block];exact hn439_0)) (.int .i64 ((rd_T67 l0_1 x15_1).f0))).trans hx439_0;replace hx439_0:=(cell_far (p:=⟨gb437,1,none⟩) (by (rw [add_block];exact hn439_1)) (.int .i64 ((rd_T67 l0_1 x15_1).f1))).trans hx439_0;replace hx439_0:=(cell_far (p:=⟨gb437,2,none⟩) (by (rw [add_block];exact hn439_2)) (.int .i64 ((rd_T67 l0_1 x15_1).f2))).trans hx439_0;replace hx439_0:=(cell_far (p:=⟨gb437,3,none⟩) (by (rw [add_block];exact hn439_3)) (.int .i64 ((rd_T67 l0_1 x15_1).f3))).trans hx439_0;clear hn439_0 hn439_1 hn439_2 hn439_3;replace p439:=eq_true p439;replace q439:=eq_true q439))
    go_roundg k1
    case measure=>have:=HK1.out;omega
    case rel=>exact ⟨(x5_1),(wrap64 (x15_1 + 1)),(by rfl),(by rfl),H',⟨by have:=HK1.out;omega⟩,⟨by refine blk_far ?_ NB434_437.out _;refine blk_far ?_ NB434_437.out _;refine blk_far ?_ NB434_437.out _;refine blk_far ?_ NB434_437.out _;exact BK434.out⟩,⟨by repeat ((with_reducible first|exact HB.out|refine below_set ?_ GE437.out))⟩⟩
   replace c19:=Bool.eq_false_iff.mpr c19
   subst c19
   have H1 : (impl_CutRoom.l0 k1 l1 (wrap64 (x5_1 + ((rd_T67 l0_1 x15_1).f2))) l0_1 (l0_1.length : Int) (wrap64 (x15_1 + 1))) = some r:=by rw [if_neg (show ¬ (false = true) by decide)] at H;exact H
   clear H
   have H:=H1
   clear H1
   have H':=am_ H
   clear H
   have p436 : 0 ≤ (x15_1 : Int):=od_ (by (with_reducible assumption))
   have q436 : x15_1 < (l0_1.length : Int):=od_ (by (with_reducible assumption))
   obtain ⟨ad436,e436,hx436_0,hx436_1,hx436_2,hx436_3⟩:=at_T67 HR0_1.out x15_1 p436 q436
   cases e436
   replace hx436_0:=kc_ HB.out hx436_0
   replace hx436_1:=kc_ HB.out hx436_1
   replace hx436_2:=kc_ HB.out hx436_2
   replace hx436_3:=kc_ HB.out hx436_3
   replace p436:=eq_true p436
   replace q436:=eq_true q436
   go_wp2_with (((with_reducible refine gate_dst (N:=7) rfl ?_);refine box_event ?hg (N:=7) ?hd (cs:=#[.int .i64 0,.int .i64 0,.int .i64 0,.int .i64 0]) (t:=67) ?hr ?_;(case hd=>rfl);(case hg=>rfl);(case hr=>(go_simp;done));intro gb437 hg w23 hbox hb;have n0_:=am_ (blk_below BK434.out hb);have n1_:=am_ (below_step HB.out hb);have n2_:=am_ (hbox);have n3_:=am_ ((by rw [hg];exact (below_size HB.out) : w.heap.size ≤ gb437));have n4_:=n3_;have n5_:=am_ ((by rw [hg];exact Nat.ne_of_lt (blk_lt (g:=gb434) (o:=.cells #[.int .i64 a0_0,.slice (some ad436) l0_1.length c0_1] 30 (0,0)) BK434.out) : gb434 ≠ gb437));have n6_:=am_ ((by rw [hg];exact Nat.ne_of_gt (blk_lt (g:=gb434) (o:=.cells #[.int .i64 a0_0,.slice (some ad436) l0_1.length c0_1] 30 (0,0)) BK434.out) : gb437 ≠ gb434));clear BK434 HB;have BK434:=n0_;have HB:=n1_;have BK437:=n2_;have GW437:=n3_;have GE437:=n4_;have NB434_437:=n5_;have NB437_434:=n6_;clear n0_ n1_ n2_ n3_ n4_ n5_ n6_ hb hbox hg;have hnb24:=NB437_434.out;have hnc24:=NB434_437.out;have hcz25_0 : w23.cell? ⟨gb437,0,none⟩ = some (.int .i64 0):=bc_ BK437.out 0;have hcz25_1 : w23.cell? ⟨gb437,1,none⟩ = some (.int .i64 0):=bc_ BK437.out 1;have hcz25_2 : w23.cell? ⟨gb437,2,none⟩ = some (.int .i64 0):=bc_ BK437.out 2;have hcz25_3 : w23.cell? ⟨gb437,3,none⟩ = some (.int .i64 0):=bc_ BK437.out 3;have hfz25_0:=blk_frozen BK437.out 0;have hfz25_1:=blk_frozen BK437.out 1;have hfz25_2:=blk_frozen BK437.out 2;have hfz25_3:=blk_frozen BK437.out 3;have p438 : 0 ≤ (((rd_T67 l0_1 x15_1).f0) : Int):=od_ (by (with_reducible assumption));have q438 : ((rd_T67 l0_1 x15_1).f0) < (l1.length : Int):=od_ (by (with_reducible assumption));obtain ⟨ad438,e438,hx438_0⟩:=Kd.at_bool HR1.out ((rd_T67 l0_1 x15_1).f0) p438 q438;(try rw [← Nbq14.out] at hx438_0);cases e438;have hn438_0 : ad438.block ≠ gb437:=Nat.ne_of_lt (Nat.lt_of_lt_of_le (by have:=World.block_lt_of_cell? _ _ hx438_0;rwa [add_block] at this) GW437.out);have hn438_1 : ad438.block ≠ gb437:=Nat.ne_of_lt (Nat.lt_of_lt_of_le (by have:=World.block_lt_of_cell? _ _ hx438_0;rwa [add_block] at this) GW437.out);have hn438_2 : ad438.block ≠ gb437:=Nat.ne_of_lt (Nat.lt_of_lt_of_le (by have:=World.block_lt_of_cell? _ _ hx438_0;rwa [add_block] at this) GW437.out);have hn438_3 : ad438.block ≠ gb437:=Nat.ne_of_lt (Nat.lt_of_lt_of_le (by have:=World.block_lt_of_cell? _ _ hx438_0;rwa [add_block] at this) GW437.out);replace hx438_0:=kc_ HB.out hx438_0;replace hx438_0:=(cell_far (p:=⟨gb437,0,none⟩) (by (rw [add_block];exact hn438_0)) (.int .i64 ((rd_T67 l0_1 x15_1).f0))).trans hx438_0;replace hx438_0:=(cell_far (p:=⟨gb437,1,none⟩) (by (rw [add_block];exact hn438_1)) (.int .i64 ((rd_T67 l0_1 x15_1).f1))).trans hx438_0;replace hx438_0:=(cell_far (p:=⟨gb437,2,none⟩) (by (rw [add_block];exact hn438_2)) (.int .i64 ((rd_T67 l0_1 x15_1).f2))).trans hx438_0;replace hx438_0:=(cell_far (p:=⟨gb437,3,none⟩) (by (rw [add_block];exact hn438_3)) (.int .i64 ((rd_T67 l0_1 x15_1).f3))).trans hx438_0;clear hn438_0 hn438_1 hn438_2 hn438_3;replace p438:=eq_true p438;replace q438:=eq_true q438;have p439 : 0 ≤ (((rd_T67 l0_1 x15_1).f1) : Int):=od_ (by (with_reducible assumption));have q439 : ((rd_T67 l0_1 x15_1).f1) < (l1.length : Int):=od_ (by (with_reducible assumption));obtain ⟨ad439,e439,hx439_0⟩:=Kd.at_bool HR1.out ((rd_T67 l0_1 x15_1).f1) p439 q439;(try rw [← Nbq18.out] at hx439_0);obtain rfl : ad438 = ad439:=(by injection e439);have hn439_0 : ad438.block ≠ gb437:=Nat.ne_of_lt (Nat.lt_of_lt_of_le (by have:=World.block_lt_of_cell? _ _ hx439_0;rwa [add_block] at this) GW437.out);have hn439_1 : ad438.block ≠ gb437:=Nat.ne_of_lt (Nat.lt_of_lt_of_le (by have:=World.block_lt_of_cell? _ _ hx439_0;rwa [add_block] at this) GW437.out);have hn439_2 : ad438.block ≠ gb437:=Nat.ne_of_lt (Nat.lt_of_lt_of_le (by have:=World.block_lt_of_cell? _ _ hx439_0;rwa [add_block] at this) GW437.out);have hn439_3 : ad438.block ≠ gb437:=Nat.ne_of_lt (Nat.lt_of_lt_of_le (by have:=World.block_lt_of_cell? _ _ hx439_0;rwa [add_block] at this) GW437.out);replace hx439_0:=kc_ HB.out hx439_0;replace hx439_0:=(cell_far (p:=⟨gb437,0,none⟩) (by (rw [add_block];exact hn439_0)) (.int .i64 ((rd_T67 l0_1 x15_1).f0))).trans hx439_0;replace hx439_0:=(cell_far (p:=⟨gb437,1,none⟩) (by (rw [add_block];exact hn439_1)) (.int .i64 ((rd_T67 l0_1 x15_1).f1))).trans hx439_0;replace hx439_0:=(cell_far (p:=⟨gb437,2,none⟩) (by (rw [add_block];exact hn439_2)) (.int .i64 ((rd_T67 l0_1 x15_1).f2))).trans hx439_0;replace hx439_0:=(cell_far (p:=⟨gb437,3,none⟩) (by (rw [add_block];exact hn439_3)) (.int .i64 ((rd_T67 l0_1 x15_1).f3))).trans hx439_0;clear hn439_0 hn439_1 hn439_2 hn439_3;replace p439:=eq_true p439;replace q439:=eq_true q439))
   go_roundg k1
   case measure=>have:=HK1.out;omega
   case rel=>exact ⟨(wrap64 (x5_1 + ((rd_T67 l0_1 x15_1).f2))),(wrap64 (x15_1 + 1)),(by rfl),(by rfl),H',⟨by have:=HK1.out;omega⟩,⟨by refine blk_far ?_ NB434_437.out _;refine blk_far ?_ NB434_437.out _;refine blk_far ?_ NB434_437.out _;refine blk_far ?_ NB434_437.out _;exact BK434.out⟩,⟨by repeat ((with_reducible first|exact HB.out|refine below_set ?_ GE437.out))⟩⟩

/-! ### impl_FlowSize: function 33 -/
def impl_FlowSize.f (k : Nat) (a0_0 : Int) (l0_1 : List (S67)) (l1 : List Int) : Option (Int):=(impl_FlowOk.f k a0_0 l0_1 l1).bind fun t384=>(if t384 = true then ((impl_excess.f k a0_0 l0_1 l1).bind fun t385=>(if 0 < (t385.length : Int) then (some (wrap64 (-(rd t385 0)))) else (none))) else (some (-1)))
theorem impl_FlowSize.mono : ∀ a0 a1 a2 k,LeO (impl_FlowSize.f k a0 a1 a2) (impl_FlowSize.f (k + 1) a0 a1 a2):=by
 intro a0 a1 a2 k
 unfold impl_FlowSize.f
 repeat' first
   | (with_reducible exact impl_FlowOk.mono _ _ _ _)
   | (with_reducible exact impl_excess.mono _ _ _ _)
   | (with_reducible exact LeO.refl _)
   | (with_reducible refine LeO.ite ?_ ?_)
   | (with_reducible refine LeO.bind ?_ (fun _ => ?_))
set_option maxHeartbeats 8000000 in
set_option maxRecDepth 100000 in
theorem impl_FlowSize.calls (k : Nat) (a0_0 : Int) (A0_1 : Option Addr) (c0_1 : Nat) (l0_1 : List (S67)) (A1 : Option Addr) (c1 : Nat) (l1 : List Int) (r : Int) (w : World) (hr0_1 : Kd.C k67 w A0_1 l0_1.length l0_1) (hc0_1 : l0_1.length ≤ c0_1) (hr1 : Kd.C (Kd.int .i64) w A1 l1.length l1) (hc1 : l1.length ≤ c1) (h : impl_FlowSize.f k a0_0 l0_1 l1 = some r) :
  Calls Try.prog 33 #[.agg #[.int .i64 a0_0,.slice A0_1 l0_1.length c0_1],.slice A1 l1.length c1] w fun e w'=>e = .returned (.int .i64 r) ∧ Below w.heap.size w w':=by
 have hu30:=Try.underlying30
 have HR0_1:=am_ hr0_1
 have HC0_1:=am_ hc0_1
 clear hr0_1 hc0_1
 have HR1:=am_ hr1
 have HC1:=am_ hc1
 clear hr1 hc1
 have HB:=am_ (Below.refl w.heap.size w)
 have H : ((impl_FlowOk.f k a0_0 l0_1 l1).bind fun t384=>(if t384 = true then ((impl_excess.f k a0_0 l0_1 l1).bind fun t385=>(if 0 < (t385.length : Int) then (some (wrap64 (-(rd t385 0)))) else (none))) else (some (-1)))) = some r:=h
 clear h
 replace H:=bs_ H
 obtain ⟨t384,A30,H⟩:=H
 replace H : (if t384 = true then ((impl_excess.f k a0_0 l0_1 l1).bind fun t385=>(if 0 < (t385.length : Int) then (some (wrap64 (-(rd t385 0)))) else (none))) else (some (-1))) = some r:=H
 have A3:=am_ A30
 clear A30
 by_cases c4 : t384 = true
 ·subst c4
  have H1 : ((impl_excess.f k a0_0 l0_1 l1).bind fun t385=>(if 0 < (t385.length : Int) then (some (wrap64 (-(rd t385 0)))) else (none))) = some r:=by rw [if_pos rfl] at H;exact H
  clear H
  have H:=H1
  clear H1
  replace H:=bs_ H
  obtain ⟨t385,A50,H⟩:=H
  replace H : (if 0 < (t385.length : Int) then (some (wrap64 (-(rd t385 0)))) else (none)) = some r:=H
  have A5:=am_ A50
  clear A50
  by_cases c6 : 0 < (t385.length : Int)
  ·rw [if_pos c6] at H
   have c6b0 : decide (0 < (t385.length : Int)) = true:=decide_eq_true c6
   have c6b1 : decide (0 < t385.length) = true:=decide_eq_true (by omega)
   clear c6
   obtain rfl:=Option.some.inj H
   go_enter Try.func33,Try.ntmps33
   go_wp2_with (first|((with_reducible refine gate_dst (N:=2) rfl ?_);refine box_event ?hg (N:=2) ?hd (cs:=#[.int .i64 a0_0,.slice A0_1 l0_1.length c0_1]) (t:=30) ?hr ?_;(case hd=>rfl);(case hg=>rfl);(case hr=>(go_simp;done));intro gb383 hg w7 hbox hb;have n0_:=am_ (below_step HB.out hb);have n1_:=am_ (hbox);have n2_:=am_ ((by rw [hg];exact (below_size HB.out) : w.heap.size ≤ gb383));have n3_:=n2_;clear HB;have HB:=n0_;have BK383:=n1_;have GW383:=n2_;have GE383:=n3_;clear n0_ n1_ n2_ n3_ hb hbox hg;have hcz8_0 : w7.cell? ⟨gb383,0,none⟩ = some (.int .i64 a0_0):=bc_ BK383.out 0;have hcz8_1 : w7.cell? ⟨gb383,1,none⟩ = some (.slice A0_1 l0_1.length c0_1):=bc_ BK383.out 1;have hfz8_0:=blk_frozen BK383.out 0;have hfz8_1:=blk_frozen BK383.out 1)|((with_reducible refine gate_callee (f:=31) rfl ?_);refine goesL_ (some 7) rfl rfl Try.func31 (by kernel_rfl) rfl #[.agg #[.int .i64 a0_0,.slice A0_1 l0_1.length c0_1],.slice A1 l1.length c1] rfl (by (try simp only [List.map_toArray,List.map_cons,List.map_nil]);rfl) ?_;(with_reducible refine (impl_FlowOk.calls k a0_0 _ _ l0_1 _ _ l1 true _ ?side1 ?side2 ?side3 ?side4 A3.out).mono ?_);(case side1=>exact (Kd.C_below HR0_1.out HB.out));(case side2=>exact HC0_1.out);(case side3=>exact (Kd.C_below HR1.out HB.out));(case side4=>exact HC1.out);rintro e w9 ⟨rfl,hb⟩;refine ⟨_,rfl,?_⟩;have n0_:=am_ (blk_below BK383.out hb);have n1_:=am_ (below_step HB.out hb);clear BK383 HB;have BK383:=n0_;have HB:=n1_;clear n0_ n1_;(try clear hb);have hcz10_0 : w9.cell? ⟨gb383,0,none⟩ = some (.int .i64 a0_0):=bc_ BK383.out 0;have hcz10_1 : w9.cell? ⟨gb383,1,none⟩ = some (.slice A0_1 l0_1.length c0_1):=bc_ BK383.out 1;have hfz10_0:=blk_frozen BK383.out 0;have hfz10_1:=blk_frozen BK383.out 1)|((with_reducible refine gate_callee (f:=54) rfl ?_);refine goesL_ (some 11) rfl rfl Try.func54 (by kernel_rfl) rfl #[.agg #[.int .i64 a0_0,.slice A0_1 l0_1.length c0_1],.slice A1 l1.length c1] rfl (by (try simp only [List.map_toArray,List.map_cons,List.map_nil]);rfl) ?_;(with_reducible refine (impl_excess.calls k a0_0 _ _ l0_1 _ _ l1 t385 _ ?side1 ?side2 ?side3 ?side4 A5.out).mono ?_);(case side1=>exact (Kd.C_below HR0_1.out HB.out));(case side2=>exact HC0_1.out);(case side3=>exact (Kd.C_below HR1.out HB.out));(case side4=>exact HC1.out);rintro e w11 ⟨v386,rfl,ho0,hb⟩;refine ⟨_,rfl,?_⟩;have n0_:=am_ (Kd.R_lower ho0 (below_size HB.out));have n1_:=am_ (blk_below BK383.out hb);have n2_:=am_ (below_step HB.out hb);clear BK383 HB;have HO387:=n0_;have BK383:=n1_;have HB:=n2_;clear n0_ n1_ n2_;(try clear hb);(try clear ho0);obtain ⟨Ao12,co12,eo12⟩:=Kd.R_slice HO387.out;subst eo12;have p388 : 0 ≤ (0 : Int):=(by omega);have q388 : 0 < (t385.length : Int):=od_ (by (with_reducible assumption));obtain ⟨ad388,e388,hx388_0⟩:=Kd.at_int (Kd.R_reads' HO387.out).2.2 0 p388 q388;cases e388;have qi388 : (0 < t385.length) = True:=eq_true (by omega);(try rw [show ((0 : Int)).toNat = 0 from rfl] at hx388_0);(try rw [Addr.add_zero'] at hx388_0);replace p388:=eq_true p388;replace q388:=eq_true q388))
   go_ret
   exact ⟨by rfl,by exact HB.out⟩
  rw [if_neg c6] at H
  exact absurd H (by simp)
 replace c4:=Bool.eq_false_iff.mpr c4
 subst c4
 have H1 : (some (-1)) = some r:=by rw [if_neg (show ¬ (false = true) by decide)] at H;exact H
 clear H
 have H:=H1
 clear H1
 obtain rfl:=Option.some.inj H
 go_enter Try.func33,Try.ntmps33
 go_wp2_with (first|((with_reducible refine gate_dst (N:=2) rfl ?_);refine box_event ?hg (N:=2) ?hd (cs:=#[.int .i64 a0_0,.slice A0_1 l0_1.length c0_1]) (t:=30) ?hr ?_;(case hd=>rfl);(case hg=>rfl);(case hr=>(go_simp;done));intro gb383 hg w13 hbox hb;have n0_:=am_ (below_step HB.out hb);have n1_:=am_ (hbox);have n2_:=am_ ((by rw [hg];exact (below_size HB.out) : w.heap.size ≤ gb383));have n3_:=n2_;clear HB;have HB:=n0_;have BK383:=n1_;have GW383:=n2_;have GE383:=n3_;clear n0_ n1_ n2_ n3_ hb hbox hg;have hcz14_0 : w13.cell? ⟨gb383,0,none⟩ = some (.int .i64 a0_0):=bc_ BK383.out 0;have hcz14_1 : w13.cell? ⟨gb383,1,none⟩ = some (.slice A0_1 l0_1.length c0_1):=bc_ BK383.out 1;have hfz14_0:=blk_frozen BK383.out 0;have hfz14_1:=blk_frozen BK383.out 1)|((with_reducible refine gate_callee (f:=31) rfl ?_);refine goesL_ (some 7) rfl rfl Try.func31 (by kernel_rfl) rfl #[.agg #[.int .i64 a0_0,.slice A0_1 l0_1.length c0_1],.slice A1 l1.length c1] rfl (by (try simp only [List.map_toArray,List.map_cons,List.map_nil]);rfl) ?_;(with_reducible refine (impl_FlowOk.calls k a0_0 _ _ l0_1 _ _ l1 false _ ?side1 ?side2 ?side3 ?side4 A3.out).mono ?_);(case side1=>exact (Kd.C_below HR0_1.out HB.out));(case side2=>exact HC0_1.out);(case side3=>exact (Kd.C_below HR1.out HB.out));(case side4=>exact HC1.out);rintro e w15 ⟨rfl,hb⟩;refine ⟨_,rfl,?_⟩;have n0_:=am_ (blk_below BK383.out hb);have n1_:=am_ (below_step HB.out hb);clear BK383 HB;have BK383:=n0_;have HB:=n1_;clear n0_ n1_;(try clear hb)))
 go_ret
 exact ⟨by rfl,by exact HB.out⟩

end Go.Proofs.Ytgkpgigoonhgdaa.PFnMostCut
