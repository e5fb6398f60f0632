-- Made by the session's wip/pp.py, a changed call of the kit's printer; Lean checks it.
import Derived.Test.YtgkpgigoonhgdaaPFnMostCutx0
import Derived.Test.YtgkpgigoonhgdaaPFnMostCutx1
import Derived.Test.YtgkpgigoonhgdaaPFnMostCutx2
namespace Go.Proofs.Ytgkpgigoonhgdaa.PFnMostCut
open Go.RowKit Go.Proofs.YtgkpgigoonhgdaaW.PrintWords Go.Proofs.YtgkpgigoonhgdaaW.PrintLast Go.Proofs.YtgkpgigoonhgdaaW.PrintMore
attribute [local go_sem] max2_int min2_int max_two min_two max_three min_three max_four min_four   -- for this text's walks alone
set_option linter.unusedVariables false
set_option linter.unusedSimpArgs false


/-! ### impl_FlowOk: function 31 -/
mutual
def impl_FlowOk.j0 : Nat → List Int → Bool → Int → List (S67) → Option (Bool)
 | 0, _, _, _, _ => none
 | k + 1, x1, x19, x166000, x166001 => if x19 = true then (some false) else (impl_FlowOk.l0 k x1 x166001 (x166001.length : Int) 0 x166000 x166001)
def impl_FlowOk.l0 : Nat → List Int → List (S67) → Int → Int → Int → List (S67) → Option (Bool)
 | 0, _, _, _, _, _, _ => none
 | k + 1, x1, x21, x22, x23, x166000, x166001 => if x23 < x22 then (if 0 ≤ x23 then (if x23 < (x21.length : Int) then (if x23 < (x1.length : Int) then (if (rd x1 x23) < 0 then (some false) else (if (rd x1 x23) > ((rd_T67 x21 x23).f2) then (some false) else (impl_FlowOk.l0 k x1 x21 x22 (wrap64 (x23 + 1)) x166000 x166001))) else (none)) else (none)) else (none)) else ((impl_excess.f k x166000 x166001 x1).bind fun t171 => (impl_FlowOk.l1 k t171 (t171.length : Int) 0))
def impl_FlowOk.l1 : Nat → List Int → Int → Int → Option (Bool)
 | 0, _, _, _ => none
 | k + 1, x45, x46, x47 => if x47 < x46 then (if 0 ≤ x47 then (if x47 < (x45.length : Int) then (if x47 > 1 then (if (rd x45 x47) = 0 then (impl_FlowOk.l1 k x45 x46 (wrap64 (x47 + 1))) else (some false)) else (impl_FlowOk.l1 k x45 x46 (wrap64 (x47 + 1)))) else (none)) else (none)) else (some true)
end
def impl_FlowOk.f (k : Nat) (a0_0 : Int) (l0_1 : List (S67)) (l1 : List Int) : Option (Bool):=(impl_NetOk.f k a0_0 l0_1).bind fun t166=>(if t166 = true then (impl_FlowOk.j0 k l1 ((l1.length : Int) != (l0_1.length : Int)) a0_0 l0_1) else (impl_FlowOk.j0 k l1 true a0_0 l0_1))
theorem impl_FlowOk.mono_l : ∀ k,(∀ y0 y1 y2 y3,LeO (impl_FlowOk.j0 k y0 y1 y2 y3) (impl_FlowOk.j0 (k + 1) y0 y1 y2 y3)) ∧ (∀ y0 y1 y2 y3 y4 y5,LeO (impl_FlowOk.l0 k y0 y1 y2 y3 y4 y5) (impl_FlowOk.l0 (k + 1) y0 y1 y2 y3 y4 y5)) ∧ (∀ y0 y1 y2,LeO (impl_FlowOk.l1 k y0 y1 y2) (impl_FlowOk.l1 (k + 1) y0 y1 y2))
 | 0 => ⟨fun _ _ _ _ r h => by simp [impl_FlowOk.j0] at h, fun _ _ _ _ _ _ r h => by simp [impl_FlowOk.l0] at h, fun _ _ _ r h => by simp [impl_FlowOk.l1] at h⟩
 | k + 1 => by
  obtain ⟨ih0,ih1,ih2⟩:=impl_FlowOk.mono_l k
  refine ⟨?_,?_,?_⟩
  ·intro y0 y1 y2 y3
   unfold impl_FlowOk.j0
   repeat' first
   | (with_reducible exact ih1 _ _ _ _ _ _)
   | (with_reducible exact LeO.refl _)
   | (with_reducible refine LeO.ite ?_ ?_)
  ·intro y0 y1 y2 y3 y4 y5
   unfold impl_FlowOk.l0
   repeat' first
   | (with_reducible exact ih1 _ _ _ _ _ _)
   | (with_reducible exact ih2 _ _ _)
   | (with_reducible exact impl_excess.mono _ _ _ _)
   | (with_reducible exact LeO.refl _)
   | (with_reducible refine LeO.ite ?_ ?_)
   | (with_reducible refine LeO.bind ?_ (fun _ => ?_))
  ·intro y0 y1 y2
   unfold impl_FlowOk.l1
   repeat' first
   | (with_reducible exact ih2 _ _ _)
   | (with_reducible exact LeO.refl _)
   | (with_reducible refine LeO.ite ?_ ?_)
theorem impl_FlowOk.mono : ∀ a0 a1 a2 k,LeO (impl_FlowOk.f k a0 a1 a2) (impl_FlowOk.f (k + 1) a0 a1 a2):=by
 intro a0 a1 a2 k
 obtain ⟨ih0,ih1,ih2⟩:=impl_FlowOk.mono_l k
 unfold impl_FlowOk.f
 repeat' first
   | (with_reducible exact ih0 _ _ _ _)
   | (with_reducible exact impl_NetOk.mono _ _ _)
   | (with_reducible refine LeO.ite ?_ ?_)
   | (with_reducible refine LeO.bind ?_ (fun _ => ?_))
set_option maxHeartbeats 8000000 in
set_option maxRecDepth 100000 in
theorem impl_FlowOk.calls (k : Nat) (a0_0 : Int) (A0_1 : Option Addr) (c0_1 : Nat) (l0_1 : List (S67)) (A1 : Option Addr) (c1 : Nat) (l1 : List Int) (r : Bool) (w : World) (hr0_1 : Kd.C k67 w A0_1 l0_1.length l0_1) (hc0_1 : l0_1.length ≤ c0_1) (hr1 : Kd.C (Kd.int .i64) w A1 l1.length l1) (hc1 : l1.length ≤ c1) (h : impl_FlowOk.f k a0_0 l0_1 l1 = some r) :
  Calls Try.prog 31 #[.agg #[.int .i64 a0_0,.slice A0_1 l0_1.length c0_1],.slice A1 l1.length c1] w fun e w'=>e = .returned (.bool r) ∧ Below w.heap.size w w':=by
 have hu30:=Try.underlying30
 have hu67:=Try.underlying67
 have HR0_1:=am_ hr0_1
 have HC0_1:=am_ hc0_1
 clear hr0_1 hc0_1
 have HR1:=am_ hr1
 have HC1:=am_ hc1
 clear hr1 hc1
 have HB:=am_ (Below.refl w.heap.size w)
 have H : ((impl_NetOk.f k a0_0 l0_1).bind fun t166=>(if t166 = true then (impl_FlowOk.j0 k l1 ((l1.length : Int) != (l0_1.length : Int)) a0_0 l0_1) else (impl_FlowOk.j0 k l1 true a0_0 l0_1))) = some r:=h
 clear h
 have HC3:=am_ H
 clear H
 go_enter Try.func31,Try.ntmps31
 go_upto_region 1 with (((with_reducible refine gate_dst (N:=2) rfl ?_);(try (refine gate_guard (by rfl) ?_;dsimp only));refine box_event ?hg (N:=2) ?hd (cs:=#[.int .i64 a0_0,.slice A0_1 l0_1.length c0_1]) (t:=30) ?hr ?_;(case hd=>rfl);(case hg=>rfl);(case hr=>(go_simp;done));intro gb165 hg w4 hbox hb;have n0_:=am_ (below_step HB.out hb);have n1_:=am_ (hbox);have n2_:=am_ ((by rw [hg];exact (below_size HB.out) : w.heap.size ≤ gb165));have n3_:=n2_;clear HB;have HB:=n0_;have BK165:=n1_;have GW165:=n2_;have GE165:=n3_;clear n0_ n1_ n2_ n3_ hb hbox hg))
 repeat (go_quiet (fail);go_upto_region 1 with (fail))
 (skip)
 go_cut [19] (fun v19 wc=>∃ (kq : Nat) (x19_2 : Bool),v19 = .bool x19_2 ∧ Aside0 (impl_FlowOk.j0 kq l1 x19_2 a0_0 l0_1 = some r) ∧ Aside0 (kq ≤ k) ∧ Aside0 (wc.heap[gb165]? = some (.cells #[.int .i64 a0_0,(.slice A0_1 l0_1.length c0_1)] 30 (0,0))) ∧ Aside0 (Below w.heap.size w wc))
 case first =>
  have H:=HC3.out
  clear HC3
  replace H:=bs_ H
  obtain ⟨t166,A50,H⟩:=H
  replace H : (if t166 = true then (impl_FlowOk.j0 k l1 ((l1.length : Int) != (l0_1.length : Int)) a0_0 l0_1) else (impl_FlowOk.j0 k l1 true a0_0 l0_1)) = some r:=H
  have A5:=am_ A50
  clear A50
  by_cases c6 : t166 = true
  ·subst c6
   have H1 : (impl_FlowOk.j0 k l1 ((l1.length : Int) != (l0_1.length : Int)) a0_0 l0_1) = some r:=by rw [if_pos rfl] at H;exact H
   clear H
   have H:=H1
   clear H1
   have H':=am_ H
   clear H
   have hcz7_0 : w4.cell? ⟨gb165,0,none⟩ = some (.int .i64 a0_0):=bc_ BK165.out 0
   have hcz7_1 : w4.cell? ⟨gb165,1,none⟩ = some (.slice A0_1 l0_1.length c0_1):=bc_ BK165.out 1
   have hfz7_0:=blk_frozen BK165.out 0
   have hfz7_1:=blk_frozen BK165.out 1
   go_wp2_with ((go_at_call 53;(with_reducible refine (impl_NetOk.calls k a0_0 _ _ l0_1 true _ ?side1 ?side2 A5.out).mono ?_);(case side1=>exact (Kd.C_below HR0_1.out HB.out));(case side2=>exact HC0_1.out);rintro e w8 ⟨rfl,hb⟩;have n0_:=am_ (blk_below BK165.out hb);have n1_:=am_ (below_step HB.out hb);clear BK165 HB;have BK165:=n0_;have HB:=n1_;clear n0_ n1_;(try clear hb);have hcz9_0 : w8.cell? ⟨gb165,0,none⟩ = some (.int .i64 a0_0):=bc_ BK165.out 0;have hcz9_1 : w8.cell? ⟨gb165,1,none⟩ = some (.slice A0_1 l0_1.length c0_1):=bc_ BK165.out 1;have hfz9_0:=blk_frozen BK165.out 0;have hfz9_1:=blk_frozen BK165.out 1))
   repeat (go_quiet (fail);try go_wp2_with (fail))
   go_meet
   case rel=>exact ⟨_,(((l1.length : Int) != (l0_1.length : Int))),(by rfl),H',⟨by omega⟩,⟨by exact BK165.out⟩,⟨by exact HB.out⟩⟩
  replace c6:=Bool.eq_false_iff.mpr c6
  subst c6
  have H1 : (impl_FlowOk.j0 k l1 true a0_0 l0_1) = some r:=by rw [if_neg (show ¬ (false = true) by decide)] at H;exact H
  clear H
  have H:=H1
  clear H1
  have H':=am_ H
  clear H
  have hcz10_0 : w4.cell? ⟨gb165,0,none⟩ = some (.int .i64 a0_0):=bc_ BK165.out 0
  have hcz10_1 : w4.cell? ⟨gb165,1,none⟩ = some (.slice A0_1 l0_1.length c0_1):=bc_ BK165.out 1
  have hfz10_0:=blk_frozen BK165.out 0
  have hfz10_1:=blk_frozen BK165.out 1
  go_wp2_with ((go_at_call 53;(with_reducible refine (impl_NetOk.calls k a0_0 _ _ l0_1 false _ ?side1 ?side2 A5.out).mono ?_);(case side1=>exact (Kd.C_below HR0_1.out HB.out));(case side2=>exact HC0_1.out);rintro e w11 ⟨rfl,hb⟩;have n0_:=am_ (blk_below BK165.out hb);have n1_:=am_ (below_step HB.out hb);clear BK165 HB;have BK165:=n0_;have HB:=n1_;clear n0_ n1_;(try clear hb)))
  repeat (go_quiet (fail);try go_wp2_with (fail))
  go_meet
  case rel=>exact ⟨_,(true),(by rfl),H',⟨by omega⟩,⟨by exact BK165.out⟩,⟨by exact HB.out⟩⟩
 case rest =>
  clear HC3
  try clear c1
  try clear p2
  try clear c3
  try clear c6
  try clear hcz10_0
  try clear hcz10_1
  try clear hcz7_0
  try clear hcz7_1
  try clear hcz9_0
  try clear hcz9_1
  try clear hfz10_0
  try clear hfz10_1
  try clear hfz7_0
  try clear hfz7_1
  try clear hfz9_0
  try clear hfz9_1
  obtain ⟨kq,x19_2,rfl,HA,HJ2,BK165,HB⟩:=hcut
  cases kq with
  | zero => exact absurd HA.out (by simp [impl_FlowOk.j0])
  | succ kj2 =>
   have H:=HA.out
   clear HA
   simp only [impl_FlowOk.j0] at H
   by_cases c12 : x19_2 = true
   ·subst c12
    have H1 : (some false) = some r:=by rw [if_pos rfl] at H;exact H
    clear H
    have H:=H1
    clear H1
    obtain rfl:=Option.some.inj H
    go_wp2
    repeat (go_quiet (fail);try go_wp2)
    go_ret
    exact ⟨by rfl,by exact HB.out⟩
   replace c12:=Bool.eq_false_iff.mpr c12
   subst c12
   have H1 : (impl_FlowOk.l0 kj2 l1 l0_1 (l0_1.length : Int) 0 a0_0 l0_1) = some r:=by rw [if_neg (show ¬ (false = true) by decide)] at H;exact H
   clear H
   have H:=H1
   clear H1
   have H':=am_ H
   clear H
   have hcz13_0 : wc.cell? ⟨gb165,0,none⟩ = some (.int .i64 a0_0):=bc_ BK165.out 0
   have hcz13_1 : wc.cell? ⟨gb165,1,none⟩ = some (.slice A0_1 l0_1.length c0_1):=bc_ BK165.out 1
   have hfz13_0:=blk_frozen BK165.out 0
   have hfz13_1:=blk_frozen BK165.out 1
   go_wp2
   repeat (go_quiet (fail);try go_wp2)
   go_loopg [23] kj2 (fun kq v23 w'=>∃ (x23_2 : Int),v23 = .int .i64 x23_2 ∧ Aside0 (impl_FlowOk.l0 kq l1 l0_1 (l0_1.length : Int) x23_2 a0_0 l0_1 = some r) ∧ Aside0 (kq ≤ kj2) ∧ Aside0 (w'.heap[gb165]? = some (.cells #[.int .i64 a0_0,(.slice A0_1 l0_1.length c0_1)] 30 (0,0))) ∧ Aside0 (Below w.heap.size w w'))
   case atStart=>exact ⟨(0),(by rfl),H',⟨Nat.le_refl _⟩,⟨by exact BK165.out⟩,⟨by exact HB.out⟩⟩
   case round =>
    clear H'
    try clear c1
    try clear p2
    try clear c3
    try clear c6
    try clear c12
    try clear hcz10_0
    try clear hcz10_1
    try clear hcz13_0
    try clear hcz13_1
    try clear hcz7_0
    try clear hcz7_1
    try clear hcz9_0
    try clear hcz9_1
    try clear hfz10_0
    try clear hfz10_1
    try clear hfz13_0
    try clear hfz13_1
    try clear hfz7_0
    try clear hfz7_1
    try clear hfz9_0
    try clear hfz9_1
    try clear p2
    obtain ⟨x23_2,rfl,HA,HK2,BK165,HB⟩:=hrel
    cases gk with
    | zero => exact absurd HA.out (by simp [impl_FlowOk.l0])
    | succ k2 =>
     have H:=HA.out
     clear HA
     simp only [impl_FlowOk.l0] at H
     by_cases c14 : x23_2 < (l0_1.length : Int)
     ·rw [if_pos c14] at H
      have c14b0 : decide (x23_2 < (l0_1.length : Int)) = true:=decide_eq_true c14
      clear c14
      by_cases c15 : 0 ≤ x23_2
      rotate_left
      ·rw [if_neg c15] at H
       exact absurd H (by simp)
      rw [if_pos c15] at H
      have c15b0 : decide (0 ≤ x23_2) = true:=decide_eq_true c15
      clear c15
      by_cases c16 : x23_2 < (l0_1.length : Int)
      rotate_left
      ·rw [if_neg c16] at H
       exact absurd H (by simp)
      rw [if_pos c16] at H
      have c16b0 : decide (x23_2 < (l0_1.length : Int)) = true:=decide_eq_true c16
      clear c16
      by_cases c17 : x23_2 < (l1.length : Int)
      rotate_left
      ·rw [if_neg c17] at H
       exact absurd H (by simp)
      rw [if_pos c17] at H
      have c17b0 : decide (x23_2 < (l1.length : Int)) = true:=decide_eq_true c17
      clear c17
      by_cases c18 : (rd l1 x23_2) < 0
      ·rw [if_pos c18] at H
       have c18b0 : decide ((rd l1 x23_2) < 0) = true:=decide_eq_true c18
       clear c18
       obtain rfl:=Option.some.inj H
       have p167 : 0 ≤ (x23_2 : Int):=od_ (by (with_reducible assumption))
       have q167 : x23_2 < (l0_1.length : Int):=od_ (by (with_reducible assumption))
       obtain ⟨ad167,e167,hx167_0,hx167_1,hx167_2,hx167_3⟩:=at_T67 HR0_1.out x23_2 p167 q167
       cases e167
       replace hx167_0:=kc_ HB.out hx167_0
       replace hx167_1:=kc_ HB.out hx167_1
       replace hx167_2:=kc_ HB.out hx167_2
       replace hx167_3:=kc_ HB.out hx167_3
       replace p167:=eq_true p167
       replace q167:=eq_true q167
       go_wp2_with (((with_reducible refine gate_dst (N:=6) rfl ?_);(try (refine gate_guard (by rfl) ?_;dsimp only));refine box_event ?hg (N:=6) ?hd (cs:=#[.int .i64 0,.int .i64 0,.int .i64 0,.int .i64 0]) (t:=67) ?hr ?_;(case hd=>rfl);(case hg=>rfl);(case hr=>(go_simp;done));intro gb168 hg w19 hbox hb;have n0_:=am_ (blk_below BK165.out hb);have n1_:=am_ (below_step HB.out hb);have n2_:=am_ (hbox);have n3_:=am_ ((by rw [hg];exact (below_size HB.out) : w.heap.size ≤ gb168));have n4_:=n3_;have n5_:=am_ ((by rw [hg];exact Nat.ne_of_lt (blk_lt (g:=gb165) (o:=.cells #[.int .i64 a0_0,.slice (some ad167) l0_1.length c0_1] 30 (0,0)) BK165.out) : gb165 ≠ gb168));have n6_:=am_ ((by rw [hg];exact Nat.ne_of_gt (blk_lt (g:=gb165) (o:=.cells #[.int .i64 a0_0,.slice (some ad167) l0_1.length c0_1] 30 (0,0)) BK165.out) : gb168 ≠ gb165));clear BK165 HB;have BK165:=n0_;have HB:=n1_;have BK168:=n2_;have GW168:=n3_;have GE168:=n4_;have NB165_168:=n5_;have NB168_165:=n6_;clear n0_ n1_ n2_ n3_ n4_ n5_ n6_ hb hbox hg;have hnb20:=NB168_165.out;have hnc20:=NB165_168.out;have hcz21_0 : w19.cell? ⟨gb168,0,none⟩ = some (.int .i64 0):=bc_ BK168.out 0;have hcz21_1 : w19.cell? ⟨gb168,1,none⟩ = some (.int .i64 0):=bc_ BK168.out 1;have hcz21_2 : w19.cell? ⟨gb168,2,none⟩ = some (.int .i64 0):=bc_ BK168.out 2;have hcz21_3 : w19.cell? ⟨gb168,3,none⟩ = some (.int .i64 0):=bc_ BK168.out 3;have hfz21_0:=blk_frozen BK168.out 0;have hfz21_1:=blk_frozen BK168.out 1;have hfz21_2:=blk_frozen BK168.out 2;have hfz21_3:=blk_frozen BK168.out 3;have p169 : 0 ≤ (x23_2 : Int):=od_ (by (with_reducible assumption));have q169 : x23_2 < (l1.length : Int):=od_ (by (with_reducible assumption));obtain ⟨ad169,e169,hx169_0⟩:=Kd.at_int HR1.out x23_2 p169 q169;cases e169;have hn169_0 : ad169.block ≠ gb168:=Nat.ne_of_lt (Nat.lt_of_lt_of_le (by have:=World.block_lt_of_cell? _ _ hx169_0;rwa [add_block] at this) GW168.out);have hn169_1 : ad169.block ≠ gb168:=Nat.ne_of_lt (Nat.lt_of_lt_of_le (by have:=World.block_lt_of_cell? _ _ hx169_0;rwa [add_block] at this) GW168.out);have hn169_2 : ad169.block ≠ gb168:=Nat.ne_of_lt (Nat.lt_of_lt_of_le (by have:=World.block_lt_of_cell? _ _ hx169_0;rwa [add_block] at this) GW168.out);have hn169_3 : ad169.block ≠ gb168:=Nat.ne_of_lt (Nat.lt_of_lt_of_le (by have:=World.block_lt_of_cell? _ _ hx169_0;rwa [add_block] at this) GW168.out);replace hx169_0:=kc_ HB.out hx169_0;replace hx169_0:=(cell_far (p:=⟨gb168,0,none⟩) (by (rw [add_block];exact hn169_0)) (.int .i64 ((rd_T67 l0_1 x23_2).f0))).trans hx169_0;replace hx169_0:=(cell_far (p:=⟨gb168,1,none⟩) (by (rw [add_block];exact hn169_1)) (.int .i64 ((rd_T67 l0_1 x23_2).f1))).trans hx169_0;replace hx169_0:=(cell_far (p:=⟨gb168,2,none⟩) (by (rw [add_block];exact hn169_2)) (.int .i64 ((rd_T67 l0_1 x23_2).f2))).trans hx169_0;replace hx169_0:=(cell_far (p:=⟨gb168,3,none⟩) (by (rw [add_block];exact hn169_3)) (.int .i64 ((rd_T67 l0_1 x23_2).f3))).trans hx169_0;(try have hy169_0:=fun (n_ : Nat)=>(show ((((((w19.drewN n_).setCell ⟨gb168,0,none⟩ (.int .i64 ((rd_T67 l0_1 x23_2).f0))).setCell ⟨gb168,1,none⟩ (.int .i64 ((rd_T67 l0_1 x23_2).f1))).setCell ⟨gb168,2,none⟩ (.int .i64 ((rd_T67 l0_1 x23_2).f2))).setCell ⟨gb168,3,none⟩ (.int .i64 ((rd_T67 l0_1 x23_2).f3)))).cell? _ = some _ from hx169_0));clear hn169_0 hn169_1 hn169_2 hn169_3;replace p169:=eq_true p169;replace q169:=eq_true q169))
       repeat (go_quiet (fail);try go_wp2_with (fail))
       go_ret
       exact ⟨by rfl,by repeat ((with_reducible first|exact HB.out|apply pw_below_drewN|refine below_set ?_ GE168.out))⟩
      rw [if_neg c18] at H
      have c18b0 : decide ((rd l1 x23_2) < 0) = false:=decide_eq_false c18
      clear c18
      by_cases c22 : (rd l1 x23_2) > ((rd_T67 l0_1 x23_2).f2)
      ·rw [if_pos c22] at H
       have c22b0 : decide (((rd_T67 l0_1 x23_2).f2) < (rd l1 x23_2)) = true:=decide_eq_true c22
       clear c22
       obtain rfl:=Option.some.inj H
       have p167 : 0 ≤ (x23_2 : Int):=od_ (by (with_reducible assumption))
       have q167 : x23_2 < (l0_1.length : Int):=od_ (by (with_reducible assumption))
       obtain ⟨ad167,e167,hx167_0,hx167_1,hx167_2,hx167_3⟩:=at_T67 HR0_1.out x23_2 p167 q167
       cases e167
       replace hx167_0:=kc_ HB.out hx167_0
       replace hx167_1:=kc_ HB.out hx167_1
       replace hx167_2:=kc_ HB.out hx167_2
       replace hx167_3:=kc_ HB.out hx167_3
       replace p167:=eq_true p167
       replace q167:=eq_true q167
       go_wp2_with (((with_reducible refine gate_dst (N:=6) rfl ?_);(try (refine gate_guard (by rfl) ?_;dsimp only));refine box_event ?hg (N:=6) ?hd (cs:=#[.int .i64 0,.int .i64 0,.int .i64 0,.int .i64 0]) (t:=67) ?hr ?_;(case hd=>rfl);(case hg=>rfl);(case hr=>(go_simp;done));intro gb168 hg w23 hbox hb;have n0_:=am_ (blk_below BK165.out hb);have n1_:=am_ (below_step HB.out hb);have n2_:=am_ (hbox);have n3_:=am_ ((by rw [hg];exact (below_size HB.out) : w.heap.size ≤ gb168));have n4_:=n3_;have n5_:=am_ ((by rw [hg];exact Nat.ne_of_lt (blk_lt (g:=gb165) (o:=.cells #[.int .i64 a0_0,.slice (some ad167) l0_1.length c0_1] 30 (0,0)) BK165.out) : gb165 ≠ gb168));have n6_:=am_ ((by rw [hg];exact Nat.ne_of_gt (blk_lt (g:=gb165) (o:=.cells #[.int .i64 a0_0,.slice (some ad167) l0_1.length c0_1] 30 (0,0)) BK165.out) : gb168 ≠ gb165));clear BK165 HB;have BK165:=n0_;have HB:=n1_;have BK168:=n2_;have GW168:=n3_;have GE168:=n4_;have NB165_168:=n5_;have NB168_165:=n6_;clear n0_ n1_ n2_ n3_ n4_ n5_ n6_ hb hbox hg;have hnb24:=NB168_165.out;have hnc24:=NB165_168.out;have hcz25_0 : w23.cell? ⟨gb168,0,none⟩ = some (.int .i64 0):=bc_ BK168.out 0;have hcz25_1 : w23.cell? ⟨gb168,1,none⟩ = some (.int .i64 0):=bc_ BK168.out 1;have hcz25_2 : w23.cell? ⟨gb168,2,none⟩ = some (.int .i64 0):=bc_ BK168.out 2;have hcz25_3 : w23.cell? ⟨gb168,3,none⟩ = some (.int .i64 0):=bc_ BK168.out 3;have hfz25_0:=blk_frozen BK168.out 0;have hfz25_1:=blk_frozen BK168.out 1;have hfz25_2:=blk_frozen BK168.out 2;have hfz25_3:=blk_frozen BK168.out 3;have p169 : 0 ≤ (x23_2 : Int):=od_ (by (with_reducible assumption));have q169 : x23_2 < (l1.length : Int):=od_ (by (with_reducible assumption));obtain ⟨ad169,e169,hx169_0⟩:=Kd.at_int HR1.out x23_2 p169 q169;cases e169;have hn169_0 : ad169.block ≠ gb168:=Nat.ne_of_lt (Nat.lt_of_lt_of_le (by have:=World.block_lt_of_cell? _ _ hx169_0;rwa [add_block] at this) GW168.out);have hn169_1 : ad169.block ≠ gb168:=Nat.ne_of_lt (Nat.lt_of_lt_of_le (by have:=World.block_lt_of_cell? _ _ hx169_0;rwa [add_block] at this) GW168.out);have hn169_2 : ad169.block ≠ gb168:=Nat.ne_of_lt (Nat.lt_of_lt_of_le (by have:=World.block_lt_of_cell? _ _ hx169_0;rwa [add_block] at this) GW168.out);have hn169_3 : ad169.block ≠ gb168:=Nat.ne_of_lt (Nat.lt_of_lt_of_le (by have:=World.block_lt_of_cell? _ _ hx169_0;rwa [add_block] at this) GW168.out);replace hx169_0:=kc_ HB.out hx169_0;replace hx169_0:=(cell_far (p:=⟨gb168,0,none⟩) (by (rw [add_block];exact hn169_0)) (.int .i64 ((rd_T67 l0_1 x23_2).f0))).trans hx169_0;replace hx169_0:=(cell_far (p:=⟨gb168,1,none⟩) (by (rw [add_block];exact hn169_1)) (.int .i64 ((rd_T67 l0_1 x23_2).f1))).trans hx169_0;replace hx169_0:=(cell_far (p:=⟨gb168,2,none⟩) (by (rw [add_block];exact hn169_2)) (.int .i64 ((rd_T67 l0_1 x23_2).f2))).trans hx169_0;replace hx169_0:=(cell_far (p:=⟨gb168,3,none⟩) (by (rw [add_block];exact hn169_3)) (.int .i64 ((rd_T67 l0_1 x23_2).f3))).trans hx169_0;(try have hy169_0:=fun (n_ : Nat)=>(show ((((((w23.drewN n_).setCell ⟨gb168,0,none⟩ (.int .i64 ((rd_T67 l0_1 x23_2).f0))).setCell ⟨gb168,1,none⟩ (.int .i64 ((rd_T67 l0_1 x23_2).f1))).setCell ⟨gb168,2,none⟩ (.int .i64 ((rd_T67 l0_1 x23_2).f2))).setCell ⟨gb168,3,none⟩ (.int .i64 ((rd_T67 l0_1 x23_2).f3)))).cell? _ = some _ from hx169_0));clear hn169_0 hn169_1 hn169_2 hn169_3;replace p169:=eq_true p169;replace q169:=eq_true q169;have p170 : 0 ≤ (x23_2 : Int):=od_ (by (with_reducible assumption));have q170 : x23_2 < (l1.length : Int):=od_ (by (with_reducible assumption));obtain ⟨ad170,e170,hx170_0⟩:=Kd.at_int HR1.out x23_2 p170 q170;obtain rfl : ad169 = ad170:=(by injection e170);have hn170_0 : ad169.block ≠ gb168:=Nat.ne_of_lt (Nat.lt_of_lt_of_le (by have:=World.block_lt_of_cell? _ _ hx170_0;rwa [add_block] at this) GW168.out);have hn170_1 : ad169.block ≠ gb168:=Nat.ne_of_lt (Nat.lt_of_lt_of_le (by have:=World.block_lt_of_cell? _ _ hx170_0;rwa [add_block] at this) GW168.out);have hn170_2 : ad169.block ≠ gb168:=Nat.ne_of_lt (Nat.lt_of_lt_of_le (by have:=World.block_lt_of_cell? _ _ hx170_0;rwa [add_block] at this) GW168.out);have hn170_3 : ad169.block ≠ gb168:=Nat.ne_of_lt (Nat.lt_of_lt_of_le (by have:=World.block_lt_of_cell? _ _ hx170_0;rwa [add_block] at this) GW168.out);replace hx170_0:=kc_ HB.out hx170_0;replace hx170_0:=(cell_far (p:=⟨gb168,0,none⟩) (by (rw [add_block];exact hn170_0)) (.int .i64 ((rd_T67 l0_1 x23_2).f0))).trans hx170_0;replace hx170_0:=(cell_far (p:=⟨gb168,1,none⟩) (by (rw [add_block];exact hn170_1)) (.int .i64 ((rd_T67 l0_1 x23_2).f1))).trans hx170_0;replace hx170_0:=(cell_far (p:=⟨gb168,2,none⟩) (by (rw [add_block];exact hn170_2)) (.int .i64 ((rd_T67 l0_1 x23_2).f2))).trans hx170_0;replace hx170_0:=(cell_far (p:=⟨gb168,3,none⟩) (by (rw [add_block];exact hn170_3)) (.int .i64 ((rd_T67 l0_1 x23_2).f3))).trans hx170_0;(try have hy170_0:=fun (n_ : Nat)=>(show ((((((w23.drewN n_).setCell ⟨gb168,0,none⟩ (.int .i64 ((rd_T67 l0_1 x23_2).f0))).setCell ⟨gb168,1,none⟩ (.int .i64 ((rd_T67 l0_1 x23_2).f1))).setCell ⟨gb168,2,none⟩ (.int .i64 ((rd_T67 l0_1 x23_2).f2))).setCell ⟨gb168,3,none⟩ (.int .i64 ((rd_T67 l0_1 x23_2).f3)))).cell? _ = some _ from hx170_0));clear hn170_0 hn170_1 hn170_2 hn170_3;replace p170:=eq_true p170;replace q170:=eq_true q170))
       repeat (go_quiet (fail);try go_wp2_with (fail))
       go_ret
       exact ⟨by rfl,by repeat ((with_reducible first|exact HB.out|apply pw_below_drewN|refine below_set ?_ GE168.out))⟩
      rw [if_neg c22] at H
      have c22b0 : decide (((rd_T67 l0_1 x23_2).f2) < (rd l1 x23_2)) = false:=decide_eq_false c22
      clear c22
      have H':=am_ H
      clear H
      have p167 : 0 ≤ (x23_2 : Int):=od_ (by (with_reducible assumption))
      have q167 : x23_2 < (l0_1.length : Int):=od_ (by (with_reducible assumption))
      obtain ⟨ad167,e167,hx167_0,hx167_1,hx167_2,hx167_3⟩:=at_T67 HR0_1.out x23_2 p167 q167
      cases e167
      replace hx167_0:=kc_ HB.out hx167_0
      replace hx167_1:=kc_ HB.out hx167_1
      replace hx167_2:=kc_ HB.out hx167_2
      replace hx167_3:=kc_ HB.out hx167_3
      replace p167:=eq_true p167
      replace q167:=eq_true q167
      go_wp2_with (((with_reducible refine gate_dst (N:=6) rfl ?_);(try (refine gate_guard (by rfl) ?_;dsimp only));refine box_event ?hg (N:=6) ?hd (cs:=#[.int .i64 0,.int .i64 0,.int .i64 0,.int .i64 0]) (t:=67) ?hr ?_;(case hd=>rfl);(case hg=>rfl);(case hr=>(go_simp;done));intro gb168 hg w26 hbox hb;have n0_:=am_ (blk_below BK165.out hb);have n1_:=am_ (below_step HB.out hb);have n2_:=am_ (hbox);have n3_:=am_ ((by rw [hg];exact (below_size HB.out) : w.heap.size ≤ gb168));have n4_:=n3_;have n5_:=am_ ((by rw [hg];exact Nat.ne_of_lt (blk_lt (g:=gb165) (o:=.cells #[.int .i64 a0_0,.slice (some ad167) l0_1.length c0_1] 30 (0,0)) BK165.out) : gb165 ≠ gb168));have n6_:=am_ ((by rw [hg];exact Nat.ne_of_gt (blk_lt (g:=gb165) (o:=.cells #[.int .i64 a0_0,.slice (some ad167) l0_1.length c0_1] 30 (0,0)) BK165.out) : gb168 ≠ gb165));clear BK165 HB;have BK165:=n0_;have HB:=n1_;have BK168:=n2_;have GW168:=n3_;have GE168:=n4_;have NB165_168:=n5_;have NB168_165:=n6_;clear n0_ n1_ n2_ n3_ n4_ n5_ n6_ hb hbox hg;have hnb27:=NB168_165.out;have hnc27:=NB165_168.out;have hcz28_0 : w26.cell? ⟨gb168,0,none⟩ = some (.int .i64 0):=bc_ BK168.out 0;have hcz28_1 : w26.cell? ⟨gb168,1,none⟩ = some (.int .i64 0):=bc_ BK168.out 1;have hcz28_2 : w26.cell? ⟨gb168,2,none⟩ = some (.int .i64 0):=bc_ BK168.out 2;have hcz28_3 : w26.cell? ⟨gb168,3,none⟩ = some (.int .i64 0):=bc_ BK168.out 3;have hfz28_0:=blk_frozen BK168.out 0;have hfz28_1:=blk_frozen BK168.out 1;have hfz28_2:=blk_frozen BK168.out 2;have hfz28_3:=blk_frozen BK168.out 3;have p169 : 0 ≤ (x23_2 : Int):=od_ (by (with_reducible assumption));have q169 : x23_2 < (l1.length : Int):=od_ (by (with_reducible assumption));obtain ⟨ad169,e169,hx169_0⟩:=Kd.at_int HR1.out x23_2 p169 q169;cases e169;have hn169_0 : ad169.block ≠ gb168:=Nat.ne_of_lt (Nat.lt_of_lt_of_le (by have:=World.block_lt_of_cell? _ _ hx169_0;rwa [add_block] at this) GW168.out);have hn169_1 : ad169.block ≠ gb168:=Nat.ne_of_lt (Nat.lt_of_lt_of_le (by have:=World.block_lt_of_cell? _ _ hx169_0;rwa [add_block] at this) GW168.out);have hn169_2 : ad169.block ≠ gb168:=Nat.ne_of_lt (Nat.lt_of_lt_of_le (by have:=World.block_lt_of_cell? _ _ hx169_0;rwa [add_block] at this) GW168.out);have hn169_3 : ad169.block ≠ gb168:=Nat.ne_of_lt (Nat.lt_of_lt_of_le (by have:=World.block_lt_of_cell? _ _ hx169_0;rwa [add_block] at this) GW168.out);replace hx169_0:=kc_ HB.out hx169_0;replace hx169_0:=(cell_far (p:=⟨gb168,0,none⟩) (by (rw [add_block];exact hn169_0)) (.int .i64 ((rd_T67 l0_1 x23_2).f0))).trans hx169_0;replace hx169_0:=(cell_far (p:=⟨gb168,1,none⟩) (by (rw [add_block];exact hn169_1)) (.int .i64 ((rd_T67 l0_1 x23_2).f1))).trans hx169_0;replace hx169_0:=(cell_far (p:=⟨gb168,2,none⟩) (by (rw [add_block];exact hn169_2)) (.int .i64 ((rd_T67 l0_1 x23_2).f2))).trans hx169_0;replace hx169_0:=(cell_far (p:=⟨gb168,3,none⟩) (by (rw [add_block];exact hn169_3)) (.int .i64 ((rd_T67 l0_1 x23_2).f3))).trans hx169_0;(try have hy169_0:=fun (n_ : Nat)=>(show ((((((w26.drewN n_).setCell ⟨gb168,0,none⟩ (.int .i64 ((rd_T67 l0_1 x23_2).f0))).setCell ⟨gb168,1,none⟩ (.int .i64 ((rd_T67 l0_1 x23_2).f1))).setCell ⟨gb168,2,none⟩ (.int .i64 ((rd_T67 l0_1 x23_2).f2))).setCell ⟨gb168,3,none⟩ (.int .i64 ((rd_T67 l0_1 x23_2).f3)))).cell? _ = some _ from hx169_0));clear hn169_0 hn169_1 hn169_2 hn169_3;replace p169:=eq_true p169;replace q169:=eq_true q169;have p170 : 0 ≤ (x23_2 : Int):=od_ (by (with_reducible assumption));have q170 : x23_2 < (l1.length : Int):=od_ (by (with_reducible assumption));obtain ⟨ad170,e170,hx170_0⟩:=Kd.at_int HR1.out x23_2 p170 q170;obtain rfl : ad169 = ad170:=(by injection e170);have hn170_0 : ad169.block ≠ gb168:=Nat.ne_of_lt (Nat.lt_of_lt_of_le (by have:=World.block_lt_of_cell? _ _ hx170_0;rwa [add_block] at this) GW168.out);have hn170_1 : ad169.block ≠ gb168:=Nat.ne_of_lt (Nat.lt_of_lt_of_le (by have:=World.block_lt_of_cell? _ _ hx170_0;rwa [add_block] at this) GW168.out);have hn170_2 : ad169.block ≠ gb168:=Nat.ne_of_lt (Nat.lt_of_lt_of_le (by have:=World.block_lt_of_cell? _ _ hx170_0;rwa [add_block] at this) GW168.out);have hn170_3 : ad169.block ≠ gb168:=Nat.ne_of_lt (Nat.lt_of_lt_of_le (by have:=World.block_lt_of_cell? _ _ hx170_0;rwa [add_block] at this) GW168.out);replace hx170_0:=kc_ HB.out hx170_0;replace hx170_0:=(cell_far (p:=⟨gb168,0,none⟩) (by (rw [add_block];exact hn170_0)) (.int .i64 ((rd_T67 l0_1 x23_2).f0))).trans hx170_0;replace hx170_0:=(cell_far (p:=⟨gb168,1,none⟩) (by (rw [add_block];exact hn170_1)) (.int .i64 ((rd_T67 l0_1 x23_2).f1))).trans hx170_0;replace hx170_0:=(cell_far (p:=⟨gb168,2,none⟩) (by (rw [add_block];exact hn170_2)) (.int .i64 ((rd_T67 l0_1 x23_2).f2))).trans hx170_0;replace hx170_0:=(cell_far (p:=⟨gb168,3,none⟩) (by (rw [add_block];exact hn170_3)) (.int .i64 ((rd_T67 l0_1 x23_2).f3))).trans hx170_0;(try have hy170_0:=fun (n_ : Nat)=>(show ((((((w26.drewN n_).setCell ⟨gb168,0,none⟩ (.int .i64 ((rd_T67 l0_1 x23_2).f0))).setCell ⟨gb168,1,none⟩ (.int .i64 ((rd_T67 l0_1 x23_2).f1))).setCell ⟨gb168,2,none⟩ (.int .i64 ((rd_T67 l0_1 x23_2).f2))).setCell ⟨gb168,3,none⟩ (.int .i64 ((rd_T67 l0_1 x23_2).f3)))).cell? _ = some _ from hx170_0));clear hn170_0 hn170_1 hn170_2 hn170_3;replace p170:=eq_true p170;replace q170:=eq_true q170))
      repeat (go_quiet (fail);try go_wp2_with (fail))
      go_roundg k2
      case measure=>have:=HJ2.out;have:=HK2.out;omega
      case rel=>exact ⟨(wrap64 (x23_2 + 1)),(by rfl),H',⟨by have:=HJ2.out;have:=HK2.out;omega⟩,⟨by (with_reducible repeat (refine blk_drewN ?_ _));refine blk_far ?_ NB165_168.out _;refine blk_far ?_ NB165_168.out _;refine blk_far ?_ NB165_168.out _;refine blk_far ?_ NB165_168.out _;exact BK165.out⟩,⟨by repeat ((with_reducible first|exact HB.out|apply pw_below_drewN|refine below_set ?_ GE168.out))⟩⟩
     rw [if_neg c14] at H
     have c14b0 : decide (x23_2 < (l0_1.length : Int)) = false:=decide_eq_false c14
     clear c14
     replace H:=bs_ H
     obtain ⟨t171,A290,H⟩:=H
     replace H : (impl_FlowOk.l1 k2 t171 (t171.length : Int) 0) = some r:=H
     have A29:=am_ A290
     clear A290
     have H':=am_ H
     clear H
     have hcz30_0 : wr.cell? ⟨gb165,0,none⟩ = some (.int .i64 a0_0):=bc_ BK165.out 0
     have hcz30_1 : wr.cell? ⟨gb165,1,none⟩ = some (.slice A0_1 l0_1.length c0_1):=bc_ BK165.out 1
     have hfz30_0:=blk_frozen BK165.out 0
     have hfz30_1:=blk_frozen BK165.out 1
     go_wp2_with ((go_at_call 54;(with_reducible refine (impl_excess.calls k2 a0_0 _ _ l0_1 _ _ l1 t171 _ ?side1 ?side2 ?side3 ?side4 A29.out).mono ?_);(case side1=>exact (Kd.C_below HR0_1.out HB.out));(case side2=>exact HC0_1.out);(case side3=>exact (Kd.C_below HR1.out HB.out));(case side4=>exact HC1.out);rintro e w31 ⟨v172,rfl,ho0,hb⟩;have n0_:=am_ (Kd.R_lower ho0 (below_size HB.out));have n1_:=am_ (blk_below BK165.out hb);have n2_:=am_ (below_step HB.out hb);clear BK165 HB;have HO173:=n0_;have BK165:=n1_;have HB:=n2_;clear n0_ n1_ n2_;(try clear hb);(try clear ho0);obtain ⟨Ao32,co32,eo32⟩:=Kd.R_slice HO173.out;subst eo32))
     repeat (go_quiet (fail);try go_wp2_with (fail))
     go_loopg [47] k2 (fun kq v47 w'=>∃ (x47_3 : Int),v47 = .int .i64 x47_3 ∧ Aside0 (impl_FlowOk.l1 kq t171 (t171.length : Int) x47_3 = some r) ∧ Aside0 (kq ≤ k2) ∧ Aside0 (Kd.R (Kd.int .i64) 3 w' w.heap.size (fun _=>True) (.slice Ao32 t171.length co32) t171) ∧ Aside0 (w'.heap[gb165]? = some (.cells #[.int .i64 a0_0,(.slice A0_1 l0_1.length c0_1)] 30 (0,0))) ∧ Aside0 (Below w.heap.size w w'))
     case atStart=>exact ⟨(0),(by rfl),H',⟨Nat.le_refl _⟩,⟨by exact HO173.out⟩,⟨by exact BK165.out⟩,⟨by exact HB.out⟩⟩
     case round =>
      clear H'
      try clear c1
      try clear p1
      try clear q1
      try clear hx1
      try clear c2
      try clear p2
      try clear c3
      try clear c6
      try clear p6
      try clear c12
      try clear c14
      try clear c14b0
      try clear c15
      try clear c15b0
      try clear c16
      try clear c16b0
      try clear p16
      try clear q16
      try clear hx16
      try clear c17
      try clear c17b0
      try clear p17
      try clear q17
      try clear hx17
      try clear c18
      try clear c18b0
      try clear c20
      try clear c22
      try clear c22b0
      try clear c24
      try clear c27
      try clear c31
      try clear hcz10_0
      try clear hcz10_1
      try clear hcz13_0
      try clear hcz13_1
      try clear hcz21_0
      try clear hcz21_1
      try clear hcz21_2
      try clear hcz21_3
      try clear hcz25_0
      try clear hcz25_1
      try clear hcz25_2
      try clear hcz25_3
      try clear hcz28_0
      try clear hcz28_1
      try clear hcz28_2
      try clear hcz28_3
      try clear hcz30_0
      try clear hcz30_1
      try clear hcz7_0
      try clear hcz7_1
      try clear hcz9_0
      try clear hcz9_1
      try clear hfz10_0
      try clear hfz10_1
      try clear hfz13_0
      try clear hfz13_1
      try clear hfz21_0
      try clear hfz21_1
      try clear hfz21_2
      try clear hfz21_3
      try clear hfz25_0
      try clear hfz25_1
      try clear hfz25_2
      try clear hfz25_3
      try clear hfz28_0
      try clear hfz28_1
      try clear hfz28_2
      try clear hfz28_3
      try clear hfz30_0
      try clear hfz30_1
      try clear hfz7_0
      try clear hfz7_1
      try clear hfz9_0
      try clear hfz9_1
      try clear hx167_0
      try clear hx167_1
      try clear hx167_2
      try clear hx167_3
      try clear hx169_0
      try clear hx170_0
      try clear p167
      try clear p169
      try clear p170
      try clear p2
      try clear q167
      try clear q169
      try clear q170
      obtain ⟨x47_3,rfl,HA,HK3,HO_45,BK165,HB⟩:=hrel
      cases gk with
      | zero => exact absurd HA.out (by simp [impl_FlowOk.l1])
      | succ k3 =>
       have H:=HA.out
       clear HA
       simp only [impl_FlowOk.l1] at H
       by_cases c33 : x47_3 < (t171.length : Int)
       rotate_left
       ·rw [if_neg c33] at H
        have c33b0 : decide (x47_3 < (t171.length : Int)) = false:=decide_eq_false c33
        clear c33
        obtain rfl:=Option.some.inj H
        go_wp2
        repeat (go_quiet (fail);try go_wp2)
        go_ret
        exact ⟨by rfl,by exact HB.out⟩
       rw [if_pos c33] at H
       have c33b0 : decide (x47_3 < (t171.length : Int)) = true:=decide_eq_true c33
       clear c33
       by_cases c34 : 0 ≤ x47_3
       rotate_left
       ·rw [if_neg c34] at H
        exact absurd H (by simp)
       rw [if_pos c34] at H
       have c34b0 : decide (0 ≤ x47_3) = true:=decide_eq_true c34
       clear c34
       by_cases c35 : x47_3 < (t171.length : Int)
       rotate_left
       ·rw [if_neg c35] at H
        exact absurd H (by simp)
       rw [if_pos c35] at H
       have c35b0 : decide (x47_3 < (t171.length : Int)) = true:=decide_eq_true c35
       clear c35
       by_cases c36 : x47_3 > 1
       rotate_left
       ·rw [if_neg c36] at H
        have c36b0 : decide (1 < x47_3) = false:=decide_eq_false c36
        clear c36
        have H':=am_ H
        clear H
        have p174 : 0 ≤ (x47_3 : Int):=od_ (by (with_reducible assumption))
        have q174 : x47_3 < (t171.length : Int):=od_ (by (with_reducible assumption))
        obtain ⟨ad174,e174,hx174_0⟩:=Kd.at_int (Kd.R_reads' HO_45.out).2.2 x47_3 p174 q174
        cases e174
        replace p174:=eq_true p174
        replace q174:=eq_true q174
        go_wp2
        repeat (go_quiet (fail);try go_wp2)
        go_roundg k3
        case measure=>have:=HJ2.out;have:=HK2.out;have:=HK3.out;omega
        case rel=>exact ⟨(wrap64 (x47_3 + 1)),(by rfl),H',⟨by have:=HJ2.out;have:=HK2.out;have:=HK3.out;omega⟩,⟨by exact HO_45.out⟩,⟨by exact BK165.out⟩,⟨by exact HB.out⟩⟩
       rw [if_pos c36] at H
       have c36b0 : decide (1 < x47_3) = true:=decide_eq_true c36
       clear c36
       by_cases c37 : (rd t171 x47_3) = 0
       ·rw [if_pos c37] at H
        have c37b0 : ((rd t171 x47_3) == 0) = true:=beq_iff_eq.mpr c37
        have c37b1 : ((rd t171 x47_3) != 0) = false:=bne_eq_false_iff_eq.mpr c37
        clear c37
        have H':=am_ H
        clear H
        have p174 : 0 ≤ (x47_3 : Int):=od_ (by (with_reducible assumption))
        have q174 : x47_3 < (t171.length : Int):=od_ (by (with_reducible assumption))
        obtain ⟨ad174,e174,hx174_0⟩:=Kd.at_int (Kd.R_reads' HO_45.out).2.2 x47_3 p174 q174
        cases e174
        replace p174:=eq_true p174
        replace q174:=eq_true q174
        go_wp2
        repeat (go_quiet (fail);try go_wp2)
        go_roundg k3
        case measure=>have:=HJ2.out;have:=HK2.out;have:=HK3.out;omega
        case rel=>exact ⟨(wrap64 (x47_3 + 1)),(by rfl),H',⟨by have:=HJ2.out;have:=HK2.out;have:=HK3.out;omega⟩,⟨by exact HO_45.out⟩,⟨by exact BK165.out⟩,⟨by exact HB.out⟩⟩
       rw [if_neg c37] at H
       have c37b0 : ((rd t171 x47_3) == 0) = false:=beq_eq_false_iff_ne.mpr c37
       have c37b1 : ((rd t171 x47_3) != 0) = true:=bne_iff_ne.mpr c37
       obtain rfl:=Option.some.inj H
       have p174 : 0 ≤ (x47_3 : Int):=od_ (by (with_reducible assumption))
       have q174 : x47_3 < (t171.length : Int):=od_ (by (with_reducible assumption))
       obtain ⟨ad174,e174,hx174_0⟩:=Kd.at_int (Kd.R_reads' HO_45.out).2.2 x47_3 p174 q174
       cases e174
       replace p174:=eq_true p174
       replace q174:=eq_true q174
       go_wp2
       repeat (go_quiet (fail);try go_wp2)
       go_ret
       exact ⟨by rfl,by exact HB.out⟩

/-! ### impl_step_ends: function 55 -/
def impl_step_ends.f (a0_0 : Int) (a0_1 : Bool) (a1_0 : Int) (l1_1 : List (S67)) : Option (Int × Int):=if 0 ≤ a0_0 then (if a0_0 < (l1_1.length : Int) then (if a0_1 = true then (some ((rd_T67 l1_1 a0_0).f1,(rd_T67 l1_1 a0_0).f0)) else (some ((rd_T67 l1_1 a0_0).f0,(rd_T67 l1_1 a0_0).f1))) else (none)) else (none)
set_option maxHeartbeats 8000000 in
set_option maxRecDepth 100000 in
theorem impl_step_ends.calls (a0_0 : Int) (a0_1 : Bool) (a1_0 : Int) (A1_1 : Option Addr) (c1_1 : Nat) (l1_1 : List (S67)) (r1 : Int) (r2 : Int) (w : World) (hr1_1 : Kd.C k67 w A1_1 l1_1.length l1_1) (hc1_1 : l1_1.length ≤ c1_1) (h : impl_step_ends.f a0_0 a0_1 a1_0 l1_1 = some (r1,r2)) :
  Calls Try.prog 55 #[.agg #[.int .i64 a0_0,.bool a0_1],.agg #[.int .i64 a1_0,.slice A1_1 l1_1.length c1_1]] w fun e w'=>e = .returned (.tuple #[.int .i64 r1,.int .i64 r2]) ∧ Below w.heap.size w w':=by
 have hu79:=Try.underlying79
 have hu30:=Try.underlying30
 have hu67:=Try.underlying67
 have HR1_1:=am_ hr1_1
 have HC1_1:=am_ hc1_1
 clear hr1_1 hc1_1
 have HB:=am_ (Below.refl w.heap.size w)
 have H : (if 0 ≤ a0_0 then (if a0_0 < (l1_1.length : Int) then (if a0_1 = true then (some ((rd_T67 l1_1 a0_0).f1,(rd_T67 l1_1 a0_0).f0)) else (some ((rd_T67 l1_1 a0_0).f0,(rd_T67 l1_1 a0_0).f1))) else (none)) else (none)) = some (r1,r2):=h
 clear h
 by_cases c3 : 0 ≤ a0_0
 rotate_left
 ·rw [if_neg c3] at H
  exact absurd H (by simp)
 rw [if_pos c3] at H
 have c3b0 : decide (0 ≤ a0_0) = true:=decide_eq_true c3
 clear c3
 by_cases c4 : a0_0 < (l1_1.length : Int)
 rotate_left
 ·rw [if_neg c4] at H
  exact absurd H (by simp)
 rw [if_pos c4] at H
 have c4b0 : decide (a0_0 < (l1_1.length : Int)) = true:=decide_eq_true c4
 clear c4
 by_cases c5 : a0_1 = true
 ·subst c5
  have H1 : (some ((rd_T67 l1_1 a0_0).f1,(rd_T67 l1_1 a0_0).f0)) = some (r1,r2):=by rw [if_pos rfl] at H;exact H
  clear H
  have H:=H1
  clear H1
  simp only [Option.some.injEq,Prod.mk.injEq] at H
  obtain ⟨rfl,rfl⟩:=H
  go_enter Try.func55,Try.ntmps55
  go_wp2_with (first|((with_reducible refine gate_dst (N:=2) rfl ?_);refine box_event ?hg (N:=2) ?hd (cs:=#[.int .i64 a0_0,.bool true]) (t:=79) ?hr ?_;(case hd=>rfl);(case hg=>rfl);(case hr=>(go_simp;done));intro gb185 hg w6 hbox hb;have n0_:=am_ (below_step HB.out hb);have n1_:=am_ (hbox);have n2_:=am_ ((by rw [hg];exact (below_size HB.out) : w.heap.size ≤ gb185));have n3_:=n2_;clear HB;have HB:=n0_;have BK185:=n1_;have GW185:=n2_;have GE185:=n3_;clear n0_ n1_ n2_ n3_ hb hbox hg)|((with_reducible refine gate_dst (N:=3) rfl ?_);refine box_event ?hg (N:=3) ?hd (cs:=#[.int .i64 a1_0,.slice A1_1 l1_1.length c1_1]) (t:=30) ?hr ?_;(case hd=>rfl);(case hg=>rfl);(case hr=>(go_simp;done));intro gb186 hg w7 hbox hb;have n0_:=am_ (blk_below BK185.out hb);have n1_:=am_ (below_step HB.out hb);have n2_:=am_ (hbox);have n3_:=am_ ((by rw [hg];exact (below_size HB.out) : w.heap.size ≤ gb186));have n4_:=n3_;have n5_:=am_ ((by rw [hg];exact Nat.ne_of_lt (blk_lt (g:=gb185) (o:=.cells #[.int .i64 a0_0,.bool true] 79 (0,0)) BK185.out) : gb185 ≠ gb186));have n6_:=am_ ((by rw [hg];exact Nat.ne_of_gt (blk_lt (g:=gb185) (o:=.cells #[.int .i64 a0_0,.bool true] 79 (0,0)) BK185.out) : gb186 ≠ gb185));clear BK185 HB;have BK185:=n0_;have HB:=n1_;have BK186:=n2_;have GW186:=n3_;have GE186:=n4_;have NB185_186:=n5_;have NB186_185:=n6_;clear n0_ n1_ n2_ n3_ n4_ n5_ n6_ hb hbox hg;have hnb8:=NB186_185.out;have hnc8:=NB185_186.out;have hcz9_0 : w7.cell? ⟨gb186,0,none⟩ = some (.int .i64 a1_0):=bc_ BK186.out 0;have hcz9_1 : w7.cell? ⟨gb186,1,none⟩ = some (.slice A1_1 l1_1.length c1_1):=bc_ BK186.out 1;have hfz9_0:=blk_frozen BK186.out 0;have hfz9_1:=blk_frozen BK186.out 1;have hcz10_0 : w7.cell? ⟨gb185,0,none⟩ = some (.int .i64 a0_0):=bc_ BK185.out 0;have hcz10_1 : w7.cell? ⟨gb185,1,none⟩ = some (.bool true):=bc_ BK185.out 1;have hfz10_0:=blk_frozen BK185.out 0;have hfz10_1:=blk_frozen BK185.out 1;have p187 : 0 ≤ (a0_0 : Int):=od_ (by (with_reducible assumption));have q187 : a0_0 < (l1_1.length : Int):=od_ (by (with_reducible assumption));obtain ⟨ad187,e187,hx187_0,hx187_1,hx187_2,hx187_3⟩:=at_T67 HR1_1.out a0_0 p187 q187;cases e187;replace hx187_0:=kc_ HB.out hx187_0;replace hx187_1:=kc_ HB.out hx187_1;replace hx187_2:=kc_ HB.out hx187_2;replace hx187_3:=kc_ HB.out hx187_3;replace p187:=eq_true p187;replace q187:=eq_true q187)|((with_reducible refine gate_dst (N:=6) rfl ?_);refine box_event ?hg (N:=6) ?hd (cs:=#[.int .i64 0,.int .i64 0,.int .i64 0,.int .i64 0]) (t:=67) ?hr ?_;(case hd=>rfl);(case hg=>rfl);(case hr=>(go_simp;done));intro gb188 hg w11 hbox hb;have n0_:=am_ (blk_below BK185.out hb);have n1_:=am_ (blk_below BK186.out hb);have n2_:=am_ (below_step HB.out hb);have n3_:=am_ (hbox);have n4_:=am_ ((by rw [hg];exact (below_size HB.out) : w.heap.size ≤ gb188));have n5_:=n4_;have n6_:=am_ ((by rw [hg];exact Nat.ne_of_lt (blk_lt (g:=gb185) (o:=.cells #[.int .i64 a0_0,.bool true] 79 (0,0)) BK185.out) : gb185 ≠ gb188));have n7_:=am_ ((by rw [hg];exact Nat.ne_of_gt (blk_lt (g:=gb185) (o:=.cells #[.int .i64 a0_0,.bool true] 79 (0,0)) BK185.out) : gb188 ≠ gb185));have n8_:=am_ ((by rw [hg];exact Nat.ne_of_lt (blk_lt (g:=gb186) (o:=.cells #[.int .i64 a1_0,.slice (some ad187) l1_1.length c1_1] 30 (0,0)) BK186.out) : gb186 ≠ gb188));have n9_:=am_ ((by rw [hg];exact Nat.ne_of_gt (blk_lt (g:=gb186) (o:=.cells #[.int .i64 a1_0,.slice (some ad187) l1_1.length c1_1] 30 (0,0)) BK186.out) : gb188 ≠ gb186));clear BK185 BK186 HB;have BK185:=n0_;have BK186:=n1_;have HB:=n2_;have BK188:=n3_;have GW188:=n4_;have GE188:=n5_;have NB185_188:=n6_;have NB188_185:=n7_;have NB186_188:=n8_;have NB188_186:=n9_;clear n0_ n1_ n2_ n3_ n4_ n5_ n6_ n7_ n8_ n9_ hb hbox hg;have hnb12:=NB188_185.out;have hnc12:=NB185_188.out;have hnb13:=NB188_186.out;have hnc13:=NB186_188.out;have hcz14_0 : w11.cell? ⟨gb188,0,none⟩ = some (.int .i64 0):=bc_ BK188.out 0;have hcz14_1 : w11.cell? ⟨gb188,1,none⟩ = some (.int .i64 0):=bc_ BK188.out 1;have hcz14_2 : w11.cell? ⟨gb188,2,none⟩ = some (.int .i64 0):=bc_ BK188.out 2;have hcz14_3 : w11.cell? ⟨gb188,3,none⟩ = some (.int .i64 0):=bc_ BK188.out 3;have hfz14_0:=blk_frozen BK188.out 0;have hfz14_1:=blk_frozen BK188.out 1;have hfz14_2:=blk_frozen BK188.out 2;have hfz14_3:=blk_frozen BK188.out 3;have hcz15_0 : w11.cell? ⟨gb185,0,none⟩ = some (.int .i64 a0_0):=bc_ BK185.out 0;have hcz15_1 : w11.cell? ⟨gb185,1,none⟩ = some (.bool true):=bc_ BK185.out 1;have hfz15_0:=blk_frozen BK185.out 0;have hfz15_1:=blk_frozen BK185.out 1))
  repeat (go_quiet (fail);try go_wp2_with (fail))
  go_ret2
  exact ⟨by rfl,by repeat ((with_reducible first|exact HB.out|apply pw_below_drewN|refine below_set ?_ GE188.out))⟩
 replace c5:=Bool.eq_false_iff.mpr c5
 subst c5
 have H1 : (some ((rd_T67 l1_1 a0_0).f0,(rd_T67 l1_1 a0_0).f1)) = some (r1,r2):=by rw [if_neg (show ¬ (false = true) by decide)] at H;exact H
 clear H
 have H:=H1
 clear H1
 simp only [Option.some.injEq,Prod.mk.injEq] at H
 obtain ⟨rfl,rfl⟩:=H
 go_enter Try.func55,Try.ntmps55
 go_wp2_with (first|((with_reducible refine gate_dst (N:=2) rfl ?_);refine box_event ?hg (N:=2) ?hd (cs:=#[.int .i64 a0_0,.bool false]) (t:=79) ?hr ?_;(case hd=>rfl);(case hg=>rfl);(case hr=>(go_simp;done));intro gb185 hg w16 hbox hb;have n0_:=am_ (below_step HB.out hb);have n1_:=am_ (hbox);have n2_:=am_ ((by rw [hg];exact (below_size HB.out) : w.heap.size ≤ gb185));have n3_:=n2_;clear HB;have HB:=n0_;have BK185:=n1_;have GW185:=n2_;have GE185:=n3_;clear n0_ n1_ n2_ n3_ hb hbox hg)|((with_reducible refine gate_dst (N:=3) rfl ?_);refine box_event ?hg (N:=3) ?hd (cs:=#[.int .i64 a1_0,.slice A1_1 l1_1.length c1_1]) (t:=30) ?hr ?_;(case hd=>rfl);(case hg=>rfl);(case hr=>(go_simp;done));intro gb186 hg w17 hbox hb;have n0_:=am_ (blk_below BK185.out hb);have n1_:=am_ (below_step HB.out hb);have n2_:=am_ (hbox);have n3_:=am_ ((by rw [hg];exact (below_size HB.out) : w.heap.size ≤ gb186));have n4_:=n3_;have n5_:=am_ ((by rw [hg];exact Nat.ne_of_lt (blk_lt (g:=gb185) (o:=.cells #[.int .i64 a0_0,.bool false] 79 (0,0)) BK185.out) : gb185 ≠ gb186));have n6_:=am_ ((by rw [hg];exact Nat.ne_of_gt (blk_lt (g:=gb185) (o:=.cells #[.int .i64 a0_0,.bool false] 79 (0,0)) BK185.out) : gb186 ≠ gb185));clear BK185 HB;have BK185:=n0_;have HB:=n1_;have BK186:=n2_;have GW186:=n3_;have GE186:=n4_;have NB185_186:=n5_;have NB186_185:=n6_;clear n0_ n1_ n2_ n3_ n4_ n5_ n6_ hb hbox hg;have hnb18:=NB186_185.out;have hnc18:=NB185_186.out;have hcz19_0 : w17.cell? ⟨gb186,0,none⟩ = some (.int .i64 a1_0):=bc_ BK186.out 0;have hcz19_1 : w17.cell? ⟨gb186,1,none⟩ = some (.slice A1_1 l1_1.length c1_1):=bc_ BK186.out 1;have hfz19_0:=blk_frozen BK186.out 0;have hfz19_1:=blk_frozen BK186.out 1;have hcz20_0 : w17.cell? ⟨gb185,0,none⟩ = some (.int .i64 a0_0):=bc_ BK185.out 0;have hcz20_1 : w17.cell? ⟨gb185,1,none⟩ = some (.bool false):=bc_ BK185.out 1;have hfz20_0:=blk_frozen BK185.out 0;have hfz20_1:=blk_frozen BK185.out 1;have p187 : 0 ≤ (a0_0 : Int):=od_ (by (with_reducible assumption));have q187 : a0_0 < (l1_1.length : Int):=od_ (by (with_reducible assumption));obtain ⟨ad187,e187,hx187_0,hx187_1,hx187_2,hx187_3⟩:=at_T67 HR1_1.out a0_0 p187 q187;cases e187;replace hx187_0:=kc_ HB.out hx187_0;replace hx187_1:=kc_ HB.out hx187_1;replace hx187_2:=kc_ HB.out hx187_2;replace hx187_3:=kc_ HB.out hx187_3;replace p187:=eq_true p187;replace q187:=eq_true q187)|((with_reducible refine gate_dst (N:=6) rfl ?_);refine box_event ?hg (N:=6) ?hd (cs:=#[.int .i64 0,.int .i64 0,.int .i64 0,.int .i64 0]) (t:=67) ?hr ?_;(case hd=>rfl);(case hg=>rfl);(case hr=>(go_simp;done));intro gb188 hg w21 hbox hb;have n0_:=am_ (blk_below BK185.out hb);have n1_:=am_ (blk_below BK186.out hb);have n2_:=am_ (below_step HB.out hb);have n3_:=am_ (hbox);have n4_:=am_ ((by rw [hg];exact (below_size HB.out) : w.heap.size ≤ gb188));have n5_:=n4_;have n6_:=am_ ((by rw [hg];exact Nat.ne_of_lt (blk_lt (g:=gb185) (o:=.cells #[.int .i64 a0_0,.bool false] 79 (0,0)) BK185.out) : gb185 ≠ gb188));have n7_:=am_ ((by rw [hg];exact Nat.ne_of_gt (blk_lt (g:=gb185) (o:=.cells #[.int .i64 a0_0,.bool false] 79 (0,0)) BK185.out) : gb188 ≠ gb185));have n8_:=am_ ((by rw [hg];exact Nat.ne_of_lt (blk_lt (g:=gb186) (o:=.cells #[.int .i64 a1_0,.slice (some ad187) l1_1.length c1_1] 30 (0,0)) BK186.out) : gb186 ≠ gb188));have n9_:=am_ ((by rw [hg];exact Nat.ne_of_gt (blk_lt (g:=gb186) (o:=.cells #[.int .i64 a1_0,.slice (some ad187) l1_1.length c1_1] 30 (0,0)) BK186.out) : gb188 ≠ gb186));clear BK185 BK186 HB;have BK185:=n0_;have BK186:=n1_;have HB:=n2_;have BK188:=n3_;have GW188:=n4_;have GE188:=n5_;have NB185_188:=n6_;have NB188_185:=n7_;have NB186_188:=n8_;have NB188_186:=n9_;clear n0_ n1_ n2_ n3_ n4_ n5_ n6_ n7_ n8_ n9_ hb hbox hg;have hnb22:=NB188_185.out;have hnc22:=NB185_188.out;have hnb23:=NB188_186.out;have hnc23:=NB186_188.out;have hcz24_0 : w21.cell? ⟨gb188,0,none⟩ = some (.int .i64 0):=bc_ BK188.out 0;have hcz24_1 : w21.cell? ⟨gb188,1,none⟩ = some (.int .i64 0):=bc_ BK188.out 1;have hcz24_2 : w21.cell? ⟨gb188,2,none⟩ = some (.int .i64 0):=bc_ BK188.out 2;have hcz24_3 : w21.cell? ⟨gb188,3,none⟩ = some (.int .i64 0):=bc_ BK188.out 3;have hfz24_0:=blk_frozen BK188.out 0;have hfz24_1:=blk_frozen BK188.out 1;have hfz24_2:=blk_frozen BK188.out 2;have hfz24_3:=blk_frozen BK188.out 3;have hcz25_0 : w21.cell? ⟨gb185,0,none⟩ = some (.int .i64 a0_0):=bc_ BK185.out 0;have hcz25_1 : w21.cell? ⟨gb185,1,none⟩ = some (.bool false):=bc_ BK185.out 1;have hfz25_0:=blk_frozen BK185.out 0;have hfz25_1:=blk_frozen BK185.out 1))
 repeat (go_quiet (fail);try go_wp2_with (fail))
 go_ret2
 exact ⟨by rfl,by repeat ((with_reducible first|exact HB.out|apply pw_below_drewN|refine below_set ?_ GE188.out))⟩

end Go.Proofs.Ytgkpgigoonhgdaa.PFnMostCut
