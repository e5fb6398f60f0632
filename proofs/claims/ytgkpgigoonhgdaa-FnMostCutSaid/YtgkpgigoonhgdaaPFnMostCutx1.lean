-- Made by the session's wip/pp.py, a changed call of the kit's printer; Lean checks it.
import Derived.Test.YtgkpgigoonhgdaaPFnMostCutx0
namespace Go.Proofs.Ytgkpgigoonhgdaa.PFnMostCut
open Go.RowKit Go.Proofs.YtgkpgigoonhgdaaW.PrintWords Go.Proofs.YtgkpgigoonhgdaaW.PrintLast Go.Proofs.YtgkpgigoonhgdaaW.PrintMore
attribute [local go_sem] max2_int min2_int max_two min_two max_three min_three max_four min_four   -- for this text's walks alone
set_option linter.unusedVariables false
set_option linter.unusedSimpArgs false


/-! ### impl_NetOk: function 53 -/
mutual
def impl_NetOk.j0 : Nat → Bool → Int → List (S67) → Option (Bool)
 | 0, _, _, _ => none
 | k + 1, x18, x151000, x151001 => if x18 = true then (some false) else (impl_NetOk.l0 k x151001 (x151001.length : Int) 0 x151000 x151001)
def impl_NetOk.l0 : Nat → List (S67) → Int → Int → Int → List (S67) → Option (Bool)
 | 0, _, _, _, _, _ => none
 | k + 1, x20, x21, x22, x151000, x151001 => if x22 < x21 then (if 0 ≤ x22 then (if x22 < (x20.length : Int) then (if ((rd_T67 x20 x22).f0) < 0 then (impl_NetOk.j2 k x20 x21 x22 true x151000 x151001 ((rd_T67 x20 x22).f0) ((rd_T67 x20 x22).f1) ((rd_T67 x20 x22).f2) ((rd_T67 x20 x22).f3)) else (if ((rd_T67 x20 x22).f0) ≥ x151000 then (impl_NetOk.j2 k x20 x21 x22 true x151000 x151001 ((rd_T67 x20 x22).f0) ((rd_T67 x20 x22).f1) ((rd_T67 x20 x22).f2) ((rd_T67 x20 x22).f3)) else (if ((rd_T67 x20 x22).f1) < 0 then (impl_NetOk.j2 k x20 x21 x22 true x151000 x151001 ((rd_T67 x20 x22).f0) ((rd_T67 x20 x22).f1) ((rd_T67 x20 x22).f2) ((rd_T67 x20 x22).f3)) else (if ((rd_T67 x20 x22).f1) ≥ x151000 then (impl_NetOk.j2 k x20 x21 x22 true x151000 x151001 ((rd_T67 x20 x22).f0) ((rd_T67 x20 x22).f1) ((rd_T67 x20 x22).f2) ((rd_T67 x20 x22).f3)) else (impl_NetOk.j2 k x20 x21 x22 (((rd_T67 x20 x22).f0) == ((rd_T67 x20 x22).f1)) x151000 x151001 ((rd_T67 x20 x22).f0) ((rd_T67 x20 x22).f1) ((rd_T67 x20 x22).f2) ((rd_T67 x20 x22).f3)))))) else (none)) else (none)) else (some true)
def impl_NetOk.j2 : Nat → List (S67) → Int → Int → Bool → Int → List (S67) → Int → Int → Int → Int → Option (Bool)
 | 0, _, _, _, _, _, _, _, _, _, _ => none
 | k + 1, x20, x21, x22, x54, x151000, x151001, x153000, x153001, x153002, x153003 => if x54 = true then (some false) else (if x153002 < 0 then (some false) else (if x153002 > 20 then (some false) else (if x153003 < 0 then (some false) else (if x153003 > 100 then (some false) else (impl_NetOk.l0 k x20 x21 (wrap64 (x22 + 1)) x151000 x151001)))))
end
def impl_NetOk.f (k : Nat) (a0_0 : Int) (l0_1 : List (S67)) : Option (Bool):=if a0_0 < 2 then (impl_NetOk.j0 k true a0_0 l0_1) else (if a0_0 > 1500 then (impl_NetOk.j0 k true a0_0 l0_1) else (impl_NetOk.j0 k (decide ((l0_1.length : Int) > 3200)) a0_0 l0_1))
theorem impl_NetOk.mono_l : ∀ k,(∀ y0 y1 y2,LeO (impl_NetOk.j0 k y0 y1 y2) (impl_NetOk.j0 (k + 1) y0 y1 y2)) ∧ (∀ y0 y1 y2 y3 y4,LeO (impl_NetOk.l0 k y0 y1 y2 y3 y4) (impl_NetOk.l0 (k + 1) y0 y1 y2 y3 y4)) ∧ (∀ y0 y1 y2 y3 y4 y5 y6 y7 y8 y9,LeO (impl_NetOk.j2 k y0 y1 y2 y3 y4 y5 y6 y7 y8 y9) (impl_NetOk.j2 (k + 1) y0 y1 y2 y3 y4 y5 y6 y7 y8 y9))
 | 0 => ⟨fun _ _ _ r h => by simp [impl_NetOk.j0] at h, fun _ _ _ _ _ r h => by simp [impl_NetOk.l0] at h, fun _ _ _ _ _ _ _ _ _ _ r h => by simp [impl_NetOk.j2] at h⟩
 | k + 1 => by
  obtain ⟨ih0,ih1,ih2⟩:=impl_NetOk.mono_l k
  refine ⟨?_,?_,?_⟩
  ·intro y0 y1 y2
   unfold impl_NetOk.j0
   repeat' first
   | (with_reducible exact ih1 _ _ _ _ _)
   | (with_reducible exact LeO.refl _)
   | (with_reducible refine LeO.ite ?_ ?_)
  ·intro y0 y1 y2 y3 y4
   unfold impl_NetOk.l0
   repeat' first
   | (with_reducible exact ih2 _ _ _ _ _ _ _ _ _ _)
   | (with_reducible exact LeO.refl _)
   | (with_reducible refine LeO.ite ?_ ?_)
  ·intro y0 y1 y2 y3 y4 y5 y6 y7 y8 y9
   unfold impl_NetOk.j2
   repeat' first
   | (with_reducible exact ih1 _ _ _ _ _)
   | (with_reducible exact LeO.refl _)
   | (with_reducible refine LeO.ite ?_ ?_)
theorem impl_NetOk.mono : ∀ a0 a1 k,LeO (impl_NetOk.f k a0 a1) (impl_NetOk.f (k + 1) a0 a1):=by
 intro a0 a1 k
 obtain ⟨ih0,ih1,ih2⟩:=impl_NetOk.mono_l k
 unfold impl_NetOk.f
 repeat' first
   | (with_reducible exact ih0 _ _ _)
   | (with_reducible refine LeO.ite ?_ ?_)
set_option maxHeartbeats 8000000 in
set_option maxRecDepth 100000 in
theorem impl_NetOk.calls (k : Nat) (a0_0 : Int) (A0_1 : Option Addr) (c0_1 : Nat) (l0_1 : List (S67)) (r : Bool) (w : World) (hr0_1 : Kd.C k67 w A0_1 l0_1.length l0_1) (hc0_1 : l0_1.length ≤ c0_1) (h : impl_NetOk.f k a0_0 l0_1 = some r) :
  Calls Try.prog 53 #[.agg #[.int .i64 a0_0,.slice A0_1 l0_1.length c0_1]] w fun e w'=>e = .returned (.bool r) ∧ Below w.heap.size w w':=by
 have hu30:=Try.underlying30
 have hu67:=Try.underlying67
 have HR0_1:=am_ hr0_1
 have HC0_1:=am_ hc0_1
 clear hr0_1 hc0_1
 have HB:=am_ (Below.refl w.heap.size w)
 have H : (if a0_0 < 2 then (impl_NetOk.j0 k true a0_0 l0_1) else (if a0_0 > 1500 then (impl_NetOk.j0 k true a0_0 l0_1) else (impl_NetOk.j0 k (decide ((l0_1.length : Int) > 3200)) a0_0 l0_1))) = some r:=h
 clear h
 have HC2:=am_ H
 clear H
 go_enter Try.func53,Try.ntmps53
 go_upto_region 1 with (((with_reducible refine gate_dst (N:=1) rfl ?_);(try (refine gate_guard (by rfl) ?_;dsimp only));refine box_event ?hg (N:=1) ?hd (cs:=#[.int .i64 a0_0,.slice A0_1 l0_1.length c0_1]) (t:=30) ?hr ?_;(case hd=>rfl);(case hg=>rfl);(case hr=>(go_simp;done));intro gb150 hg w3 hbox hb;have n0_:=am_ (below_step HB.out hb);have n1_:=am_ (hbox);have n2_:=am_ ((by rw [hg];exact (below_size HB.out) : w.heap.size ≤ gb150));have n3_:=n2_;clear HB;have HB:=n0_;have BK150:=n1_;have GW150:=n2_;have GE150:=n3_;clear n0_ n1_ n2_ n3_ hb hbox hg))
 (skip)
 go_cut [18] (fun v18 wc=>∃ (kq : Nat) (x18_1 : Bool),v18 = .bool x18_1 ∧ Aside0 (impl_NetOk.j0 kq x18_1 a0_0 l0_1 = some r) ∧ Aside0 (kq ≤ k) ∧ Aside0 (wc.heap[gb150]? = some (.cells #[.int .i64 a0_0,(.slice A0_1 l0_1.length c0_1)] 30 (0,0))) ∧ Aside0 (Below w.heap.size w wc))
 case first =>
  have H:=HC2.out
  clear HC2
  by_cases c4 : a0_0 < 2
  ·rw [if_pos c4] at H
   have c4b0 : decide (a0_0 < 2) = true:=decide_eq_true c4
   clear c4
   (skip)
   have H':=am_ H
   clear H
   have hcz5_0 : w3.cell? ⟨gb150,0,none⟩ = some (.int .i64 a0_0):=bc_ BK150.out 0
   have hcz5_1 : w3.cell? ⟨gb150,1,none⟩ = some (.slice A0_1 l0_1.length c0_1):=bc_ BK150.out 1
   have hfz5_0:=blk_frozen BK150.out 0
   have hfz5_1:=blk_frozen BK150.out 1
   go_wp2
   go_meet
   case rel=>exact ⟨_,(true),(by rfl),H',⟨by omega⟩,⟨by exact BK150.out⟩,⟨by exact HB.out⟩⟩
  rw [if_neg c4] at H
  have c4b0 : decide (a0_0 < 2) = false:=decide_eq_false c4
  clear c4
  (skip)
  by_cases c6 : a0_0 > 1500
  ·rw [if_pos c6] at H
   have c6b0 : decide (1500 < a0_0) = true:=decide_eq_true c6
   clear c6
   have H':=am_ H
   clear H
   have hcz7_0 : w3.cell? ⟨gb150,0,none⟩ = some (.int .i64 a0_0):=bc_ BK150.out 0
   have hcz7_1 : w3.cell? ⟨gb150,1,none⟩ = some (.slice A0_1 l0_1.length c0_1):=bc_ BK150.out 1
   have hfz7_0:=blk_frozen BK150.out 0
   have hfz7_1:=blk_frozen BK150.out 1
   go_wp2
   go_meet
   case rel=>exact ⟨_,(true),(by rfl),H',⟨by omega⟩,⟨by exact BK150.out⟩,⟨by exact HB.out⟩⟩
  rw [if_neg c6] at H
  have c6b0 : decide (1500 < a0_0) = false:=decide_eq_false c6
  clear c6
  have H':=am_ H
  clear H
  have hcz8_0 : w3.cell? ⟨gb150,0,none⟩ = some (.int .i64 a0_0):=bc_ BK150.out 0
  have hcz8_1 : w3.cell? ⟨gb150,1,none⟩ = some (.slice A0_1 l0_1.length c0_1):=bc_ BK150.out 1
  have hfz8_0:=blk_frozen BK150.out 0
  have hfz8_1:=blk_frozen BK150.out 1
  go_wp2
  go_meet
  case rel=>exact ⟨_,(decide ((l0_1.length : Int) > 3200)),(by rfl),H',⟨by omega⟩,⟨by exact BK150.out⟩,⟨by exact HB.out⟩⟩
 case rest =>
  clear HC2
  try clear p2
  try clear c4
  try clear c4b0
  try clear c5
  try clear c6
  try clear c6b0
  try clear hcz5_0
  try clear hcz5_1
  try clear hcz7_0
  try clear hcz7_1
  try clear hcz8_0
  try clear hcz8_1
  try clear hfz5_0
  try clear hfz5_1
  try clear hfz7_0
  try clear hfz7_1
  try clear hfz8_0
  try clear hfz8_1
  obtain ⟨kq,x18_1,rfl,HA,HJ1,BK150,HB⟩:=hcut
  cases kq with
  | zero => exact absurd HA.out (by simp [impl_NetOk.j0])
  | succ kj1 =>
   have H:=HA.out
   clear HA
   simp only [impl_NetOk.j0] at H
   by_cases c9 : x18_1 = true
   ·subst c9
    have H1 : (some false) = some r:=by rw [if_pos rfl] at H;exact H
    clear H
    have H:=H1
    clear H1
    obtain rfl:=Option.some.inj H
    go_wp2
    go_ret
    exact ⟨by rfl,by exact HB.out⟩
   replace c9:=Bool.eq_false_iff.mpr c9
   subst c9
   have H1 : (impl_NetOk.l0 kj1 l0_1 (l0_1.length : Int) 0 a0_0 l0_1) = some r:=by rw [if_neg (show ¬ (false = true) by decide)] at H;exact H
   clear H
   have H:=H1
   clear H1
   have H':=am_ H
   clear H
   have hcz10_0 : wc.cell? ⟨gb150,0,none⟩ = some (.int .i64 a0_0):=bc_ BK150.out 0
   have hcz10_1 : wc.cell? ⟨gb150,1,none⟩ = some (.slice A0_1 l0_1.length c0_1):=bc_ BK150.out 1
   have hfz10_0:=blk_frozen BK150.out 0
   have hfz10_1:=blk_frozen BK150.out 1
   go_wp2
   go_loopg [22] kj1 (fun kq v22 w'=>∃ (x22_2 : Int),v22 = .int .i64 x22_2 ∧ Aside0 (impl_NetOk.l0 kq l0_1 (l0_1.length : Int) x22_2 a0_0 l0_1 = some r) ∧ Aside0 (kq ≤ kj1) ∧ Aside0 (w'.heap[gb150]? = some (.cells #[.int .i64 a0_0,(.slice A0_1 l0_1.length c0_1)] 30 (0,0))) ∧ Aside0 (Below w.heap.size w w'))
   case atStart=>exact ⟨(0),(by rfl),H',⟨Nat.le_refl _⟩,⟨by exact BK150.out⟩,⟨by exact HB.out⟩⟩
   case round =>
    clear H'
    try clear p2
    try clear c4
    try clear c4b0
    try clear c5
    try clear c6
    try clear c6b0
    try clear c9
    try clear hcz10_0
    try clear hcz10_1
    try clear hcz5_0
    try clear hcz5_1
    try clear hcz7_0
    try clear hcz7_1
    try clear hcz8_0
    try clear hcz8_1
    try clear hfz10_0
    try clear hfz10_1
    try clear hfz5_0
    try clear hfz5_1
    try clear hfz7_0
    try clear hfz7_1
    try clear hfz8_0
    try clear hfz8_1
    try clear p2
    obtain ⟨x22_2,rfl,HA,HK2,BK150,HB⟩:=hrel
    cases gk with
    | zero => exact absurd HA.out (by simp [impl_NetOk.l0])
    | succ k2 =>
     have H:=HA.out
     clear HA
     simp only [impl_NetOk.l0] at H
     by_cases c11 : x22_2 < (l0_1.length : Int)
     rotate_left
     ·rw [if_neg c11] at H
      have c11b0 : decide (x22_2 < (l0_1.length : Int)) = false:=decide_eq_false c11
      clear c11
      obtain rfl:=Option.some.inj H
      go_wp2
      go_ret
      exact ⟨by rfl,by exact HB.out⟩
     rw [if_pos c11] at H
     have c11b0 : decide (x22_2 < (l0_1.length : Int)) = true:=decide_eq_true c11
     clear c11
     by_cases c12 : 0 ≤ x22_2
     rotate_left
     ·rw [if_neg c12] at H
      exact absurd H (by simp)
     rw [if_pos c12] at H
     have c12b0 : decide (0 ≤ x22_2) = true:=decide_eq_true c12
     clear c12
     by_cases c13 : x22_2 < (l0_1.length : Int)
     rotate_left
     ·rw [if_neg c13] at H
      exact absurd H (by simp)
     rw [if_pos c13] at H
     have c13b0 : decide (x22_2 < (l0_1.length : Int)) = true:=decide_eq_true c13
     clear c13
     have HC14:=am_ H
     clear H
     have p151 : 0 ≤ (x22_2 : Int):=od_ (by (with_reducible assumption))
     have q151 : x22_2 < (l0_1.length : Int):=od_ (by (with_reducible assumption))
     obtain ⟨ad151,e151,hx151_0,hx151_1,hx151_2,hx151_3⟩:=at_T67 HR0_1.out x22_2 p151 q151
     cases e151
     replace hx151_0:=kc_ HB.out hx151_0
     replace hx151_1:=kc_ HB.out hx151_1
     replace hx151_2:=kc_ HB.out hx151_2
     replace hx151_3:=kc_ HB.out hx151_3
     replace p151:=eq_true p151
     replace q151:=eq_true q151
     go_upto_region 6 with (((with_reducible refine gate_dst (N:=4) rfl ?_);(try (refine gate_guard (by rfl) ?_;dsimp only));refine box_event ?hg (N:=4) ?hd (cs:=#[.int .i64 0,.int .i64 0,.int .i64 0,.int .i64 0]) (t:=67) ?hr ?_;(case hd=>rfl);(case hg=>rfl);(case hr=>(go_simp;done));intro gb152 hg w15 hbox hb;have n0_:=am_ (blk_below BK150.out hb);have n1_:=am_ (below_step HB.out hb);have n2_:=am_ (hbox);have n3_:=am_ ((by rw [hg];exact (below_size HB.out) : w.heap.size ≤ gb152));have n4_:=n3_;have n5_:=am_ ((by rw [hg];exact Nat.ne_of_lt (blk_lt (g:=gb150) (o:=.cells #[.int .i64 a0_0,.slice (some ad151) l0_1.length c0_1] 30 (0,0)) BK150.out) : gb150 ≠ gb152));have n6_:=am_ ((by rw [hg];exact Nat.ne_of_gt (blk_lt (g:=gb150) (o:=.cells #[.int .i64 a0_0,.slice (some ad151) l0_1.length c0_1] 30 (0,0)) BK150.out) : gb152 ≠ gb150));clear BK150 HB;have BK150:=n0_;have HB:=n1_;have BK152:=n2_;have GW152:=n3_;have GE152:=n4_;have NB150_152:=n5_;have NB152_150:=n6_;clear n0_ n1_ n2_ n3_ n4_ n5_ n6_ hb hbox hg;have hnb16:=NB152_150.out;have hnc16:=NB150_152.out;have hcz17_0 : w15.cell? ⟨gb152,0,none⟩ = some (.int .i64 0):=bc_ BK152.out 0;have hcz17_1 : w15.cell? ⟨gb152,1,none⟩ = some (.int .i64 0):=bc_ BK152.out 1;have hcz17_2 : w15.cell? ⟨gb152,2,none⟩ = some (.int .i64 0):=bc_ BK152.out 2;have hcz17_3 : w15.cell? ⟨gb152,3,none⟩ = some (.int .i64 0):=bc_ BK152.out 3;have hfz17_0:=blk_frozen BK152.out 0;have hfz17_1:=blk_frozen BK152.out 1;have hfz17_2:=blk_frozen BK152.out 2;have hfz17_3:=blk_frozen BK152.out 3))
     (skip)
     go_cut [54] (fun v54 wc=>∃ (kq : Nat) (x54_13 : Bool),v54 = .bool x54_13 ∧ Aside0 (impl_NetOk.j2 kq l0_1 (l0_1.length : Int) x22_2 x54_13 a0_0 l0_1 ((rd_T67 l0_1 x22_2).f0) ((rd_T67 l0_1 x22_2).f1) ((rd_T67 l0_1 x22_2).f2) ((rd_T67 l0_1 x22_2).f3) = some r) ∧ Aside0 (kq ≤ k2) ∧ Aside0 (wc.heap[gb150]? = some (.cells #[.int .i64 a0_0,(.slice (some ad151) l0_1.length c0_1)] 30 (0,0))) ∧ Aside0 (wc.heap[gb152]? = some (.cells #[.int .i64 ((rd_T67 l0_1 x22_2).f0),.int .i64 ((rd_T67 l0_1 x22_2).f1),.int .i64 ((rd_T67 l0_1 x22_2).f2),.int .i64 ((rd_T67 l0_1 x22_2).f3)] 67 (0,0))) ∧ Aside0 (Below w.heap.size w wc))
     case first =>
      have H:=HC14.out
      clear HC14
      by_cases c18 : ((rd_T67 l0_1 x22_2).f0) < 0
      ·rw [if_pos c18] at H
       have c18b0 : decide (((rd_T67 l0_1 x22_2).f0) < 0) = true:=decide_eq_true c18
       clear c18
       (skip)
       have H':=am_ H
       clear H
       have hnb19:=NB152_150.out
       have hnc19:=NB150_152.out
       have hcz20_0 : w15.cell? ⟨gb152,0,none⟩ = some (.int .i64 0):=bc_ BK152.out 0
       have hcz20_1 : w15.cell? ⟨gb152,1,none⟩ = some (.int .i64 0):=bc_ BK152.out 1
       have hcz20_2 : w15.cell? ⟨gb152,2,none⟩ = some (.int .i64 0):=bc_ BK152.out 2
       have hcz20_3 : w15.cell? ⟨gb152,3,none⟩ = some (.int .i64 0):=bc_ BK152.out 3
       have hfz20_0:=blk_frozen BK152.out 0
       have hfz20_1:=blk_frozen BK152.out 1
       have hfz20_2:=blk_frozen BK152.out 2
       have hfz20_3:=blk_frozen BK152.out 3
       go_wp2
       go_meet
       case rel=>exact ⟨_,(true),(by rfl),H',⟨by have:=HJ1.out;have:=HK2.out;omega⟩,⟨by refine blk_far ?_ NB150_152.out _;refine blk_far ?_ NB150_152.out _;refine blk_far ?_ NB150_152.out _;refine blk_far ?_ NB150_152.out _;exact BK150.out⟩,⟨by refine blk_put (cs:=#[.int .i64 ((rd_T67 l0_1 x22_2).f0),.int .i64 ((rd_T67 l0_1 x22_2).f1),.int .i64 ((rd_T67 l0_1 x22_2).f2),.int .i64 0]) ?_ 3 _ rfl;refine blk_put (cs:=#[.int .i64 ((rd_T67 l0_1 x22_2).f0),.int .i64 ((rd_T67 l0_1 x22_2).f1),.int .i64 0,.int .i64 0]) ?_ 2 _ rfl;refine blk_put (cs:=#[.int .i64 ((rd_T67 l0_1 x22_2).f0),.int .i64 0,.int .i64 0,.int .i64 0]) ?_ 1 _ rfl;refine blk_put (cs:=#[.int .i64 0,.int .i64 0,.int .i64 0,.int .i64 0]) ?_ 0 _ rfl;exact BK152.out⟩,⟨by repeat ((with_reducible first|exact HB.out|refine below_set ?_ GE152.out))⟩⟩
      rw [if_neg c18] at H
      have c18b0 : decide (((rd_T67 l0_1 x22_2).f0) < 0) = false:=decide_eq_false c18
      clear c18
      (skip)
      by_cases c21 : ((rd_T67 l0_1 x22_2).f0) ≥ a0_0
      ·rw [if_pos c21] at H
       have c21b0 : decide (a0_0 ≤ ((rd_T67 l0_1 x22_2).f0)) = true:=decide_eq_true c21
       clear c21
       have H':=am_ H
       clear H
       have hnb22:=NB152_150.out
       have hnc22:=NB150_152.out
       have hcz23_0 : w15.cell? ⟨gb152,0,none⟩ = some (.int .i64 0):=bc_ BK152.out 0
       have hcz23_1 : w15.cell? ⟨gb152,1,none⟩ = some (.int .i64 0):=bc_ BK152.out 1
       have hcz23_2 : w15.cell? ⟨gb152,2,none⟩ = some (.int .i64 0):=bc_ BK152.out 2
       have hcz23_3 : w15.cell? ⟨gb152,3,none⟩ = some (.int .i64 0):=bc_ BK152.out 3
       have hfz23_0:=blk_frozen BK152.out 0
       have hfz23_1:=blk_frozen BK152.out 1
       have hfz23_2:=blk_frozen BK152.out 2
       have hfz23_3:=blk_frozen BK152.out 3
       have hcz24_0 : w15.cell? ⟨gb150,0,none⟩ = some (.int .i64 a0_0):=bc_ BK150.out 0
       have hcz24_1 : w15.cell? ⟨gb150,1,none⟩ = some (.slice (some ad151) l0_1.length c0_1):=bc_ BK150.out 1
       have hfz24_0:=blk_frozen BK150.out 0
       have hfz24_1:=blk_frozen BK150.out 1
       go_wp2
       go_meet
       case rel=>exact ⟨_,(true),(by rfl),H',⟨by have:=HJ1.out;have:=HK2.out;omega⟩,⟨by refine blk_far ?_ NB150_152.out _;refine blk_far ?_ NB150_152.out _;refine blk_far ?_ NB150_152.out _;refine blk_far ?_ NB150_152.out _;exact BK150.out⟩,⟨by refine blk_put (cs:=#[.int .i64 ((rd_T67 l0_1 x22_2).f0),.int .i64 ((rd_T67 l0_1 x22_2).f1),.int .i64 ((rd_T67 l0_1 x22_2).f2),.int .i64 0]) ?_ 3 _ rfl;refine blk_put (cs:=#[.int .i64 ((rd_T67 l0_1 x22_2).f0),.int .i64 ((rd_T67 l0_1 x22_2).f1),.int .i64 0,.int .i64 0]) ?_ 2 _ rfl;refine blk_put (cs:=#[.int .i64 ((rd_T67 l0_1 x22_2).f0),.int .i64 0,.int .i64 0,.int .i64 0]) ?_ 1 _ rfl;refine blk_put (cs:=#[.int .i64 0,.int .i64 0,.int .i64 0,.int .i64 0]) ?_ 0 _ rfl;exact BK152.out⟩,⟨by repeat ((with_reducible first|exact HB.out|refine below_set ?_ GE152.out))⟩⟩
      rw [if_neg c21] at H
      have c21b0 : decide (a0_0 ≤ ((rd_T67 l0_1 x22_2).f0)) = false:=decide_eq_false c21
      clear c21
      by_cases c25 : ((rd_T67 l0_1 x22_2).f1) < 0
      ·rw [if_pos c25] at H
       have c25b0 : decide (((rd_T67 l0_1 x22_2).f1) < 0) = true:=decide_eq_true c25
       clear c25
       have H':=am_ H
       clear H
       have hnb26:=NB152_150.out
       have hnc26:=NB150_152.out
       have hcz27_0 : w15.cell? ⟨gb152,0,none⟩ = some (.int .i64 0):=bc_ BK152.out 0
       have hcz27_1 : w15.cell? ⟨gb152,1,none⟩ = some (.int .i64 0):=bc_ BK152.out 1
       have hcz27_2 : w15.cell? ⟨gb152,2,none⟩ = some (.int .i64 0):=bc_ BK152.out 2
       have hcz27_3 : w15.cell? ⟨gb152,3,none⟩ = some (.int .i64 0):=bc_ BK152.out 3
       have hfz27_0:=blk_frozen BK152.out 0
       have hfz27_1:=blk_frozen BK152.out 1
       have hfz27_2:=blk_frozen BK152.out 2
       have hfz27_3:=blk_frozen BK152.out 3
       have hcz28_0 : w15.cell? ⟨gb150,0,none⟩ = some (.int .i64 a0_0):=bc_ BK150.out 0
       have hcz28_1 : w15.cell? ⟨gb150,1,none⟩ = some (.slice (some ad151) l0_1.length c0_1):=bc_ BK150.out 1
       have hfz28_0:=blk_frozen BK150.out 0
       have hfz28_1:=blk_frozen BK150.out 1
       go_wp2
       go_meet
       case rel=>exact ⟨_,(true),(by rfl),H',⟨by have:=HJ1.out;have:=HK2.out;omega⟩,⟨by refine blk_far ?_ NB150_152.out _;refine blk_far ?_ NB150_152.out _;refine blk_far ?_ NB150_152.out _;refine blk_far ?_ NB150_152.out _;exact BK150.out⟩,⟨by refine blk_put (cs:=#[.int .i64 ((rd_T67 l0_1 x22_2).f0),.int .i64 ((rd_T67 l0_1 x22_2).f1),.int .i64 ((rd_T67 l0_1 x22_2).f2),.int .i64 0]) ?_ 3 _ rfl;refine blk_put (cs:=#[.int .i64 ((rd_T67 l0_1 x22_2).f0),.int .i64 ((rd_T67 l0_1 x22_2).f1),.int .i64 0,.int .i64 0]) ?_ 2 _ rfl;refine blk_put (cs:=#[.int .i64 ((rd_T67 l0_1 x22_2).f0),.int .i64 0,.int .i64 0,.int .i64 0]) ?_ 1 _ rfl;refine blk_put (cs:=#[.int .i64 0,.int .i64 0,.int .i64 0,.int .i64 0]) ?_ 0 _ rfl;exact BK152.out⟩,⟨by repeat ((with_reducible first|exact HB.out|refine below_set ?_ GE152.out))⟩⟩
      rw [if_neg c25] at H
      have c25b0 : decide (((rd_T67 l0_1 x22_2).f1) < 0) = false:=decide_eq_false c25
      clear c25
      by_cases c29 : ((rd_T67 l0_1 x22_2).f1) ≥ a0_0
      ·rw [if_pos c29] at H
       have c29b0 : decide (a0_0 ≤ ((rd_T67 l0_1 x22_2).f1)) = true:=decide_eq_true c29
       clear c29
       have H':=am_ H
       clear H
       have hnb30:=NB152_150.out
       have hnc30:=NB150_152.out
       have hcz31_0 : w15.cell? ⟨gb152,0,none⟩ = some (.int .i64 0):=bc_ BK152.out 0
       have hcz31_1 : w15.cell? ⟨gb152,1,none⟩ = some (.int .i64 0):=bc_ BK152.out 1
       have hcz31_2 : w15.cell? ⟨gb152,2,none⟩ = some (.int .i64 0):=bc_ BK152.out 2
       have hcz31_3 : w15.cell? ⟨gb152,3,none⟩ = some (.int .i64 0):=bc_ BK152.out 3
       have hfz31_0:=blk_frozen BK152.out 0
       have hfz31_1:=blk_frozen BK152.out 1
       have hfz31_2:=blk_frozen BK152.out 2
       have hfz31_3:=blk_frozen BK152.out 3
       have hcz32_0 : w15.cell? ⟨gb150,0,none⟩ = some (.int .i64 a0_0):=bc_ BK150.out 0
       have hcz32_1 : w15.cell? ⟨gb150,1,none⟩ = some (.slice (some ad151) l0_1.length c0_1):=bc_ BK150.out 1
       have hfz32_0:=blk_frozen BK150.out 0
       have hfz32_1:=blk_frozen BK150.out 1
       go_wp2
       go_meet
       case rel=>exact ⟨_,(true),(by rfl),H',⟨by have:=HJ1.out;have:=HK2.out;omega⟩,⟨by refine blk_far ?_ NB150_152.out _;refine blk_far ?_ NB150_152.out _;refine blk_far ?_ NB150_152.out _;refine blk_far ?_ NB150_152.out _;exact BK150.out⟩,⟨by refine blk_put (cs:=#[.int .i64 ((rd_T67 l0_1 x22_2).f0),.int .i64 ((rd_T67 l0_1 x22_2).f1),.int .i64 ((rd_T67 l0_1 x22_2).f2),.int .i64 0]) ?_ 3 _ rfl;refine blk_put (cs:=#[.int .i64 ((rd_T67 l0_1 x22_2).f0),.int .i64 ((rd_T67 l0_1 x22_2).f1),.int .i64 0,.int .i64 0]) ?_ 2 _ rfl;refine blk_put (cs:=#[.int .i64 ((rd_T67 l0_1 x22_2).f0),.int .i64 0,.int .i64 0,.int .i64 0]) ?_ 1 _ rfl;refine blk_put (cs:=#[.int .i64 0,.int .i64 0,.int .i64 0,.int .i64 0]) ?_ 0 _ rfl;exact BK152.out⟩,⟨by repeat ((with_reducible first|exact HB.out|refine below_set ?_ GE152.out))⟩⟩
      rw [if_neg c29] at H
      have c29b0 : decide (a0_0 ≤ ((rd_T67 l0_1 x22_2).f1)) = false:=decide_eq_false c29
      clear c29
      have H':=am_ H
      clear H
      have hnb33:=NB152_150.out
      have hnc33:=NB150_152.out
      have hcz34_0 : w15.cell? ⟨gb152,0,none⟩ = some (.int .i64 0):=bc_ BK152.out 0
      have hcz34_1 : w15.cell? ⟨gb152,1,none⟩ = some (.int .i64 0):=bc_ BK152.out 1
      have hcz34_2 : w15.cell? ⟨gb152,2,none⟩ = some (.int .i64 0):=bc_ BK152.out 2
      have hcz34_3 : w15.cell? ⟨gb152,3,none⟩ = some (.int .i64 0):=bc_ BK152.out 3
      have hfz34_0:=blk_frozen BK152.out 0
      have hfz34_1:=blk_frozen BK152.out 1
      have hfz34_2:=blk_frozen BK152.out 2
      have hfz34_3:=blk_frozen BK152.out 3
      have hcz35_0 : w15.cell? ⟨gb150,0,none⟩ = some (.int .i64 a0_0):=bc_ BK150.out 0
      have hcz35_1 : w15.cell? ⟨gb150,1,none⟩ = some (.slice (some ad151) l0_1.length c0_1):=bc_ BK150.out 1
      have hfz35_0:=blk_frozen BK150.out 0
      have hfz35_1:=blk_frozen BK150.out 1
      go_wp2
      go_meet
      case rel=>exact ⟨_,((((rd_T67 l0_1 x22_2).f0) == ((rd_T67 l0_1 x22_2).f1))),(by rfl),H',⟨by have:=HJ1.out;have:=HK2.out;omega⟩,⟨by refine blk_far ?_ NB150_152.out _;refine blk_far ?_ NB150_152.out _;refine blk_far ?_ NB150_152.out _;refine blk_far ?_ NB150_152.out _;exact BK150.out⟩,⟨by refine blk_put (cs:=#[.int .i64 ((rd_T67 l0_1 x22_2).f0),.int .i64 ((rd_T67 l0_1 x22_2).f1),.int .i64 ((rd_T67 l0_1 x22_2).f2),.int .i64 0]) ?_ 3 _ rfl;refine blk_put (cs:=#[.int .i64 ((rd_T67 l0_1 x22_2).f0),.int .i64 ((rd_T67 l0_1 x22_2).f1),.int .i64 0,.int .i64 0]) ?_ 2 _ rfl;refine blk_put (cs:=#[.int .i64 ((rd_T67 l0_1 x22_2).f0),.int .i64 0,.int .i64 0,.int .i64 0]) ?_ 1 _ rfl;refine blk_put (cs:=#[.int .i64 0,.int .i64 0,.int .i64 0,.int .i64 0]) ?_ 0 _ rfl;exact BK152.out⟩,⟨by repeat ((with_reducible first|exact HB.out|refine below_set ?_ GE152.out))⟩⟩
     case rest =>
      clear HC14
      try clear c1
      try clear p1
      try clear q1
      try clear hx1
      try clear c2
      try clear p2
      try clear c3
      try clear c4
      try clear c4b0
      try clear c5
      try clear c6
      try clear c6b0
      try clear c9
      try clear c11
      try clear c11b0
      try clear c12
      try clear c12b0
      try clear c13
      try clear c13b0
      try clear p15
      try clear q15
      try clear hx15
      try clear c16
      try clear c18
      try clear c18b0
      try clear c19
      try clear c21
      try clear c21b0
      try clear c22
      try clear c25
      try clear c25b0
      try clear c26
      try clear c29
      try clear c29b0
      try clear c30
      try clear c33
      try clear hcz10_0
      try clear hcz10_1
      try clear hcz17_0
      try clear hcz17_1
      try clear hcz17_2
      try clear hcz17_3
      try clear hcz20_0
      try clear hcz20_1
      try clear hcz20_2
      try clear hcz20_3
      try clear hcz23_0
      try clear hcz23_1
      try clear hcz23_2
      try clear hcz23_3
      try clear hcz24_0
      try clear hcz24_1
      try clear hcz27_0
      try clear hcz27_1
      try clear hcz27_2
      try clear hcz27_3
      try clear hcz28_0
      try clear hcz28_1
      try clear hcz31_0
      try clear hcz31_1
      try clear hcz31_2
      try clear hcz31_3
      try clear hcz32_0
      try clear hcz32_1
      try clear hcz34_0
      try clear hcz34_1
      try clear hcz34_2
      try clear hcz34_3
      try clear hcz35_0
      try clear hcz35_1
      try clear hcz5_0
      try clear hcz5_1
      try clear hcz7_0
      try clear hcz7_1
      try clear hcz8_0
      try clear hcz8_1
      try clear hfz10_0
      try clear hfz10_1
      try clear hfz17_0
      try clear hfz17_1
      try clear hfz17_2
      try clear hfz17_3
      try clear hfz20_0
      try clear hfz20_1
      try clear hfz20_2
      try clear hfz20_3
      try clear hfz23_0
      try clear hfz23_1
      try clear hfz23_2
      try clear hfz23_3
      try clear hfz24_0
      try clear hfz24_1
      try clear hfz27_0
      try clear hfz27_1
      try clear hfz27_2
      try clear hfz27_3
      try clear hfz28_0
      try clear hfz28_1
      try clear hfz31_0
      try clear hfz31_1
      try clear hfz31_2
      try clear hfz31_3
      try clear hfz32_0
      try clear hfz32_1
      try clear hfz34_0
      try clear hfz34_1
      try clear hfz34_2
      try clear hfz34_3
      try clear hfz35_0
      try clear hfz35_1
      try clear hfz5_0
      try clear hfz5_1
      try clear hfz7_0
      try clear hfz7_1
      try clear hfz8_0
      try clear hfz8_1
      try clear hx151_0
      try clear hx151_1
      try clear hx151_2
      try clear hx151_3
      try clear p151
      try clear p2
      try clear q151
      obtain ⟨kq,x54_13,rfl,HA,HJ13,BK150,BK152,HB⟩:=hcut
      cases kq with
      | zero => exact absurd HA.out (by simp [impl_NetOk.j2])
      | succ kj13 =>
       have H:=HA.out
       clear HA
       simp only [impl_NetOk.j2] at H
       by_cases c36 : x54_13 = true
       ·subst c36
        have H1 : (some false) = some r:=by rw [if_pos rfl] at H;exact H
        clear H
        have H:=H1
        clear H1
        obtain rfl:=Option.some.inj H
        go_wp2
        go_ret
        exact ⟨by rfl,by exact HB.out⟩
       replace c36:=Bool.eq_false_iff.mpr c36
       subst c36
       have H1 : (if ((rd_T67 l0_1 x22_2).f2) < 0 then (some false) else (if ((rd_T67 l0_1 x22_2).f2) > 20 then (some false) else (if ((rd_T67 l0_1 x22_2).f3) < 0 then (some false) else (if ((rd_T67 l0_1 x22_2).f3) > 100 then (some false) else (impl_NetOk.l0 kj13 l0_1 (l0_1.length : Int) (wrap64 (x22_2 + 1)) a0_0 l0_1))))) = some r:=by rw [if_neg (show ¬ (false = true) by decide)] at H;exact H
       clear H
       have H:=H1
       clear H1
       by_cases c37 : ((rd_T67 l0_1 x22_2).f2) < 0
       ·rw [if_pos c37] at H
        have c37b0 : decide (((rd_T67 l0_1 x22_2).f2) < 0) = true:=decide_eq_true c37
        clear c37
        obtain rfl:=Option.some.inj H
        have hnb38:=NB152_150.out
        have hnc38:=NB150_152.out
        have hcz39_0 : wc.cell? ⟨gb152,0,none⟩ = some (.int .i64 ((rd_T67 l0_1 x22_2).f0)):=bc_ BK152.out 0
        have hcz39_1 : wc.cell? ⟨gb152,1,none⟩ = some (.int .i64 ((rd_T67 l0_1 x22_2).f1)):=bc_ BK152.out 1
        have hcz39_2 : wc.cell? ⟨gb152,2,none⟩ = some (.int .i64 ((rd_T67 l0_1 x22_2).f2)):=bc_ BK152.out 2
        have hcz39_3 : wc.cell? ⟨gb152,3,none⟩ = some (.int .i64 ((rd_T67 l0_1 x22_2).f3)):=bc_ BK152.out 3
        have hfz39_0:=blk_frozen BK152.out 0
        have hfz39_1:=blk_frozen BK152.out 1
        have hfz39_2:=blk_frozen BK152.out 2
        have hfz39_3:=blk_frozen BK152.out 3
        go_wp2
        go_ret
        exact ⟨by rfl,by exact HB.out⟩
       rw [if_neg c37] at H
       have c37b0 : decide (((rd_T67 l0_1 x22_2).f2) < 0) = false:=decide_eq_false c37
       clear c37
       by_cases c40 : ((rd_T67 l0_1 x22_2).f2) > 20
       ·rw [if_pos c40] at H
        have c40b0 : decide (20 < ((rd_T67 l0_1 x22_2).f2)) = true:=decide_eq_true c40
        clear c40
        obtain rfl:=Option.some.inj H
        have hnb41:=NB152_150.out
        have hnc41:=NB150_152.out
        have hcz42_0 : wc.cell? ⟨gb152,0,none⟩ = some (.int .i64 ((rd_T67 l0_1 x22_2).f0)):=bc_ BK152.out 0
        have hcz42_1 : wc.cell? ⟨gb152,1,none⟩ = some (.int .i64 ((rd_T67 l0_1 x22_2).f1)):=bc_ BK152.out 1
        have hcz42_2 : wc.cell? ⟨gb152,2,none⟩ = some (.int .i64 ((rd_T67 l0_1 x22_2).f2)):=bc_ BK152.out 2
        have hcz42_3 : wc.cell? ⟨gb152,3,none⟩ = some (.int .i64 ((rd_T67 l0_1 x22_2).f3)):=bc_ BK152.out 3
        have hfz42_0:=blk_frozen BK152.out 0
        have hfz42_1:=blk_frozen BK152.out 1
        have hfz42_2:=blk_frozen BK152.out 2
        have hfz42_3:=blk_frozen BK152.out 3
        go_wp2
        go_ret
        exact ⟨by rfl,by exact HB.out⟩
       rw [if_neg c40] at H
       have c40b0 : decide (20 < ((rd_T67 l0_1 x22_2).f2)) = false:=decide_eq_false c40
       clear c40
       by_cases c43 : ((rd_T67 l0_1 x22_2).f3) < 0
       ·rw [if_pos c43] at H
        have c43b0 : decide (((rd_T67 l0_1 x22_2).f3) < 0) = true:=decide_eq_true c43
        clear c43
        obtain rfl:=Option.some.inj H
        have hnb44:=NB152_150.out
        have hnc44:=NB150_152.out
        have hcz45_0 : wc.cell? ⟨gb152,0,none⟩ = some (.int .i64 ((rd_T67 l0_1 x22_2).f0)):=bc_ BK152.out 0
        have hcz45_1 : wc.cell? ⟨gb152,1,none⟩ = some (.int .i64 ((rd_T67 l0_1 x22_2).f1)):=bc_ BK152.out 1
        have hcz45_2 : wc.cell? ⟨gb152,2,none⟩ = some (.int .i64 ((rd_T67 l0_1 x22_2).f2)):=bc_ BK152.out 2
        have hcz45_3 : wc.cell? ⟨gb152,3,none⟩ = some (.int .i64 ((rd_T67 l0_1 x22_2).f3)):=bc_ BK152.out 3
        have hfz45_0:=blk_frozen BK152.out 0
        have hfz45_1:=blk_frozen BK152.out 1
        have hfz45_2:=blk_frozen BK152.out 2
        have hfz45_3:=blk_frozen BK152.out 3
        go_wp2
        go_ret
        exact ⟨by rfl,by exact HB.out⟩
       rw [if_neg c43] at H
       have c43b0 : decide (((rd_T67 l0_1 x22_2).f3) < 0) = false:=decide_eq_false c43
       clear c43
       by_cases c46 : ((rd_T67 l0_1 x22_2).f3) > 100
       ·rw [if_pos c46] at H
        have c46b0 : decide (100 < ((rd_T67 l0_1 x22_2).f3)) = true:=decide_eq_true c46
        clear c46
        obtain rfl:=Option.some.inj H
        have hnb47:=NB152_150.out
        have hnc47:=NB150_152.out
        have hcz48_0 : wc.cell? ⟨gb152,0,none⟩ = some (.int .i64 ((rd_T67 l0_1 x22_2).f0)):=bc_ BK152.out 0
        have hcz48_1 : wc.cell? ⟨gb152,1,none⟩ = some (.int .i64 ((rd_T67 l0_1 x22_2).f1)):=bc_ BK152.out 1
        have hcz48_2 : wc.cell? ⟨gb152,2,none⟩ = some (.int .i64 ((rd_T67 l0_1 x22_2).f2)):=bc_ BK152.out 2
        have hcz48_3 : wc.cell? ⟨gb152,3,none⟩ = some (.int .i64 ((rd_T67 l0_1 x22_2).f3)):=bc_ BK152.out 3
        have hfz48_0:=blk_frozen BK152.out 0
        have hfz48_1:=blk_frozen BK152.out 1
        have hfz48_2:=blk_frozen BK152.out 2
        have hfz48_3:=blk_frozen BK152.out 3
        go_wp2
        go_ret
        exact ⟨by rfl,by exact HB.out⟩
       rw [if_neg c46] at H
       have c46b0 : decide (100 < ((rd_T67 l0_1 x22_2).f3)) = false:=decide_eq_false c46
       clear c46
       have H':=am_ H
       clear H
       have hnb49:=NB152_150.out
       have hnc49:=NB150_152.out
       have hcz50_0 : wc.cell? ⟨gb152,0,none⟩ = some (.int .i64 ((rd_T67 l0_1 x22_2).f0)):=bc_ BK152.out 0
       have hcz50_1 : wc.cell? ⟨gb152,1,none⟩ = some (.int .i64 ((rd_T67 l0_1 x22_2).f1)):=bc_ BK152.out 1
       have hcz50_2 : wc.cell? ⟨gb152,2,none⟩ = some (.int .i64 ((rd_T67 l0_1 x22_2).f2)):=bc_ BK152.out 2
       have hcz50_3 : wc.cell? ⟨gb152,3,none⟩ = some (.int .i64 ((rd_T67 l0_1 x22_2).f3)):=bc_ BK152.out 3
       have hfz50_0:=blk_frozen BK152.out 0
       have hfz50_1:=blk_frozen BK152.out 1
       have hfz50_2:=blk_frozen BK152.out 2
       have hfz50_3:=blk_frozen BK152.out 3
       go_wp2
       go_roundg kj13
       case measure=>have:=HJ1.out;have:=HK2.out;have:=HJ13.out;omega
       case rel=>exact ⟨(wrap64 (x22_2 + 1)),(by rfl),H',⟨by have:=HJ1.out;have:=HK2.out;have:=HJ13.out;omega⟩,⟨by exact BK150.out⟩,⟨by exact HB.out⟩⟩

end Go.Proofs.Ytgkpgigoonhgdaa.PFnMostCut
