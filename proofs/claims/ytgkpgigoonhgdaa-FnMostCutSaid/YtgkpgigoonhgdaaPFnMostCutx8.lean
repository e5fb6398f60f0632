-- Made by the session's wip/pp.py, a changed call of the kit's printer; Lean checks it.
import Derived.Test.YtgkpgigoonhgdaaPFnMostCutx0
import Derived.Test.YtgkpgigoonhgdaaPFnMostCutx8d
namespace Go.Proofs.Ytgkpgigoonhgdaa.PFnMostCut
open Go.RowKit Go.Proofs.YtgkpgigoonhgdaaW.PrintWords Go.Proofs.YtgkpgigoonhgdaaW.PrintLast Go.Proofs.YtgkpgigoonhgdaaW.PrintMore
attribute [local go_sem] max2_int min2_int max_two min_two max_three min_three max_four min_four   -- for this text's walks alone
set_option linter.unusedVariables false
set_option linter.unusedSimpArgs false
set_option maxHeartbeats 8000000 in
set_option maxRecDepth 100000 in
theorem spec_l06Pushed.calls (k : Nat) (a0_0 : Int) (A0_1 : Option Addr) (c0_1 : Nat) (l0_1 : List (S67)) (a1 : Int) (r : List Int) (w : World) (hr0_1 : Kd.C k67 w A0_1 l0_1.length l0_1) (hc0_1 : l0_1.length ≤ c0_1) (h : spec_l06Pushed.f k a0_0 l0_1 a1 = some r) :
  Calls Try.prog 52 #[.agg #[.int .i64 a0_0,.slice A0_1 l0_1.length c0_1],.int .i64 a1] w fun e w'=>∃ v0_ : Value,e = .returned (v0_) ∧ Kd.R (Kd.int .i64) 3 w' w.heap.size (fun _=>True) v0_ r ∧ Below w.heap.size w w':=by
 have hu30:=Try.underlying30;have hu67:=Try.underlying67;have HR0_1:=Aside0.mk hr0_1;have HC0_1:=Aside0.mk hc0_1;clear hr0_1 hc0_1;have HB:=Aside0.mk (Below.refl w.heap.size w);have H : (if 0 ≤ (l0_1.length : Int) then (if ((l0_1.length : Int) : Int).toNat ≤ 35184372088832 then (spec_l06Pushed.l0 k a1 (List.replicate ((l0_1.length : Int) : Int).toNat 0) 0 a0_0 l0_1) else (none)) else (none)) = some r:=h;clear h
 by_cases c3 : 0 ≤ (l0_1.length : Int)
 rotate_left
 ·rw [if_neg c3] at H;exact absurd H (by simp)
 rw [if_pos c3] at H;have c3b0:=eq_true c3;have c3b1 : decide (0 ≤ (l0_1.length : Int)) = true:=decide_eq_true c3;clear c3
 by_cases c4 : ((l0_1.length : Int) : Int).toNat ≤ 35184372088832
 rotate_left
 ·rw [if_neg c4] at H;exact absurd H (by simp)
 rw [if_pos c4] at H;have c4b0:=eq_true c4;have c4b1 : decide (((l0_1.length : Int) : Int).toNat ≤ 35184372088832) = true:=decide_eq_true c4;clear c4
 obtain ⟨y257,hy257⟩ : ∃ y_ : List Int,y_ = (List.replicate ((l0_1.length : Int) : Int).toNat 0):=⟨_,rfl⟩
 replace H : (spec_l06Pushed.l0 k a1 y257 0 a0_0 l0_1) = some r:=by (rw [hy257];with_reducible exact H)
 have Ny257:=Aside0.mk hy257;clear hy257;have H':=Aside0.mk H;clear H
 go_enter Try.func52,Try.ntmps52
 go_wp2_with (first|((with_reducible refine gate_dst (N:=2) rfl ?_);refine box_event ?hg (N:=2) ?hd (cs:=#[.int .i64 a0_0,.slice A0_1 l0_1.length c0_1]) (t:=30) ?hr ?_;(case hd=>rfl);(case hg=>rfl);(case hr=>(go_simp;done));intro gb256 hg w5 hbox hb;have n0_:=Aside0.mk (below_step HB.out hb);have n1_:=Aside0.mk (hbox);have n2_:=Aside0.mk ((by rw [hg];exact (below_size HB.out) : w.heap.size ≤ gb256));have n3_:=n2_;clear HB;have HB:=n0_;have BK256:=n1_;have GW256:=n2_;have GE256:=n3_;clear n0_ n1_ n2_ n3_ hb hbox hg;have hcz6_0 : w5.cell? ⟨gb256,0,none⟩ = some (.int .i64 a0_0):=bc_ BK256.out 0;have hcz6_1 : w5.cell? ⟨gb256,1,none⟩ = some (.slice A0_1 l0_1.length c0_1):=bc_ BK256.out 1;have hfz6_0:=blk_frozen BK256.out 0;have hfz6_1:=blk_frozen BK256.out 1)|((with_reducible refine gate_dst (N:=18) rfl ?_);refine Kd.R_make (Kd.int .i64) _ 3 rfl (N:=18) rfl 25 _ _ rfl (l0_1.length : Int) rfl rfl Try.underlying25 (.int .i64 0) 8 info3 rfl (by decide) (by omega) 0 (ok:=fun _=>True) (okp:=fun _=>True) rfl (fun _ hk=>hk) trivial (od_ (by (with_reducible assumption))) (Nat.le_trans (Nat.mul_le_mul_right _ (od_ (by (with_reducible assumption)) : (l0_1.length : Int).toNat ≤ 35184372088832)) (by omega)) (Below.refl _ _) (Nat.le_refl _) ?_;intro v258 w7 ho8 hb hg_ hnew_;clear hg_ hnew_;(rw [← Ny257.out] at ho8);have n0_:=Aside0.mk (Kd.R_lower ho8 (below_size HB.out));have n1_:=Aside0.mk (blk_below BK256.out hb);have n2_:=Aside0.mk (below_step HB.out hb);clear BK256 HB;have HO259:=n0_;have BK256:=n1_;have HB:=n2_;clear n0_ n1_ n2_ hb ho8))
 go_loopg [6] k (fun kq v6 w'=>∃ (x5_1 : List Int) (x6_1 : Int),v6 = .int .i64 x6_1 ∧ Aside0 (spec_l06Pushed.l0 kq a1 x5_1 x6_1 a0_0 l0_1 = some r) ∧ Aside0 (kq ≤ k) ∧ Aside0 (Kd.R (Kd.int .i64) 3 w' w.heap.size (fun _=>True) v258 x5_1) ∧ Aside0 (w'.heap[gb256]? = some (.cells #[.int .i64 a0_0,(.slice A0_1 l0_1.length c0_1)] 30 (0,0))) ∧ Aside0 (Below w.heap.size w w'))
 case atStart=>exact ⟨(y257),(0),(by rfl),H',⟨Nat.le_refl _⟩,⟨by exact HO259.out⟩,⟨by exact BK256.out⟩,⟨by exact HB.out⟩⟩
 case round =>
  clear H'
  try clear p2
  try clear c3
  try clear c3b0
  try clear c3b1
  try clear c4
  try clear c4b0
  try clear c4b1
  try clear c5
  try clear hcz6_0
  try clear hcz6_1
  try clear hfz6_0
  try clear hfz6_1
  obtain ⟨x5_1,x6_1,rfl,HA,HK1,HO_5,BK256,HB⟩:=hrel
  cases gk with
  | zero => exact absurd HA.out (by simp [spec_l06Pushed.l0])
  | succ k1 =>
   have H:=HA.out;clear HA;simp only [spec_l06Pushed.l0] at H
   by_cases c9 : x6_1 < a1
   rotate_left
   ·rw [if_neg c9] at H;have c9b0 : decide (x6_1 < a1) = false:=decide_eq_false c9;clear c9;obtain rfl:=Option.some.inj H
    go_wp2
    go_ret
    exact ⟨_,by rfl,by exact HO_5.out,by exact HB.out⟩
   rw [if_pos c9] at H;have c9b0 : decide (x6_1 < a1) = true:=decide_eq_true c9;clear c9
   by_cases c10 : 0 ≤ a0_0
   rotate_left
   ·rw [if_neg c10] at H;exact absurd H (by simp)
   rw [if_pos c10] at H;have c10b0:=eq_true c10;have c10b1 : decide (0 ≤ a0_0) = true:=decide_eq_true c10;clear c10
   by_cases c11 : (a0_0 : Int).toNat ≤ 35184372088832
   rotate_left
   ·rw [if_neg c11] at H;exact absurd H (by simp)
   rw [if_pos c11] at H;have c11b0:=eq_true c11;have c11b1 : decide ((a0_0 : Int).toNat ≤ 35184372088832) = true:=decide_eq_true c11;clear c11
   obtain ⟨y260,hy260⟩ : ∃ y_ : List Int,y_ = (List.replicate (a0_0 : Int).toNat 0):=⟨_,rfl⟩
   replace H : (if (a0_0 : Int).toNat ≤ 281474976710656 then ((some (List.replicate (a0_0 : Int).toNat false : List Bool)).bind fun y263=>(if 0 < (y263.length : Int) then (spec_l06Pushed.l1 k1 a1 x5_1 x6_1 y260 (y263.set (0 : Int).toNat true) (([0] : List Int)) 0 a0_0 l0_1) else (none))) else (none)) = some r:=by (rw [hy260];with_reducible exact H)
   have Ny260:=Aside0.mk hy260;clear hy260
   by_cases c12 : (a0_0 : Int).toNat ≤ 281474976710656
   rotate_left
   ·rw [if_neg c12] at H;exact absurd H (by simp)
   rw [if_pos c12] at H;have c12b0:=eq_true c12;have c12b1 : decide ((a0_0 : Int).toNat ≤ 281474976710656) = true:=decide_eq_true c12;clear c12
   obtain ⟨y263,hy263⟩ : ∃ y_ : List Bool,y_ = (List.replicate (a0_0 : Int).toNat false):=⟨_,rfl⟩
   replace H : (if 0 < (y263.length : Int) then (spec_l06Pushed.l1 k1 a1 x5_1 x6_1 y260 (y263.set (0 : Int).toNat true) (([0] : List Int)) 0 a0_0 l0_1) else (none)) = some r:=by (have H2_:=(Option.bind_some _ _).symm.trans H;rw [hy263];with_reducible exact H2_)
   have Ny263:=Aside0.mk hy263;clear hy263
   by_cases c13 : 0 < (y263.length : Int)
   rotate_left
   ·rw [if_neg c13] at H;exact absurd H (by simp)
   rw [if_pos c13] at H;have c13b0 : decide (0 < (y263.length : Int)) = true:=decide_eq_true c13;have c13b1 : decide (0 < y263.length) = true:=decide_eq_true (by omega);clear c13
   obtain ⟨y266,hy266⟩ : ∃ y_ : List Bool,y_ = (y263.set (0 : Int).toNat true):=⟨_,rfl⟩
   replace H : (spec_l06Pushed.l1 k1 a1 x5_1 x6_1 y260 y266 (([0] : List Int)) 0 a0_0 l0_1) = some r:=by (rw [hy266];with_reducible exact H)
   have Ny266:=Aside0.mk hy266;clear hy266
   obtain ⟨y267,hy267⟩ : ∃ y_ : List Int,y_ = (([0] : List Int)):=⟨_,rfl⟩
   replace H : (spec_l06Pushed.l1 k1 a1 x5_1 x6_1 y260 y266 y267 0 a0_0 l0_1) = some r:=by (rw [hy267];with_reducible exact H)
   have Ny267:=Aside0.mk hy267;clear hy267;have H':=Aside0.mk H;clear H;have hcz15_0 : wr.cell? ⟨gb256,0,none⟩ = some (.int .i64 a0_0):=bc_ BK256.out 0;have hcz15_1 : wr.cell? ⟨gb256,1,none⟩ = some (.slice A0_1 l0_1.length c0_1):=bc_ BK256.out 1;have hfz15_0:=blk_frozen BK256.out 0;have hfz15_1:=blk_frozen BK256.out 1
   go_wp2_with (first|((with_reducible refine gate_dst (N:=26) rfl ?_);refine Kd.R_make (Kd.int .i64) _ 3 rfl (N:=26) rfl 25 _ _ rfl a0_0 rfl rfl Try.underlying25 (.int .i64 0) 8 info3 rfl (by decide) (by omega) 0 (ok:=fun _=>True) (okp:=fun _=>True) rfl (fun _ hk=>hk) trivial (od_ (by (with_reducible assumption))) (Nat.le_trans (Nat.mul_le_mul_right _ (od_ (by (with_reducible assumption)) : a0_0.toNat ≤ 35184372088832)) (by omega)) (Below.refl _ _) (Nat.le_refl _) ?_;intro v261 w16 ho17 hb hg_ hnew_;clear hg_ hnew_;(rw [← Ny260.out] at ho17);have n0_:=Aside0.mk (Kd.R_elder' HO_5.out (Kd.R_base ho17) hb);have n1_:=Aside0.mk (Kd.R_lower (Kd.R_new' ho17 (Kd.R_lt HO_5.out)) (below_size HB.out));have n2_:=Aside0.mk (blk_below BK256.out hb);have n3_:=Aside0.mk (below_step HB.out hb);clear HO_5 BK256 HB;have HO_5:=n0_;have HO262:=n1_;have BK256:=n2_;have HB:=n3_;clear n0_ n1_ n2_ n3_ hb ho17;have hcz18_0 : w16.cell? ⟨gb256,0,none⟩ = some (.int .i64 a0_0):=bc_ BK256.out 0;have hcz18_1 : w16.cell? ⟨gb256,1,none⟩ = some (.slice A0_1 l0_1.length c0_1):=bc_ BK256.out 1;have hfz18_0:=blk_frozen BK256.out 0;have hfz18_1:=blk_frozen BK256.out 1)|((with_reducible refine gate_dst (N:=29) rfl ?_);refine Kd.R_make Kd.bool _ 4 rfl (N:=29) rfl 38 _ _ rfl a0_0 rfl rfl Try.underlying38 (.bool false) 1 info4 rfl (by decide) (by omega) false (ok:=fun _=>True) (okp:=fun _=>True) rfl (fun _ hk=>hk) trivial (od_ (by (with_reducible assumption))) (Nat.le_trans (Nat.mul_le_mul_right _ (od_ (by (with_reducible assumption)) : a0_0.toNat ≤ 281474976710656)) (by omega)) (Below.refl _ _) (Nat.le_refl _) ?_;intro v264 w19 ho20 hb hg_ hnew_;clear hg_ hnew_;(rw [← Ny263.out] at ho20);have n0_:=Aside0.mk (Kd.R_below HO_5.out hb);have n1_:=Aside0.mk (Kd.R_below HO262.out hb);have n2_:=Aside0.mk (Kd.R_lower ho20 (below_size HB.out));have n3_:=Aside0.mk (blk_below BK256.out hb);have n4_:=Aside0.mk (below_step HB.out hb);clear HO_5 HO262 BK256 HB;have HO_5:=n0_;have HO262:=n1_;have HO265:=n2_;have BK256:=n3_;have HB:=n4_;clear n0_ n1_ n2_ n3_ n4_ hb ho20;have p14 : 0 ≤ (0 : Int):=(by omega);have q14 : (0 : Int) < ((y263.length : Int) : Int):=od_ (by (with_reducible assumption));have qi14 : (0 < y263.length) = True:=eq_true (by omega);obtain ⟨go14,co14,eo14,gb14,gl14,cl14,HG14⟩:=Kd.R_form HO265.out (by omega);(cases eo14);have GB14:=Aside0.mk gb14;have GG14:=Aside0.mk HG14;clear gb14 gl14 HG14;obtain ⟨hx14_0,hf14_0⟩:=Kd.R_celln false HO265.out (0 : Int) p14 q14;(try rw [show ((0 : Int)).toNat = 0 from rfl] at hx14_0);(try rw [show ((0 : Int)).toNat = 0 from rfl] at hf14_0);replace p14:=eq_true p14;replace q14:=eq_true q14;obtain ⟨hy21_,hz21_⟩:=Kd.R_celln false HO265.out (0 : Int) (by omega) (od_ (by (with_reducible assumption)));(try rw [show ((0 : Int)).toNat = 0 from rfl] at hy21_);(try rw [show ((0 : Int)).toNat = 0 from rfl] at hz21_);have HP21:=Kd.R_putg HO265.out (0 : Int) true)|((with_reducible refine gate_store (t:=4) (p:=31) rfl ?_);refine store_event (t:=4) (p:=31) (v:=?vo_w22) (w1:=(w19.setCell ⟨go14,(0 : Int).toNat,none⟩ (.bool true))) ?hg ?ho ?hn ?hr ?_;(case ho=>rfl);(case hg=>rfl);(case hn=>rfl);(case hr=>(go_simp;done));intro w22 hw;have hg : w19.grownBy w22 (some go14):=(by rw [hw];exact HP21.2);have hp_ : Kd.R Kd.bool 4 w22 w.heap.size (fun _=>True) (.slice (some ⟨go14,0,none⟩) y263.length co14) y266:=(by rw [hw,Ny266.out];exact HP21.1);clear HP21;have n0_:=Aside0.mk (Kd.R_over' (v:=(.slice (some ⟨go14,0,none⟩) y263.length co14)) HO_5.out (Kd.R_typed HO265.out) (by decide) hg);have n1_:=Aside0.mk (blk_grown (g:=gb256) (o:=.cells #[.int .i64 a0_0,.slice A0_1 l0_1.length c0_1] 30 (0,0)) BK256.out hg (Kd.R_ne HO265.out BK256.out (by decide)));have n2_:=Aside0.mk (Kd.R_over' (v:=(.slice (some ⟨go14,0,none⟩) y263.length co14)) HO262.out (Kd.R_typed HO265.out) (by decide) hg);have n3_:=Aside0.mk (hp_);have n4_:=Aside0.mk ((by rw [hw];exact below_set (HB.out) GB14.out : Below w.heap.size w w22));clear HO_5 BK256 HO262 HO265 HB;have HO_5:=n0_;have BK256:=n1_;have HO262:=n2_;have HO265:=n3_;have HB:=n4_;clear n0_ n1_ n2_ n3_ n4_ hg hw hp_)|((with_reducible refine gate_dst (N:=32) rfl ?_);refine Kd.R_lit (Kd.int .i64) _ 3 ?hg (N:=32) ?hd (xs:=([0] : List Int)) (inner:=[.int .i64 0]) (ok:=fun _=>True) (okp:=fun _=>True) ?hr ?hp (fun _ hk=>hk) trivial (Below.refl _ _) (Nat.le_refl _) (by simp) ?_;(case hd=>rfl);(case hg=>rfl);(case hr=>(go_simp;done));(case hp=>exact (Reps.one (show Kd.M (Kd.int .i64) _ _ _ 0 [.int .i64 0] from rfl) (Reps.none _ _)));intro v268 w23 ho24 hb hg_ hnew_;clear hg_ hnew_;(rw [← Ny267.out] at ho24);have n0_:=Aside0.mk (Kd.R_elder' HO_5.out (Kd.R_base ho24) hb);have n1_:=Aside0.mk (Kd.R_elder' HO262.out (Kd.R_base ho24) hb);have n2_:=Aside0.mk (Kd.R_below HO265.out hb);have n3_:=Aside0.mk (Kd.R_lower (Kd.R_new' (Kd.R_new' ho24 (Kd.R_lt HO_5.out)) (Kd.R_lt HO262.out)) (below_size HB.out));have n4_:=Aside0.mk (blk_below BK256.out hb);have n5_:=Aside0.mk (below_step HB.out hb);clear HO_5 HO262 HO265 BK256 HB;have HO_5:=n0_;have HO262:=n1_;have HO265:=n2_;have HO269:=n3_;have BK256:=n4_;have HB:=n5_;clear n0_ n1_ n2_ n3_ n4_ n5_ hb ho24))
   go_loopg [9,10] k1 (fun kq v9 v10 w'=>∃ (x7_2 : List Int) (x8_2 : List Bool) (x9_2 : List Int) (x10_2 : Int),v10 = .int .i64 x10_2 ∧ Aside0 (spec_l06Pushed.l1 kq a1 x5_1 x6_1 x7_2 x8_2 x9_2 x10_2 a0_0 l0_1 = some r) ∧ Aside0 (kq ≤ k1) ∧ Aside0 (Kd.R (Kd.int .i64) 3 w' w.heap.size (fun k_=>some k_ ≠ (v261 : Value).ownBlock ∧ some k_ ≠ (v9 : Value).ownBlock) v258 x5_1) ∧ Aside0 (Kd.R (Kd.int .i64) 3 w' w.heap.size (fun k_=>some k_ ≠ (v258 : Value).ownBlock ∧ some k_ ≠ (v9 : Value).ownBlock) v261 x7_2) ∧ Aside0 (Kd.R Kd.bool 4 w' w.heap.size (fun _=>True) (.slice (some ⟨go14,0,none⟩) y263.length co14) x8_2) ∧ Aside0 (Kd.R (Kd.int .i64) 3 w' w.heap.size (fun k_=>some k_ ≠ (v258 : Value).ownBlock ∧ some k_ ≠ (v261 : Value).ownBlock) v9 x9_2) ∧ Aside0 (w'.heap[gb256]? = some (.cells #[.int .i64 a0_0,(.slice A0_1 l0_1.length c0_1)] 30 (0,0))) ∧ Aside0 (Below w.heap.size w w'))
   case atStart=>exact ⟨(y260),(y266),(y267),(0),(by rfl),H',⟨Nat.le_refl _⟩,⟨by exact Kd.R_mono HO_5.out (fun _ hk=>⟨hk.1.2,hk.2⟩)⟩,⟨by exact Kd.R_mono HO262.out (fun _ hk=>⟨hk.1.2,hk.2⟩)⟩,⟨by exact HO265.out⟩,⟨by exact Kd.R_mono HO269.out (fun _ hk=>⟨hk.1.2,hk.2⟩)⟩,⟨by exact BK256.out⟩,⟨by exact HB.out⟩⟩
   case round =>
    clear H'
    try clear c1
    try clear p1
    try clear q1
    try clear hx1
    try clear qi1
    try clear p2
    try clear c3
    try clear c3b0
    try clear c3b1
    try clear c4
    try clear c4b0
    try clear c4b1
    try clear c5
    try clear c9
    try clear c9b0
    try clear c10
    try clear c10b0
    try clear c10b1
    try clear c11
    try clear c11b0
    try clear c11b1
    try clear c12
    try clear c12b0
    try clear c12b1
    try clear c13
    try clear c13b0
    try clear c13b1
    try clear p14
    try clear q14
    try clear hx14
    try clear qi14
    try clear hf14
    try clear hcz15_0
    try clear hcz15_1
    try clear hcz18_0
    try clear hcz18_1
    try clear hcz6_0
    try clear hcz6_1
    try clear hfz15_0
    try clear hfz15_1
    try clear hfz18_0
    try clear hfz18_1
    try clear hfz6_0
    try clear hfz6_1
    try clear hx14_0
    try clear p14
    try clear p2
    try clear q14
    obtain ⟨x7_2,x8_2,x9_2,x10_2,rfl,HA,HK2,HO_5,HO_7,HO_8,HO_9,BK256,HB⟩:=hrel;have hl8_2:=(Kd.R_reads' HO_8.out).1;rw [hl8_2] at HO_8
    (try simp only [hl8_2])
    (skip)
    (skip)
    (skip)
    (skip)
    cases gk with
    | zero => exact absurd HA.out (by simp [spec_l06Pushed.l1])
    | succ k2 =>
     have H:=HA.out;clear HA;simp only [spec_l06Pushed.l1] at H
     by_cases c25 : x10_2 < (x9_2.length : Int)
     ·rw [if_pos c25] at H;have c25b0 : decide (x10_2 < (x9_2.length : Int)) = true:=decide_eq_true c25;clear c25
      by_cases c26 : 0 ≤ x10_2
      rotate_left
      ·rw [if_neg c26] at H;exact absurd H (by simp)
      rw [if_pos c26] at H;have c26b0 : decide (0 ≤ x10_2) = true:=decide_eq_true c26;clear c26;have H':=Aside0.mk H;clear H;obtain ⟨Ao27,co27,eo27⟩:=Kd.R_slice HO_9.out;subst eo27;have p270 : 0 ≤ (x10_2 : Int):=od_ (by (with_reducible assumption));have q270 : x10_2 < (x9_2.length : Int):=od_ (by (with_reducible assumption));obtain ⟨ad270,e270,hx270_0⟩:=Kd.at_int (Kd.R_reads' HO_9.out).2.2 x10_2 p270 q270
      cases e270
      replace p270:=eq_true p270;replace q270:=eq_true q270
      go_wp2
      go_loopg [9,12] k2 (fun kq v9 v12 w'=>∃ (x7_3 : List Int) (x8_3 : List Bool) (x9_3 : List Int) (x12_3 : Int),v12 = .int .i64 x12_3 ∧ Aside0 (spec_l06Pushed.l2 kq a1 x5_1 x6_1 x7_3 x8_3 x9_3 x10_2 (rd x9_2 x10_2) x12_3 a0_0 l0_1 = some r) ∧ Aside0 (kq ≤ k2) ∧ Aside0 (Kd.R (Kd.int .i64) 3 w' w.heap.size (fun k_=>some k_ ≠ (v261 : Value).ownBlock ∧ some k_ ≠ (v9 : Value).ownBlock) v258 x5_1) ∧ Aside0 (Kd.R (Kd.int .i64) 3 w' w.heap.size (fun k_=>some k_ ≠ (v258 : Value).ownBlock ∧ some k_ ≠ (v9 : Value).ownBlock) v261 x7_3) ∧ Aside0 (Kd.R Kd.bool 4 w' w.heap.size (fun _=>True) (.slice (some ⟨go14,0,none⟩) x8_2.length co14) x8_3) ∧ Aside0 (Kd.R (Kd.int .i64) 3 w' w.heap.size (fun k_=>some k_ ≠ (v258 : Value).ownBlock ∧ some k_ ≠ (v261 : Value).ownBlock) v9 x9_3) ∧ Aside0 (w'.heap[gb256]? = some (.cells #[.int .i64 a0_0,(.slice A0_1 l0_1.length c0_1)] 30 (0,0))) ∧ Aside0 (Below w.heap.size w w'))
      case atStart=>exact ⟨(x7_2),(x8_2),(x9_2),(0),(by rfl),H',⟨Nat.le_refl _⟩,⟨by exact HO_5.out⟩,⟨by exact HO_7.out⟩,⟨by exact HO_8.out⟩,⟨by exact HO_9.out⟩,⟨by exact BK256.out⟩,⟨by exact HB.out⟩⟩
      case round =>
       clear H'
       try clear c1
       try clear p1
       try clear q1
       try clear hx1
       try clear qi1
       try clear c2
       try clear p2
       try clear q2
       try clear hx2
       try clear c3
       try clear c3b0
       try clear c3b1
       try clear c4
       try clear c4b0
       try clear c4b1
       try clear c5
       try clear c9
       try clear c9b0
       try clear c10
       try clear c10b0
       try clear c10b1
       try clear c11
       try clear c11b0
       try clear c11b1
       try clear c12
       try clear c12b0
       try clear c12b1
       try clear c13
       try clear c13b0
       try clear c13b1
       try clear p14
       try clear q14
       try clear hx14
       try clear qi14
       try clear hf14
       try clear c25
       try clear c25b0
       try clear c26
       try clear c26b0
       try clear p27
       try clear q27
       try clear hx27
       try clear hcz15_0
       try clear hcz15_1
       try clear hcz18_0
       try clear hcz18_1
       try clear hcz6_0
       try clear hcz6_1
       try clear hfz15_0
       try clear hfz15_1
       try clear hfz18_0
       try clear hfz18_1
       try clear hfz6_0
       try clear hfz6_1
       try clear hx14_0
       try clear hx270_0
       try clear p1
       try clear p14
       try clear p2
       try clear p270
       try clear q1
       try clear q14
       try clear q270
       obtain ⟨x7_3,x8_3,x9_3,x12_3,rfl,HA,HK3,HO_5,HO_7,HO_8,HO_9,BK256,HB⟩:=hrel;have hl8_3:=(Kd.R_reads' HO_8.out).1;rw [hl8_3] at HO_8
       (try simp only [hl8_3])
       (skip)
       (skip)
       (skip)
       (skip)
       cases gk with
       | zero => exact absurd HA.out (by simp [spec_l06Pushed.l2])
       | succ k3 =>
        have H:=HA.out;clear HA;simp only [spec_l06Pushed.l2] at H
        by_cases c28 : x12_3 < (x5_1.length : Int)
        rotate_left
        ·rw [if_neg c28] at H;have c28b0 : decide (x12_3 < (x5_1.length : Int)) = false:=decide_eq_false c28;clear c28;have H':=Aside0.mk H;clear H;obtain ⟨Ao141,co141,eo141⟩:=Kd.R_slice HO_5.out;subst eo141
         go_wp2
         (try simp only [← hl8_2,← hl8_3])
         go_roundg k3
         case measure=>have:=HK1.out;have:=HK2.out;have:=HK3.out;omega
         case rel=>exact ⟨(x7_3),(x8_3),(x9_3),(wrap64 (x10_2 + 1)),(by rfl),H',⟨by have:=HK1.out;have:=HK2.out;have:=HK3.out;omega⟩,⟨by exact HO_5.out⟩,⟨by exact HO_7.out⟩,⟨by (try simp only [hl8_2]);(try simp only [hl8_3]);exact HO_8.out⟩,⟨by exact HO_9.out⟩,⟨by exact BK256.out⟩,⟨by exact HB.out⟩⟩
        rw [if_pos c28] at H;have c28b0 : decide (x12_3 < (x5_1.length : Int)) = true:=decide_eq_true c28;clear c28
        by_cases c29 : 0 ≤ x12_3
        rotate_left
        ·rw [if_neg c29] at H;exact absurd H (by simp)
        rw [if_pos c29] at H;have c29b0 : decide (0 ≤ x12_3) = true:=decide_eq_true c29;clear c29
        by_cases c30 : x12_3 < (l0_1.length : Int)
        rotate_left
        ·rw [if_neg c30] at H;exact absurd H (by simp)
        rw [if_pos c30] at H;have c30b0 : decide (x12_3 < (l0_1.length : Int)) = true:=decide_eq_true c30;clear c30;have HC31:=Aside0.mk H;clear H;obtain ⟨Ao32,co32,eo32⟩:=Kd.R_slice HO_5.out;subst eo32;have hcz33_0 : wr.cell? ⟨gb256,0,none⟩ = some (.int .i64 a0_0):=bc_ BK256.out 0;have hcz33_1 : wr.cell? ⟨gb256,1,none⟩ = some (.slice A0_1 l0_1.length c0_1):=bc_ BK256.out 1;have hfz33_0:=blk_frozen BK256.out 0;have hfz33_1:=blk_frozen BK256.out 1;have p271 : 0 ≤ (x12_3 : Int):=od_ (by (with_reducible assumption));have q271 : x12_3 < (l0_1.length : Int):=od_ (by (with_reducible assumption));obtain ⟨ad271,e271,hx271_0,hx271_1,hx271_2,hx271_3⟩:=at_T67 HR0_1.out x12_3 p271 q271
        cases e271
        replace hx271_0:=(HB.out.cell (World.block_lt_of_cell? w _ hx271_0)).trans hx271_0;replace hx271_1:=(HB.out.cell (World.block_lt_of_cell? w _ hx271_1)).trans hx271_1;replace hx271_2:=(HB.out.cell (World.block_lt_of_cell? w _ hx271_2)).trans hx271_2;replace hx271_3:=(HB.out.cell (World.block_lt_of_cell? w _ hx271_3)).trans hx271_3;replace p271:=eq_true p271;replace q271:=eq_true q271
        go_upto_region 17 with (((with_reducible refine gate_dst (N:=13) rfl ?_);refine box_event ?hg (N:=13) ?hd (cs:=#[.int .i64 0,.int .i64 0,.int .i64 0,.int .i64 0]) (t:=67) ?hr ?_;(case hd=>rfl);(case hg=>rfl);(case hr=>(go_simp;done));intro gb272 hg w34 hbox hb;have n0_:=Aside0.mk (Kd.R_below HO_5.out hb);have n1_:=Aside0.mk (Kd.R_below HO_7.out hb);have n2_:=Aside0.mk (Kd.R_below HO_8.out hb);have n3_:=Aside0.mk (Kd.R_below HO_9.out hb);have n4_:=Aside0.mk (blk_below BK256.out hb);have n5_:=Aside0.mk (below_step HB.out hb);have n6_:=Aside0.mk (hbox);have n7_:=Aside0.mk ((by rw [hg];exact (below_size HB.out) : w.heap.size ≤ gb272));have n8_:=n7_;have n9_:=Aside0.mk ((by rw [hg];exact Nat.ne_of_lt (blk_lt (g:=gb256) (o:=.cells #[.int .i64 a0_0,.slice (some ad271) l0_1.length c0_1] 30 (0,0)) BK256.out) : gb256 ≠ gb272));have n10_:=Aside0.mk ((by rw [hg];exact Nat.ne_of_gt (blk_lt (g:=gb256) (o:=.cells #[.int .i64 a0_0,.slice (some ad271) l0_1.length c0_1] 30 (0,0)) BK256.out) : gb272 ≠ gb256));clear HO_5 HO_7 HO_8 HO_9 BK256 HB;have HO_5:=n0_;have HO_7:=n1_;have HO_8:=n2_;have HO_9:=n3_;have BK256:=n4_;have HB:=n5_;have BK272:=n6_;have GW272:=n7_;have GE272:=n8_;have NB256_272:=n9_;have NB272_256:=n10_;clear n0_ n1_ n2_ n3_ n4_ n5_ n6_ n7_ n8_ n9_ n10_ hb hbox hg;have hnb35:=NB272_256.out;have hnc35:=NB256_272.out;have hcz36_0 : w34.cell? ⟨gb272,0,none⟩ = some (.int .i64 0):=bc_ BK272.out 0;have hcz36_1 : w34.cell? ⟨gb272,1,none⟩ = some (.int .i64 0):=bc_ BK272.out 1;have hcz36_2 : w34.cell? ⟨gb272,2,none⟩ = some (.int .i64 0):=bc_ BK272.out 2;have hcz36_3 : w34.cell? ⟨gb272,3,none⟩ = some (.int .i64 0):=bc_ BK272.out 3;have hfz36_0:=blk_frozen BK272.out 0;have hfz36_1:=blk_frozen BK272.out 1;have hfz36_2:=blk_frozen BK272.out 2;have hfz36_3:=blk_frozen BK272.out 3))
        (skip)
        go_cut [74] (fun v74 wc=>∃ (kq : Nat) (x74_30 : Bool),v74 = .bool x74_30 ∧ Aside0 (spec_l06Pushed.j3 kq a1 x5_1 x6_1 x7_3 x8_3 x9_3 x10_2 (rd x9_2 x10_2) x12_3 x74_30 a0_0 l0_1 ((rd_T67 l0_1 x12_3).f0) ((rd_T67 l0_1 x12_3).f1) ((rd_T67 l0_1 x12_3).f2) ((rd_T67 l0_1 x12_3).f3) = some r) ∧ Aside0 (kq ≤ k3) ∧ Aside0 (Kd.R (Kd.int .i64) 3 wc w.heap.size (fun k_=>some k_ ≠ (v261 : Value).ownBlock ∧ some k_ ≠ (u9 : Value).ownBlock) (.slice Ao32 x5_1.length co32) x5_1) ∧ Aside0 (Kd.R (Kd.int .i64) 3 wc w.heap.size (fun k_=>some k_ ≠ ((.slice Ao32 x5_1.length co32) : Value).ownBlock ∧ some k_ ≠ (u9 : Value).ownBlock) v261 x7_3) ∧ Aside0 (Kd.R Kd.bool 4 wc w.heap.size (fun _=>True) (.slice (some ⟨go14,0,none⟩) x8_3.length co14) x8_3) ∧ Aside0 (Kd.R (Kd.int .i64) 3 wc w.heap.size (fun k_=>some k_ ≠ ((.slice Ao32 x5_1.length co32) : Value).ownBlock ∧ some k_ ≠ (v261 : Value).ownBlock) u9 x9_3) ∧ Aside0 (wc.heap[gb256]? = some (.cells #[.int .i64 a0_0,(.slice (some ad271) l0_1.length c0_1)] 30 (0,0))) ∧ Aside0 (wc.heap[gb272]? = some (.cells #[.int .i64 ((rd_T67 l0_1 x12_3).f0),.int .i64 ((rd_T67 l0_1 x12_3).f1),.int .i64 ((rd_T67 l0_1 x12_3).f2),.int .i64 ((rd_T67 l0_1 x12_3).f3)] 67 (0,0))) ∧ Aside0 (Below w.heap.size w wc))
        case first =>
         have H:=HC31.out;clear HC31
         by_cases c37 : ((rd_T67 l0_1 x12_3).f0) = (rd x9_2 x10_2)
         rotate_left
         ·rw [if_neg c37] at H;have c37b0 : (((rd_T67 l0_1 x12_3).f0) == (rd x9_2 x10_2)) = false:=beq_eq_false_iff_ne.mpr c37;have c37b1 : (((rd_T67 l0_1 x12_3).f0) != (rd x9_2 x10_2)) = true:=bne_iff_ne.mpr c37
          (skip)
          have H':=Aside0.mk H;clear H
          try go_wp2
          have n0_ : Aside0 (Kd.R (Kd.int .i64) 3 ((((w34.setCell ⟨gb272,0,none⟩ (.int .i64 ((rd_T67 l0_1 x12_3).f0))).setCell ⟨gb272,1,none⟩ (.int .i64 ((rd_T67 l0_1 x12_3).f1))).setCell ⟨gb272,2,none⟩ (.int .i64 ((rd_T67 l0_1 x12_3).f2))).setCell ⟨gb272,3,none⟩ (.int .i64 ((rd_T67 l0_1 x12_3).f3))) w.heap.size (fun k_=>some k_ ≠ (v261 : Value).ownBlock ∧ some k_ ≠ (u9 : Value).ownBlock) (.slice Ao32 x5_1.length co32) x5_1):=⟨by exact Kd.R_mono (Kd.R_far (p:=⟨gb272,3,none⟩) (Kd.R_far (p:=⟨gb272,2,none⟩) (Kd.R_far (p:=⟨gb272,1,none⟩) (Kd.R_far (p:=⟨gb272,0,none⟩) (Kd.R_types HO_5.out BK272.out (by decide)) (fun _ hk=>hk.2) (.int .i64 ((rd_T67 l0_1 x12_3).f0))) (fun _ hk=>hk.2) (.int .i64 ((rd_T67 l0_1 x12_3).f1))) (fun _ hk=>hk.2) (.int .i64 ((rd_T67 l0_1 x12_3).f2))) (fun _ hk=>hk.2) (.int .i64 ((rd_T67 l0_1 x12_3).f3))) (fun _ hk=>⟨hk.1.1,hk.1.2⟩)⟩
          have n1_ : Aside0 (Kd.R (Kd.int .i64) 3 ((((w34.setCell ⟨gb272,0,none⟩ (.int .i64 ((rd_T67 l0_1 x12_3).f0))).setCell ⟨gb272,1,none⟩ (.int .i64 ((rd_T67 l0_1 x12_3).f1))).setCell ⟨gb272,2,none⟩ (.int .i64 ((rd_T67 l0_1 x12_3).f2))).setCell ⟨gb272,3,none⟩ (.int .i64 ((rd_T67 l0_1 x12_3).f3))) w.heap.size (fun k_=>some k_ ≠ (.slice Ao32 x5_1.length co32 : Value).ownBlock ∧ some k_ ≠ (u9 : Value).ownBlock) v261 x7_3):=⟨by exact Kd.R_mono (Kd.R_far (p:=⟨gb272,3,none⟩) (Kd.R_far (p:=⟨gb272,2,none⟩) (Kd.R_far (p:=⟨gb272,1,none⟩) (Kd.R_far (p:=⟨gb272,0,none⟩) (Kd.R_types HO_7.out BK272.out (by decide)) (fun _ hk=>hk.2) (.int .i64 ((rd_T67 l0_1 x12_3).f0))) (fun _ hk=>hk.2) (.int .i64 ((rd_T67 l0_1 x12_3).f1))) (fun _ hk=>hk.2) (.int .i64 ((rd_T67 l0_1 x12_3).f2))) (fun _ hk=>hk.2) (.int .i64 ((rd_T67 l0_1 x12_3).f3))) (fun _ hk=>⟨hk.1.1,hk.1.2⟩)⟩
          have n2_ : Aside0 (Kd.R Kd.bool 4 ((((w34.setCell ⟨gb272,0,none⟩ (.int .i64 ((rd_T67 l0_1 x12_3).f0))).setCell ⟨gb272,1,none⟩ (.int .i64 ((rd_T67 l0_1 x12_3).f1))).setCell ⟨gb272,2,none⟩ (.int .i64 ((rd_T67 l0_1 x12_3).f2))).setCell ⟨gb272,3,none⟩ (.int .i64 ((rd_T67 l0_1 x12_3).f3))) w.heap.size (fun _=>True) (.slice (some ⟨go14,0,none⟩) x8_3.length co14) x8_3):=⟨by exact Kd.R_mono (Kd.R_far (p:=⟨gb272,3,none⟩) (Kd.R_far (p:=⟨gb272,2,none⟩) (Kd.R_far (p:=⟨gb272,1,none⟩) (Kd.R_far (p:=⟨gb272,0,none⟩) (Kd.R_types HO_8.out BK272.out (by decide)) (fun _ hk=>hk.2) (.int .i64 ((rd_T67 l0_1 x12_3).f0))) (fun _ hk=>hk.2) (.int .i64 ((rd_T67 l0_1 x12_3).f1))) (fun _ hk=>hk.2) (.int .i64 ((rd_T67 l0_1 x12_3).f2))) (fun _ hk=>hk.2) (.int .i64 ((rd_T67 l0_1 x12_3).f3))) (fun _ hk=>trivial)⟩
          have n3_ : Aside0 (Kd.R (Kd.int .i64) 3 ((((w34.setCell ⟨gb272,0,none⟩ (.int .i64 ((rd_T67 l0_1 x12_3).f0))).setCell ⟨gb272,1,none⟩ (.int .i64 ((rd_T67 l0_1 x12_3).f1))).setCell ⟨gb272,2,none⟩ (.int .i64 ((rd_T67 l0_1 x12_3).f2))).setCell ⟨gb272,3,none⟩ (.int .i64 ((rd_T67 l0_1 x12_3).f3))) w.heap.size (fun k_=>some k_ ≠ (.slice Ao32 x5_1.length co32 : Value).ownBlock ∧ some k_ ≠ (v261 : Value).ownBlock) u9 x9_3):=⟨by exact Kd.R_mono (Kd.R_far (p:=⟨gb272,3,none⟩) (Kd.R_far (p:=⟨gb272,2,none⟩) (Kd.R_far (p:=⟨gb272,1,none⟩) (Kd.R_far (p:=⟨gb272,0,none⟩) (Kd.R_types HO_9.out BK272.out (by decide)) (fun _ hk=>hk.2) (.int .i64 ((rd_T67 l0_1 x12_3).f0))) (fun _ hk=>hk.2) (.int .i64 ((rd_T67 l0_1 x12_3).f1))) (fun _ hk=>hk.2) (.int .i64 ((rd_T67 l0_1 x12_3).f2))) (fun _ hk=>hk.2) (.int .i64 ((rd_T67 l0_1 x12_3).f3))) (fun _ hk=>⟨hk.1.1,hk.1.2⟩)⟩
          have n4_ : Aside0 (((((w34.setCell ⟨gb272,0,none⟩ (.int .i64 ((rd_T67 l0_1 x12_3).f0))).setCell ⟨gb272,1,none⟩ (.int .i64 ((rd_T67 l0_1 x12_3).f1))).setCell ⟨gb272,2,none⟩ (.int .i64 ((rd_T67 l0_1 x12_3).f2))).setCell ⟨gb272,3,none⟩ (.int .i64 ((rd_T67 l0_1 x12_3).f3))).heap[gb256]? = some (.cells #[.int .i64 a0_0,.slice (some ad271) l0_1.length c0_1] 30 (0,0))):=⟨by refine blk_far ?_ NB256_272.out _;refine blk_far ?_ NB256_272.out _;refine blk_far ?_ NB256_272.out _;refine blk_far ?_ NB256_272.out _;exact BK256.out⟩
          have n5_ : Aside0 (((((w34.setCell ⟨gb272,0,none⟩ (.int .i64 ((rd_T67 l0_1 x12_3).f0))).setCell ⟨gb272,1,none⟩ (.int .i64 ((rd_T67 l0_1 x12_3).f1))).setCell ⟨gb272,2,none⟩ (.int .i64 ((rd_T67 l0_1 x12_3).f2))).setCell ⟨gb272,3,none⟩ (.int .i64 ((rd_T67 l0_1 x12_3).f3))).heap[gb272]? = some (.cells #[.int .i64 ((rd_T67 l0_1 x12_3).f0),.int .i64 ((rd_T67 l0_1 x12_3).f1),.int .i64 ((rd_T67 l0_1 x12_3).f2),.int .i64 ((rd_T67 l0_1 x12_3).f3)] 67 (0,0))):=⟨by refine blk_put (cs:=#[.int .i64 ((rd_T67 l0_1 x12_3).f0),.int .i64 ((rd_T67 l0_1 x12_3).f1),.int .i64 ((rd_T67 l0_1 x12_3).f2),.int .i64 0]) ?_ 3 _ rfl;refine blk_put (cs:=#[.int .i64 ((rd_T67 l0_1 x12_3).f0),.int .i64 ((rd_T67 l0_1 x12_3).f1),.int .i64 0,.int .i64 0]) ?_ 2 _ rfl;refine blk_put (cs:=#[.int .i64 ((rd_T67 l0_1 x12_3).f0),.int .i64 0,.int .i64 0,.int .i64 0]) ?_ 1 _ rfl;refine blk_put (cs:=#[.int .i64 0,.int .i64 0,.int .i64 0,.int .i64 0]) ?_ 0 _ rfl;exact BK272.out⟩
          have n6_ : Aside0 (Below w.heap.size w ((((w34.setCell ⟨gb272,0,none⟩ (.int .i64 ((rd_T67 l0_1 x12_3).f0))).setCell ⟨gb272,1,none⟩ (.int .i64 ((rd_T67 l0_1 x12_3).f1))).setCell ⟨gb272,2,none⟩ (.int .i64 ((rd_T67 l0_1 x12_3).f2))).setCell ⟨gb272,3,none⟩ (.int .i64 ((rd_T67 l0_1 x12_3).f3)))):=⟨by repeat ((with_reducible first|exact HB.out|refine below_set ?_ GE272.out))⟩
          (try clear HO_5)
          (try clear HO_7)
          (try clear HO_8)
          (try clear HO_9)
          (try clear BK256)
          (try clear BK272)
          (try clear HB)
          generalize ((((w34.setCell ⟨gb272,0,none⟩ (.int .i64 ((rd_T67 l0_1 x12_3).f0))).setCell ⟨gb272,1,none⟩ (.int .i64 ((rd_T67 l0_1 x12_3).f1))).setCell ⟨gb272,2,none⟩ (.int .i64 ((rd_T67 l0_1 x12_3).f2))).setCell ⟨gb272,3,none⟩ (.int .i64 ((rd_T67 l0_1 x12_3).f3))) = w46 at n0_ n1_ n2_ n3_ n4_ n5_ n6_ ⊢;have HO_5:=n0_;have HO_7:=n1_;have HO_8:=n2_;have HO_9:=n3_;have BK256:=n4_;have BK272:=n5_;have HB:=n6_;clear n0_ n1_ n2_ n3_ n4_ n5_ n6_;have n0_:=Aside0.mk (Kd.R_drew HO_5.out);have n1_:=Aside0.mk (Kd.R_drew HO_7.out);have n2_:=Aside0.mk (Kd.R_drew HO_8.out);have n3_:=Aside0.mk (Kd.R_drew HO_9.out);have n4_:=Aside0.mk (blk_drew BK256.out);have n5_:=Aside0.mk (blk_drew BK272.out);have n6_:=Aside0.mk (below_drew1 HB.out);clear HO_5 HO_7 HO_8 HO_9 BK256 BK272 HB;have HO_5:=n0_;have HO_7:=n1_;have HO_8:=n2_;have HO_9:=n3_;have BK256:=n4_;have BK272:=n5_;have HB:=n6_;clear n0_ n1_ n2_ n3_ n4_ n5_ n6_;refine start_ (n:=21) (S:=fun w'=>w'.cell? ⟨gb272,0,none⟩ = some (.int .i64 ((rd_T67 l0_1 x12_3).f0)) ∧ w'.cell? ⟨gb272,1,none⟩ = some (.int .i64 ((rd_T67 l0_1 x12_3).f1)) ∧ w'.cell? ⟨gb272,2,none⟩ = some (.int .i64 ((rd_T67 l0_1 x12_3).f2)) ∧ w'.cell? ⟨gb272,3,none⟩ = some (.int .i64 ((rd_T67 l0_1 x12_3).f3))) (ds:=[]) fl8_0_ (by kernel_rfl) rfl rfl ⟨bc_ BK272.out 0,bc_ BK272.out 1,bc_ BK272.out 2,bc_ BK272.out 3⟩ (fun hHeld=>?_);refine with_tabW spec_l06Pushed.tab17 spec_l06Pushed.bits17 (fun HT_ HW_=>?_);generalize w46.drew = w47 at HO_5 HO_7 HO_8 HO_9 BK256 BK272 HB hHeld ⊢;refine pure_ (i:=0) (N:=some 54) (v:=?_) (a':=?_) fl8_1_ rfl rfl (any_of HT_.out (by kernel_rfl)) (fun _ _ _ h=>h) (Or.inl ⟨by rfl,?_⟩) ?_ ?_;rotate_left;intro w';go_simp;(with_reducible rfl);rotate_left;simp only [Act.put,sb_,sz_,ss_,i64_w,i32_w];rfl;refine pure_ (i:=2) (N:=some 56) (v:=?_) (a':=?_) fl8_2_ rfl rfl (any_of HT_.out (by kernel_rfl)) (fun _ _ _ h=>h) (Or.inl ⟨by rfl,?_⟩) ?_ ?_;rotate_left;intro w';go_simp;(with_reducible rfl);rotate_left;simp only [Act.put,sb_,sz_,ss_,i64_w,i32_w];rfl;refine take_ (i:=1) (N:=some 55) (v:=?_) (a':=?_) fl8_3_ rfl rfl (take_ofW HT_.out HW_.out (by kernel_rfl)) (fun _ _ _ h=>h) (Or.inl ⟨by rfl,?_⟩) hHeld ?_ ?_;rotate_left;rintro w' ⟨s0,s1,s2,s3⟩;go_simp;(with_reducible rfl);rotate_left;simp only [Act.put,sb_,sz_,ss_,i64_w,i32_w];rfl;refine pure_ (i:=3) (N:=some 57) (v:=?_) (a':=?_) fl8_4_ rfl rfl (any_of HT_.out (by kernel_rfl)) (fun _ _ _ h=>h) (Or.inl ⟨by rfl,?_⟩) ?_ ?_;rotate_left;intro w';go_simp;(with_reducible rfl);rotate_left;simp only [Act.put,sb_,sz_,ss_,i64_w,i32_w];rfl;refine pure_ (i:=4) (N:=some 58) (v:=?_) (a':=?_) fl8_5_ rfl rfl (any_of HT_.out (by kernel_rfl)) (fun _ _ _ h=>h) (Or.inl ⟨by rfl,?_⟩) ?_ ?_;rotate_left;intro w';go_simp;(with_reducible rfl);rotate_left;simp only [Act.put,sb_,sz_,ss_,i64_w,i32_w];rfl;refine pure_ (i:=5) (N:=some 59) (v:=undef) (a':=?_) fl8_6_ rfl rfl (any_of HT_.out (by kernel_rfl)) (fun _ _ _ h=>h) (Or.inr ⟨by rfl,rfl⟩) ?_ ?_;rotate_left;simp only [Act.put,sb_,sz_,ss_,i64_w,i32_w];rfl;refine pure_ (i:=6) (N:=some 60) (v:=undef) (a':=?_) fl8_7_ rfl rfl (any_of HT_.out (by kernel_rfl)) (fun _ _ _ h=>h) (Or.inr ⟨by rfl,rfl⟩) ?_ ?_;rotate_left;simp only [Act.put,sb_,sz_,ss_,i64_w,i32_w];rfl;refine pure_ (i:=7) (N:=some 61) (v:=undef) (a':=?_) fl8_8_ rfl rfl (any_of HT_.out (by kernel_rfl)) (fun _ _ _ h=>h) (Or.inr ⟨by rfl,rfl⟩) ?_ ?_;rotate_left;simp only [Act.put,sb_,sz_,ss_,i64_w,i32_w];rfl;refine pure_ (i:=8) (N:=some 62) (v:=undef) (a':=?_) fl8_9_ rfl rfl (any_of HT_.out (by kernel_rfl)) (fun _ _ _ h=>h) (Or.inr ⟨by rfl,rfl⟩) ?_ ?_;rotate_left;simp only [Act.put,sb_,sz_,ss_,i64_w,i32_w];rfl;refine pure_ (i:=9) (N:=some 63) (v:=undef) (a':=?_) fl8_10_ rfl rfl (any_of HT_.out (by kernel_rfl)) (fun _ _ _ h=>h) (Or.inr ⟨by rfl,rfl⟩) ?_ ?_;rotate_left;simp only [Act.put,sb_,sz_,ss_,i64_w,i32_w];rfl;refine pure_ (i:=10) (N:=some 64) (v:=undef) (a':=?_) fl8_11_ rfl rfl (any_of HT_.out (by kernel_rfl)) (fun _ _ _ h=>h) (Or.inr ⟨by rfl,rfl⟩) ?_ ?_;rotate_left;simp only [Act.put,sb_,sz_,ss_,i64_w,i32_w];rfl;refine pure_ (i:=11) (N:=some 65) (v:=?_) (a':=?_) fl8_12_ rfl rfl (any_of HT_.out (by kernel_rfl)) (fun _ _ _ h=>h) (Or.inl ⟨by rfl,?_⟩) ?_ ?_;rotate_left;intro w';go_simp;(with_reducible rfl);rotate_left;simp only [Act.put,sb_,sz_,ss_,i64_w,i32_w];rfl;refine pure_ (i:=12) (N:=some 66) (v:=?_) (a':=?_) fl8_13_ rfl rfl (any_of HT_.out (by kernel_rfl)) (fun _ _ _ h=>h) (Or.inl ⟨by rfl,?_⟩) ?_ ?_;rotate_left;intro w';go_simp;(with_reducible rfl);rotate_left;simp only [Act.put,sb_,sz_,ss_,i64_w,i32_w];rfl;refine pure_ (i:=13) (N:=some 67) (v:=undef) (a':=?_) fl8_14_ rfl rfl (any_of HT_.out (by kernel_rfl)) (fun _ _ _ h=>h) (Or.inr ⟨by rfl,rfl⟩) ?_ ?_;rotate_left;simp only [Act.put,sb_,sz_,ss_,i64_w,i32_w];rfl;refine pure_ (i:=14) (N:=some 68) (v:=undef) (a':=?_) fl8_15_ rfl rfl (any_of HT_.out (by kernel_rfl)) (fun _ _ _ h=>h) (Or.inr ⟨by rfl,rfl⟩) ?_ ?_;rotate_left;simp only [Act.put,sb_,sz_,ss_,i64_w,i32_w];rfl;refine pure_ (i:=15) (N:=some 69) (v:=undef) (a':=?_) fl8_16_ rfl rfl (any_of HT_.out (by kernel_rfl)) (fun _ _ _ h=>h) (Or.inr ⟨by rfl,rfl⟩) ?_ ?_;rotate_left;simp only [Act.put,sb_,sz_,ss_,i64_w,i32_w];rfl;refine pure_ (i:=16) (N:=some 70) (v:=undef) (a':=?_) fl8_17_ rfl rfl (any_of HT_.out (by kernel_rfl)) (fun _ _ _ h=>h) (Or.inr ⟨by rfl,rfl⟩) ?_ ?_;rotate_left;simp only [Act.put,sb_,sz_,ss_,i64_w,i32_w];rfl;refine pure_ (i:=17) (N:=some 71) (v:=undef) (a':=?_) fl8_18_ rfl rfl (any_of HT_.out (by kernel_rfl)) (fun _ _ _ h=>h) (Or.inr ⟨by rfl,rfl⟩) ?_ ?_;rotate_left;simp only [Act.put,sb_,sz_,ss_,i64_w,i32_w];rfl;refine pure_ (i:=18) (N:=some 72) (v:=undef) (a':=?_) fl8_19_ rfl rfl (any_of HT_.out (by kernel_rfl)) (fun _ _ _ h=>h) (Or.inr ⟨by rfl,rfl⟩) ?_ ?_;rotate_left;simp only [Act.put,sb_,sz_,ss_,i64_w,i32_w];rfl;refine pure_ (i:=19) (N:=some 73) (v:=undef) (a':=?_) fl8_20_ rfl rfl (any_of HT_.out (by kernel_rfl)) (fun _ _ _ h=>h) (Or.inr ⟨by rfl,rfl⟩) ?_ ?_;rotate_left;simp only [Act.put,sb_,sz_,ss_,i64_w,i32_w];rfl;refine pure_ (i:=20) (N:=some 74) (v:=?_) (a':=?_) fl8_21_ rfl rfl (any_of HT_.out (by kernel_rfl)) (fun _ _ _ h=>h) (Or.inl ⟨by rfl,?_⟩) ?_ ?_;rotate_left;intro w';go_simp;(with_reducible rfl);rotate_left;simp only [Act.put,sb_,sz_,ss_,i64_w,i32_w];rfl;refine done_ (done_of HT_.out (by kernel_rfl)) ?_
          try go_wp2
          go_meet
          case rel=>exact ⟨_,(false),(by rfl),H',⟨by have:=HK1.out;have:=HK2.out;have:=HK3.out;omega⟩,⟨by exact HO_5.out⟩,⟨by exact HO_7.out⟩,⟨by exact HO_8.out⟩,⟨by exact HO_9.out⟩,⟨by exact BK256.out⟩,⟨by exact BK272.out⟩,⟨by exact HB.out⟩⟩
         rw [if_pos c37] at H;have c37b0 : (((rd_T67 l0_1 x12_3).f0) == (rd x9_2 x10_2)) = true:=beq_iff_eq.mpr c37;have c37b1 : (((rd_T67 l0_1 x12_3).f0) != (rd x9_2 x10_2)) = false:=bne_eq_false_iff_eq.mpr c37;clear c37
         (skip)
         by_cases c38 : 0 ≤ ((rd_T67 l0_1 x12_3).f1)
         rotate_left
         ·rw [if_neg c38] at H;exact absurd H (by simp)
         rw [if_pos c38] at H;have c38b0 : decide (0 ≤ ((rd_T67 l0_1 x12_3).f1)) = true:=decide_eq_true c38;clear c38
         by_cases c39 : ((rd_T67 l0_1 x12_3).f1) < (x8_3.length : Int)
         rotate_left
         ·rw [if_neg c39] at H;exact absurd H (by simp)
         rw [if_pos c39] at H;have c39b0 : decide (((rd_T67 l0_1 x12_3).f1) < (x8_3.length : Int)) = true:=decide_eq_true c39;clear c39
         obtain ⟨bq40,hbq40⟩ : ∃ b_ : Bool,b_ = (rdOf false x8_3 ((rd_T67 l0_1 x12_3).f1)):=⟨_,rfl⟩
         replace H : (if (bq40 = true) then (spec_l06Pushed.j3 k3 a1 x5_1 x6_1 x7_3 x8_3 x9_3 x10_2 (rd x9_2 x10_2) x12_3 false a0_0 l0_1 ((rd_T67 l0_1 x12_3).f0) ((rd_T67 l0_1 x12_3).f1) ((rd_T67 l0_1 x12_3).f2) ((rd_T67 l0_1 x12_3).f3)) else (spec_l06Pushed.j3 k3 a1 x5_1 x6_1 x7_3 x8_3 x9_3 x10_2 (rd x9_2 x10_2) x12_3 (decide ((rd x5_1 x12_3) < ((rd_T67 l0_1 x12_3).f2))) a0_0 l0_1 ((rd_T67 l0_1 x12_3).f0) ((rd_T67 l0_1 x12_3).f1) ((rd_T67 l0_1 x12_3).f2) ((rd_T67 l0_1 x12_3).f3))) = some r:=by rw [← hbq40] at H;exact H
         have Nbq40:=Aside0.mk hbq40;clear hbq40
         by_cases c41 : (bq40 = true)
         ·subst c41
          have H1 : (spec_l06Pushed.j3 k3 a1 x5_1 x6_1 x7_3 x8_3 x9_3 x10_2 (rd x9_2 x10_2) x12_3 false a0_0 l0_1 ((rd_T67 l0_1 x12_3).f0) ((rd_T67 l0_1 x12_3).f1) ((rd_T67 l0_1 x12_3).f2) ((rd_T67 l0_1 x12_3).f3)) = some r:=by rw [if_pos rfl] at H;exact H
          clear H;have H:=H1;clear H1;have H':=Aside0.mk H;clear H
          try go_wp2
          have n0_ : Aside0 (Kd.R (Kd.int .i64) 3 ((((w34.setCell ⟨gb272,0,none⟩ (.int .i64 ((rd_T67 l0_1 x12_3).f0))).setCell ⟨gb272,1,none⟩ (.int .i64 ((rd_T67 l0_1 x12_3).f1))).setCell ⟨gb272,2,none⟩ (.int .i64 ((rd_T67 l0_1 x12_3).f2))).setCell ⟨gb272,3,none⟩ (.int .i64 ((rd_T67 l0_1 x12_3).f3))) w.heap.size (fun k_=>some k_ ≠ (v261 : Value).ownBlock ∧ some k_ ≠ (u9 : Value).ownBlock) (.slice Ao32 x5_1.length co32) x5_1):=⟨by exact Kd.R_mono (Kd.R_far (p:=⟨gb272,3,none⟩) (Kd.R_far (p:=⟨gb272,2,none⟩) (Kd.R_far (p:=⟨gb272,1,none⟩) (Kd.R_far (p:=⟨gb272,0,none⟩) (Kd.R_types HO_5.out BK272.out (by decide)) (fun _ hk=>hk.2) (.int .i64 ((rd_T67 l0_1 x12_3).f0))) (fun _ hk=>hk.2) (.int .i64 ((rd_T67 l0_1 x12_3).f1))) (fun _ hk=>hk.2) (.int .i64 ((rd_T67 l0_1 x12_3).f2))) (fun _ hk=>hk.2) (.int .i64 ((rd_T67 l0_1 x12_3).f3))) (fun _ hk=>⟨hk.1.1,hk.1.2⟩)⟩
          have n1_ : Aside0 (Kd.R (Kd.int .i64) 3 ((((w34.setCell ⟨gb272,0,none⟩ (.int .i64 ((rd_T67 l0_1 x12_3).f0))).setCell ⟨gb272,1,none⟩ (.int .i64 ((rd_T67 l0_1 x12_3).f1))).setCell ⟨gb272,2,none⟩ (.int .i64 ((rd_T67 l0_1 x12_3).f2))).setCell ⟨gb272,3,none⟩ (.int .i64 ((rd_T67 l0_1 x12_3).f3))) w.heap.size (fun k_=>some k_ ≠ (.slice Ao32 x5_1.length co32 : Value).ownBlock ∧ some k_ ≠ (u9 : Value).ownBlock) v261 x7_3):=⟨by exact Kd.R_mono (Kd.R_far (p:=⟨gb272,3,none⟩) (Kd.R_far (p:=⟨gb272,2,none⟩) (Kd.R_far (p:=⟨gb272,1,none⟩) (Kd.R_far (p:=⟨gb272,0,none⟩) (Kd.R_types HO_7.out BK272.out (by decide)) (fun _ hk=>hk.2) (.int .i64 ((rd_T67 l0_1 x12_3).f0))) (fun _ hk=>hk.2) (.int .i64 ((rd_T67 l0_1 x12_3).f1))) (fun _ hk=>hk.2) (.int .i64 ((rd_T67 l0_1 x12_3).f2))) (fun _ hk=>hk.2) (.int .i64 ((rd_T67 l0_1 x12_3).f3))) (fun _ hk=>⟨hk.1.1,hk.1.2⟩)⟩
          have n2_ : Aside0 (Kd.R Kd.bool 4 ((((w34.setCell ⟨gb272,0,none⟩ (.int .i64 ((rd_T67 l0_1 x12_3).f0))).setCell ⟨gb272,1,none⟩ (.int .i64 ((rd_T67 l0_1 x12_3).f1))).setCell ⟨gb272,2,none⟩ (.int .i64 ((rd_T67 l0_1 x12_3).f2))).setCell ⟨gb272,3,none⟩ (.int .i64 ((rd_T67 l0_1 x12_3).f3))) w.heap.size (fun _=>True) (.slice (some ⟨go14,0,none⟩) x8_3.length co14) x8_3):=⟨by exact Kd.R_mono (Kd.R_far (p:=⟨gb272,3,none⟩) (Kd.R_far (p:=⟨gb272,2,none⟩) (Kd.R_far (p:=⟨gb272,1,none⟩) (Kd.R_far (p:=⟨gb272,0,none⟩) (Kd.R_types HO_8.out BK272.out (by decide)) (fun _ hk=>hk.2) (.int .i64 ((rd_T67 l0_1 x12_3).f0))) (fun _ hk=>hk.2) (.int .i64 ((rd_T67 l0_1 x12_3).f1))) (fun _ hk=>hk.2) (.int .i64 ((rd_T67 l0_1 x12_3).f2))) (fun _ hk=>hk.2) (.int .i64 ((rd_T67 l0_1 x12_3).f3))) (fun _ hk=>trivial)⟩
          have n3_ : Aside0 (Kd.R (Kd.int .i64) 3 ((((w34.setCell ⟨gb272,0,none⟩ (.int .i64 ((rd_T67 l0_1 x12_3).f0))).setCell ⟨gb272,1,none⟩ (.int .i64 ((rd_T67 l0_1 x12_3).f1))).setCell ⟨gb272,2,none⟩ (.int .i64 ((rd_T67 l0_1 x12_3).f2))).setCell ⟨gb272,3,none⟩ (.int .i64 ((rd_T67 l0_1 x12_3).f3))) w.heap.size (fun k_=>some k_ ≠ (.slice Ao32 x5_1.length co32 : Value).ownBlock ∧ some k_ ≠ (v261 : Value).ownBlock) u9 x9_3):=⟨by exact Kd.R_mono (Kd.R_far (p:=⟨gb272,3,none⟩) (Kd.R_far (p:=⟨gb272,2,none⟩) (Kd.R_far (p:=⟨gb272,1,none⟩) (Kd.R_far (p:=⟨gb272,0,none⟩) (Kd.R_types HO_9.out BK272.out (by decide)) (fun _ hk=>hk.2) (.int .i64 ((rd_T67 l0_1 x12_3).f0))) (fun _ hk=>hk.2) (.int .i64 ((rd_T67 l0_1 x12_3).f1))) (fun _ hk=>hk.2) (.int .i64 ((rd_T67 l0_1 x12_3).f2))) (fun _ hk=>hk.2) (.int .i64 ((rd_T67 l0_1 x12_3).f3))) (fun _ hk=>⟨hk.1.1,hk.1.2⟩)⟩
          have n4_ : Aside0 (((((w34.setCell ⟨gb272,0,none⟩ (.int .i64 ((rd_T67 l0_1 x12_3).f0))).setCell ⟨gb272,1,none⟩ (.int .i64 ((rd_T67 l0_1 x12_3).f1))).setCell ⟨gb272,2,none⟩ (.int .i64 ((rd_T67 l0_1 x12_3).f2))).setCell ⟨gb272,3,none⟩ (.int .i64 ((rd_T67 l0_1 x12_3).f3))).heap[gb256]? = some (.cells #[.int .i64 a0_0,.slice (some ad271) l0_1.length c0_1] 30 (0,0))):=⟨by refine blk_far ?_ NB256_272.out _;refine blk_far ?_ NB256_272.out _;refine blk_far ?_ NB256_272.out _;refine blk_far ?_ NB256_272.out _;exact BK256.out⟩
          have n5_ : Aside0 (((((w34.setCell ⟨gb272,0,none⟩ (.int .i64 ((rd_T67 l0_1 x12_3).f0))).setCell ⟨gb272,1,none⟩ (.int .i64 ((rd_T67 l0_1 x12_3).f1))).setCell ⟨gb272,2,none⟩ (.int .i64 ((rd_T67 l0_1 x12_3).f2))).setCell ⟨gb272,3,none⟩ (.int .i64 ((rd_T67 l0_1 x12_3).f3))).heap[gb272]? = some (.cells #[.int .i64 ((rd_T67 l0_1 x12_3).f0),.int .i64 ((rd_T67 l0_1 x12_3).f1),.int .i64 ((rd_T67 l0_1 x12_3).f2),.int .i64 ((rd_T67 l0_1 x12_3).f3)] 67 (0,0))):=⟨by refine blk_put (cs:=#[.int .i64 ((rd_T67 l0_1 x12_3).f0),.int .i64 ((rd_T67 l0_1 x12_3).f1),.int .i64 ((rd_T67 l0_1 x12_3).f2),.int .i64 0]) ?_ 3 _ rfl;refine blk_put (cs:=#[.int .i64 ((rd_T67 l0_1 x12_3).f0),.int .i64 ((rd_T67 l0_1 x12_3).f1),.int .i64 0,.int .i64 0]) ?_ 2 _ rfl;refine blk_put (cs:=#[.int .i64 ((rd_T67 l0_1 x12_3).f0),.int .i64 0,.int .i64 0,.int .i64 0]) ?_ 1 _ rfl;refine blk_put (cs:=#[.int .i64 0,.int .i64 0,.int .i64 0,.int .i64 0]) ?_ 0 _ rfl;exact BK272.out⟩
          have n6_ : Aside0 (Below w.heap.size w ((((w34.setCell ⟨gb272,0,none⟩ (.int .i64 ((rd_T67 l0_1 x12_3).f0))).setCell ⟨gb272,1,none⟩ (.int .i64 ((rd_T67 l0_1 x12_3).f1))).setCell ⟨gb272,2,none⟩ (.int .i64 ((rd_T67 l0_1 x12_3).f2))).setCell ⟨gb272,3,none⟩ (.int .i64 ((rd_T67 l0_1 x12_3).f3)))):=⟨by repeat ((with_reducible first|exact HB.out|refine below_set ?_ GE272.out))⟩
          (try clear HO_5)
          (try clear HO_7)
          (try clear HO_8)
          (try clear HO_9)
          (try clear BK256)
          (try clear BK272)
          (try clear HB)
          generalize ((((w34.setCell ⟨gb272,0,none⟩ (.int .i64 ((rd_T67 l0_1 x12_3).f0))).setCell ⟨gb272,1,none⟩ (.int .i64 ((rd_T67 l0_1 x12_3).f1))).setCell ⟨gb272,2,none⟩ (.int .i64 ((rd_T67 l0_1 x12_3).f2))).setCell ⟨gb272,3,none⟩ (.int .i64 ((rd_T67 l0_1 x12_3).f3))) = w42 at n0_ n1_ n2_ n3_ n4_ n5_ n6_ ⊢;have HO_5:=n0_;have HO_7:=n1_;have HO_8:=n2_;have HO_9:=n3_;have BK256:=n4_;have BK272:=n5_;have HB:=n6_;clear n0_ n1_ n2_ n3_ n4_ n5_ n6_;have n0_:=Aside0.mk (Kd.R_drew HO_5.out);have n1_:=Aside0.mk (Kd.R_drew HO_7.out);have n2_:=Aside0.mk (Kd.R_drew HO_8.out);have n3_:=Aside0.mk (Kd.R_drew HO_9.out);have n4_:=Aside0.mk (blk_drew BK256.out);have n5_:=Aside0.mk (blk_drew BK272.out);have n6_:=Aside0.mk (below_drew1 HB.out);clear HO_5 HO_7 HO_8 HO_9 BK256 BK272 HB;have HO_5:=n0_;have HO_7:=n1_;have HO_8:=n2_;have HO_9:=n3_;have BK256:=n4_;have BK272:=n5_;have HB:=n6_;clear n0_ n1_ n2_ n3_ n4_ n5_ n6_;have p273 : 0 ≤ (((rd_T67 l0_1 x12_3).f1) : Int):=od_ (by (with_reducible assumption));have q273 : ((rd_T67 l0_1 x12_3).f1) < (x8_3.length : Int):=od_ (by (with_reducible assumption));obtain ⟨ad273,e273,hx273_0⟩:=Kd.at_bool (Kd.R_reads' HO_8.out).2.2 ((rd_T67 l0_1 x12_3).f1) p273 q273
          (try rw [← Nbq40.out] at hx273_0)
          obtain rfl : (⟨go14,0,none⟩ : Addr) = ad273:=(by injection e273)
          (simp only [add_plain] at hx273_0)
          replace p273:=eq_true p273;replace q273:=eq_true q273;refine start_ (n:=21) (S:=fun w'=>w'.cell? ⟨gb272,0,none⟩ = some (.int .i64 ((rd_T67 l0_1 x12_3).f0)) ∧ w'.cell? ⟨gb272,1,none⟩ = some (.int .i64 ((rd_T67 l0_1 x12_3).f1)) ∧ w'.cell? ⟨gb272,2,none⟩ = some (.int .i64 ((rd_T67 l0_1 x12_3).f2)) ∧ w'.cell? ⟨gb272,3,none⟩ = some (.int .i64 ((rd_T67 l0_1 x12_3).f3)) ∧ w'.cell? ⟨go14,(((rd_T67 l0_1 x12_3).f1)).toNat,none⟩ = some (.bool true)) (ds:=[]) fl8_0_ (by kernel_rfl) rfl rfl ⟨bc_ BK272.out 0,bc_ BK272.out 1,bc_ BK272.out 2,bc_ BK272.out 3,hx273_0⟩ (fun hHeld=>?_);refine with_tabW spec_l06Pushed.tab17 spec_l06Pushed.bits17 (fun HT_ HW_=>?_);generalize w42.drew = w43 at HO_5 HO_7 HO_8 HO_9 BK256 BK272 HB hx273_0 hHeld ⊢;refine pure_ (i:=0) (N:=some 54) (v:=?_) (a':=?_) fl8_1_ rfl rfl (any_of HT_.out (by kernel_rfl)) (fun _ _ _ h=>h) (Or.inl ⟨by rfl,?_⟩) ?_ ?_;rotate_left;intro w';go_simp;(with_reducible rfl);rotate_left;simp only [Act.put,sb_,sz_,ss_,i64_w,i32_w];rfl;refine pure_ (i:=2) (N:=some 56) (v:=?_) (a':=?_) fl8_2_ rfl rfl (any_of HT_.out (by kernel_rfl)) (fun _ _ _ h=>h) (Or.inl ⟨by rfl,?_⟩) ?_ ?_;rotate_left;intro w';go_simp;(with_reducible rfl);rotate_left;simp only [Act.put,sb_,sz_,ss_,i64_w,i32_w];rfl;refine take_ (i:=1) (N:=some 55) (v:=?_) (a':=?_) fl8_3_ rfl rfl (take_ofW HT_.out HW_.out (by kernel_rfl)) (fun _ _ _ h=>h) (Or.inl ⟨by rfl,?_⟩) hHeld ?_ ?_;rotate_left;rintro w' ⟨s0,s1,s2,s3,s4⟩;go_simp;(with_reducible rfl);rotate_left;simp only [Act.put,sb_,sz_,ss_,i64_w,i32_w];rfl;refine pure_ (i:=3) (N:=some 57) (v:=?_) (a':=?_) fl8_4_ rfl rfl (any_of HT_.out (by kernel_rfl)) (fun _ _ _ h=>h) (Or.inl ⟨by rfl,?_⟩) ?_ ?_;rotate_left;intro w';go_simp;(with_reducible rfl);rotate_left;simp only [Act.put,sb_,sz_,ss_,i64_w,i32_w];rfl;refine pure_ (i:=4) (N:=some 58) (v:=?_) (a':=?_) fl8_5_ rfl rfl (any_of HT_.out (by kernel_rfl)) (fun _ _ _ h=>h) (Or.inl ⟨by rfl,?_⟩) ?_ ?_;rotate_left;intro w';go_simp;(with_reducible rfl);rotate_left;simp only [Act.put,sb_,sz_,ss_,i64_w,i32_w];rfl;refine pure_ (i:=5) (N:=some 59) (v:=?_) (a':=?_) fl8_6_ rfl rfl (any_of HT_.out (by kernel_rfl)) (fun _ _ _ h=>h) (Or.inl ⟨by rfl,?_⟩) ?_ ?_;rotate_left;intro w';go_simp;(with_reducible rfl);rotate_left;simp only [Act.put,sb_,sz_,ss_,i64_w,i32_w];rfl;refine pure_ (i:=6) (N:=some 60) (v:=?_) (a':=?_) fl8_7_ rfl rfl (any_of HT_.out (by kernel_rfl)) (fun _ _ _ h=>h) (Or.inl ⟨by rfl,?_⟩) ?_ ?_;rotate_left;intro w';go_simp;(with_reducible rfl);rotate_left;simp only [Act.put,sb_,sz_,ss_,i64_w,i32_w];rfl;refine take_ (i:=7) (N:=some 61) (v:=?_) (a':=?_) fl8_8_ rfl rfl (take_ofW HT_.out HW_.out (by kernel_rfl)) (fun _ _ _ h=>h) (Or.inl ⟨by rfl,?_⟩) hHeld ?_ ?_;rotate_left;rintro w' ⟨s0,s1,s2,s3,s4⟩;go_simp;(with_reducible rfl);rotate_left;simp only [Act.put,sb_,sz_,ss_,i64_w,i32_w];rfl;refine pure_ (i:=8) (N:=some 62) (v:=?_) (a':=?_) fl8_9_ rfl rfl (any_of HT_.out (by kernel_rfl)) (fun _ _ _ h=>h) (Or.inl ⟨by rfl,?_⟩) ?_ ?_;rotate_left;intro w';go_simp;(with_reducible rfl);rotate_left;simp only [Act.put,sb_,sz_,ss_,i64_w,i32_w];rfl;refine take_ (i:=9) (N:=some 63) (v:=?_) (a':=?_) fl8_10_ rfl rfl (take_ofW HT_.out HW_.out (by kernel_rfl)) (fun _ _ _ h=>h) (Or.inl ⟨by rfl,?_⟩) hHeld ?_ ?_;rotate_left;rintro w' ⟨s0,s1,s2,s3,s4⟩;go_simp;(with_reducible rfl);rotate_left;simp only [Act.put,sb_,sz_,ss_,i64_w,i32_w];rfl;refine pure_ (i:=10) (N:=some 64) (v:=?_) (a':=?_) fl8_11_ rfl rfl (any_of HT_.out (by kernel_rfl)) (fun _ _ _ h=>h) (Or.inl ⟨by rfl,?_⟩) ?_ ?_;rotate_left;intro w';go_simp;(with_reducible rfl);rotate_left;simp only [Act.put,sb_,sz_,ss_,i64_w,i32_w];rfl;refine pure_ (i:=11) (N:=some 65) (v:=?_) (a':=?_) fl8_12_ rfl rfl (any_of HT_.out (by kernel_rfl)) (fun _ _ _ h=>h) (Or.inl ⟨by rfl,?_⟩) ?_ ?_;rotate_left;intro w';go_simp;(with_reducible rfl);rotate_left;simp only [Act.put,sb_,sz_,ss_,i64_w,i32_w];rfl;refine pure_ (i:=12) (N:=some 66) (v:=?_) (a':=?_) fl8_13_ rfl rfl (any_of HT_.out (by kernel_rfl)) (fun _ _ _ h=>h) (Or.inl ⟨by rfl,?_⟩) ?_ ?_;rotate_left;intro w';go_simp;(with_reducible rfl);rotate_left;simp only [Act.put,sb_,sz_,ss_,i64_w,i32_w];rfl;refine pure_ (i:=13) (N:=some 67) (v:=undef) (a':=?_) fl8_14_ rfl rfl (any_of HT_.out (by kernel_rfl)) (fun _ _ _ h=>h) (Or.inr ⟨by rfl,rfl⟩) ?_ ?_;rotate_left;simp only [Act.put,sb_,sz_,ss_,i64_w,i32_w];rfl;refine pure_ (i:=14) (N:=some 68) (v:=undef) (a':=?_) fl8_15_ rfl rfl (any_of HT_.out (by kernel_rfl)) (fun _ _ _ h=>h) (Or.inr ⟨by rfl,rfl⟩) ?_ ?_;rotate_left;simp only [Act.put,sb_,sz_,ss_,i64_w,i32_w];rfl;refine pure_ (i:=15) (N:=some 69) (v:=undef) (a':=?_) fl8_16_ rfl rfl (any_of HT_.out (by kernel_rfl)) (fun _ _ _ h=>h) (Or.inr ⟨by rfl,rfl⟩) ?_ ?_;rotate_left;simp only [Act.put,sb_,sz_,ss_,i64_w,i32_w];rfl;refine pure_ (i:=16) (N:=some 70) (v:=undef) (a':=?_) fl8_17_ rfl rfl (any_of HT_.out (by kernel_rfl)) (fun _ _ _ h=>h) (Or.inr ⟨by rfl,rfl⟩) ?_ ?_;rotate_left;simp only [Act.put,sb_,sz_,ss_,i64_w,i32_w];rfl;refine pure_ (i:=17) (N:=some 71) (v:=undef) (a':=?_) fl8_18_ rfl rfl (any_of HT_.out (by kernel_rfl)) (fun _ _ _ h=>h) (Or.inr ⟨by rfl,rfl⟩) ?_ ?_;rotate_left;simp only [Act.put,sb_,sz_,ss_,i64_w,i32_w];rfl;refine pure_ (i:=18) (N:=some 72) (v:=undef) (a':=?_) fl8_19_ rfl rfl (any_of HT_.out (by kernel_rfl)) (fun _ _ _ h=>h) (Or.inr ⟨by rfl,rfl⟩) ?_ ?_;rotate_left;simp only [Act.put,sb_,sz_,ss_,i64_w,i32_w];rfl;refine pure_ (i:=19) (N:=some 73) (v:=undef) (a':=?_) fl8_20_ rfl rfl (any_of HT_.out (by kernel_rfl)) (fun _ _ _ h=>h) (Or.inr ⟨by rfl,rfl⟩) ?_ ?_;rotate_left;simp only [Act.put,sb_,sz_,ss_,i64_w,i32_w];rfl;refine pure_ (i:=20) (N:=some 74) (v:=?_) (a':=?_) fl8_21_ rfl rfl (any_of HT_.out (by kernel_rfl)) (fun _ _ _ h=>h) (Or.inl ⟨by rfl,?_⟩) ?_ ?_;rotate_left;intro w';go_simp;(with_reducible rfl);rotate_left;simp only [Act.put,sb_,sz_,ss_,i64_w,i32_w];rfl;refine done_ (done_of HT_.out (by kernel_rfl)) ?_
          try go_wp2
          go_meet
          case rel=>exact ⟨_,(false),(by rfl),H',⟨by have:=HK1.out;have:=HK2.out;have:=HK3.out;omega⟩,⟨by exact HO_5.out⟩,⟨by exact HO_7.out⟩,⟨by exact HO_8.out⟩,⟨by exact HO_9.out⟩,⟨by exact BK256.out⟩,⟨by exact BK272.out⟩,⟨by exact HB.out⟩⟩
         replace c41:=Bool.eq_false_iff.mpr c41;subst c41
         have H1 : (spec_l06Pushed.j3 k3 a1 x5_1 x6_1 x7_3 x8_3 x9_3 x10_2 (rd x9_2 x10_2) x12_3 (decide ((rd x5_1 x12_3) < ((rd_T67 l0_1 x12_3).f2))) a0_0 l0_1 ((rd_T67 l0_1 x12_3).f0) ((rd_T67 l0_1 x12_3).f1) ((rd_T67 l0_1 x12_3).f2) ((rd_T67 l0_1 x12_3).f3)) = some r:=by rw [if_neg (show ¬ (false = true) by decide)] at H;exact H
         clear H;have H:=H1;clear H1;have H':=Aside0.mk H;clear H
         try go_wp2
         have n0_ : Aside0 (Kd.R (Kd.int .i64) 3 ((((w34.setCell ⟨gb272,0,none⟩ (.int .i64 ((rd_T67 l0_1 x12_3).f0))).setCell ⟨gb272,1,none⟩ (.int .i64 ((rd_T67 l0_1 x12_3).f1))).setCell ⟨gb272,2,none⟩ (.int .i64 ((rd_T67 l0_1 x12_3).f2))).setCell ⟨gb272,3,none⟩ (.int .i64 ((rd_T67 l0_1 x12_3).f3))) w.heap.size (fun k_=>some k_ ≠ (v261 : Value).ownBlock ∧ some k_ ≠ (u9 : Value).ownBlock) (.slice Ao32 x5_1.length co32) x5_1):=⟨by exact Kd.R_mono (Kd.R_far (p:=⟨gb272,3,none⟩) (Kd.R_far (p:=⟨gb272,2,none⟩) (Kd.R_far (p:=⟨gb272,1,none⟩) (Kd.R_far (p:=⟨gb272,0,none⟩) (Kd.R_types HO_5.out BK272.out (by decide)) (fun _ hk=>hk.2) (.int .i64 ((rd_T67 l0_1 x12_3).f0))) (fun _ hk=>hk.2) (.int .i64 ((rd_T67 l0_1 x12_3).f1))) (fun _ hk=>hk.2) (.int .i64 ((rd_T67 l0_1 x12_3).f2))) (fun _ hk=>hk.2) (.int .i64 ((rd_T67 l0_1 x12_3).f3))) (fun _ hk=>⟨hk.1.1,hk.1.2⟩)⟩
         have n1_ : Aside0 (Kd.R (Kd.int .i64) 3 ((((w34.setCell ⟨gb272,0,none⟩ (.int .i64 ((rd_T67 l0_1 x12_3).f0))).setCell ⟨gb272,1,none⟩ (.int .i64 ((rd_T67 l0_1 x12_3).f1))).setCell ⟨gb272,2,none⟩ (.int .i64 ((rd_T67 l0_1 x12_3).f2))).setCell ⟨gb272,3,none⟩ (.int .i64 ((rd_T67 l0_1 x12_3).f3))) w.heap.size (fun k_=>some k_ ≠ (.slice Ao32 x5_1.length co32 : Value).ownBlock ∧ some k_ ≠ (u9 : Value).ownBlock) v261 x7_3):=⟨by exact Kd.R_mono (Kd.R_far (p:=⟨gb272,3,none⟩) (Kd.R_far (p:=⟨gb272,2,none⟩) (Kd.R_far (p:=⟨gb272,1,none⟩) (Kd.R_far (p:=⟨gb272,0,none⟩) (Kd.R_types HO_7.out BK272.out (by decide)) (fun _ hk=>hk.2) (.int .i64 ((rd_T67 l0_1 x12_3).f0))) (fun _ hk=>hk.2) (.int .i64 ((rd_T67 l0_1 x12_3).f1))) (fun _ hk=>hk.2) (.int .i64 ((rd_T67 l0_1 x12_3).f2))) (fun _ hk=>hk.2) (.int .i64 ((rd_T67 l0_1 x12_3).f3))) (fun _ hk=>⟨hk.1.1,hk.1.2⟩)⟩
         have n2_ : Aside0 (Kd.R Kd.bool 4 ((((w34.setCell ⟨gb272,0,none⟩ (.int .i64 ((rd_T67 l0_1 x12_3).f0))).setCell ⟨gb272,1,none⟩ (.int .i64 ((rd_T67 l0_1 x12_3).f1))).setCell ⟨gb272,2,none⟩ (.int .i64 ((rd_T67 l0_1 x12_3).f2))).setCell ⟨gb272,3,none⟩ (.int .i64 ((rd_T67 l0_1 x12_3).f3))) w.heap.size (fun _=>True) (.slice (some ⟨go14,0,none⟩) x8_3.length co14) x8_3):=⟨by exact Kd.R_mono (Kd.R_far (p:=⟨gb272,3,none⟩) (Kd.R_far (p:=⟨gb272,2,none⟩) (Kd.R_far (p:=⟨gb272,1,none⟩) (Kd.R_far (p:=⟨gb272,0,none⟩) (Kd.R_types HO_8.out BK272.out (by decide)) (fun _ hk=>hk.2) (.int .i64 ((rd_T67 l0_1 x12_3).f0))) (fun _ hk=>hk.2) (.int .i64 ((rd_T67 l0_1 x12_3).f1))) (fun _ hk=>hk.2) (.int .i64 ((rd_T67 l0_1 x12_3).f2))) (fun _ hk=>hk.2) (.int .i64 ((rd_T67 l0_1 x12_3).f3))) (fun _ hk=>trivial)⟩
         have n3_ : Aside0 (Kd.R (Kd.int .i64) 3 ((((w34.setCell ⟨gb272,0,none⟩ (.int .i64 ((rd_T67 l0_1 x12_3).f0))).setCell ⟨gb272,1,none⟩ (.int .i64 ((rd_T67 l0_1 x12_3).f1))).setCell ⟨gb272,2,none⟩ (.int .i64 ((rd_T67 l0_1 x12_3).f2))).setCell ⟨gb272,3,none⟩ (.int .i64 ((rd_T67 l0_1 x12_3).f3))) w.heap.size (fun k_=>some k_ ≠ (.slice Ao32 x5_1.length co32 : Value).ownBlock ∧ some k_ ≠ (v261 : Value).ownBlock) u9 x9_3):=⟨by exact Kd.R_mono (Kd.R_far (p:=⟨gb272,3,none⟩) (Kd.R_far (p:=⟨gb272,2,none⟩) (Kd.R_far (p:=⟨gb272,1,none⟩) (Kd.R_far (p:=⟨gb272,0,none⟩) (Kd.R_types HO_9.out BK272.out (by decide)) (fun _ hk=>hk.2) (.int .i64 ((rd_T67 l0_1 x12_3).f0))) (fun _ hk=>hk.2) (.int .i64 ((rd_T67 l0_1 x12_3).f1))) (fun _ hk=>hk.2) (.int .i64 ((rd_T67 l0_1 x12_3).f2))) (fun _ hk=>hk.2) (.int .i64 ((rd_T67 l0_1 x12_3).f3))) (fun _ hk=>⟨hk.1.1,hk.1.2⟩)⟩
         have n4_ : Aside0 (((((w34.setCell ⟨gb272,0,none⟩ (.int .i64 ((rd_T67 l0_1 x12_3).f0))).setCell ⟨gb272,1,none⟩ (.int .i64 ((rd_T67 l0_1 x12_3).f1))).setCell ⟨gb272,2,none⟩ (.int .i64 ((rd_T67 l0_1 x12_3).f2))).setCell ⟨gb272,3,none⟩ (.int .i64 ((rd_T67 l0_1 x12_3).f3))).heap[gb256]? = some (.cells #[.int .i64 a0_0,.slice (some ad271) l0_1.length c0_1] 30 (0,0))):=⟨by refine blk_far ?_ NB256_272.out _;refine blk_far ?_ NB256_272.out _;refine blk_far ?_ NB256_272.out _;refine blk_far ?_ NB256_272.out _;exact BK256.out⟩
         have n5_ : Aside0 (((((w34.setCell ⟨gb272,0,none⟩ (.int .i64 ((rd_T67 l0_1 x12_3).f0))).setCell ⟨gb272,1,none⟩ (.int .i64 ((rd_T67 l0_1 x12_3).f1))).setCell ⟨gb272,2,none⟩ (.int .i64 ((rd_T67 l0_1 x12_3).f2))).setCell ⟨gb272,3,none⟩ (.int .i64 ((rd_T67 l0_1 x12_3).f3))).heap[gb272]? = some (.cells #[.int .i64 ((rd_T67 l0_1 x12_3).f0),.int .i64 ((rd_T67 l0_1 x12_3).f1),.int .i64 ((rd_T67 l0_1 x12_3).f2),.int .i64 ((rd_T67 l0_1 x12_3).f3)] 67 (0,0))):=⟨by refine blk_put (cs:=#[.int .i64 ((rd_T67 l0_1 x12_3).f0),.int .i64 ((rd_T67 l0_1 x12_3).f1),.int .i64 ((rd_T67 l0_1 x12_3).f2),.int .i64 0]) ?_ 3 _ rfl;refine blk_put (cs:=#[.int .i64 ((rd_T67 l0_1 x12_3).f0),.int .i64 ((rd_T67 l0_1 x12_3).f1),.int .i64 0,.int .i64 0]) ?_ 2 _ rfl;refine blk_put (cs:=#[.int .i64 ((rd_T67 l0_1 x12_3).f0),.int .i64 0,.int .i64 0,.int .i64 0]) ?_ 1 _ rfl;refine blk_put (cs:=#[.int .i64 0,.int .i64 0,.int .i64 0,.int .i64 0]) ?_ 0 _ rfl;exact BK272.out⟩
         have n6_ : Aside0 (Below w.heap.size w ((((w34.setCell ⟨gb272,0,none⟩ (.int .i64 ((rd_T67 l0_1 x12_3).f0))).setCell ⟨gb272,1,none⟩ (.int .i64 ((rd_T67 l0_1 x12_3).f1))).setCell ⟨gb272,2,none⟩ (.int .i64 ((rd_T67 l0_1 x12_3).f2))).setCell ⟨gb272,3,none⟩ (.int .i64 ((rd_T67 l0_1 x12_3).f3)))):=⟨by repeat ((with_reducible first|exact HB.out|refine below_set ?_ GE272.out))⟩
         (try clear HO_5)
         (try clear HO_7)
         (try clear HO_8)
         (try clear HO_9)
         (try clear BK256)
         (try clear BK272)
         (try clear HB)
         generalize ((((w34.setCell ⟨gb272,0,none⟩ (.int .i64 ((rd_T67 l0_1 x12_3).f0))).setCell ⟨gb272,1,none⟩ (.int .i64 ((rd_T67 l0_1 x12_3).f1))).setCell ⟨gb272,2,none⟩ (.int .i64 ((rd_T67 l0_1 x12_3).f2))).setCell ⟨gb272,3,none⟩ (.int .i64 ((rd_T67 l0_1 x12_3).f3))) = w44 at n0_ n1_ n2_ n3_ n4_ n5_ n6_ ⊢;have HO_5:=n0_;have HO_7:=n1_;have HO_8:=n2_;have HO_9:=n3_;have BK256:=n4_;have BK272:=n5_;have HB:=n6_;clear n0_ n1_ n2_ n3_ n4_ n5_ n6_;have n0_:=Aside0.mk (Kd.R_drew HO_5.out);have n1_:=Aside0.mk (Kd.R_drew HO_7.out);have n2_:=Aside0.mk (Kd.R_drew HO_8.out);have n3_:=Aside0.mk (Kd.R_drew HO_9.out);have n4_:=Aside0.mk (blk_drew BK256.out);have n5_:=Aside0.mk (blk_drew BK272.out);have n6_:=Aside0.mk (below_drew1 HB.out);clear HO_5 HO_7 HO_8 HO_9 BK256 BK272 HB;have HO_5:=n0_;have HO_7:=n1_;have HO_8:=n2_;have HO_9:=n3_;have BK256:=n4_;have BK272:=n5_;have HB:=n6_;clear n0_ n1_ n2_ n3_ n4_ n5_ n6_;have p273 : 0 ≤ (((rd_T67 l0_1 x12_3).f1) : Int):=od_ (by (with_reducible assumption));have q273 : ((rd_T67 l0_1 x12_3).f1) < (x8_3.length : Int):=od_ (by (with_reducible assumption));obtain ⟨ad273,e273,hx273_0⟩:=Kd.at_bool (Kd.R_reads' HO_8.out).2.2 ((rd_T67 l0_1 x12_3).f1) p273 q273
         (try rw [← Nbq40.out] at hx273_0)
         obtain rfl : (⟨go14,0,none⟩ : Addr) = ad273:=(by injection e273)
         (simp only [add_plain] at hx273_0)
         replace p273:=eq_true p273;replace q273:=eq_true q273;have p274 : 0 ≤ (x12_3 : Int):=od_ (by (with_reducible assumption));have q274 : x12_3 < (x5_1.length : Int):=od_ (by (with_reducible assumption));obtain ⟨ad274,e274,hx274_0⟩:=Kd.at_int (Kd.R_reads' HO_5.out).2.2 x12_3 p274 q274
         cases e274
         replace p274:=eq_true p274;replace q274:=eq_true q274;refine start_ (n:=21) (S:=fun w'=>w'.cell? ⟨gb272,0,none⟩ = some (.int .i64 ((rd_T67 l0_1 x12_3).f0)) ∧ w'.cell? ⟨gb272,1,none⟩ = some (.int .i64 ((rd_T67 l0_1 x12_3).f1)) ∧ w'.cell? ⟨gb272,2,none⟩ = some (.int .i64 ((rd_T67 l0_1 x12_3).f2)) ∧ w'.cell? ⟨gb272,3,none⟩ = some (.int .i64 ((rd_T67 l0_1 x12_3).f3)) ∧ w'.cell? ⟨go14,(((rd_T67 l0_1 x12_3).f1)).toNat,none⟩ = some (.bool false) ∧ w'.cell? (ad274.add (x12_3).toNat) = some (.int .i64 (rd x5_1 x12_3))) (ds:=[]) fl8_0_ (by kernel_rfl) rfl rfl ⟨bc_ BK272.out 0,bc_ BK272.out 1,bc_ BK272.out 2,bc_ BK272.out 3,hx273_0,hx274_0⟩ (fun hHeld=>?_);refine with_tabW spec_l06Pushed.tab17 spec_l06Pushed.bits17 (fun HT_ HW_=>?_);generalize w44.drew = w45 at HO_5 HO_7 HO_8 HO_9 BK256 BK272 HB hx273_0 hx274_0 hHeld ⊢;refine pure_ (i:=0) (N:=some 54) (v:=?_) (a':=?_) fl8_1_ rfl rfl (any_of HT_.out (by kernel_rfl)) (fun _ _ _ h=>h) (Or.inl ⟨by rfl,?_⟩) ?_ ?_;rotate_left;intro w';go_simp;(with_reducible rfl);rotate_left;simp only [Act.put,sb_,sz_,ss_,i64_w,i32_w];rfl;refine pure_ (i:=2) (N:=some 56) (v:=?_) (a':=?_) fl8_2_ rfl rfl (any_of HT_.out (by kernel_rfl)) (fun _ _ _ h=>h) (Or.inl ⟨by rfl,?_⟩) ?_ ?_;rotate_left;intro w';go_simp;(with_reducible rfl);rotate_left;simp only [Act.put,sb_,sz_,ss_,i64_w,i32_w];rfl;refine take_ (i:=1) (N:=some 55) (v:=?_) (a':=?_) fl8_3_ rfl rfl (take_ofW HT_.out HW_.out (by kernel_rfl)) (fun _ _ _ h=>h) (Or.inl ⟨by rfl,?_⟩) hHeld ?_ ?_;rotate_left;rintro w' ⟨s0,s1,s2,s3,s4,s5⟩;go_simp;(with_reducible rfl);rotate_left;simp only [Act.put,sb_,sz_,ss_,i64_w,i32_w];rfl;refine pure_ (i:=3) (N:=some 57) (v:=?_) (a':=?_) fl8_4_ rfl rfl (any_of HT_.out (by kernel_rfl)) (fun _ _ _ h=>h) (Or.inl ⟨by rfl,?_⟩) ?_ ?_;rotate_left;intro w';go_simp;(with_reducible rfl);rotate_left;simp only [Act.put,sb_,sz_,ss_,i64_w,i32_w];rfl;refine pure_ (i:=4) (N:=some 58) (v:=?_) (a':=?_) fl8_5_ rfl rfl (any_of HT_.out (by kernel_rfl)) (fun _ _ _ h=>h) (Or.inl ⟨by rfl,?_⟩) ?_ ?_;rotate_left;intro w';go_simp;(with_reducible rfl);rotate_left;simp only [Act.put,sb_,sz_,ss_,i64_w,i32_w];rfl;refine pure_ (i:=5) (N:=some 59) (v:=?_) (a':=?_) fl8_6_ rfl rfl (any_of HT_.out (by kernel_rfl)) (fun _ _ _ h=>h) (Or.inl ⟨by rfl,?_⟩) ?_ ?_;rotate_left;intro w';go_simp;(with_reducible rfl);rotate_left;simp only [Act.put,sb_,sz_,ss_,i64_w,i32_w];rfl;refine pure_ (i:=6) (N:=some 60) (v:=?_) (a':=?_) fl8_7_ rfl rfl (any_of HT_.out (by kernel_rfl)) (fun _ _ _ h=>h) (Or.inl ⟨by rfl,?_⟩) ?_ ?_;rotate_left;intro w';go_simp;(with_reducible rfl);rotate_left;simp only [Act.put,sb_,sz_,ss_,i64_w,i32_w];rfl;refine take_ (i:=7) (N:=some 61) (v:=?_) (a':=?_) fl8_8_ rfl rfl (take_ofW HT_.out HW_.out (by kernel_rfl)) (fun _ _ _ h=>h) (Or.inl ⟨by rfl,?_⟩) hHeld ?_ ?_;rotate_left;rintro w' ⟨s0,s1,s2,s3,s4,s5⟩;go_simp;(with_reducible rfl);rotate_left;simp only [Act.put,sb_,sz_,ss_,i64_w,i32_w];rfl;refine pure_ (i:=8) (N:=some 62) (v:=?_) (a':=?_) fl8_9_ rfl rfl (any_of HT_.out (by kernel_rfl)) (fun _ _ _ h=>h) (Or.inl ⟨by rfl,?_⟩) ?_ ?_;rotate_left;intro w';go_simp;(with_reducible rfl);rotate_left;simp only [Act.put,sb_,sz_,ss_,i64_w,i32_w];rfl;refine take_ (i:=9) (N:=some 63) (v:=?_) (a':=?_) fl8_10_ rfl rfl (take_ofW HT_.out HW_.out (by kernel_rfl)) (fun _ _ _ h=>h) (Or.inl ⟨by rfl,?_⟩) hHeld ?_ ?_;rotate_left;rintro w' ⟨s0,s1,s2,s3,s4,s5⟩;go_simp;(with_reducible rfl);rotate_left;simp only [Act.put,sb_,sz_,ss_,i64_w,i32_w];rfl;refine pure_ (i:=10) (N:=some 64) (v:=?_) (a':=?_) fl8_11_ rfl rfl (any_of HT_.out (by kernel_rfl)) (fun _ _ _ h=>h) (Or.inl ⟨by rfl,?_⟩) ?_ ?_;rotate_left;intro w';go_simp;(with_reducible rfl);rotate_left;simp only [Act.put,sb_,sz_,ss_,i64_w,i32_w];rfl;refine pure_ (i:=11) (N:=some 65) (v:=?_) (a':=?_) fl8_12_ rfl rfl (any_of HT_.out (by kernel_rfl)) (fun _ _ _ h=>h) (Or.inl ⟨by rfl,?_⟩) ?_ ?_;rotate_left;intro w';go_simp;(with_reducible rfl);rotate_left;simp only [Act.put,sb_,sz_,ss_,i64_w,i32_w];rfl;refine pure_ (i:=12) (N:=some 66) (v:=?_) (a':=?_) fl8_13_ rfl rfl (any_of HT_.out (by kernel_rfl)) (fun _ _ _ h=>h) (Or.inl ⟨by rfl,?_⟩) ?_ ?_;rotate_left;intro w';go_simp;(with_reducible rfl);rotate_left;simp only [Act.put,sb_,sz_,ss_,i64_w,i32_w];rfl;refine pure_ (i:=13) (N:=some 67) (v:=?_) (a':=?_) fl8_14_ rfl rfl (any_of HT_.out (by kernel_rfl)) (fun _ _ _ h=>h) (Or.inl ⟨by rfl,?_⟩) ?_ ?_;rotate_left;intro w';go_simp;(with_reducible rfl);rotate_left;simp only [Act.put,sb_,sz_,ss_,i64_w,i32_w];rfl;refine pure_ (i:=14) (N:=some 68) (v:=?_) (a':=?_) fl8_15_ rfl rfl (any_of HT_.out (by kernel_rfl)) (fun _ _ _ h=>h) (Or.inl ⟨by rfl,?_⟩) ?_ ?_;rotate_left;intro w';go_simp;(with_reducible rfl);rotate_left;simp only [Act.put,sb_,sz_,ss_,i64_w,i32_w];rfl;refine pure_ (i:=15) (N:=some 69) (v:=?_) (a':=?_) fl8_16_ rfl rfl (any_of HT_.out (by kernel_rfl)) (fun _ _ _ h=>h) (Or.inl ⟨by rfl,?_⟩) ?_ ?_;rotate_left;intro w';go_simp;(with_reducible rfl);rotate_left;simp only [Act.put,sb_,sz_,ss_,i64_w,i32_w];rfl;refine pure_ (i:=17) (N:=some 71) (v:=?_) (a':=?_) #[true,true,true,true,true,true,true,true,true,true,true,true,true,true,true,true,false,true,false,false,false] rfl rfl (any_of HT_.out (by kernel_rfl)) (fun _ _ _ h=>h) (Or.inl ⟨by rfl,?_⟩) ?_ ?_;rotate_left;intro w';go_simp;(with_reducible rfl);rotate_left;simp only [Act.put,sb_,sz_,ss_,i64_w,i32_w];rfl;refine take_ (i:=16) (N:=some 70) (v:=?_) (a':=?_) fl8_18_ rfl rfl (take_ofW HT_.out HW_.out (by kernel_rfl)) (fun _ _ _ h=>h) (Or.inl ⟨by rfl,?_⟩) hHeld ?_ ?_;rotate_left;rintro w' ⟨s0,s1,s2,s3,s4,s5⟩;go_simp;(with_reducible rfl);rotate_left;simp only [Act.put,sb_,sz_,ss_,i64_w,i32_w];rfl;refine take_ (i:=18) (N:=some 72) (v:=?_) (a':=?_) fl8_19_ rfl rfl (take_ofW HT_.out HW_.out (by kernel_rfl)) (fun _ _ _ h=>h) (Or.inl ⟨by rfl,?_⟩) hHeld ?_ ?_;rotate_left;rintro w' ⟨s0,s1,s2,s3,s4,s5⟩;go_simp;(with_reducible rfl);rotate_left;simp only [Act.put,sb_,sz_,ss_,i64_w,i32_w];rfl;refine pure_ (i:=19) (N:=some 73) (v:=?_) (a':=?_) fl8_20_ rfl rfl (any_of HT_.out (by kernel_rfl)) (fun _ _ _ h=>h) (Or.inl ⟨by rfl,?_⟩) ?_ ?_;rotate_left;intro w';go_simp;(with_reducible rfl);rotate_left;simp only [Act.put,sb_,sz_,ss_,i64_w,i32_w];rfl;refine pure_ (i:=20) (N:=some 74) (v:=?_) (a':=?_) fl8_21_ rfl rfl (any_of HT_.out (by kernel_rfl)) (fun _ _ _ h=>h) (Or.inl ⟨by rfl,?_⟩) ?_ ?_;rotate_left;intro w';go_simp;(with_reducible rfl);rotate_left;simp only [Act.put,sb_,sz_,ss_,i64_w,i32_w];rfl;refine done_ (done_of HT_.out (by kernel_rfl)) ?_
         try go_wp2
         go_meet
         case rel=>exact ⟨_,(decide ((rd x5_1 x12_3) < ((rd_T67 l0_1 x12_3).f2))),(by rfl),H',⟨by have:=HK1.out;have:=HK2.out;have:=HK3.out;omega⟩,⟨by exact HO_5.out⟩,⟨by exact HO_7.out⟩,⟨by exact HO_8.out⟩,⟨by exact HO_9.out⟩,⟨by exact BK256.out⟩,⟨by exact BK272.out⟩,⟨by exact HB.out⟩⟩
        case rest =>
         clear HC31
         try clear p2
         try clear q2
         try clear hx2
         try clear c3
         try clear c4
         try clear q4
         try clear p27
         try clear q27
         try clear hx27
         try clear c37
         try clear c37b0
         try clear c37b1
         try clear c38
         try clear c39
         try clear q40
         try clear c41
         try clear hx273_0
         try clear hx274_0
         try clear p273
         try clear p274
         try clear q273
         try clear q274
         obtain ⟨kq,x74_30,rfl,HA,HJ30,HO_5,HO_7,HO_8,HO_9,BK256,BK272,HB⟩:=hcut
         cases kq with
         | zero => exact absurd HA.out (by simp [spec_l06Pushed.j3])
         | succ kj30 =>
          have H:=HA.out;clear HA;simp only [spec_l06Pushed.j3] at H
          by_cases c48 : x74_30 = true
          ·subst c48
           have H1 : (if 0 ≤ ((rd_T67 l0_1 x12_3).f1) then (if ((rd_T67 l0_1 x12_3).f1) < (x8_3.length : Int) then ((some (x8_3.set (((rd_T67 l0_1 x12_3).f1) : Int).toNat true : List Bool)).bind fun y275=>(if ((rd_T67 l0_1 x12_3).f1) < (x7_3.length : Int) then ((some (x7_3.set (((rd_T67 l0_1 x12_3).f1) : Int).toNat (wrap64 (x12_3 + 1)) : List Int)).bind fun y276=>(if x9_3.length < 17592186044416 then ((some (x9_3 ++ [((rd_T67 l0_1 x12_3).f1)] : List Int)).bind fun y277=>(if ((rd_T67 l0_1 x12_3).f1) = (rd x9_2 x10_2) then (if 0 ≤ ((rd_T67 l0_1 x12_3).f0) then (if ((rd_T67 l0_1 x12_3).f0) < (x8_3.length : Int) then (if rdOf false y275 ((rd_T67 l0_1 x12_3).f0) = true then (spec_l06Pushed.l2 kj30 a1 x5_1 x6_1 y276 y275 y277 x10_2 (rd x9_2 x10_2) (wrap64 (x12_3 + 1)) a0_0 l0_1) else (if 0 ≤ x12_3 then (if x12_3 < (x5_1.length : Int) then (if (rd x5_1 x12_3) > 0 then (if ((rd_T67 l0_1 x12_3).f0) < (x7_3.length : Int) then (if y277.length < 17592186044416 then (spec_l06Pushed.l2 kj30 a1 x5_1 x6_1 (y276.set (((rd_T67 l0_1 x12_3).f0) : Int).toNat (wrap64 ((wrap64 (-x12_3)) - 1))) (y275.set (((rd_T67 l0_1 x12_3).f0) : Int).toNat true) (y277 ++ [((rd_T67 l0_1 x12_3).f0)]) x10_2 (rd x9_2 x10_2) (wrap64 (x12_3 + 1)) a0_0 l0_1) else (none)) else (none)) else (spec_l06Pushed.l2 kj30 a1 x5_1 x6_1 y276 y275 y277 x10_2 (rd x9_2 x10_2) (wrap64 (x12_3 + 1)) a0_0 l0_1)) else (none)) else (none))) else (none)) else (none)) else (spec_l06Pushed.l2 kj30 a1 x5_1 x6_1 y276 y275 y277 x10_2 (rd x9_2 x10_2) (wrap64 (x12_3 + 1)) a0_0 l0_1))) else (none))) else (none))) else (none)) else (none)) = some r:=by rw [if_pos rfl] at H;exact H
           clear H;have H:=H1;clear H1
           by_cases c49 : 0 ≤ ((rd_T67 l0_1 x12_3).f1)
           rotate_left
           ·rw [if_neg c49] at H;exact absurd H (by simp)
           rw [if_pos c49] at H;have c49b0 : decide (0 ≤ ((rd_T67 l0_1 x12_3).f1)) = true:=decide_eq_true c49;clear c49
           by_cases c50 : ((rd_T67 l0_1 x12_3).f1) < (x8_3.length : Int)
           rotate_left
           ·rw [if_neg c50] at H;exact absurd H (by simp)
           rw [if_pos c50] at H;have c50b0 : decide (((rd_T67 l0_1 x12_3).f1) < (x8_3.length : Int)) = true:=decide_eq_true c50;clear c50
           obtain ⟨y275,hy275⟩ : ∃ y_ : List Bool,y_ = (x8_3.set (((rd_T67 l0_1 x12_3).f1) : Int).toNat true):=⟨_,rfl⟩
           replace H : (if ((rd_T67 l0_1 x12_3).f1) < (x7_3.length : Int) then ((some (x7_3.set (((rd_T67 l0_1 x12_3).f1) : Int).toNat (wrap64 (x12_3 + 1)) : List Int)).bind fun y276=>(if x9_3.length < 17592186044416 then ((some (x9_3 ++ [((rd_T67 l0_1 x12_3).f1)] : List Int)).bind fun y277=>(if ((rd_T67 l0_1 x12_3).f1) = (rd x9_2 x10_2) then (if 0 ≤ ((rd_T67 l0_1 x12_3).f0) then (if ((rd_T67 l0_1 x12_3).f0) < (x8_3.length : Int) then (if rdOf false y275 ((rd_T67 l0_1 x12_3).f0) = true then (spec_l06Pushed.l2 kj30 a1 x5_1 x6_1 y276 y275 y277 x10_2 (rd x9_2 x10_2) (wrap64 (x12_3 + 1)) a0_0 l0_1) else (if 0 ≤ x12_3 then (if x12_3 < (x5_1.length : Int) then (if (rd x5_1 x12_3) > 0 then (if ((rd_T67 l0_1 x12_3).f0) < (x7_3.length : Int) then (if y277.length < 17592186044416 then (spec_l06Pushed.l2 kj30 a1 x5_1 x6_1 (y276.set (((rd_T67 l0_1 x12_3).f0) : Int).toNat (wrap64 ((wrap64 (-x12_3)) - 1))) (y275.set (((rd_T67 l0_1 x12_3).f0) : Int).toNat true) (y277 ++ [((rd_T67 l0_1 x12_3).f0)]) x10_2 (rd x9_2 x10_2) (wrap64 (x12_3 + 1)) a0_0 l0_1) else (none)) else (none)) else (spec_l06Pushed.l2 kj30 a1 x5_1 x6_1 y276 y275 y277 x10_2 (rd x9_2 x10_2) (wrap64 (x12_3 + 1)) a0_0 l0_1)) else (none)) else (none))) else (none)) else (none)) else (spec_l06Pushed.l2 kj30 a1 x5_1 x6_1 y276 y275 y277 x10_2 (rd x9_2 x10_2) (wrap64 (x12_3 + 1)) a0_0 l0_1))) else (none))) else (none)) = some r:=by (have H2_:=(Option.bind_some _ _).symm.trans H;rw [hy275];with_reducible exact H2_)
           have Ny275:=Aside0.mk hy275;clear hy275
           by_cases c52 : ((rd_T67 l0_1 x12_3).f1) < (x7_3.length : Int)
           rotate_left
           ·rw [if_neg c52] at H;exact absurd H (by simp)
           rw [if_pos c52] at H;have c52b0 : decide (((rd_T67 l0_1 x12_3).f1) < (x7_3.length : Int)) = true:=decide_eq_true c52;clear c52
           obtain ⟨y276,hy276⟩ : ∃ y_ : List Int,y_ = (x7_3.set (((rd_T67 l0_1 x12_3).f1) : Int).toNat (wrap64 (x12_3 + 1))):=⟨_,rfl⟩
           replace H : (if x9_3.length < 17592186044416 then ((some (x9_3 ++ [((rd_T67 l0_1 x12_3).f1)] : List Int)).bind fun y277=>(if ((rd_T67 l0_1 x12_3).f1) = (rd x9_2 x10_2) then (if 0 ≤ ((rd_T67 l0_1 x12_3).f0) then (if ((rd_T67 l0_1 x12_3).f0) < (x8_3.length : Int) then (if rdOf false y275 ((rd_T67 l0_1 x12_3).f0) = true then (spec_l06Pushed.l2 kj30 a1 x5_1 x6_1 y276 y275 y277 x10_2 (rd x9_2 x10_2) (wrap64 (x12_3 + 1)) a0_0 l0_1) else (if 0 ≤ x12_3 then (if x12_3 < (x5_1.length : Int) then (if (rd x5_1 x12_3) > 0 then (if ((rd_T67 l0_1 x12_3).f0) < (x7_3.length : Int) then (if y277.length < 17592186044416 then (spec_l06Pushed.l2 kj30 a1 x5_1 x6_1 (y276.set (((rd_T67 l0_1 x12_3).f0) : Int).toNat (wrap64 ((wrap64 (-x12_3)) - 1))) (y275.set (((rd_T67 l0_1 x12_3).f0) : Int).toNat true) (y277 ++ [((rd_T67 l0_1 x12_3).f0)]) x10_2 (rd x9_2 x10_2) (wrap64 (x12_3 + 1)) a0_0 l0_1) else (none)) else (none)) else (spec_l06Pushed.l2 kj30 a1 x5_1 x6_1 y276 y275 y277 x10_2 (rd x9_2 x10_2) (wrap64 (x12_3 + 1)) a0_0 l0_1)) else (none)) else (none))) else (none)) else (none)) else (spec_l06Pushed.l2 kj30 a1 x5_1 x6_1 y276 y275 y277 x10_2 (rd x9_2 x10_2) (wrap64 (x12_3 + 1)) a0_0 l0_1))) else (none)) = some r:=by (have H2_:=(Option.bind_some _ _).symm.trans H;rw [hy276];with_reducible exact H2_)
           have Ny276:=Aside0.mk hy276;clear hy276
           by_cases c54 : x9_3.length < 17592186044416
           rotate_left
           ·rw [if_neg c54] at H;exact absurd H (by simp)
           rw [if_pos c54] at H;have LMc54:=Aside0.mk c54;clear c54
           obtain ⟨y277,hy277⟩ : ∃ y_ : List Int,y_ = (x9_3 ++ [((rd_T67 l0_1 x12_3).f1)]):=⟨_,rfl⟩
           replace H : (if ((rd_T67 l0_1 x12_3).f1) = (rd x9_2 x10_2) then (if 0 ≤ ((rd_T67 l0_1 x12_3).f0) then (if ((rd_T67 l0_1 x12_3).f0) < (x8_3.length : Int) then (if rdOf false y275 ((rd_T67 l0_1 x12_3).f0) = true then (spec_l06Pushed.l2 kj30 a1 x5_1 x6_1 y276 y275 y277 x10_2 (rd x9_2 x10_2) (wrap64 (x12_3 + 1)) a0_0 l0_1) else (if 0 ≤ x12_3 then (if x12_3 < (x5_1.length : Int) then (if (rd x5_1 x12_3) > 0 then (if ((rd_T67 l0_1 x12_3).f0) < (x7_3.length : Int) then (if y277.length < 17592186044416 then (spec_l06Pushed.l2 kj30 a1 x5_1 x6_1 (y276.set (((rd_T67 l0_1 x12_3).f0) : Int).toNat (wrap64 ((wrap64 (-x12_3)) - 1))) (y275.set (((rd_T67 l0_1 x12_3).f0) : Int).toNat true) (y277 ++ [((rd_T67 l0_1 x12_3).f0)]) x10_2 (rd x9_2 x10_2) (wrap64 (x12_3 + 1)) a0_0 l0_1) else (none)) else (none)) else (spec_l06Pushed.l2 kj30 a1 x5_1 x6_1 y276 y275 y277 x10_2 (rd x9_2 x10_2) (wrap64 (x12_3 + 1)) a0_0 l0_1)) else (none)) else (none))) else (none)) else (none)) else (spec_l06Pushed.l2 kj30 a1 x5_1 x6_1 y276 y275 y277 x10_2 (rd x9_2 x10_2) (wrap64 (x12_3 + 1)) a0_0 l0_1)) = some r:=by (have H2_:=(Option.bind_some _ _).symm.trans H;rw [hy277];with_reducible exact H2_)
           have Ny277:=Aside0.mk hy277;clear hy277
           by_cases c55 : ((rd_T67 l0_1 x12_3).f1) = (rd x9_2 x10_2)
           rotate_left
           ·rw [if_neg c55] at H;have c55b0 : (((rd_T67 l0_1 x12_3).f1) == (rd x9_2 x10_2)) = false:=beq_eq_false_iff_ne.mpr c55;have c55b1 : (((rd_T67 l0_1 x12_3).f1) != (rd x9_2 x10_2)) = true:=bne_iff_ne.mpr c55;have H':=Aside0.mk H;clear H;have hnb104:=NB272_256.out;have hnc104:=NB256_272.out;have hcz105_0 : wc.cell? ⟨gb272,0,none⟩ = some (.int .i64 ((rd_T67 l0_1 x12_3).f0)):=bc_ BK272.out 0;have hcz105_1 : wc.cell? ⟨gb272,1,none⟩ = some (.int .i64 ((rd_T67 l0_1 x12_3).f1)):=bc_ BK272.out 1;have hcz105_2 : wc.cell? ⟨gb272,2,none⟩ = some (.int .i64 ((rd_T67 l0_1 x12_3).f2)):=bc_ BK272.out 2;have hcz105_3 : wc.cell? ⟨gb272,3,none⟩ = some (.int .i64 ((rd_T67 l0_1 x12_3).f3)):=bc_ BK272.out 3;have hfz105_0:=blk_frozen BK272.out 0;have hfz105_1:=blk_frozen BK272.out 1;have hfz105_2:=blk_frozen BK272.out 2;have hfz105_3:=blk_frozen BK272.out 3;have p51 : 0 ≤ (((rd_T67 l0_1 x12_3).f1) : Int):=od_ (by (with_reducible assumption));have q51 : (((rd_T67 l0_1 x12_3).f1) : Int) < ((x8_3.length : Int) : Int):=od_ (by (with_reducible assumption));obtain ⟨hx51_0,hf51_0⟩:=Kd.R_celln false HO_8.out (((rd_T67 l0_1 x12_3).f1) : Int) p51 q51;replace p51:=eq_true p51;replace q51:=eq_true q51;have HP106:=Kd.R_putg HO_8.out (((rd_T67 l0_1 x12_3).f1) : Int) true
            go_wp2_with (first|((with_reducible refine gate_store (t:=4) (p:=78) rfl ?_);refine store_event (t:=4) (p:=78) (v:=?vo_w107) (w1:=(wc.setCell ⟨go14,(((rd_T67 l0_1 x12_3).f1) : Int).toNat,none⟩ (.bool true))) ?hg ?ho ?hn ?hr ?_;(case ho=>rfl);(case hg=>rfl);(case hn=>rfl);(case hr=>(go_simp;done));intro w107 hw;have hg : wc.grownBy w107 (some go14):=(by rw [hw];exact HP106.2);have hp_ : Kd.R Kd.bool 4 w107 w.heap.size (fun _=>True) (.slice (some ⟨go14,0,none⟩) x8_3.length co14) y275:=(by rw [hw,Ny275.out];exact HP106.1);clear HP106;have n0_:=Aside0.mk (Kd.R_over' (v:=(.slice (some ⟨go14,0,none⟩) x8_3.length co14)) HO_5.out (Kd.R_typed HO_8.out) (by decide) hg);have n1_:=Aside0.mk (Kd.R_over' (v:=(.slice (some ⟨go14,0,none⟩) x8_3.length co14)) HO_7.out (Kd.R_typed HO_8.out) (by decide) hg);have n2_:=Aside0.mk (hp_);have n3_:=Aside0.mk (Kd.R_over' (v:=(.slice (some ⟨go14,0,none⟩) x8_3.length co14)) HO_9.out (Kd.R_typed HO_8.out) (by decide) hg);have n4_:=Aside0.mk (blk_grown (g:=gb256) (o:=.cells #[.int .i64 a0_0,.slice (some ad271) l0_1.length c0_1] 30 (0,0)) BK256.out hg (Kd.R_ne HO_8.out BK256.out (by decide)));have n5_:=Aside0.mk (blk_grown (g:=gb272) (o:=.cells #[.int .i64 ((rd_T67 l0_1 x12_3).f0),.int .i64 ((rd_T67 l0_1 x12_3).f1),.int .i64 ((rd_T67 l0_1 x12_3).f2),.int .i64 ((rd_T67 l0_1 x12_3).f3)] 67 (0,0)) BK272.out hg (Kd.R_ne HO_8.out BK272.out (by decide)));have n6_:=Aside0.mk ((by rw [hw];exact below_set (HB.out) GB14.out : Below w.heap.size w w107));clear HO_5 HO_7 HO_8 HO_9 BK256 BK272 HB;have HO_5:=n0_;have HO_7:=n1_;have HO_8:=n2_;have HO_9:=n3_;have BK256:=n4_;have BK272:=n5_;have HB:=n6_;clear n0_ n1_ n2_ n3_ n4_ n5_ n6_ hg hw hp_;have hcz108_0 : w107.cell? ⟨gb272,0,none⟩ = some (.int .i64 ((rd_T67 l0_1 x12_3).f0)):=bc_ BK272.out 0;have hcz108_1 : w107.cell? ⟨gb272,1,none⟩ = some (.int .i64 ((rd_T67 l0_1 x12_3).f1)):=bc_ BK272.out 1;have hcz108_2 : w107.cell? ⟨gb272,2,none⟩ = some (.int .i64 ((rd_T67 l0_1 x12_3).f2)):=bc_ BK272.out 2;have hcz108_3 : w107.cell? ⟨gb272,3,none⟩ = some (.int .i64 ((rd_T67 l0_1 x12_3).f3)):=bc_ BK272.out 3;have hfz108_0:=blk_frozen BK272.out 0;have hfz108_1:=blk_frozen BK272.out 1;have hfz108_2:=blk_frozen BK272.out 2;have hfz108_3:=blk_frozen BK272.out 3;have p53 : 0 ≤ (((rd_T67 l0_1 x12_3).f1) : Int):=od_ (by (with_reducible assumption));have q53 : (((rd_T67 l0_1 x12_3).f1) : Int) < ((x7_3.length : Int) : Int):=od_ (by (with_reducible assumption));obtain ⟨go53,co53,eo53,gb53,gl53,cl53,HG53⟩:=Kd.R_form HO_7.out (by omega);(cases eo53);have GB53:=Aside0.mk gb53;have GG53:=Aside0.mk HG53;clear gb53 gl53 HG53;obtain ⟨hx53_0,hf53_0⟩:=Kd.R_celln 0 HO_7.out (((rd_T67 l0_1 x12_3).f1) : Int) p53 q53;replace p53:=eq_true p53;replace q53:=eq_true q53;obtain ⟨hy109_,hz109_⟩:=Kd.R_celln 0 HO_7.out (((rd_T67 l0_1 x12_3).f1) : Int) (od_ (by (with_reducible assumption))) (od_ (by (with_reducible assumption)));have HP109:=Kd.R_putg HO_7.out (((rd_T67 l0_1 x12_3).f1) : Int) (wrap64 (x12_3 + 1)))|((with_reducible refine gate_store (t:=3) (p:=84) rfl ?_);refine store_event (t:=3) (p:=84) (v:=?vo_w110) (w1:=(w107.setCell ⟨go53,(((rd_T67 l0_1 x12_3).f1) : Int).toNat,none⟩ (.int .i64 (wrap64 (x12_3 + 1))))) ?hg ?ho ?hn ?hr ?_;(case ho=>rfl);(case hg=>rfl);(case hn=>rfl);(case hr=>(go_simp;done));intro w110 hw;have hg : w107.grownBy w110 (some go53):=(by rw [hw];exact HP109.2);have hp_ : Kd.R (Kd.int .i64) 3 w110 w.heap.size (fun k_=>some k_ ≠ (.slice Ao32 x5_1.length co32 : Value).ownBlock ∧ some k_ ≠ (u9 : Value).ownBlock) (.slice (some ⟨go53,0,none⟩) x7_3.length co53) y276:=(by rw [hw,Ny276.out];exact HP109.1);clear HP109;have n0_:=Aside0.mk (Kd.R_after (v:=(.slice (some ⟨go53,0,none⟩) x7_3.length co53)) (v1:=(.slice (some ⟨go53,0,none⟩) x7_3.length co53)) (ok:=(fun k_=>some k_ ≠ (u9 : Value).ownBlock)) (by exact Kd.R_mono HO_5.out (fun _ hk=>⟨hk.2,hk.1⟩)) hg (.inl rfl));have n1_:=Aside0.mk (hp_);have n2_:=Aside0.mk (Kd.R_over' (v:=(.slice (some ⟨go53,0,none⟩) x7_3.length co53)) HO_8.out (Kd.R_typed HO_7.out) (by decide) hg);have n3_:=Aside0.mk (Kd.R_after (v:=(.slice (some ⟨go53,0,none⟩) x7_3.length co53)) (v1:=(.slice (some ⟨go53,0,none⟩) x7_3.length co53)) (ok:=(fun k_=>some k_ ≠ (.slice Ao32 x5_1.length co32 : Value).ownBlock)) HO_9.out hg (.inl rfl));have n4_:=Aside0.mk (blk_grown (g:=gb256) (o:=.cells #[.int .i64 a0_0,.slice (some ad271) l0_1.length c0_1] 30 (0,0)) BK256.out hg (Kd.R_ne HO_7.out BK256.out (by decide)));have n5_:=Aside0.mk (blk_grown (g:=gb272) (o:=.cells #[.int .i64 ((rd_T67 l0_1 x12_3).f0),.int .i64 ((rd_T67 l0_1 x12_3).f1),.int .i64 ((rd_T67 l0_1 x12_3).f2),.int .i64 ((rd_T67 l0_1 x12_3).f3)] 67 (0,0)) BK272.out hg (Kd.R_ne HO_7.out BK272.out (by decide)));have n6_:=Aside0.mk ((by rw [hw];exact below_set (HB.out) GB53.out : Below w.heap.size w w110));clear HO_5 HO_7 HO_8 HO_9 BK256 BK272 HB;have HO_5:=n0_;have HO_7:=n1_;have HO_8:=n2_;have HO_9:=n3_;have BK256:=n4_;have BK272:=n5_;have HB:=n6_;clear n0_ n1_ n2_ n3_ n4_ n5_ n6_ hg hw hp_;have hcz111_0 : w110.cell? ⟨gb272,0,none⟩ = some (.int .i64 ((rd_T67 l0_1 x12_3).f0)):=bc_ BK272.out 0;have hcz111_1 : w110.cell? ⟨gb272,1,none⟩ = some (.int .i64 ((rd_T67 l0_1 x12_3).f1)):=bc_ BK272.out 1;have hcz111_2 : w110.cell? ⟨gb272,2,none⟩ = some (.int .i64 ((rd_T67 l0_1 x12_3).f2)):=bc_ BK272.out 2;have hcz111_3 : w110.cell? ⟨gb272,3,none⟩ = some (.int .i64 ((rd_T67 l0_1 x12_3).f3)):=bc_ BK272.out 3;have hfz111_0:=blk_frozen BK272.out 0;have hfz111_1:=blk_frozen BK272.out 1;have hfz111_2:=blk_frozen BK272.out 2;have hfz111_3:=blk_frozen BK272.out 3)|((with_reducible refine gate_builtin (b:=.append) (xs:=#[.tmp 85,.tmp 88]) rfl ?_);at_builtin;refine Kd.R_append (Kd.int .i64) (w0:=w) w.heap.size rfl (.tmp 85) (.tmp 88) 25 3 (.int .i64 0) 8 rfl Try.underlying25 info3 rfl (by decide) (by omega) u9 x9_3 ((rd_T67 l0_1 x12_3).f1) [.int .i64 ((rd_T67 l0_1 x12_3).f1)] (fun k_=>some k_ ≠ (.slice Ao32 x5_1.length co32 : Value).ownBlock ∧ some k_ ≠ (.slice (some ⟨go53,0,none⟩) x7_3.length co53 : Value).ownBlock) (fun _=>False) rfl rfl ?aP (fun _ hk=>hk.elim) ?aF ?aO ?aB ?aS ?aL ?_;(case aP=>exact rfl);(case aB=>exact HB.out);(case aF=>exact (fun k_ hk=>⟨Kd.fresh' (Kd.R_lt HO_5.out) k_ hk,Kd.fresh' (Kd.R_lt HO_7.out) k_ hk⟩));(case aO=>exact HO_9.out);(case aS=>exact (below_size HB.out));(case aL=>have:=LMc54.out;omega);intro v278 w112 ho hb hg hat;rw [← Ny277.out] at ho;have n0_:=Aside0.mk (Kd.R_after (ok:=(fun k_=>some k_ ≠ (.slice (some ⟨go53,0,none⟩) x7_3.length co53 : Value).ownBlock)) (by exact Kd.R_mono HO_5.out (fun _ hk=>⟨hk.2,hk.1⟩)) hg hat);have n1_:=Aside0.mk (Kd.R_after (ok:=(fun k_=>some k_ ≠ (.slice Ao32 x5_1.length co32 : Value).ownBlock)) HO_7.out hg hat);have n2_:=Aside0.mk (Kd.R_over' HO_8.out (Kd.R_typed HO_9.out) (by decide) hg);have n3_:=Aside0.mk (blk_grown (g:=gb256) (o:=.cells #[.int .i64 a0_0,.slice (some ad271) l0_1.length c0_1] 30 (0,0)) BK256.out hg (Kd.R_ne HO_9.out BK256.out (by decide)));have n4_:=Aside0.mk (blk_grown (g:=gb272) (o:=.cells #[.int .i64 ((rd_T67 l0_1 x12_3).f0),.int .i64 ((rd_T67 l0_1 x12_3).f1),.int .i64 ((rd_T67 l0_1 x12_3).f2),.int .i64 ((rd_T67 l0_1 x12_3).f3)] 67 (0,0)) BK272.out hg (Kd.R_ne HO_9.out BK272.out (by decide)));have n5_:=Aside0.mk (hb);have n6_:=Aside0.mk (ho);clear HO_5 HO_7 HO_8 BK256 BK272 HB HO_9;have HO_5:=n0_;have HO_7:=n1_;have HO_8:=n2_;have BK256:=n3_;have BK272:=n4_;have HB:=n5_;have HO279:=n6_;clear n0_ n1_ n2_ n3_ n4_ n5_ n6_ ho hb hg hat;have hcz113_0 : w112.cell? ⟨gb272,0,none⟩ = some (.int .i64 ((rd_T67 l0_1 x12_3).f0)):=bc_ BK272.out 0;have hcz113_1 : w112.cell? ⟨gb272,1,none⟩ = some (.int .i64 ((rd_T67 l0_1 x12_3).f1)):=bc_ BK272.out 1;have hcz113_2 : w112.cell? ⟨gb272,2,none⟩ = some (.int .i64 ((rd_T67 l0_1 x12_3).f2)):=bc_ BK272.out 2;have hcz113_3 : w112.cell? ⟨gb272,3,none⟩ = some (.int .i64 ((rd_T67 l0_1 x12_3).f3)):=bc_ BK272.out 3;have hfz113_0:=blk_frozen BK272.out 0;have hfz113_1:=blk_frozen BK272.out 1;have hfz113_2:=blk_frozen BK272.out 2;have hfz113_3:=blk_frozen BK272.out 3))
            (try simp only [← hl8_3])
            go_roundg kj30
            case measure=>have:=HK1.out;have:=HK2.out;have:=HK3.out;have:=HJ30.out;omega
            case rel=>exact ⟨(y276),(y275),(y277),(wrap64 (x12_3 + 1)),(by rfl),H',⟨by have:=HK1.out;have:=HK2.out;have:=HK3.out;have:=HJ30.out;omega⟩,⟨by exact HO_5.out⟩,⟨by exact HO_7.out⟩,⟨by (try simp only [hl8_3]);exact HO_8.out⟩,⟨by exact HO279.out⟩,⟨by exact BK256.out⟩,⟨by exact HB.out⟩⟩
           rw [if_pos c55] at H;have c55b0 : (((rd_T67 l0_1 x12_3).f1) == (rd x9_2 x10_2)) = true:=beq_iff_eq.mpr c55;have c55b1 : (((rd_T67 l0_1 x12_3).f1) != (rd x9_2 x10_2)) = false:=bne_eq_false_iff_eq.mpr c55;clear c55
           by_cases c56 : 0 ≤ ((rd_T67 l0_1 x12_3).f0)
           rotate_left
           ·rw [if_neg c56] at H;exact absurd H (by simp)
           rw [if_pos c56] at H;have c56b0 : decide (0 ≤ ((rd_T67 l0_1 x12_3).f0)) = true:=decide_eq_true c56;clear c56
           by_cases c57 : ((rd_T67 l0_1 x12_3).f0) < (x8_3.length : Int)
           rotate_left
           ·rw [if_neg c57] at H;exact absurd H (by simp)
           rw [if_pos c57] at H;have c57b0 : decide (((rd_T67 l0_1 x12_3).f0) < (x8_3.length : Int)) = true:=decide_eq_true c57;clear c57
           obtain ⟨bq58,hbq58⟩ : ∃ b_ : Bool,b_ = (rdOf false y275 ((rd_T67 l0_1 x12_3).f0)):=⟨_,rfl⟩
           replace H : (if bq58 = true then (spec_l06Pushed.l2 kj30 a1 x5_1 x6_1 y276 y275 y277 x10_2 (rd x9_2 x10_2) (wrap64 (x12_3 + 1)) a0_0 l0_1) else (if 0 ≤ x12_3 then (if x12_3 < (x5_1.length : Int) then (if (rd x5_1 x12_3) > 0 then (if ((rd_T67 l0_1 x12_3).f0) < (x7_3.length : Int) then (if y277.length < 17592186044416 then (spec_l06Pushed.l2 kj30 a1 x5_1 x6_1 (y276.set (((rd_T67 l0_1 x12_3).f0) : Int).toNat (wrap64 ((wrap64 (-x12_3)) - 1))) (y275.set (((rd_T67 l0_1 x12_3).f0) : Int).toNat true) (y277 ++ [((rd_T67 l0_1 x12_3).f0)]) x10_2 (rd x9_2 x10_2) (wrap64 (x12_3 + 1)) a0_0 l0_1) else (none)) else (none)) else (spec_l06Pushed.l2 kj30 a1 x5_1 x6_1 y276 y275 y277 x10_2 (rd x9_2 x10_2) (wrap64 (x12_3 + 1)) a0_0 l0_1)) else (none)) else (none))) = some r:=by rw [← hbq58] at H;exact H
           have Nbq58:=Aside0.mk hbq58;clear hbq58
           by_cases c59 : bq58 = true
           ·subst c59
            have H1 : (spec_l06Pushed.l2 kj30 a1 x5_1 x6_1 y276 y275 y277 x10_2 (rd x9_2 x10_2) (wrap64 (x12_3 + 1)) a0_0 l0_1) = some r:=by rw [if_pos rfl] at H;exact H
            clear H;have H:=H1;clear H1;have H':=Aside0.mk H;clear H;have hnb60:=NB272_256.out;have hnc60:=NB256_272.out;have hcz61_0 : wc.cell? ⟨gb272,0,none⟩ = some (.int .i64 ((rd_T67 l0_1 x12_3).f0)):=bc_ BK272.out 0;have hcz61_1 : wc.cell? ⟨gb272,1,none⟩ = some (.int .i64 ((rd_T67 l0_1 x12_3).f1)):=bc_ BK272.out 1;have hcz61_2 : wc.cell? ⟨gb272,2,none⟩ = some (.int .i64 ((rd_T67 l0_1 x12_3).f2)):=bc_ BK272.out 2;have hcz61_3 : wc.cell? ⟨gb272,3,none⟩ = some (.int .i64 ((rd_T67 l0_1 x12_3).f3)):=bc_ BK272.out 3;have hfz61_0:=blk_frozen BK272.out 0;have hfz61_1:=blk_frozen BK272.out 1;have hfz61_2:=blk_frozen BK272.out 2;have hfz61_3:=blk_frozen BK272.out 3;have p51 : 0 ≤ (((rd_T67 l0_1 x12_3).f1) : Int):=od_ (by (with_reducible assumption));have q51 : (((rd_T67 l0_1 x12_3).f1) : Int) < ((x8_3.length : Int) : Int):=od_ (by (with_reducible assumption));obtain ⟨hx51_0,hf51_0⟩:=Kd.R_celln false HO_8.out (((rd_T67 l0_1 x12_3).f1) : Int) p51 q51;replace p51:=eq_true p51;replace q51:=eq_true q51;have HP62:=Kd.R_putg HO_8.out (((rd_T67 l0_1 x12_3).f1) : Int) true
            go_wp2_with (first|((with_reducible refine gate_store (t:=4) (p:=78) rfl ?_);refine store_event (t:=4) (p:=78) (v:=?vo_w63) (w1:=(wc.setCell ⟨go14,(((rd_T67 l0_1 x12_3).f1) : Int).toNat,none⟩ (.bool true))) ?hg ?ho ?hn ?hr ?_;(case ho=>rfl);(case hg=>rfl);(case hn=>rfl);(case hr=>(go_simp;done));intro w63 hw;have hg : wc.grownBy w63 (some go14):=(by rw [hw];exact HP62.2);have hp_ : Kd.R Kd.bool 4 w63 w.heap.size (fun _=>True) (.slice (some ⟨go14,0,none⟩) x8_3.length co14) y275:=(by rw [hw,Ny275.out];exact HP62.1);clear HP62;have n0_:=Aside0.mk (Kd.R_over' (v:=(.slice (some ⟨go14,0,none⟩) x8_3.length co14)) HO_5.out (Kd.R_typed HO_8.out) (by decide) hg);have n1_:=Aside0.mk (Kd.R_over' (v:=(.slice (some ⟨go14,0,none⟩) x8_3.length co14)) HO_7.out (Kd.R_typed HO_8.out) (by decide) hg);have n2_:=Aside0.mk (hp_);have n3_:=Aside0.mk (Kd.R_over' (v:=(.slice (some ⟨go14,0,none⟩) x8_3.length co14)) HO_9.out (Kd.R_typed HO_8.out) (by decide) hg);have n4_:=Aside0.mk (blk_grown (g:=gb256) (o:=.cells #[.int .i64 a0_0,.slice (some ad271) l0_1.length c0_1] 30 (0,0)) BK256.out hg (Kd.R_ne HO_8.out BK256.out (by decide)));have n5_:=Aside0.mk (blk_grown (g:=gb272) (o:=.cells #[.int .i64 ((rd_T67 l0_1 x12_3).f0),.int .i64 ((rd_T67 l0_1 x12_3).f1),.int .i64 ((rd_T67 l0_1 x12_3).f2),.int .i64 ((rd_T67 l0_1 x12_3).f3)] 67 (0,0)) BK272.out hg (Kd.R_ne HO_8.out BK272.out (by decide)));have n6_:=Aside0.mk ((by rw [hw];exact below_set (HB.out) GB14.out : Below w.heap.size w w63));clear HO_5 HO_7 HO_8 HO_9 BK256 BK272 HB;have HO_5:=n0_;have HO_7:=n1_;have HO_8:=n2_;have HO_9:=n3_;have BK256:=n4_;have BK272:=n5_;have HB:=n6_;clear n0_ n1_ n2_ n3_ n4_ n5_ n6_ hg hw hp_;have hcz64_0 : w63.cell? ⟨gb272,0,none⟩ = some (.int .i64 ((rd_T67 l0_1 x12_3).f0)):=bc_ BK272.out 0;have hcz64_1 : w63.cell? ⟨gb272,1,none⟩ = some (.int .i64 ((rd_T67 l0_1 x12_3).f1)):=bc_ BK272.out 1;have hcz64_2 : w63.cell? ⟨gb272,2,none⟩ = some (.int .i64 ((rd_T67 l0_1 x12_3).f2)):=bc_ BK272.out 2;have hcz64_3 : w63.cell? ⟨gb272,3,none⟩ = some (.int .i64 ((rd_T67 l0_1 x12_3).f3)):=bc_ BK272.out 3;have hfz64_0:=blk_frozen BK272.out 0;have hfz64_1:=blk_frozen BK272.out 1;have hfz64_2:=blk_frozen BK272.out 2;have hfz64_3:=blk_frozen BK272.out 3;have p53 : 0 ≤ (((rd_T67 l0_1 x12_3).f1) : Int):=od_ (by (with_reducible assumption));have q53 : (((rd_T67 l0_1 x12_3).f1) : Int) < ((x7_3.length : Int) : Int):=od_ (by (with_reducible assumption));obtain ⟨go53,co53,eo53,gb53,gl53,cl53,HG53⟩:=Kd.R_form HO_7.out (by omega);(cases eo53);have GB53:=Aside0.mk gb53;have GG53:=Aside0.mk HG53;clear gb53 gl53 HG53;obtain ⟨hx53_0,hf53_0⟩:=Kd.R_celln 0 HO_7.out (((rd_T67 l0_1 x12_3).f1) : Int) p53 q53;replace p53:=eq_true p53;replace q53:=eq_true q53;obtain ⟨hy65_,hz65_⟩:=Kd.R_celln 0 HO_7.out (((rd_T67 l0_1 x12_3).f1) : Int) (od_ (by (with_reducible assumption))) (od_ (by (with_reducible assumption)));have HP65:=Kd.R_putg HO_7.out (((rd_T67 l0_1 x12_3).f1) : Int) (wrap64 (x12_3 + 1)))|((with_reducible refine gate_store (t:=3) (p:=84) rfl ?_);refine store_event (t:=3) (p:=84) (v:=?vo_w66) (w1:=(w63.setCell ⟨go53,(((rd_T67 l0_1 x12_3).f1) : Int).toNat,none⟩ (.int .i64 (wrap64 (x12_3 + 1))))) ?hg ?ho ?hn ?hr ?_;(case ho=>rfl);(case hg=>rfl);(case hn=>rfl);(case hr=>(go_simp;done));intro w66 hw;have hg : w63.grownBy w66 (some go53):=(by rw [hw];exact HP65.2);have hp_ : Kd.R (Kd.int .i64) 3 w66 w.heap.size (fun k_=>some k_ ≠ (.slice Ao32 x5_1.length co32 : Value).ownBlock ∧ some k_ ≠ (u9 : Value).ownBlock) (.slice (some ⟨go53,0,none⟩) x7_3.length co53) y276:=(by rw [hw,Ny276.out];exact HP65.1);clear HP65;have n0_:=Aside0.mk (Kd.R_after (v:=(.slice (some ⟨go53,0,none⟩) x7_3.length co53)) (v1:=(.slice (some ⟨go53,0,none⟩) x7_3.length co53)) (ok:=(fun k_=>some k_ ≠ (u9 : Value).ownBlock)) (by exact Kd.R_mono HO_5.out (fun _ hk=>⟨hk.2,hk.1⟩)) hg (.inl rfl));have n1_:=Aside0.mk (hp_);have n2_:=Aside0.mk (Kd.R_over' (v:=(.slice (some ⟨go53,0,none⟩) x7_3.length co53)) HO_8.out (Kd.R_typed HO_7.out) (by decide) hg);have n3_:=Aside0.mk (Kd.R_after (v:=(.slice (some ⟨go53,0,none⟩) x7_3.length co53)) (v1:=(.slice (some ⟨go53,0,none⟩) x7_3.length co53)) (ok:=(fun k_=>some k_ ≠ (.slice Ao32 x5_1.length co32 : Value).ownBlock)) HO_9.out hg (.inl rfl));have n4_:=Aside0.mk (blk_grown (g:=gb256) (o:=.cells #[.int .i64 a0_0,.slice (some ad271) l0_1.length c0_1] 30 (0,0)) BK256.out hg (Kd.R_ne HO_7.out BK256.out (by decide)));have n5_:=Aside0.mk (blk_grown (g:=gb272) (o:=.cells #[.int .i64 ((rd_T67 l0_1 x12_3).f0),.int .i64 ((rd_T67 l0_1 x12_3).f1),.int .i64 ((rd_T67 l0_1 x12_3).f2),.int .i64 ((rd_T67 l0_1 x12_3).f3)] 67 (0,0)) BK272.out hg (Kd.R_ne HO_7.out BK272.out (by decide)));have n6_:=Aside0.mk ((by rw [hw];exact below_set (HB.out) GB53.out : Below w.heap.size w w66));clear HO_5 HO_7 HO_8 HO_9 BK256 BK272 HB;have HO_5:=n0_;have HO_7:=n1_;have HO_8:=n2_;have HO_9:=n3_;have BK256:=n4_;have BK272:=n5_;have HB:=n6_;clear n0_ n1_ n2_ n3_ n4_ n5_ n6_ hg hw hp_;have hcz67_0 : w66.cell? ⟨gb272,0,none⟩ = some (.int .i64 ((rd_T67 l0_1 x12_3).f0)):=bc_ BK272.out 0;have hcz67_1 : w66.cell? ⟨gb272,1,none⟩ = some (.int .i64 ((rd_T67 l0_1 x12_3).f1)):=bc_ BK272.out 1;have hcz67_2 : w66.cell? ⟨gb272,2,none⟩ = some (.int .i64 ((rd_T67 l0_1 x12_3).f2)):=bc_ BK272.out 2;have hcz67_3 : w66.cell? ⟨gb272,3,none⟩ = some (.int .i64 ((rd_T67 l0_1 x12_3).f3)):=bc_ BK272.out 3;have hfz67_0:=blk_frozen BK272.out 0;have hfz67_1:=blk_frozen BK272.out 1;have hfz67_2:=blk_frozen BK272.out 2;have hfz67_3:=blk_frozen BK272.out 3)|((with_reducible refine gate_builtin (b:=.append) (xs:=#[.tmp 85,.tmp 88]) rfl ?_);at_builtin;refine Kd.R_append (Kd.int .i64) (w0:=w) w.heap.size rfl (.tmp 85) (.tmp 88) 25 3 (.int .i64 0) 8 rfl Try.underlying25 info3 rfl (by decide) (by omega) u9 x9_3 ((rd_T67 l0_1 x12_3).f1) [.int .i64 ((rd_T67 l0_1 x12_3).f1)] (fun k_=>some k_ ≠ (.slice Ao32 x5_1.length co32 : Value).ownBlock ∧ some k_ ≠ (.slice (some ⟨go53,0,none⟩) x7_3.length co53 : Value).ownBlock) (fun _=>False) rfl rfl ?aP (fun _ hk=>hk.elim) ?aF ?aO ?aB ?aS ?aL ?_;(case aP=>exact rfl);(case aB=>exact HB.out);(case aF=>exact (fun k_ hk=>⟨Kd.fresh' (Kd.R_lt HO_5.out) k_ hk,Kd.fresh' (Kd.R_lt HO_7.out) k_ hk⟩));(case aO=>exact HO_9.out);(case aS=>exact (below_size HB.out));(case aL=>have:=LMc54.out;omega);intro v278 w68 ho hb hg hat;rw [← Ny277.out] at ho;have n0_:=Aside0.mk (Kd.R_after (ok:=(fun k_=>some k_ ≠ (.slice (some ⟨go53,0,none⟩) x7_3.length co53 : Value).ownBlock)) (by exact Kd.R_mono HO_5.out (fun _ hk=>⟨hk.2,hk.1⟩)) hg hat);have n1_:=Aside0.mk (Kd.R_after (ok:=(fun k_=>some k_ ≠ (.slice Ao32 x5_1.length co32 : Value).ownBlock)) HO_7.out hg hat);have n2_:=Aside0.mk (Kd.R_over' HO_8.out (Kd.R_typed HO_9.out) (by decide) hg);have n3_:=Aside0.mk (blk_grown (g:=gb256) (o:=.cells #[.int .i64 a0_0,.slice (some ad271) l0_1.length c0_1] 30 (0,0)) BK256.out hg (Kd.R_ne HO_9.out BK256.out (by decide)));have n4_:=Aside0.mk (blk_grown (g:=gb272) (o:=.cells #[.int .i64 ((rd_T67 l0_1 x12_3).f0),.int .i64 ((rd_T67 l0_1 x12_3).f1),.int .i64 ((rd_T67 l0_1 x12_3).f2),.int .i64 ((rd_T67 l0_1 x12_3).f3)] 67 (0,0)) BK272.out hg (Kd.R_ne HO_9.out BK272.out (by decide)));have n5_:=Aside0.mk (hb);have n6_:=Aside0.mk (ho);clear HO_5 HO_7 HO_8 BK256 BK272 HB HO_9;have HO_5:=n0_;have HO_7:=n1_;have HO_8:=n2_;have BK256:=n3_;have BK272:=n4_;have HB:=n5_;have HO279:=n6_;clear n0_ n1_ n2_ n3_ n4_ n5_ n6_ ho hb hg hat;have hcz69_0 : w68.cell? ⟨gb272,0,none⟩ = some (.int .i64 ((rd_T67 l0_1 x12_3).f0)):=bc_ BK272.out 0;have hcz69_1 : w68.cell? ⟨gb272,1,none⟩ = some (.int .i64 ((rd_T67 l0_1 x12_3).f1)):=bc_ BK272.out 1;have hcz69_2 : w68.cell? ⟨gb272,2,none⟩ = some (.int .i64 ((rd_T67 l0_1 x12_3).f2)):=bc_ BK272.out 2;have hcz69_3 : w68.cell? ⟨gb272,3,none⟩ = some (.int .i64 ((rd_T67 l0_1 x12_3).f3)):=bc_ BK272.out 3;have hfz69_0:=blk_frozen BK272.out 0;have hfz69_1:=blk_frozen BK272.out 1;have hfz69_2:=blk_frozen BK272.out 2;have hfz69_3:=blk_frozen BK272.out 3;have p280 : 0 ≤ (((rd_T67 l0_1 x12_3).f0) : Int):=od_ (by (with_reducible assumption));have q280 : ((rd_T67 l0_1 x12_3).f0) < (y275.length : Int):=(by have h_ : (((rd_T67 l0_1 x12_3).f0) : Int) < ((x8_3.length : Int) : Int):=od_ (by (with_reducible assumption));(have e_:=(Kd.R_reads' HO_8.out).1;omega));have ql280 : ((((rd_T67 l0_1 x12_3).f0) : Int) < ((x8_3.length : Int) : Int)) = True:=eq_true (od_ (by (with_reducible assumption)));obtain ⟨ad280,e280,hx280_0⟩:=Kd.at_bool (Kd.R_reads' HO_8.out).2.2 ((rd_T67 l0_1 x12_3).f0) p280 q280;(try rw [← Nbq58.out] at hx280_0);obtain rfl : (⟨go14,0,none⟩ : Addr) = ad280:=(by injection e280);(simp only [add_plain] at hx280_0);replace p280:=eq_true p280;replace q280:=eq_true q280))
            (try simp only [← hl8_3])
            go_roundg kj30
            case measure=>have:=HK1.out;have:=HK2.out;have:=HK3.out;have:=HJ30.out;omega
            case rel=>exact ⟨(y276),(y275),(y277),(wrap64 (x12_3 + 1)),(by rfl),H',⟨by have:=HK1.out;have:=HK2.out;have:=HK3.out;have:=HJ30.out;omega⟩,⟨by exact HO_5.out⟩,⟨by exact HO_7.out⟩,⟨by (try simp only [hl8_3]);exact HO_8.out⟩,⟨by exact HO279.out⟩,⟨by exact BK256.out⟩,⟨by exact HB.out⟩⟩
           replace c59:=Bool.eq_false_iff.mpr c59;subst c59
           have H1 : (if 0 ≤ x12_3 then (if x12_3 < (x5_1.length : Int) then (if (rd x5_1 x12_3) > 0 then (if ((rd_T67 l0_1 x12_3).f0) < (x7_3.length : Int) then (if y277.length < 17592186044416 then (spec_l06Pushed.l2 kj30 a1 x5_1 x6_1 (y276.set (((rd_T67 l0_1 x12_3).f0) : Int).toNat (wrap64 ((wrap64 (-x12_3)) - 1))) (y275.set (((rd_T67 l0_1 x12_3).f0) : Int).toNat true) (y277 ++ [((rd_T67 l0_1 x12_3).f0)]) x10_2 (rd x9_2 x10_2) (wrap64 (x12_3 + 1)) a0_0 l0_1) else (none)) else (none)) else (spec_l06Pushed.l2 kj30 a1 x5_1 x6_1 y276 y275 y277 x10_2 (rd x9_2 x10_2) (wrap64 (x12_3 + 1)) a0_0 l0_1)) else (none)) else (none)) = some r:=by rw [if_neg (show ¬ (false = true) by decide)] at H;exact H
           clear H;have H:=H1;clear H1
           by_cases c70 : 0 ≤ x12_3
           rotate_left
           ·rw [if_neg c70] at H;exact absurd H (by simp)
           rw [if_pos c70] at H;have c70b0 : decide (0 ≤ x12_3) = true:=decide_eq_true c70;clear c70
           by_cases c71 : x12_3 < (x5_1.length : Int)
           rotate_left
           ·rw [if_neg c71] at H;exact absurd H (by simp)
           rw [if_pos c71] at H;have c71b0 : decide (x12_3 < (x5_1.length : Int)) = true:=decide_eq_true c71;clear c71
           by_cases c72 : (rd x5_1 x12_3) > 0
           rotate_left
           ·rw [if_neg c72] at H;have c72b0 : decide (0 < (rd x5_1 x12_3)) = false:=decide_eq_false c72;clear c72;have H':=Aside0.mk H;clear H;have hnb94:=NB272_256.out;have hnc94:=NB256_272.out;have hcz95_0 : wc.cell? ⟨gb272,0,none⟩ = some (.int .i64 ((rd_T67 l0_1 x12_3).f0)):=bc_ BK272.out 0;have hcz95_1 : wc.cell? ⟨gb272,1,none⟩ = some (.int .i64 ((rd_T67 l0_1 x12_3).f1)):=bc_ BK272.out 1;have hcz95_2 : wc.cell? ⟨gb272,2,none⟩ = some (.int .i64 ((rd_T67 l0_1 x12_3).f2)):=bc_ BK272.out 2;have hcz95_3 : wc.cell? ⟨gb272,3,none⟩ = some (.int .i64 ((rd_T67 l0_1 x12_3).f3)):=bc_ BK272.out 3;have hfz95_0:=blk_frozen BK272.out 0;have hfz95_1:=blk_frozen BK272.out 1;have hfz95_2:=blk_frozen BK272.out 2;have hfz95_3:=blk_frozen BK272.out 3;have p51 : 0 ≤ (((rd_T67 l0_1 x12_3).f1) : Int):=od_ (by (with_reducible assumption));have q51 : (((rd_T67 l0_1 x12_3).f1) : Int) < ((x8_3.length : Int) : Int):=od_ (by (with_reducible assumption));obtain ⟨hx51_0,hf51_0⟩:=Kd.R_celln false HO_8.out (((rd_T67 l0_1 x12_3).f1) : Int) p51 q51;replace p51:=eq_true p51;replace q51:=eq_true q51;have HP96:=Kd.R_putg HO_8.out (((rd_T67 l0_1 x12_3).f1) : Int) true
            go_wp2_with (first|((with_reducible refine gate_store (t:=4) (p:=78) rfl ?_);refine store_event (t:=4) (p:=78) (v:=?vo_w97) (w1:=(wc.setCell ⟨go14,(((rd_T67 l0_1 x12_3).f1) : Int).toNat,none⟩ (.bool true))) ?hg ?ho ?hn ?hr ?_;(case ho=>rfl);(case hg=>rfl);(case hn=>rfl);(case hr=>(go_simp;done));intro w97 hw;have hg : wc.grownBy w97 (some go14):=(by rw [hw];exact HP96.2);have hp_ : Kd.R Kd.bool 4 w97 w.heap.size (fun _=>True) (.slice (some ⟨go14,0,none⟩) x8_3.length co14) y275:=(by rw [hw,Ny275.out];exact HP96.1);clear HP96;have n0_:=Aside0.mk (Kd.R_over' (v:=(.slice (some ⟨go14,0,none⟩) x8_3.length co14)) HO_5.out (Kd.R_typed HO_8.out) (by decide) hg);have n1_:=Aside0.mk (Kd.R_over' (v:=(.slice (some ⟨go14,0,none⟩) x8_3.length co14)) HO_7.out (Kd.R_typed HO_8.out) (by decide) hg);have n2_:=Aside0.mk (hp_);have n3_:=Aside0.mk (Kd.R_over' (v:=(.slice (some ⟨go14,0,none⟩) x8_3.length co14)) HO_9.out (Kd.R_typed HO_8.out) (by decide) hg);have n4_:=Aside0.mk (blk_grown (g:=gb256) (o:=.cells #[.int .i64 a0_0,.slice (some ad271) l0_1.length c0_1] 30 (0,0)) BK256.out hg (Kd.R_ne HO_8.out BK256.out (by decide)));have n5_:=Aside0.mk (blk_grown (g:=gb272) (o:=.cells #[.int .i64 ((rd_T67 l0_1 x12_3).f0),.int .i64 ((rd_T67 l0_1 x12_3).f1),.int .i64 ((rd_T67 l0_1 x12_3).f2),.int .i64 ((rd_T67 l0_1 x12_3).f3)] 67 (0,0)) BK272.out hg (Kd.R_ne HO_8.out BK272.out (by decide)));have n6_:=Aside0.mk ((by rw [hw];exact below_set (HB.out) GB14.out : Below w.heap.size w w97));clear HO_5 HO_7 HO_8 HO_9 BK256 BK272 HB;have HO_5:=n0_;have HO_7:=n1_;have HO_8:=n2_;have HO_9:=n3_;have BK256:=n4_;have BK272:=n5_;have HB:=n6_;clear n0_ n1_ n2_ n3_ n4_ n5_ n6_ hg hw hp_;have hcz98_0 : w97.cell? ⟨gb272,0,none⟩ = some (.int .i64 ((rd_T67 l0_1 x12_3).f0)):=bc_ BK272.out 0;have hcz98_1 : w97.cell? ⟨gb272,1,none⟩ = some (.int .i64 ((rd_T67 l0_1 x12_3).f1)):=bc_ BK272.out 1;have hcz98_2 : w97.cell? ⟨gb272,2,none⟩ = some (.int .i64 ((rd_T67 l0_1 x12_3).f2)):=bc_ BK272.out 2;have hcz98_3 : w97.cell? ⟨gb272,3,none⟩ = some (.int .i64 ((rd_T67 l0_1 x12_3).f3)):=bc_ BK272.out 3;have hfz98_0:=blk_frozen BK272.out 0;have hfz98_1:=blk_frozen BK272.out 1;have hfz98_2:=blk_frozen BK272.out 2;have hfz98_3:=blk_frozen BK272.out 3;have p53 : 0 ≤ (((rd_T67 l0_1 x12_3).f1) : Int):=od_ (by (with_reducible assumption));have q53 : (((rd_T67 l0_1 x12_3).f1) : Int) < ((x7_3.length : Int) : Int):=od_ (by (with_reducible assumption));obtain ⟨go53,co53,eo53,gb53,gl53,cl53,HG53⟩:=Kd.R_form HO_7.out (by omega);(cases eo53);have GB53:=Aside0.mk gb53;have GG53:=Aside0.mk HG53;clear gb53 gl53 HG53;obtain ⟨hx53_0,hf53_0⟩:=Kd.R_celln 0 HO_7.out (((rd_T67 l0_1 x12_3).f1) : Int) p53 q53;replace p53:=eq_true p53;replace q53:=eq_true q53;obtain ⟨hy99_,hz99_⟩:=Kd.R_celln 0 HO_7.out (((rd_T67 l0_1 x12_3).f1) : Int) (od_ (by (with_reducible assumption))) (od_ (by (with_reducible assumption)));have HP99:=Kd.R_putg HO_7.out (((rd_T67 l0_1 x12_3).f1) : Int) (wrap64 (x12_3 + 1)))|((with_reducible refine gate_store (t:=3) (p:=84) rfl ?_);refine store_event (t:=3) (p:=84) (v:=?vo_w100) (w1:=(w97.setCell ⟨go53,(((rd_T67 l0_1 x12_3).f1) : Int).toNat,none⟩ (.int .i64 (wrap64 (x12_3 + 1))))) ?hg ?ho ?hn ?hr ?_;(case ho=>rfl);(case hg=>rfl);(case hn=>rfl);(case hr=>(go_simp;done));intro w100 hw;have hg : w97.grownBy w100 (some go53):=(by rw [hw];exact HP99.2);have hp_ : Kd.R (Kd.int .i64) 3 w100 w.heap.size (fun k_=>some k_ ≠ (.slice Ao32 x5_1.length co32 : Value).ownBlock ∧ some k_ ≠ (u9 : Value).ownBlock) (.slice (some ⟨go53,0,none⟩) x7_3.length co53) y276:=(by rw [hw,Ny276.out];exact HP99.1);clear HP99;have n0_:=Aside0.mk (Kd.R_after (v:=(.slice (some ⟨go53,0,none⟩) x7_3.length co53)) (v1:=(.slice (some ⟨go53,0,none⟩) x7_3.length co53)) (ok:=(fun k_=>some k_ ≠ (u9 : Value).ownBlock)) (by exact Kd.R_mono HO_5.out (fun _ hk=>⟨hk.2,hk.1⟩)) hg (.inl rfl));have n1_:=Aside0.mk (hp_);have n2_:=Aside0.mk (Kd.R_over' (v:=(.slice (some ⟨go53,0,none⟩) x7_3.length co53)) HO_8.out (Kd.R_typed HO_7.out) (by decide) hg);have n3_:=Aside0.mk (Kd.R_after (v:=(.slice (some ⟨go53,0,none⟩) x7_3.length co53)) (v1:=(.slice (some ⟨go53,0,none⟩) x7_3.length co53)) (ok:=(fun k_=>some k_ ≠ (.slice Ao32 x5_1.length co32 : Value).ownBlock)) HO_9.out hg (.inl rfl));have n4_:=Aside0.mk (blk_grown (g:=gb256) (o:=.cells #[.int .i64 a0_0,.slice (some ad271) l0_1.length c0_1] 30 (0,0)) BK256.out hg (Kd.R_ne HO_7.out BK256.out (by decide)));have n5_:=Aside0.mk (blk_grown (g:=gb272) (o:=.cells #[.int .i64 ((rd_T67 l0_1 x12_3).f0),.int .i64 ((rd_T67 l0_1 x12_3).f1),.int .i64 ((rd_T67 l0_1 x12_3).f2),.int .i64 ((rd_T67 l0_1 x12_3).f3)] 67 (0,0)) BK272.out hg (Kd.R_ne HO_7.out BK272.out (by decide)));have n6_:=Aside0.mk ((by rw [hw];exact below_set (HB.out) GB53.out : Below w.heap.size w w100));clear HO_5 HO_7 HO_8 HO_9 BK256 BK272 HB;have HO_5:=n0_;have HO_7:=n1_;have HO_8:=n2_;have HO_9:=n3_;have BK256:=n4_;have BK272:=n5_;have HB:=n6_;clear n0_ n1_ n2_ n3_ n4_ n5_ n6_ hg hw hp_;have hcz101_0 : w100.cell? ⟨gb272,0,none⟩ = some (.int .i64 ((rd_T67 l0_1 x12_3).f0)):=bc_ BK272.out 0;have hcz101_1 : w100.cell? ⟨gb272,1,none⟩ = some (.int .i64 ((rd_T67 l0_1 x12_3).f1)):=bc_ BK272.out 1;have hcz101_2 : w100.cell? ⟨gb272,2,none⟩ = some (.int .i64 ((rd_T67 l0_1 x12_3).f2)):=bc_ BK272.out 2;have hcz101_3 : w100.cell? ⟨gb272,3,none⟩ = some (.int .i64 ((rd_T67 l0_1 x12_3).f3)):=bc_ BK272.out 3;have hfz101_0:=blk_frozen BK272.out 0;have hfz101_1:=blk_frozen BK272.out 1;have hfz101_2:=blk_frozen BK272.out 2;have hfz101_3:=blk_frozen BK272.out 3)|((with_reducible refine gate_builtin (b:=.append) (xs:=#[.tmp 85,.tmp 88]) rfl ?_);at_builtin;refine Kd.R_append (Kd.int .i64) (w0:=w) w.heap.size rfl (.tmp 85) (.tmp 88) 25 3 (.int .i64 0) 8 rfl Try.underlying25 info3 rfl (by decide) (by omega) u9 x9_3 ((rd_T67 l0_1 x12_3).f1) [.int .i64 ((rd_T67 l0_1 x12_3).f1)] (fun k_=>some k_ ≠ (.slice Ao32 x5_1.length co32 : Value).ownBlock ∧ some k_ ≠ (.slice (some ⟨go53,0,none⟩) x7_3.length co53 : Value).ownBlock) (fun _=>False) rfl rfl ?aP (fun _ hk=>hk.elim) ?aF ?aO ?aB ?aS ?aL ?_;(case aP=>exact rfl);(case aB=>exact HB.out);(case aF=>exact (fun k_ hk=>⟨Kd.fresh' (Kd.R_lt HO_5.out) k_ hk,Kd.fresh' (Kd.R_lt HO_7.out) k_ hk⟩));(case aO=>exact HO_9.out);(case aS=>exact (below_size HB.out));(case aL=>have:=LMc54.out;omega);intro v278 w102 ho hb hg hat;rw [← Ny277.out] at ho;have n0_:=Aside0.mk (Kd.R_after (ok:=(fun k_=>some k_ ≠ (.slice (some ⟨go53,0,none⟩) x7_3.length co53 : Value).ownBlock)) (by exact Kd.R_mono HO_5.out (fun _ hk=>⟨hk.2,hk.1⟩)) hg hat);have n1_:=Aside0.mk (Kd.R_after (ok:=(fun k_=>some k_ ≠ (.slice Ao32 x5_1.length co32 : Value).ownBlock)) HO_7.out hg hat);have n2_:=Aside0.mk (Kd.R_over' HO_8.out (Kd.R_typed HO_9.out) (by decide) hg);have n3_:=Aside0.mk (blk_grown (g:=gb256) (o:=.cells #[.int .i64 a0_0,.slice (some ad271) l0_1.length c0_1] 30 (0,0)) BK256.out hg (Kd.R_ne HO_9.out BK256.out (by decide)));have n4_:=Aside0.mk (blk_grown (g:=gb272) (o:=.cells #[.int .i64 ((rd_T67 l0_1 x12_3).f0),.int .i64 ((rd_T67 l0_1 x12_3).f1),.int .i64 ((rd_T67 l0_1 x12_3).f2),.int .i64 ((rd_T67 l0_1 x12_3).f3)] 67 (0,0)) BK272.out hg (Kd.R_ne HO_9.out BK272.out (by decide)));have n5_:=Aside0.mk (hb);have n6_:=Aside0.mk (ho);clear HO_5 HO_7 HO_8 BK256 BK272 HB HO_9;have HO_5:=n0_;have HO_7:=n1_;have HO_8:=n2_;have BK256:=n3_;have BK272:=n4_;have HB:=n5_;have HO279:=n6_;clear n0_ n1_ n2_ n3_ n4_ n5_ n6_ ho hb hg hat;have hcz103_0 : w102.cell? ⟨gb272,0,none⟩ = some (.int .i64 ((rd_T67 l0_1 x12_3).f0)):=bc_ BK272.out 0;have hcz103_1 : w102.cell? ⟨gb272,1,none⟩ = some (.int .i64 ((rd_T67 l0_1 x12_3).f1)):=bc_ BK272.out 1;have hcz103_2 : w102.cell? ⟨gb272,2,none⟩ = some (.int .i64 ((rd_T67 l0_1 x12_3).f2)):=bc_ BK272.out 2;have hcz103_3 : w102.cell? ⟨gb272,3,none⟩ = some (.int .i64 ((rd_T67 l0_1 x12_3).f3)):=bc_ BK272.out 3;have hfz103_0:=blk_frozen BK272.out 0;have hfz103_1:=blk_frozen BK272.out 1;have hfz103_2:=blk_frozen BK272.out 2;have hfz103_3:=blk_frozen BK272.out 3;have p280 : 0 ≤ (((rd_T67 l0_1 x12_3).f0) : Int):=od_ (by (with_reducible assumption));have q280 : ((rd_T67 l0_1 x12_3).f0) < (y275.length : Int):=(by have h_ : (((rd_T67 l0_1 x12_3).f0) : Int) < ((x8_3.length : Int) : Int):=od_ (by (with_reducible assumption));(have e_:=(Kd.R_reads' HO_8.out).1;omega));have ql280 : ((((rd_T67 l0_1 x12_3).f0) : Int) < ((x8_3.length : Int) : Int)) = True:=eq_true (od_ (by (with_reducible assumption)));obtain ⟨ad280,e280,hx280_0⟩:=Kd.at_bool (Kd.R_reads' HO_8.out).2.2 ((rd_T67 l0_1 x12_3).f0) p280 q280;(try rw [← Nbq58.out] at hx280_0);obtain rfl : (⟨go14,0,none⟩ : Addr) = ad280:=(by injection e280);(simp only [add_plain] at hx280_0);replace p280:=eq_true p280;replace q280:=eq_true q280;have p281 : 0 ≤ (x12_3 : Int):=od_ (by (with_reducible assumption));have q281 : x12_3 < (x5_1.length : Int):=od_ (by (with_reducible assumption));obtain ⟨ad281,e281,hx281_0⟩:=Kd.at_int (Kd.R_reads' HO_5.out).2.2 x12_3 p281 q281;cases e281;replace p281:=eq_true p281;replace q281:=eq_true q281))
            (try simp only [← hl8_3])
            go_roundg kj30
            case measure=>have:=HK1.out;have:=HK2.out;have:=HK3.out;have:=HJ30.out;omega
            case rel=>exact ⟨(y276),(y275),(y277),(wrap64 (x12_3 + 1)),(by rfl),H',⟨by have:=HK1.out;have:=HK2.out;have:=HK3.out;have:=HJ30.out;omega⟩,⟨by exact HO_5.out⟩,⟨by exact HO_7.out⟩,⟨by (try simp only [hl8_3]);exact HO_8.out⟩,⟨by exact HO279.out⟩,⟨by exact BK256.out⟩,⟨by exact HB.out⟩⟩
           rw [if_pos c72] at H;have c72b0 : decide (0 < (rd x5_1 x12_3)) = true:=decide_eq_true c72;clear c72
           obtain ⟨y282,hy282⟩ : ∃ y_ : List Bool,y_ = (y275.set (((rd_T67 l0_1 x12_3).f0) : Int).toNat true):=⟨_,rfl⟩
           replace H : (if ((rd_T67 l0_1 x12_3).f0) < (x7_3.length : Int) then (if y277.length < 17592186044416 then (spec_l06Pushed.l2 kj30 a1 x5_1 x6_1 (y276.set (((rd_T67 l0_1 x12_3).f0) : Int).toNat (wrap64 ((wrap64 (-x12_3)) - 1))) y282 (y277 ++ [((rd_T67 l0_1 x12_3).f0)]) x10_2 (rd x9_2 x10_2) (wrap64 (x12_3 + 1)) a0_0 l0_1) else (none)) else (none)) = some r:=by (rw [hy282];with_reducible exact H)
           have Ny282:=Aside0.mk hy282;clear hy282
           by_cases c74 : ((rd_T67 l0_1 x12_3).f0) < (x7_3.length : Int)
           rotate_left
           ·rw [if_neg c74] at H;exact absurd H (by simp)
           rw [if_pos c74] at H;have c74b0 : decide (((rd_T67 l0_1 x12_3).f0) < (x7_3.length : Int)) = true:=decide_eq_true c74;clear c74
           obtain ⟨y283,hy283⟩ : ∃ y_ : List Int,y_ = (y276.set (((rd_T67 l0_1 x12_3).f0) : Int).toNat (wrap64 ((wrap64 (-x12_3)) - 1))):=⟨_,rfl⟩
           replace H : (if y277.length < 17592186044416 then (spec_l06Pushed.l2 kj30 a1 x5_1 x6_1 y283 y282 (y277 ++ [((rd_T67 l0_1 x12_3).f0)]) x10_2 (rd x9_2 x10_2) (wrap64 (x12_3 + 1)) a0_0 l0_1) else (none)) = some r:=by (rw [hy283];with_reducible exact H)
           have Ny283:=Aside0.mk hy283;clear hy283
           by_cases c76 : y277.length < 17592186044416
           ·rw [if_pos c76] at H;have LMc76:=Aside0.mk c76;clear c76
            obtain ⟨y284,hy284⟩ : ∃ y_ : List Int,y_ = (y277 ++ [((rd_T67 l0_1 x12_3).f0)]):=⟨_,rfl⟩
            replace H : (spec_l06Pushed.l2 kj30 a1 x5_1 x6_1 y283 y282 y284 x10_2 (rd x9_2 x10_2) (wrap64 (x12_3 + 1)) a0_0 l0_1) = some r:=by (rw [hy284];with_reducible exact H)
            have Ny284:=Aside0.mk hy284;clear hy284;have H':=Aside0.mk H;clear H;have hnb77:=NB272_256.out;have hnc77:=NB256_272.out;have hcz78_0 : wc.cell? ⟨gb272,0,none⟩ = some (.int .i64 ((rd_T67 l0_1 x12_3).f0)):=bc_ BK272.out 0;have hcz78_1 : wc.cell? ⟨gb272,1,none⟩ = some (.int .i64 ((rd_T67 l0_1 x12_3).f1)):=bc_ BK272.out 1;have hcz78_2 : wc.cell? ⟨gb272,2,none⟩ = some (.int .i64 ((rd_T67 l0_1 x12_3).f2)):=bc_ BK272.out 2;have hcz78_3 : wc.cell? ⟨gb272,3,none⟩ = some (.int .i64 ((rd_T67 l0_1 x12_3).f3)):=bc_ BK272.out 3;have hfz78_0:=blk_frozen BK272.out 0;have hfz78_1:=blk_frozen BK272.out 1;have hfz78_2:=blk_frozen BK272.out 2;have hfz78_3:=blk_frozen BK272.out 3;have p51 : 0 ≤ (((rd_T67 l0_1 x12_3).f1) : Int):=od_ (by (with_reducible assumption));have q51 : (((rd_T67 l0_1 x12_3).f1) : Int) < ((x8_3.length : Int) : Int):=od_ (by (with_reducible assumption));obtain ⟨hx51_0,hf51_0⟩:=Kd.R_celln false HO_8.out (((rd_T67 l0_1 x12_3).f1) : Int) p51 q51;replace p51:=eq_true p51;replace q51:=eq_true q51;have HP79:=Kd.R_putg HO_8.out (((rd_T67 l0_1 x12_3).f1) : Int) true
            go_wp2_with (first|((with_reducible refine gate_store (t:=4) (p:=78) rfl ?_);refine store_event (t:=4) (p:=78) (v:=?vo_w80) (w1:=(wc.setCell ⟨go14,(((rd_T67 l0_1 x12_3).f1) : Int).toNat,none⟩ (.bool true))) ?hg ?ho ?hn ?hr ?_;(case ho=>rfl);(case hg=>rfl);(case hn=>rfl);(case hr=>(go_simp;done));intro w80 hw;have hg : wc.grownBy w80 (some go14):=(by rw [hw];exact HP79.2);have hp_ : Kd.R Kd.bool 4 w80 w.heap.size (fun _=>True) (.slice (some ⟨go14,0,none⟩) x8_3.length co14) y275:=(by rw [hw,Ny275.out];exact HP79.1);clear HP79;have n0_:=Aside0.mk (Kd.R_over' (v:=(.slice (some ⟨go14,0,none⟩) x8_3.length co14)) HO_5.out (Kd.R_typed HO_8.out) (by decide) hg);have n1_:=Aside0.mk (Kd.R_over' (v:=(.slice (some ⟨go14,0,none⟩) x8_3.length co14)) HO_7.out (Kd.R_typed HO_8.out) (by decide) hg);have n2_:=Aside0.mk (hp_);have n3_:=Aside0.mk (Kd.R_over' (v:=(.slice (some ⟨go14,0,none⟩) x8_3.length co14)) HO_9.out (Kd.R_typed HO_8.out) (by decide) hg);have n4_:=Aside0.mk (blk_grown (g:=gb256) (o:=.cells #[.int .i64 a0_0,.slice (some ad271) l0_1.length c0_1] 30 (0,0)) BK256.out hg (Kd.R_ne HO_8.out BK256.out (by decide)));have n5_:=Aside0.mk (blk_grown (g:=gb272) (o:=.cells #[.int .i64 ((rd_T67 l0_1 x12_3).f0),.int .i64 ((rd_T67 l0_1 x12_3).f1),.int .i64 ((rd_T67 l0_1 x12_3).f2),.int .i64 ((rd_T67 l0_1 x12_3).f3)] 67 (0,0)) BK272.out hg (Kd.R_ne HO_8.out BK272.out (by decide)));have n6_:=Aside0.mk ((by rw [hw];exact below_set (HB.out) GB14.out : Below w.heap.size w w80));clear HO_5 HO_7 HO_8 HO_9 BK256 BK272 HB;have HO_5:=n0_;have HO_7:=n1_;have HO_8:=n2_;have HO_9:=n3_;have BK256:=n4_;have BK272:=n5_;have HB:=n6_;clear n0_ n1_ n2_ n3_ n4_ n5_ n6_ hg hw hp_;have hcz81_0 : w80.cell? ⟨gb272,0,none⟩ = some (.int .i64 ((rd_T67 l0_1 x12_3).f0)):=bc_ BK272.out 0;have hcz81_1 : w80.cell? ⟨gb272,1,none⟩ = some (.int .i64 ((rd_T67 l0_1 x12_3).f1)):=bc_ BK272.out 1;have hcz81_2 : w80.cell? ⟨gb272,2,none⟩ = some (.int .i64 ((rd_T67 l0_1 x12_3).f2)):=bc_ BK272.out 2;have hcz81_3 : w80.cell? ⟨gb272,3,none⟩ = some (.int .i64 ((rd_T67 l0_1 x12_3).f3)):=bc_ BK272.out 3;have hfz81_0:=blk_frozen BK272.out 0;have hfz81_1:=blk_frozen BK272.out 1;have hfz81_2:=blk_frozen BK272.out 2;have hfz81_3:=blk_frozen BK272.out 3;have p53 : 0 ≤ (((rd_T67 l0_1 x12_3).f1) : Int):=od_ (by (with_reducible assumption));have q53 : (((rd_T67 l0_1 x12_3).f1) : Int) < ((x7_3.length : Int) : Int):=od_ (by (with_reducible assumption));obtain ⟨go53,co53,eo53,gb53,gl53,cl53,HG53⟩:=Kd.R_form HO_7.out (by omega);(cases eo53);have GB53:=Aside0.mk gb53;have GG53:=Aside0.mk HG53;clear gb53 gl53 HG53;obtain ⟨hx53_0,hf53_0⟩:=Kd.R_celln 0 HO_7.out (((rd_T67 l0_1 x12_3).f1) : Int) p53 q53;replace p53:=eq_true p53;replace q53:=eq_true q53;obtain ⟨hy82_,hz82_⟩:=Kd.R_celln 0 HO_7.out (((rd_T67 l0_1 x12_3).f1) : Int) (od_ (by (with_reducible assumption))) (od_ (by (with_reducible assumption)));have HP82:=Kd.R_putg HO_7.out (((rd_T67 l0_1 x12_3).f1) : Int) (wrap64 (x12_3 + 1)))|((with_reducible refine gate_store (t:=3) (p:=84) rfl ?_);refine store_event (t:=3) (p:=84) (v:=?vo_w83) (w1:=(w80.setCell ⟨go53,(((rd_T67 l0_1 x12_3).f1) : Int).toNat,none⟩ (.int .i64 (wrap64 (x12_3 + 1))))) ?hg ?ho ?hn ?hr ?_;(case ho=>rfl);(case hg=>rfl);(case hn=>rfl);(case hr=>(go_simp;done));intro w83 hw;have hg : w80.grownBy w83 (some go53):=(by rw [hw];exact HP82.2);have hp_ : Kd.R (Kd.int .i64) 3 w83 w.heap.size (fun k_=>some k_ ≠ (.slice Ao32 x5_1.length co32 : Value).ownBlock ∧ some k_ ≠ (u9 : Value).ownBlock) (.slice (some ⟨go53,0,none⟩) x7_3.length co53) y276:=(by rw [hw,Ny276.out];exact HP82.1);clear HP82;have n0_:=Aside0.mk (Kd.R_after (v:=(.slice (some ⟨go53,0,none⟩) x7_3.length co53)) (v1:=(.slice (some ⟨go53,0,none⟩) x7_3.length co53)) (ok:=(fun k_=>some k_ ≠ (u9 : Value).ownBlock)) (by exact Kd.R_mono HO_5.out (fun _ hk=>⟨hk.2,hk.1⟩)) hg (.inl rfl));have n1_:=Aside0.mk (hp_);have n2_:=Aside0.mk (Kd.R_over' (v:=(.slice (some ⟨go53,0,none⟩) x7_3.length co53)) HO_8.out (Kd.R_typed HO_7.out) (by decide) hg);have n3_:=Aside0.mk (Kd.R_after (v:=(.slice (some ⟨go53,0,none⟩) x7_3.length co53)) (v1:=(.slice (some ⟨go53,0,none⟩) x7_3.length co53)) (ok:=(fun k_=>some k_ ≠ (.slice Ao32 x5_1.length co32 : Value).ownBlock)) HO_9.out hg (.inl rfl));have n4_:=Aside0.mk (blk_grown (g:=gb256) (o:=.cells #[.int .i64 a0_0,.slice (some ad271) l0_1.length c0_1] 30 (0,0)) BK256.out hg (Kd.R_ne HO_7.out BK256.out (by decide)));have n5_:=Aside0.mk (blk_grown (g:=gb272) (o:=.cells #[.int .i64 ((rd_T67 l0_1 x12_3).f0),.int .i64 ((rd_T67 l0_1 x12_3).f1),.int .i64 ((rd_T67 l0_1 x12_3).f2),.int .i64 ((rd_T67 l0_1 x12_3).f3)] 67 (0,0)) BK272.out hg (Kd.R_ne HO_7.out BK272.out (by decide)));have n6_:=Aside0.mk ((by rw [hw];exact below_set (HB.out) GB53.out : Below w.heap.size w w83));clear HO_5 HO_7 HO_8 HO_9 BK256 BK272 HB;have HO_5:=n0_;have HO_7:=n1_;have HO_8:=n2_;have HO_9:=n3_;have BK256:=n4_;have BK272:=n5_;have HB:=n6_;clear n0_ n1_ n2_ n3_ n4_ n5_ n6_ hg hw hp_;have hcz84_0 : w83.cell? ⟨gb272,0,none⟩ = some (.int .i64 ((rd_T67 l0_1 x12_3).f0)):=bc_ BK272.out 0;have hcz84_1 : w83.cell? ⟨gb272,1,none⟩ = some (.int .i64 ((rd_T67 l0_1 x12_3).f1)):=bc_ BK272.out 1;have hcz84_2 : w83.cell? ⟨gb272,2,none⟩ = some (.int .i64 ((rd_T67 l0_1 x12_3).f2)):=bc_ BK272.out 2;have hcz84_3 : w83.cell? ⟨gb272,3,none⟩ = some (.int .i64 ((rd_T67 l0_1 x12_3).f3)):=bc_ BK272.out 3;have hfz84_0:=blk_frozen BK272.out 0;have hfz84_1:=blk_frozen BK272.out 1;have hfz84_2:=blk_frozen BK272.out 2;have hfz84_3:=blk_frozen BK272.out 3)|((with_reducible refine gate_builtin (b:=.append) (xs:=#[.tmp 85,.tmp 88]) rfl ?_);at_builtin;refine Kd.R_append (Kd.int .i64) (w0:=w) w.heap.size rfl (.tmp 85) (.tmp 88) 25 3 (.int .i64 0) 8 rfl Try.underlying25 info3 rfl (by decide) (by omega) u9 x9_3 ((rd_T67 l0_1 x12_3).f1) [.int .i64 ((rd_T67 l0_1 x12_3).f1)] (fun k_=>some k_ ≠ (.slice Ao32 x5_1.length co32 : Value).ownBlock ∧ some k_ ≠ (.slice (some ⟨go53,0,none⟩) x7_3.length co53 : Value).ownBlock) (fun _=>False) rfl rfl ?aP (fun _ hk=>hk.elim) ?aF ?aO ?aB ?aS ?aL ?_;(case aP=>exact rfl);(case aB=>exact HB.out);(case aF=>exact (fun k_ hk=>⟨Kd.fresh' (Kd.R_lt HO_5.out) k_ hk,Kd.fresh' (Kd.R_lt HO_7.out) k_ hk⟩));(case aO=>exact HO_9.out);(case aS=>exact (below_size HB.out));(case aL=>have:=LMc54.out;omega);intro v278 w85 ho hb hg hat;rw [← Ny277.out] at ho;have n0_:=Aside0.mk (Kd.R_after (ok:=(fun k_=>some k_ ≠ (.slice (some ⟨go53,0,none⟩) x7_3.length co53 : Value).ownBlock)) (by exact Kd.R_mono HO_5.out (fun _ hk=>⟨hk.2,hk.1⟩)) hg hat);have n1_:=Aside0.mk (Kd.R_after (ok:=(fun k_=>some k_ ≠ (.slice Ao32 x5_1.length co32 : Value).ownBlock)) HO_7.out hg hat);have n2_:=Aside0.mk (Kd.R_over' HO_8.out (Kd.R_typed HO_9.out) (by decide) hg);have n3_:=Aside0.mk (blk_grown (g:=gb256) (o:=.cells #[.int .i64 a0_0,.slice (some ad271) l0_1.length c0_1] 30 (0,0)) BK256.out hg (Kd.R_ne HO_9.out BK256.out (by decide)));have n4_:=Aside0.mk (blk_grown (g:=gb272) (o:=.cells #[.int .i64 ((rd_T67 l0_1 x12_3).f0),.int .i64 ((rd_T67 l0_1 x12_3).f1),.int .i64 ((rd_T67 l0_1 x12_3).f2),.int .i64 ((rd_T67 l0_1 x12_3).f3)] 67 (0,0)) BK272.out hg (Kd.R_ne HO_9.out BK272.out (by decide)));have n5_:=Aside0.mk (hb);have n6_:=Aside0.mk (ho);clear HO_5 HO_7 HO_8 BK256 BK272 HB HO_9;have HO_5:=n0_;have HO_7:=n1_;have HO_8:=n2_;have BK256:=n3_;have BK272:=n4_;have HB:=n5_;have HO279:=n6_;clear n0_ n1_ n2_ n3_ n4_ n5_ n6_ ho hb hg hat;have hcz86_0 : w85.cell? ⟨gb272,0,none⟩ = some (.int .i64 ((rd_T67 l0_1 x12_3).f0)):=bc_ BK272.out 0;have hcz86_1 : w85.cell? ⟨gb272,1,none⟩ = some (.int .i64 ((rd_T67 l0_1 x12_3).f1)):=bc_ BK272.out 1;have hcz86_2 : w85.cell? ⟨gb272,2,none⟩ = some (.int .i64 ((rd_T67 l0_1 x12_3).f2)):=bc_ BK272.out 2;have hcz86_3 : w85.cell? ⟨gb272,3,none⟩ = some (.int .i64 ((rd_T67 l0_1 x12_3).f3)):=bc_ BK272.out 3;have hfz86_0:=blk_frozen BK272.out 0;have hfz86_1:=blk_frozen BK272.out 1;have hfz86_2:=blk_frozen BK272.out 2;have hfz86_3:=blk_frozen BK272.out 3;have p280 : 0 ≤ (((rd_T67 l0_1 x12_3).f0) : Int):=od_ (by (with_reducible assumption));have q280 : ((rd_T67 l0_1 x12_3).f0) < (y275.length : Int):=(by have h_ : (((rd_T67 l0_1 x12_3).f0) : Int) < ((x8_3.length : Int) : Int):=od_ (by (with_reducible assumption));(have e_:=(Kd.R_reads' HO_8.out).1;omega));have ql280 : ((((rd_T67 l0_1 x12_3).f0) : Int) < ((x8_3.length : Int) : Int)) = True:=eq_true (od_ (by (with_reducible assumption)));obtain ⟨ad280,e280,hx280_0⟩:=Kd.at_bool (Kd.R_reads' HO_8.out).2.2 ((rd_T67 l0_1 x12_3).f0) p280 q280;(try rw [← Nbq58.out] at hx280_0);obtain rfl : (⟨go14,0,none⟩ : Addr) = ad280:=(by injection e280);(simp only [add_plain] at hx280_0);replace p280:=eq_true p280;replace q280:=eq_true q280;have p281 : 0 ≤ (x12_3 : Int):=od_ (by (with_reducible assumption));have q281 : x12_3 < (x5_1.length : Int):=od_ (by (with_reducible assumption));obtain ⟨ad281,e281,hx281_0⟩:=Kd.at_int (Kd.R_reads' HO_5.out).2.2 x12_3 p281 q281;cases e281;replace p281:=eq_true p281;replace q281:=eq_true q281;have p73 : 0 ≤ (((rd_T67 l0_1 x12_3).f0) : Int):=od_ (by (with_reducible assumption));have q73 : (((rd_T67 l0_1 x12_3).f0) : Int) < ((x8_3.length : Int) : Int):=od_ (by (with_reducible assumption));obtain ⟨hx73_0,hf73_0⟩:=Kd.R_celln false HO_8.out (((rd_T67 l0_1 x12_3).f0) : Int) p73 q73;replace p73:=eq_true p73;replace q73:=eq_true q73;obtain ⟨hy87_,hz87_⟩:=Kd.R_celln false HO_8.out (((rd_T67 l0_1 x12_3).f0) : Int) (od_ (by (with_reducible assumption))) (od_ (by (with_reducible assumption)));have HP87:=Kd.R_putg HO_8.out (((rd_T67 l0_1 x12_3).f0) : Int) true)|((with_reducible refine gate_store (t:=4) (p:=112) rfl ?_);refine store_event (t:=4) (p:=112) (v:=?vo_w88) (w1:=(w85.setCell ⟨go14,(((rd_T67 l0_1 x12_3).f0) : Int).toNat,none⟩ (.bool true))) ?hg ?ho ?hn ?hr ?_;(case ho=>rfl);(case hg=>rfl);(case hn=>rfl);(case hr=>(go_simp;done));intro w88 hw;have hg : w85.grownBy w88 (some go14):=(by rw [hw];exact HP87.2);have hp_ : Kd.R Kd.bool 4 w88 w.heap.size (fun _=>True) (.slice (some ⟨go14,0,none⟩) x8_3.length co14) y282:=(by rw [hw,Ny282.out];exact HP87.1);clear HP87;have n0_:=Aside0.mk (Kd.R_over' (v:=(.slice (some ⟨go14,0,none⟩) x8_3.length co14)) HO_5.out (Kd.R_typed HO_8.out) (by decide) hg);have n1_:=Aside0.mk (Kd.R_over' (v:=(.slice (some ⟨go14,0,none⟩) x8_3.length co14)) HO_7.out (Kd.R_typed HO_8.out) (by decide) hg);have n2_:=Aside0.mk (hp_);have n3_:=Aside0.mk (blk_grown (g:=gb256) (o:=.cells #[.int .i64 a0_0,.slice (some ad271) l0_1.length c0_1] 30 (0,0)) BK256.out hg (Kd.R_ne HO_8.out BK256.out (by decide)));have n4_:=Aside0.mk (blk_grown (g:=gb272) (o:=.cells #[.int .i64 ((rd_T67 l0_1 x12_3).f0),.int .i64 ((rd_T67 l0_1 x12_3).f1),.int .i64 ((rd_T67 l0_1 x12_3).f2),.int .i64 ((rd_T67 l0_1 x12_3).f3)] 67 (0,0)) BK272.out hg (Kd.R_ne HO_8.out BK272.out (by decide)));have n5_:=Aside0.mk (Kd.R_over' (v:=(.slice (some ⟨go14,0,none⟩) x8_3.length co14)) HO279.out (Kd.R_typed HO_8.out) (by decide) hg);have n6_:=Aside0.mk ((by rw [hw];exact below_set (HB.out) GB14.out : Below w.heap.size w w88));clear HO_5 HO_7 HO_8 BK256 BK272 HO279 HB;have HO_5:=n0_;have HO_7:=n1_;have HO_8:=n2_;have BK256:=n3_;have BK272:=n4_;have HO279:=n5_;have HB:=n6_;clear n0_ n1_ n2_ n3_ n4_ n5_ n6_ hg hw hp_;have hcz89_0 : w88.cell? ⟨gb272,0,none⟩ = some (.int .i64 ((rd_T67 l0_1 x12_3).f0)):=bc_ BK272.out 0;have hcz89_1 : w88.cell? ⟨gb272,1,none⟩ = some (.int .i64 ((rd_T67 l0_1 x12_3).f1)):=bc_ BK272.out 1;have hcz89_2 : w88.cell? ⟨gb272,2,none⟩ = some (.int .i64 ((rd_T67 l0_1 x12_3).f2)):=bc_ BK272.out 2;have hcz89_3 : w88.cell? ⟨gb272,3,none⟩ = some (.int .i64 ((rd_T67 l0_1 x12_3).f3)):=bc_ BK272.out 3;have hfz89_0:=blk_frozen BK272.out 0;have hfz89_1:=blk_frozen BK272.out 1;have hfz89_2:=blk_frozen BK272.out 2;have hfz89_3:=blk_frozen BK272.out 3;have p75 : 0 ≤ (((rd_T67 l0_1 x12_3).f0) : Int):=od_ (by (with_reducible assumption));have q75 : (((rd_T67 l0_1 x12_3).f0) : Int) < ((x7_3.length : Int) : Int):=od_ (by (with_reducible assumption));obtain ⟨hx75_0,hf75_0⟩:=Kd.R_celln 0 HO_7.out (((rd_T67 l0_1 x12_3).f0) : Int) p75 q75;replace p75:=eq_true p75;replace q75:=eq_true q75;obtain ⟨hy90_,hz90_⟩:=Kd.R_celln 0 HO_7.out (((rd_T67 l0_1 x12_3).f0) : Int) (od_ (by (with_reducible assumption))) (od_ (by (with_reducible assumption)));have HP90:=Kd.R_putg HO_7.out (((rd_T67 l0_1 x12_3).f0) : Int) (wrap64 ((wrap64 (-x12_3)) - 1)))|((with_reducible refine gate_store (t:=3) (p:=119) rfl ?_);refine store_event (t:=3) (p:=119) (v:=?vo_w91) (w1:=(w88.setCell ⟨go53,(((rd_T67 l0_1 x12_3).f0) : Int).toNat,none⟩ (.int .i64 (wrap64 ((wrap64 (-x12_3)) - 1))))) ?hg ?ho ?hn ?hr ?_;(case ho=>rfl);(case hg=>rfl);(case hn=>rfl);(case hr=>(go_simp;done));intro w91 hw;have hg : w88.grownBy w91 (some go53):=(by rw [hw];exact HP90.2);have hp_ : Kd.R (Kd.int .i64) 3 w91 w.heap.size (fun k_=>some k_ ≠ (.slice (some ad281) x5_1.length co32 : Value).ownBlock ∧ some k_ ≠ (v278 : Value).ownBlock) (.slice (some ⟨go53,0,none⟩) x7_3.length co53) y283:=(by rw [hw,Ny283.out];exact HP90.1);clear HP90;have n0_:=Aside0.mk (Kd.R_after (v:=(.slice (some ⟨go53,0,none⟩) x7_3.length co53)) (v1:=(.slice (some ⟨go53,0,none⟩) x7_3.length co53)) (ok:=(fun k_=>some k_ ≠ (v278 : Value).ownBlock)) (by exact Kd.R_mono HO_5.out (fun _ hk=>⟨hk.2,hk.1⟩)) hg (.inl rfl));have n1_:=Aside0.mk (hp_);have n2_:=Aside0.mk (Kd.R_over' (v:=(.slice (some ⟨go53,0,none⟩) x7_3.length co53)) HO_8.out (Kd.R_typed HO_7.out) (by decide) hg);have n3_:=Aside0.mk (blk_grown (g:=gb256) (o:=.cells #[.int .i64 a0_0,.slice (some ad271) l0_1.length c0_1] 30 (0,0)) BK256.out hg (Kd.R_ne HO_7.out BK256.out (by decide)));have n4_:=Aside0.mk (blk_grown (g:=gb272) (o:=.cells #[.int .i64 ((rd_T67 l0_1 x12_3).f0),.int .i64 ((rd_T67 l0_1 x12_3).f1),.int .i64 ((rd_T67 l0_1 x12_3).f2),.int .i64 ((rd_T67 l0_1 x12_3).f3)] 67 (0,0)) BK272.out hg (Kd.R_ne HO_7.out BK272.out (by decide)));have n5_:=Aside0.mk (Kd.R_after (v:=(.slice (some ⟨go53,0,none⟩) x7_3.length co53)) (v1:=(.slice (some ⟨go53,0,none⟩) x7_3.length co53)) (ok:=(fun k_=>some k_ ≠ (.slice (some ad281) x5_1.length co32 : Value).ownBlock)) HO279.out hg (.inl rfl));have n6_:=Aside0.mk ((by rw [hw];exact below_set (HB.out) GB53.out : Below w.heap.size w w91));clear HO_5 HO_7 HO_8 BK256 BK272 HO279 HB;have HO_5:=n0_;have HO_7:=n1_;have HO_8:=n2_;have BK256:=n3_;have BK272:=n4_;have HO279:=n5_;have HB:=n6_;clear n0_ n1_ n2_ n3_ n4_ n5_ n6_ hg hw hp_;have hcz92_0 : w91.cell? ⟨gb272,0,none⟩ = some (.int .i64 ((rd_T67 l0_1 x12_3).f0)):=bc_ BK272.out 0;have hcz92_1 : w91.cell? ⟨gb272,1,none⟩ = some (.int .i64 ((rd_T67 l0_1 x12_3).f1)):=bc_ BK272.out 1;have hcz92_2 : w91.cell? ⟨gb272,2,none⟩ = some (.int .i64 ((rd_T67 l0_1 x12_3).f2)):=bc_ BK272.out 2;have hcz92_3 : w91.cell? ⟨gb272,3,none⟩ = some (.int .i64 ((rd_T67 l0_1 x12_3).f3)):=bc_ BK272.out 3;have hfz92_0:=blk_frozen BK272.out 0;have hfz92_1:=blk_frozen BK272.out 1;have hfz92_2:=blk_frozen BK272.out 2;have hfz92_3:=blk_frozen BK272.out 3)|((with_reducible refine gate_builtin (b:=.append) (xs:=#[.tmp 120,.tmp 123]) rfl ?_);at_builtin;refine Kd.R_append (Kd.int .i64) (w0:=w) w.heap.size rfl (.tmp 120) (.tmp 123) 25 3 (.int .i64 0) 8 rfl Try.underlying25 info3 rfl (by decide) (by omega) v278 y277 ((rd_T67 l0_1 x12_3).f0) [.int .i64 ((rd_T67 l0_1 x12_3).f0)] (fun k_=>some k_ ≠ (.slice (some ad281) x5_1.length co32 : Value).ownBlock ∧ some k_ ≠ (.slice (some ⟨go53,0,none⟩) x7_3.length co53 : Value).ownBlock) (fun _=>False) rfl rfl ?aP (fun _ hk=>hk.elim) ?aF ?aO ?aB ?aS ?aL ?_;(case aP=>exact rfl);(case aB=>exact HB.out);(case aF=>exact (fun k_ hk=>⟨Kd.fresh' (Kd.R_lt HO_5.out) k_ hk,Kd.fresh' (Kd.R_lt HO_7.out) k_ hk⟩));(case aO=>exact HO279.out);(case aS=>exact (below_size HB.out));(case aL=>have:=LMc76.out;omega);intro v285 w93 ho hb hg hat;rw [← Ny284.out] at ho;have n0_:=Aside0.mk (Kd.R_after (ok:=(fun k_=>some k_ ≠ (.slice (some ⟨go53,0,none⟩) x7_3.length co53 : Value).ownBlock)) (by exact Kd.R_mono HO_5.out (fun _ hk=>⟨hk.2,hk.1⟩)) hg hat);have n1_:=Aside0.mk (Kd.R_after (ok:=(fun k_=>some k_ ≠ (.slice (some ad281) x5_1.length co32 : Value).ownBlock)) HO_7.out hg hat);have n2_:=Aside0.mk (Kd.R_over' HO_8.out (Kd.R_typed HO279.out) (by decide) hg);have n3_:=Aside0.mk (blk_grown (g:=gb256) (o:=.cells #[.int .i64 a0_0,.slice (some ad271) l0_1.length c0_1] 30 (0,0)) BK256.out hg (Kd.R_ne HO279.out BK256.out (by decide)));have n4_:=Aside0.mk (blk_grown (g:=gb272) (o:=.cells #[.int .i64 ((rd_T67 l0_1 x12_3).f0),.int .i64 ((rd_T67 l0_1 x12_3).f1),.int .i64 ((rd_T67 l0_1 x12_3).f2),.int .i64 ((rd_T67 l0_1 x12_3).f3)] 67 (0,0)) BK272.out hg (Kd.R_ne HO279.out BK272.out (by decide)));have n5_:=Aside0.mk (hb);have n6_:=Aside0.mk (ho);clear HO_5 HO_7 HO_8 BK256 BK272 HB HO279;have HO_5:=n0_;have HO_7:=n1_;have HO_8:=n2_;have BK256:=n3_;have BK272:=n4_;have HB:=n5_;have HO286:=n6_;clear n0_ n1_ n2_ n3_ n4_ n5_ n6_ ho hb hg hat))
            (try simp only [← hl8_3])
            go_roundg kj30
            case measure=>have:=HK1.out;have:=HK2.out;have:=HK3.out;have:=HJ30.out;omega
            case rel=>exact ⟨(y283),(y282),(y284),(wrap64 (x12_3 + 1)),(by rfl),H',⟨by have:=HK1.out;have:=HK2.out;have:=HK3.out;have:=HJ30.out;omega⟩,⟨by exact HO_5.out⟩,⟨by exact HO_7.out⟩,⟨by (try simp only [hl8_3]);exact HO_8.out⟩,⟨by exact HO286.out⟩,⟨by exact BK256.out⟩,⟨by exact HB.out⟩⟩
           ·rw [if_neg c76] at H;exact absurd H (by simp)
          replace c48:=Bool.eq_false_iff.mpr c48;subst c48
          have H1 : (if ((rd_T67 l0_1 x12_3).f1) = (rd x9_2 x10_2) then (if 0 ≤ ((rd_T67 l0_1 x12_3).f0) then (if ((rd_T67 l0_1 x12_3).f0) < (x8_3.length : Int) then (if rdOf false x8_3 ((rd_T67 l0_1 x12_3).f0) = true then (spec_l06Pushed.l2 kj30 a1 x5_1 x6_1 x7_3 x8_3 x9_3 x10_2 (rd x9_2 x10_2) (wrap64 (x12_3 + 1)) a0_0 l0_1) else (if 0 ≤ x12_3 then (if x12_3 < (x5_1.length : Int) then (if (rd x5_1 x12_3) > 0 then (if ((rd_T67 l0_1 x12_3).f0) < (x7_3.length : Int) then (if x9_3.length < 17592186044416 then (spec_l06Pushed.l2 kj30 a1 x5_1 x6_1 (x7_3.set (((rd_T67 l0_1 x12_3).f0) : Int).toNat (wrap64 ((wrap64 (-x12_3)) - 1))) (x8_3.set (((rd_T67 l0_1 x12_3).f0) : Int).toNat true) (x9_3 ++ [((rd_T67 l0_1 x12_3).f0)]) x10_2 (rd x9_2 x10_2) (wrap64 (x12_3 + 1)) a0_0 l0_1) else (none)) else (none)) else (spec_l06Pushed.l2 kj30 a1 x5_1 x6_1 x7_3 x8_3 x9_3 x10_2 (rd x9_2 x10_2) (wrap64 (x12_3 + 1)) a0_0 l0_1)) else (none)) else (none))) else (none)) else (none)) else (spec_l06Pushed.l2 kj30 a1 x5_1 x6_1 x7_3 x8_3 x9_3 x10_2 (rd x9_2 x10_2) (wrap64 (x12_3 + 1)) a0_0 l0_1)) = some r:=by rw [if_neg (show ¬ (false = true) by decide)] at H;exact H
          clear H;have H:=H1;clear H1
          by_cases c114 : ((rd_T67 l0_1 x12_3).f1) = (rd x9_2 x10_2)
          rotate_left
          ·rw [if_neg c114] at H;have c114b0 : (((rd_T67 l0_1 x12_3).f1) == (rd x9_2 x10_2)) = false:=beq_eq_false_iff_ne.mpr c114;have c114b1 : (((rd_T67 l0_1 x12_3).f1) != (rd x9_2 x10_2)) = true:=bne_iff_ne.mpr c114;have H':=Aside0.mk H;clear H;have hnb139:=NB272_256.out;have hnc139:=NB256_272.out;have hcz140_0 : wc.cell? ⟨gb272,0,none⟩ = some (.int .i64 ((rd_T67 l0_1 x12_3).f0)):=bc_ BK272.out 0;have hcz140_1 : wc.cell? ⟨gb272,1,none⟩ = some (.int .i64 ((rd_T67 l0_1 x12_3).f1)):=bc_ BK272.out 1;have hcz140_2 : wc.cell? ⟨gb272,2,none⟩ = some (.int .i64 ((rd_T67 l0_1 x12_3).f2)):=bc_ BK272.out 2;have hcz140_3 : wc.cell? ⟨gb272,3,none⟩ = some (.int .i64 ((rd_T67 l0_1 x12_3).f3)):=bc_ BK272.out 3;have hfz140_0:=blk_frozen BK272.out 0;have hfz140_1:=blk_frozen BK272.out 1;have hfz140_2:=blk_frozen BK272.out 2;have hfz140_3:=blk_frozen BK272.out 3
           go_wp2
           (try simp only [← hl8_3])
           go_roundg kj30
           case measure=>have:=HK1.out;have:=HK2.out;have:=HK3.out;have:=HJ30.out;omega
           case rel=>exact ⟨(x7_3),(x8_3),(x9_3),(wrap64 (x12_3 + 1)),(by rfl),H',⟨by have:=HK1.out;have:=HK2.out;have:=HK3.out;have:=HJ30.out;omega⟩,⟨by exact HO_5.out⟩,⟨by exact HO_7.out⟩,⟨by (try simp only [hl8_3]);exact HO_8.out⟩,⟨by exact HO_9.out⟩,⟨by exact BK256.out⟩,⟨by exact HB.out⟩⟩
          rw [if_pos c114] at H;have c114b0 : (((rd_T67 l0_1 x12_3).f1) == (rd x9_2 x10_2)) = true:=beq_iff_eq.mpr c114;have c114b1 : (((rd_T67 l0_1 x12_3).f1) != (rd x9_2 x10_2)) = false:=bne_eq_false_iff_eq.mpr c114;clear c114
          by_cases c115 : 0 ≤ ((rd_T67 l0_1 x12_3).f0)
          rotate_left
          ·rw [if_neg c115] at H;exact absurd H (by simp)
          rw [if_pos c115] at H;have c115b0 : decide (0 ≤ ((rd_T67 l0_1 x12_3).f0)) = true:=decide_eq_true c115;clear c115
          by_cases c116 : ((rd_T67 l0_1 x12_3).f0) < (x8_3.length : Int)
          rotate_left
          ·rw [if_neg c116] at H;exact absurd H (by simp)
          rw [if_pos c116] at H;have c116b0 : decide (((rd_T67 l0_1 x12_3).f0) < (x8_3.length : Int)) = true:=decide_eq_true c116;clear c116
          obtain ⟨bq117,hbq117⟩ : ∃ b_ : Bool,b_ = (rdOf false x8_3 ((rd_T67 l0_1 x12_3).f0)):=⟨_,rfl⟩
          replace H : (if bq117 = true then (spec_l06Pushed.l2 kj30 a1 x5_1 x6_1 x7_3 x8_3 x9_3 x10_2 (rd x9_2 x10_2) (wrap64 (x12_3 + 1)) a0_0 l0_1) else (if 0 ≤ x12_3 then (if x12_3 < (x5_1.length : Int) then (if (rd x5_1 x12_3) > 0 then (if ((rd_T67 l0_1 x12_3).f0) < (x7_3.length : Int) then (if x9_3.length < 17592186044416 then (spec_l06Pushed.l2 kj30 a1 x5_1 x6_1 (x7_3.set (((rd_T67 l0_1 x12_3).f0) : Int).toNat (wrap64 ((wrap64 (-x12_3)) - 1))) (x8_3.set (((rd_T67 l0_1 x12_3).f0) : Int).toNat true) (x9_3 ++ [((rd_T67 l0_1 x12_3).f0)]) x10_2 (rd x9_2 x10_2) (wrap64 (x12_3 + 1)) a0_0 l0_1) else (none)) else (none)) else (spec_l06Pushed.l2 kj30 a1 x5_1 x6_1 x7_3 x8_3 x9_3 x10_2 (rd x9_2 x10_2) (wrap64 (x12_3 + 1)) a0_0 l0_1)) else (none)) else (none))) = some r:=by rw [← hbq117] at H;exact H
          have Nbq117:=Aside0.mk hbq117;clear hbq117
          by_cases c118 : bq117 = true
          ·subst c118
           have H1 : (spec_l06Pushed.l2 kj30 a1 x5_1 x6_1 x7_3 x8_3 x9_3 x10_2 (rd x9_2 x10_2) (wrap64 (x12_3 + 1)) a0_0 l0_1) = some r:=by rw [if_pos rfl] at H;exact H
           clear H;have H:=H1;clear H1;have H':=Aside0.mk H;clear H;have hnb119:=NB272_256.out;have hnc119:=NB256_272.out;have hcz120_0 : wc.cell? ⟨gb272,0,none⟩ = some (.int .i64 ((rd_T67 l0_1 x12_3).f0)):=bc_ BK272.out 0;have hcz120_1 : wc.cell? ⟨gb272,1,none⟩ = some (.int .i64 ((rd_T67 l0_1 x12_3).f1)):=bc_ BK272.out 1;have hcz120_2 : wc.cell? ⟨gb272,2,none⟩ = some (.int .i64 ((rd_T67 l0_1 x12_3).f2)):=bc_ BK272.out 2;have hcz120_3 : wc.cell? ⟨gb272,3,none⟩ = some (.int .i64 ((rd_T67 l0_1 x12_3).f3)):=bc_ BK272.out 3;have hfz120_0:=blk_frozen BK272.out 0;have hfz120_1:=blk_frozen BK272.out 1;have hfz120_2:=blk_frozen BK272.out 2;have hfz120_3:=blk_frozen BK272.out 3;have p287 : 0 ≤ (((rd_T67 l0_1 x12_3).f0) : Int):=od_ (by (with_reducible assumption));have q287 : ((rd_T67 l0_1 x12_3).f0) < (x8_3.length : Int):=od_ (by (with_reducible assumption));obtain ⟨ad287,e287,hx287_0⟩:=Kd.at_bool (Kd.R_reads' HO_8.out).2.2 ((rd_T67 l0_1 x12_3).f0) p287 q287
           (try rw [← Nbq117.out] at hx287_0)
           obtain rfl : (⟨go14,0,none⟩ : Addr) = ad287:=(by injection e287)
           (simp only [add_plain] at hx287_0)
           replace p287:=eq_true p287;replace q287:=eq_true q287
           go_wp2
           (try simp only [← hl8_3])
           go_roundg kj30
           case measure=>have:=HK1.out;have:=HK2.out;have:=HK3.out;have:=HJ30.out;omega
           case rel=>exact ⟨(x7_3),(x8_3),(x9_3),(wrap64 (x12_3 + 1)),(by rfl),H',⟨by have:=HK1.out;have:=HK2.out;have:=HK3.out;have:=HJ30.out;omega⟩,⟨by exact HO_5.out⟩,⟨by exact HO_7.out⟩,⟨by (try simp only [hl8_3]);exact HO_8.out⟩,⟨by exact HO_9.out⟩,⟨by exact BK256.out⟩,⟨by exact HB.out⟩⟩
          replace c118:=Bool.eq_false_iff.mpr c118;subst c118
          have H1 : (if 0 ≤ x12_3 then (if x12_3 < (x5_1.length : Int) then (if (rd x5_1 x12_3) > 0 then (if ((rd_T67 l0_1 x12_3).f0) < (x7_3.length : Int) then (if x9_3.length < 17592186044416 then (spec_l06Pushed.l2 kj30 a1 x5_1 x6_1 (x7_3.set (((rd_T67 l0_1 x12_3).f0) : Int).toNat (wrap64 ((wrap64 (-x12_3)) - 1))) (x8_3.set (((rd_T67 l0_1 x12_3).f0) : Int).toNat true) (x9_3 ++ [((rd_T67 l0_1 x12_3).f0)]) x10_2 (rd x9_2 x10_2) (wrap64 (x12_3 + 1)) a0_0 l0_1) else (none)) else (none)) else (spec_l06Pushed.l2 kj30 a1 x5_1 x6_1 x7_3 x8_3 x9_3 x10_2 (rd x9_2 x10_2) (wrap64 (x12_3 + 1)) a0_0 l0_1)) else (none)) else (none)) = some r:=by rw [if_neg (show ¬ (false = true) by decide)] at H;exact H
          clear H;have H:=H1;clear H1
          by_cases c121 : 0 ≤ x12_3
          rotate_left
          ·rw [if_neg c121] at H;exact absurd H (by simp)
          rw [if_pos c121] at H;have c121b0 : decide (0 ≤ x12_3) = true:=decide_eq_true c121;clear c121
          by_cases c122 : x12_3 < (x5_1.length : Int)
          rotate_left
          ·rw [if_neg c122] at H;exact absurd H (by simp)
          rw [if_pos c122] at H;have c122b0 : decide (x12_3 < (x5_1.length : Int)) = true:=decide_eq_true c122;clear c122
          by_cases c123 : (rd x5_1 x12_3) > 0
          rotate_left
          ·rw [if_neg c123] at H;have c123b0 : decide (0 < (rd x5_1 x12_3)) = false:=decide_eq_false c123;clear c123;have H':=Aside0.mk H;clear H;have hnb137:=NB272_256.out;have hnc137:=NB256_272.out;have hcz138_0 : wc.cell? ⟨gb272,0,none⟩ = some (.int .i64 ((rd_T67 l0_1 x12_3).f0)):=bc_ BK272.out 0;have hcz138_1 : wc.cell? ⟨gb272,1,none⟩ = some (.int .i64 ((rd_T67 l0_1 x12_3).f1)):=bc_ BK272.out 1;have hcz138_2 : wc.cell? ⟨gb272,2,none⟩ = some (.int .i64 ((rd_T67 l0_1 x12_3).f2)):=bc_ BK272.out 2;have hcz138_3 : wc.cell? ⟨gb272,3,none⟩ = some (.int .i64 ((rd_T67 l0_1 x12_3).f3)):=bc_ BK272.out 3;have hfz138_0:=blk_frozen BK272.out 0;have hfz138_1:=blk_frozen BK272.out 1;have hfz138_2:=blk_frozen BK272.out 2;have hfz138_3:=blk_frozen BK272.out 3;have p287 : 0 ≤ (((rd_T67 l0_1 x12_3).f0) : Int):=od_ (by (with_reducible assumption));have q287 : ((rd_T67 l0_1 x12_3).f0) < (x8_3.length : Int):=od_ (by (with_reducible assumption));obtain ⟨ad287,e287,hx287_0⟩:=Kd.at_bool (Kd.R_reads' HO_8.out).2.2 ((rd_T67 l0_1 x12_3).f0) p287 q287
           (try rw [← Nbq117.out] at hx287_0)
           obtain rfl : (⟨go14,0,none⟩ : Addr) = ad287:=(by injection e287)
           (simp only [add_plain] at hx287_0)
           replace p287:=eq_true p287;replace q287:=eq_true q287;have p288 : 0 ≤ (x12_3 : Int):=od_ (by (with_reducible assumption));have q288 : x12_3 < (x5_1.length : Int):=od_ (by (with_reducible assumption));obtain ⟨ad288,e288,hx288_0⟩:=Kd.at_int (Kd.R_reads' HO_5.out).2.2 x12_3 p288 q288
           cases e288
           replace p288:=eq_true p288;replace q288:=eq_true q288
           go_wp2
           (try simp only [← hl8_3])
           go_roundg kj30
           case measure=>have:=HK1.out;have:=HK2.out;have:=HK3.out;have:=HJ30.out;omega
           case rel=>exact ⟨(x7_3),(x8_3),(x9_3),(wrap64 (x12_3 + 1)),(by rfl),H',⟨by have:=HK1.out;have:=HK2.out;have:=HK3.out;have:=HJ30.out;omega⟩,⟨by exact HO_5.out⟩,⟨by exact HO_7.out⟩,⟨by (try simp only [hl8_3]);exact HO_8.out⟩,⟨by exact HO_9.out⟩,⟨by exact BK256.out⟩,⟨by exact HB.out⟩⟩
          rw [if_pos c123] at H;have c123b0 : decide (0 < (rd x5_1 x12_3)) = true:=decide_eq_true c123;clear c123
          obtain ⟨y289,hy289⟩ : ∃ y_ : List Bool,y_ = (x8_3.set (((rd_T67 l0_1 x12_3).f0) : Int).toNat true):=⟨_,rfl⟩
          replace H : (if ((rd_T67 l0_1 x12_3).f0) < (x7_3.length : Int) then (if x9_3.length < 17592186044416 then (spec_l06Pushed.l2 kj30 a1 x5_1 x6_1 (x7_3.set (((rd_T67 l0_1 x12_3).f0) : Int).toNat (wrap64 ((wrap64 (-x12_3)) - 1))) y289 (x9_3 ++ [((rd_T67 l0_1 x12_3).f0)]) x10_2 (rd x9_2 x10_2) (wrap64 (x12_3 + 1)) a0_0 l0_1) else (none)) else (none)) = some r:=by (rw [hy289];with_reducible exact H)
          have Ny289:=Aside0.mk hy289;clear hy289
          by_cases c125 : ((rd_T67 l0_1 x12_3).f0) < (x7_3.length : Int)
          rotate_left
          ·rw [if_neg c125] at H;exact absurd H (by simp)
          rw [if_pos c125] at H;have c125b0 : decide (((rd_T67 l0_1 x12_3).f0) < (x7_3.length : Int)) = true:=decide_eq_true c125;clear c125
          obtain ⟨y290,hy290⟩ : ∃ y_ : List Int,y_ = (x7_3.set (((rd_T67 l0_1 x12_3).f0) : Int).toNat (wrap64 ((wrap64 (-x12_3)) - 1))):=⟨_,rfl⟩
          replace H : (if x9_3.length < 17592186044416 then (spec_l06Pushed.l2 kj30 a1 x5_1 x6_1 y290 y289 (x9_3 ++ [((rd_T67 l0_1 x12_3).f0)]) x10_2 (rd x9_2 x10_2) (wrap64 (x12_3 + 1)) a0_0 l0_1) else (none)) = some r:=by (rw [hy290];with_reducible exact H)
          have Ny290:=Aside0.mk hy290;clear hy290
          by_cases c127 : x9_3.length < 17592186044416
          rotate_left
          ·rw [if_neg c127] at H;exact absurd H (by simp)
          rw [if_pos c127] at H;have LMc127:=Aside0.mk c127;clear c127
          obtain ⟨y291,hy291⟩ : ∃ y_ : List Int,y_ = (x9_3 ++ [((rd_T67 l0_1 x12_3).f0)]):=⟨_,rfl⟩
          replace H : (spec_l06Pushed.l2 kj30 a1 x5_1 x6_1 y290 y289 y291 x10_2 (rd x9_2 x10_2) (wrap64 (x12_3 + 1)) a0_0 l0_1) = some r:=by (rw [hy291];with_reducible exact H)
          have Ny291:=Aside0.mk hy291;clear hy291;have H':=Aside0.mk H;clear H;have hnb128:=NB272_256.out;have hnc128:=NB256_272.out;have hcz129_0 : wc.cell? ⟨gb272,0,none⟩ = some (.int .i64 ((rd_T67 l0_1 x12_3).f0)):=bc_ BK272.out 0;have hcz129_1 : wc.cell? ⟨gb272,1,none⟩ = some (.int .i64 ((rd_T67 l0_1 x12_3).f1)):=bc_ BK272.out 1;have hcz129_2 : wc.cell? ⟨gb272,2,none⟩ = some (.int .i64 ((rd_T67 l0_1 x12_3).f2)):=bc_ BK272.out 2;have hcz129_3 : wc.cell? ⟨gb272,3,none⟩ = some (.int .i64 ((rd_T67 l0_1 x12_3).f3)):=bc_ BK272.out 3;have hfz129_0:=blk_frozen BK272.out 0;have hfz129_1:=blk_frozen BK272.out 1;have hfz129_2:=blk_frozen BK272.out 2;have hfz129_3:=blk_frozen BK272.out 3;have p287 : 0 ≤ (((rd_T67 l0_1 x12_3).f0) : Int):=od_ (by (with_reducible assumption));have q287 : ((rd_T67 l0_1 x12_3).f0) < (x8_3.length : Int):=od_ (by (with_reducible assumption));obtain ⟨ad287,e287,hx287_0⟩:=Kd.at_bool (Kd.R_reads' HO_8.out).2.2 ((rd_T67 l0_1 x12_3).f0) p287 q287
          (try rw [← Nbq117.out] at hx287_0)
          obtain rfl : (⟨go14,0,none⟩ : Addr) = ad287:=(by injection e287)
          (simp only [add_plain] at hx287_0)
          replace p287:=eq_true p287;replace q287:=eq_true q287;have p288 : 0 ≤ (x12_3 : Int):=od_ (by (with_reducible assumption));have q288 : x12_3 < (x5_1.length : Int):=od_ (by (with_reducible assumption));obtain ⟨ad288,e288,hx288_0⟩:=Kd.at_int (Kd.R_reads' HO_5.out).2.2 x12_3 p288 q288
          cases e288
          replace p288:=eq_true p288;replace q288:=eq_true q288;have p124 : 0 ≤ (((rd_T67 l0_1 x12_3).f0) : Int):=od_ (by (with_reducible assumption));have q124 : (((rd_T67 l0_1 x12_3).f0) : Int) < ((x8_3.length : Int) : Int):=od_ (by (with_reducible assumption));obtain ⟨hx124_0,hf124_0⟩:=Kd.R_celln false HO_8.out (((rd_T67 l0_1 x12_3).f0) : Int) p124 q124;replace p124:=eq_true p124;replace q124:=eq_true q124;have HP130:=Kd.R_putg HO_8.out (((rd_T67 l0_1 x12_3).f0) : Int) true
          go_wp2_with (first|((with_reducible refine gate_store (t:=4) (p:=112) rfl ?_);refine store_event (t:=4) (p:=112) (v:=?vo_w131) (w1:=(wc.setCell ⟨go14,(((rd_T67 l0_1 x12_3).f0) : Int).toNat,none⟩ (.bool true))) ?hg ?ho ?hn ?hr ?_;(case ho=>rfl);(case hg=>rfl);(case hn=>rfl);(case hr=>(go_simp;done));intro w131 hw;have hg : wc.grownBy w131 (some go14):=(by rw [hw];exact HP130.2);have hp_ : Kd.R Kd.bool 4 w131 w.heap.size (fun _=>True) (.slice (some ⟨go14,0,none⟩) x8_3.length co14) y289:=(by rw [hw,Ny289.out];exact HP130.1);clear HP130;have n0_:=Aside0.mk (Kd.R_over' (v:=(.slice (some ⟨go14,0,none⟩) x8_3.length co14)) HO_5.out (Kd.R_typed HO_8.out) (by decide) hg);have n1_:=Aside0.mk (Kd.R_over' (v:=(.slice (some ⟨go14,0,none⟩) x8_3.length co14)) HO_7.out (Kd.R_typed HO_8.out) (by decide) hg);have n2_:=Aside0.mk (hp_);have n3_:=Aside0.mk (Kd.R_over' (v:=(.slice (some ⟨go14,0,none⟩) x8_3.length co14)) HO_9.out (Kd.R_typed HO_8.out) (by decide) hg);have n4_:=Aside0.mk (blk_grown (g:=gb256) (o:=.cells #[.int .i64 a0_0,.slice (some ad271) l0_1.length c0_1] 30 (0,0)) BK256.out hg (Kd.R_ne HO_8.out BK256.out (by decide)));have n5_:=Aside0.mk (blk_grown (g:=gb272) (o:=.cells #[.int .i64 ((rd_T67 l0_1 x12_3).f0),.int .i64 ((rd_T67 l0_1 x12_3).f1),.int .i64 ((rd_T67 l0_1 x12_3).f2),.int .i64 ((rd_T67 l0_1 x12_3).f3)] 67 (0,0)) BK272.out hg (Kd.R_ne HO_8.out BK272.out (by decide)));have n6_:=Aside0.mk ((by rw [hw];exact below_set (HB.out) GB14.out : Below w.heap.size w w131));clear HO_5 HO_7 HO_8 HO_9 BK256 BK272 HB;have HO_5:=n0_;have HO_7:=n1_;have HO_8:=n2_;have HO_9:=n3_;have BK256:=n4_;have BK272:=n5_;have HB:=n6_;clear n0_ n1_ n2_ n3_ n4_ n5_ n6_ hg hw hp_;have hcz132_0 : w131.cell? ⟨gb272,0,none⟩ = some (.int .i64 ((rd_T67 l0_1 x12_3).f0)):=bc_ BK272.out 0;have hcz132_1 : w131.cell? ⟨gb272,1,none⟩ = some (.int .i64 ((rd_T67 l0_1 x12_3).f1)):=bc_ BK272.out 1;have hcz132_2 : w131.cell? ⟨gb272,2,none⟩ = some (.int .i64 ((rd_T67 l0_1 x12_3).f2)):=bc_ BK272.out 2;have hcz132_3 : w131.cell? ⟨gb272,3,none⟩ = some (.int .i64 ((rd_T67 l0_1 x12_3).f3)):=bc_ BK272.out 3;have hfz132_0:=blk_frozen BK272.out 0;have hfz132_1:=blk_frozen BK272.out 1;have hfz132_2:=blk_frozen BK272.out 2;have hfz132_3:=blk_frozen BK272.out 3;have p126 : 0 ≤ (((rd_T67 l0_1 x12_3).f0) : Int):=od_ (by (with_reducible assumption));have q126 : (((rd_T67 l0_1 x12_3).f0) : Int) < ((x7_3.length : Int) : Int):=od_ (by (with_reducible assumption));obtain ⟨go126,co126,eo126,gb126,gl126,cl126,HG126⟩:=Kd.R_form HO_7.out (by omega);(cases eo126);have GB126:=Aside0.mk gb126;have GG126:=Aside0.mk HG126;clear gb126 gl126 HG126;obtain ⟨hx126_0,hf126_0⟩:=Kd.R_celln 0 HO_7.out (((rd_T67 l0_1 x12_3).f0) : Int) p126 q126;replace p126:=eq_true p126;replace q126:=eq_true q126;obtain ⟨hy133_,hz133_⟩:=Kd.R_celln 0 HO_7.out (((rd_T67 l0_1 x12_3).f0) : Int) (od_ (by (with_reducible assumption))) (od_ (by (with_reducible assumption)));have HP133:=Kd.R_putg HO_7.out (((rd_T67 l0_1 x12_3).f0) : Int) (wrap64 ((wrap64 (-x12_3)) - 1)))|((with_reducible refine gate_store (t:=3) (p:=119) rfl ?_);refine store_event (t:=3) (p:=119) (v:=?vo_w134) (w1:=(w131.setCell ⟨go126,(((rd_T67 l0_1 x12_3).f0) : Int).toNat,none⟩ (.int .i64 (wrap64 ((wrap64 (-x12_3)) - 1))))) ?hg ?ho ?hn ?hr ?_;(case ho=>rfl);(case hg=>rfl);(case hn=>rfl);(case hr=>(go_simp;done));intro w134 hw;have hg : w131.grownBy w134 (some go126):=(by rw [hw];exact HP133.2);have hp_ : Kd.R (Kd.int .i64) 3 w134 w.heap.size (fun k_=>some k_ ≠ (.slice (some ad288) x5_1.length co32 : Value).ownBlock ∧ some k_ ≠ (u9 : Value).ownBlock) (.slice (some ⟨go126,0,none⟩) x7_3.length co126) y290:=(by rw [hw,Ny290.out];exact HP133.1);clear HP133;have n0_:=Aside0.mk (Kd.R_after (v:=(.slice (some ⟨go126,0,none⟩) x7_3.length co126)) (v1:=(.slice (some ⟨go126,0,none⟩) x7_3.length co126)) (ok:=(fun k_=>some k_ ≠ (u9 : Value).ownBlock)) (by exact Kd.R_mono HO_5.out (fun _ hk=>⟨hk.2,hk.1⟩)) hg (.inl rfl));have n1_:=Aside0.mk (hp_);have n2_:=Aside0.mk (Kd.R_over' (v:=(.slice (some ⟨go126,0,none⟩) x7_3.length co126)) HO_8.out (Kd.R_typed HO_7.out) (by decide) hg);have n3_:=Aside0.mk (Kd.R_after (v:=(.slice (some ⟨go126,0,none⟩) x7_3.length co126)) (v1:=(.slice (some ⟨go126,0,none⟩) x7_3.length co126)) (ok:=(fun k_=>some k_ ≠ (.slice (some ad288) x5_1.length co32 : Value).ownBlock)) HO_9.out hg (.inl rfl));have n4_:=Aside0.mk (blk_grown (g:=gb256) (o:=.cells #[.int .i64 a0_0,.slice (some ad271) l0_1.length c0_1] 30 (0,0)) BK256.out hg (Kd.R_ne HO_7.out BK256.out (by decide)));have n5_:=Aside0.mk (blk_grown (g:=gb272) (o:=.cells #[.int .i64 ((rd_T67 l0_1 x12_3).f0),.int .i64 ((rd_T67 l0_1 x12_3).f1),.int .i64 ((rd_T67 l0_1 x12_3).f2),.int .i64 ((rd_T67 l0_1 x12_3).f3)] 67 (0,0)) BK272.out hg (Kd.R_ne HO_7.out BK272.out (by decide)));have n6_:=Aside0.mk ((by rw [hw];exact below_set (HB.out) GB126.out : Below w.heap.size w w134));clear HO_5 HO_7 HO_8 HO_9 BK256 BK272 HB;have HO_5:=n0_;have HO_7:=n1_;have HO_8:=n2_;have HO_9:=n3_;have BK256:=n4_;have BK272:=n5_;have HB:=n6_;clear n0_ n1_ n2_ n3_ n4_ n5_ n6_ hg hw hp_;have hcz135_0 : w134.cell? ⟨gb272,0,none⟩ = some (.int .i64 ((rd_T67 l0_1 x12_3).f0)):=bc_ BK272.out 0;have hcz135_1 : w134.cell? ⟨gb272,1,none⟩ = some (.int .i64 ((rd_T67 l0_1 x12_3).f1)):=bc_ BK272.out 1;have hcz135_2 : w134.cell? ⟨gb272,2,none⟩ = some (.int .i64 ((rd_T67 l0_1 x12_3).f2)):=bc_ BK272.out 2;have hcz135_3 : w134.cell? ⟨gb272,3,none⟩ = some (.int .i64 ((rd_T67 l0_1 x12_3).f3)):=bc_ BK272.out 3;have hfz135_0:=blk_frozen BK272.out 0;have hfz135_1:=blk_frozen BK272.out 1;have hfz135_2:=blk_frozen BK272.out 2;have hfz135_3:=blk_frozen BK272.out 3)|((with_reducible refine gate_builtin (b:=.append) (xs:=#[.tmp 120,.tmp 123]) rfl ?_);at_builtin;refine Kd.R_append (Kd.int .i64) (w0:=w) w.heap.size rfl (.tmp 120) (.tmp 123) 25 3 (.int .i64 0) 8 rfl Try.underlying25 info3 rfl (by decide) (by omega) u9 x9_3 ((rd_T67 l0_1 x12_3).f0) [.int .i64 ((rd_T67 l0_1 x12_3).f0)] (fun k_=>some k_ ≠ (.slice (some ad288) x5_1.length co32 : Value).ownBlock ∧ some k_ ≠ (.slice (some ⟨go126,0,none⟩) x7_3.length co126 : Value).ownBlock) (fun _=>False) rfl rfl ?aP (fun _ hk=>hk.elim) ?aF ?aO ?aB ?aS ?aL ?_;(case aP=>exact rfl);(case aB=>exact HB.out);(case aF=>exact (fun k_ hk=>⟨Kd.fresh' (Kd.R_lt HO_5.out) k_ hk,Kd.fresh' (Kd.R_lt HO_7.out) k_ hk⟩));(case aO=>exact HO_9.out);(case aS=>exact (below_size HB.out));(case aL=>have:=LMc127.out;omega);intro v292 w136 ho hb hg hat;rw [← Ny291.out] at ho;have n0_:=Aside0.mk (Kd.R_after (ok:=(fun k_=>some k_ ≠ (.slice (some ⟨go126,0,none⟩) x7_3.length co126 : Value).ownBlock)) (by exact Kd.R_mono HO_5.out (fun _ hk=>⟨hk.2,hk.1⟩)) hg hat);have n1_:=Aside0.mk (Kd.R_after (ok:=(fun k_=>some k_ ≠ (.slice (some ad288) x5_1.length co32 : Value).ownBlock)) HO_7.out hg hat);have n2_:=Aside0.mk (Kd.R_over' HO_8.out (Kd.R_typed HO_9.out) (by decide) hg);have n3_:=Aside0.mk (blk_grown (g:=gb256) (o:=.cells #[.int .i64 a0_0,.slice (some ad271) l0_1.length c0_1] 30 (0,0)) BK256.out hg (Kd.R_ne HO_9.out BK256.out (by decide)));have n4_:=Aside0.mk (blk_grown (g:=gb272) (o:=.cells #[.int .i64 ((rd_T67 l0_1 x12_3).f0),.int .i64 ((rd_T67 l0_1 x12_3).f1),.int .i64 ((rd_T67 l0_1 x12_3).f2),.int .i64 ((rd_T67 l0_1 x12_3).f3)] 67 (0,0)) BK272.out hg (Kd.R_ne HO_9.out BK272.out (by decide)));have n5_:=Aside0.mk (hb);have n6_:=Aside0.mk (ho);clear HO_5 HO_7 HO_8 BK256 BK272 HB HO_9;have HO_5:=n0_;have HO_7:=n1_;have HO_8:=n2_;have BK256:=n3_;have BK272:=n4_;have HB:=n5_;have HO293:=n6_;clear n0_ n1_ n2_ n3_ n4_ n5_ n6_ ho hb hg hat))
          (try simp only [← hl8_3])
          go_roundg kj30
          case measure=>have:=HK1.out;have:=HK2.out;have:=HK3.out;have:=HJ30.out;omega
          case rel=>exact ⟨(y290),(y289),(y291),(wrap64 (x12_3 + 1)),(by rfl),H',⟨by have:=HK1.out;have:=HK2.out;have:=HK3.out;have:=HJ30.out;omega⟩,⟨by exact HO_5.out⟩,⟨by exact HO_7.out⟩,⟨by (try simp only [hl8_3]);exact HO_8.out⟩,⟨by exact HO293.out⟩,⟨by exact BK256.out⟩,⟨by exact HB.out⟩⟩
     rw [if_neg c25] at H;have c25b0 : decide (x10_2 < (x9_2.length : Int)) = false:=decide_eq_false c25;clear c25
     by_cases c142 : 1 < (x8_2.length : Int)
     rotate_left
     ·rw [if_neg c142] at H;exact absurd H (by simp)
     rw [if_pos c142] at H;have c142b0 : decide (1 < (x8_2.length : Int)) = true:=decide_eq_true c142;have c142b1 : decide (1 < x8_2.length) = true:=decide_eq_true (by omega);clear c142
     obtain ⟨bq143,hbq143⟩ : ∃ b_ : Bool,b_ = (rdOf false x8_2 1):=⟨_,rfl⟩
     replace H : (if bq143 = true then (spec_l06Pushed.l3 k2 a1 x5_1 x6_1 x7_2 1 a0_0 l0_1) else (some x5_1)) = some r:=by rw [← hbq143] at H;exact H
     have Nbq143:=Aside0.mk hbq143;clear hbq143
     by_cases c144 : bq143 = true
     rotate_left
     ·replace c144:=Bool.eq_false_iff.mpr c144;subst c144
      have H1 : (some x5_1) = some r:=by rw [if_neg (show ¬ (false = true) by decide)] at H;exact H
      clear H;have H:=H1;clear H1;obtain rfl:=Option.some.inj H;obtain ⟨Ao172,co172,eo172⟩:=Kd.R_slice HO_9.out;subst eo172;have p294 : 0 ≤ (1 : Int):=(by omega);have q294 : 1 < (x8_2.length : Int):=od_ (by (with_reducible assumption));obtain ⟨ad294,e294,hx294_0⟩:=Kd.at_bool (Kd.R_reads' HO_8.out).2.2 1 p294 q294
      (try rw [← Nbq143.out] at hx294_0)
      obtain rfl : (⟨go14,0,none⟩ : Addr) = ad294:=(by injection e294)
      (simp only [add_plain] at hx294_0)
      have qi294 : (1 < x8_2.length) = True:=eq_true (by omega)
      (try rw [show ((1 : Int)).toNat = 1 from rfl] at hx294_0)
      replace p294:=eq_true p294;replace q294:=eq_true q294
      go_wp2
      go_ret
      exact ⟨_,by rfl,by exact Kd.R_mono HO_5.out (fun _ hk=>trivial),by exact HB.out⟩
     subst c144
     have H1 : (spec_l06Pushed.l3 k2 a1 x5_1 x6_1 x7_2 1 a0_0 l0_1) = some r:=by rw [if_pos rfl] at H;exact H
     clear H;have H:=H1;clear H1;have H':=Aside0.mk H;clear H;obtain ⟨Ao145,co145,eo145⟩:=Kd.R_slice HO_9.out;subst eo145;have p294 : 0 ≤ (1 : Int):=(by omega);have q294 : 1 < (x8_2.length : Int):=od_ (by (with_reducible assumption));obtain ⟨ad294,e294,hx294_0⟩:=Kd.at_bool (Kd.R_reads' HO_8.out).2.2 1 p294 q294
     (try rw [← Nbq143.out] at hx294_0)
     obtain rfl : (⟨go14,0,none⟩ : Addr) = ad294:=(by injection e294)
     (simp only [add_plain] at hx294_0)
     have qi294 : (1 < x8_2.length) = True:=eq_true (by omega)
     (try rw [show ((1 : Int)).toNat = 1 from rfl] at hx294_0)
     replace p294:=eq_true p294;replace q294:=eq_true q294
     go_wp2
     go_loopg [14] k2 (fun kq v14 w'=>∃ (x5_3 : List Int) (x14_3 : Int),v14 = .int .i64 x14_3 ∧ Aside0 (spec_l06Pushed.l3 kq a1 x5_3 x6_1 x7_2 x14_3 a0_0 l0_1 = some r) ∧ Aside0 (kq ≤ k2) ∧ Aside0 (Kd.R (Kd.int .i64) 3 w' w.heap.size (fun k_=>some k_ ≠ (v261 : Value).ownBlock) v258 x5_3) ∧ Aside0 (Kd.R (Kd.int .i64) 3 w' w.heap.size (fun k_=>some k_ ≠ (v258 : Value).ownBlock) v261 x7_2) ∧ Aside0 (w'.heap[gb256]? = some (.cells #[.int .i64 a0_0,(.slice A0_1 l0_1.length c0_1)] 30 (0,0))) ∧ Aside0 (Below w.heap.size w w'))
     case atStart=>exact ⟨(x5_1),(1),(by rfl),H',⟨Nat.le_refl _⟩,⟨by exact Kd.R_mono HO_5.out (fun _ hk=>hk.1)⟩,⟨by exact Kd.R_mono HO_7.out (fun _ hk=>hk.1)⟩,⟨by exact BK256.out⟩,⟨by exact HB.out⟩⟩
     case round =>
      clear H'
      try clear c1
      try clear p1
      try clear q1
      try clear hx1
      try clear c2
      try clear p2
      try clear q2
      try clear hx2
      try clear qi2
      try clear c3
      try clear c4
      try clear q4
      try clear c5
      try clear p5
      try clear q5
      try clear hx5
      try clear hf5
      try clear c6
      try clear p6
      try clear c7
      try clear p7
      try clear q7
      try clear hx7
      try clear hf7
      try clear c9
      try clear c10
      try clear c11
      try clear q11
      try clear c12
      try clear p12
      try clear q12
      try clear hx12
      try clear hf12
      try clear c13
      try clear c14
      try clear q14
      try clear c25
      try clear c25b0
      try clear c26
      try clear p27
      try clear q27
      try clear hx27
      try clear c28
      try clear c28b0
      try clear p28
      try clear q28
      try clear hx28
      try clear c29
      try clear p29
      try clear q29
      try clear hx29
      try clear qi29
      try clear c30
      try clear c37
      try clear c37b0
      try clear c37b1
      try clear c38
      try clear c39
      try clear q40
      try clear c41
      try clear c48
      try clear c49
      try clear c49b0
      try clear c50
      try clear c50b0
      try clear p51
      try clear q51
      try clear hx51
      try clear hf51
      try clear c52
      try clear c52b0
      try clear p53
      try clear q53
      try clear hx53
      try clear hf53
      try clear c54
      try clear c55
      try clear c55b0
      try clear c55b1
      try clear c56
      try clear c56b0
      try clear c57
      try clear c57b0
      try clear q58
      try clear c59
      try clear c60
      try clear p64
      try clear c70
      try clear c70b0
      try clear c71
      try clear c71b0
      try clear c72
      try clear c72b0
      try clear p73
      try clear q73
      try clear hx73
      try clear hf73
      try clear c74
      try clear c74b0
      try clear p75
      try clear q75
      try clear hx75
      try clear hf75
      try clear c76
      try clear c77
      try clear c94
      try clear c104
      try clear c114
      try clear c114b0
      try clear c114b1
      try clear c115
      try clear c115b0
      try clear c116
      try clear c116b0
      try clear q117
      try clear c118
      try clear c119
      try clear c121
      try clear c121b0
      try clear c122
      try clear c122b0
      try clear c123
      try clear c123b0
      try clear p124
      try clear q124
      try clear hx124
      try clear hf124
      try clear c125
      try clear c125b0
      try clear p126
      try clear q126
      try clear hx126
      try clear hf126
      try clear c127
      try clear c128
      try clear c137
      try clear c139
      try clear c142
      try clear c142b0
      try clear c142b1
      try clear q143
      try clear c144
      try clear hcz101_0
      try clear hcz101_1
      try clear hcz101_2
      try clear hcz101_3
      try clear hcz103_0
      try clear hcz103_1
      try clear hcz103_2
      try clear hcz103_3
      try clear hcz105_0
      try clear hcz105_1
      try clear hcz105_2
      try clear hcz105_3
      try clear hcz108_0
      try clear hcz108_1
      try clear hcz108_2
      try clear hcz108_3
      try clear hcz111_0
      try clear hcz111_1
      try clear hcz111_2
      try clear hcz111_3
      try clear hcz113_0
      try clear hcz113_1
      try clear hcz113_2
      try clear hcz113_3
      try clear hcz120_0
      try clear hcz120_1
      try clear hcz120_2
      try clear hcz120_3
      try clear hcz129_0
      try clear hcz129_1
      try clear hcz129_2
      try clear hcz129_3
      try clear hcz132_0
      try clear hcz132_1
      try clear hcz132_2
      try clear hcz132_3
      try clear hcz135_0
      try clear hcz135_1
      try clear hcz135_2
      try clear hcz135_3
      try clear hcz138_0
      try clear hcz138_1
      try clear hcz138_2
      try clear hcz138_3
      try clear hcz140_0
      try clear hcz140_1
      try clear hcz140_2
      try clear hcz140_3
      try clear hcz61_0
      try clear hcz61_1
      try clear hcz61_2
      try clear hcz61_3
      try clear hcz64_0
      try clear hcz64_1
      try clear hcz64_2
      try clear hcz64_3
      try clear hcz67_0
      try clear hcz67_1
      try clear hcz67_2
      try clear hcz67_3
      try clear hcz69_0
      try clear hcz69_1
      try clear hcz69_2
      try clear hcz69_3
      try clear hcz78_0
      try clear hcz78_1
      try clear hcz78_2
      try clear hcz78_3
      try clear hcz81_0
      try clear hcz81_1
      try clear hcz81_2
      try clear hcz81_3
      try clear hcz84_0
      try clear hcz84_1
      try clear hcz84_2
      try clear hcz84_3
      try clear hcz86_0
      try clear hcz86_1
      try clear hcz86_2
      try clear hcz86_3
      try clear hcz89_0
      try clear hcz89_1
      try clear hcz89_2
      try clear hcz89_3
      try clear hcz92_0
      try clear hcz92_1
      try clear hcz92_2
      try clear hcz92_3
      try clear hcz95_0
      try clear hcz95_1
      try clear hcz95_2
      try clear hcz95_3
      try clear hcz98_0
      try clear hcz98_1
      try clear hcz98_2
      try clear hcz98_3
      try clear hfz101_0
      try clear hfz101_1
      try clear hfz101_2
      try clear hfz101_3
      try clear hfz103_0
      try clear hfz103_1
      try clear hfz103_2
      try clear hfz103_3
      try clear hfz105_0
      try clear hfz105_1
      try clear hfz105_2
      try clear hfz105_3
      try clear hfz108_0
      try clear hfz108_1
      try clear hfz108_2
      try clear hfz108_3
      try clear hfz111_0
      try clear hfz111_1
      try clear hfz111_2
      try clear hfz111_3
      try clear hfz113_0
      try clear hfz113_1
      try clear hfz113_2
      try clear hfz113_3
      try clear hfz120_0
      try clear hfz120_1
      try clear hfz120_2
      try clear hfz120_3
      try clear hfz129_0
      try clear hfz129_1
      try clear hfz129_2
      try clear hfz129_3
      try clear hfz132_0
      try clear hfz132_1
      try clear hfz132_2
      try clear hfz132_3
      try clear hfz135_0
      try clear hfz135_1
      try clear hfz135_2
      try clear hfz135_3
      try clear hfz138_0
      try clear hfz138_1
      try clear hfz138_2
      try clear hfz138_3
      try clear hfz140_0
      try clear hfz140_1
      try clear hfz140_2
      try clear hfz140_3
      try clear hfz61_0
      try clear hfz61_1
      try clear hfz61_2
      try clear hfz61_3
      try clear hfz64_0
      try clear hfz64_1
      try clear hfz64_2
      try clear hfz64_3
      try clear hfz67_0
      try clear hfz67_1
      try clear hfz67_2
      try clear hfz67_3
      try clear hfz69_0
      try clear hfz69_1
      try clear hfz69_2
      try clear hfz69_3
      try clear hfz78_0
      try clear hfz78_1
      try clear hfz78_2
      try clear hfz78_3
      try clear hfz81_0
      try clear hfz81_1
      try clear hfz81_2
      try clear hfz81_3
      try clear hfz84_0
      try clear hfz84_1
      try clear hfz84_2
      try clear hfz84_3
      try clear hfz86_0
      try clear hfz86_1
      try clear hfz86_2
      try clear hfz86_3
      try clear hfz89_0
      try clear hfz89_1
      try clear hfz89_2
      try clear hfz89_3
      try clear hfz92_0
      try clear hfz92_1
      try clear hfz92_2
      try clear hfz92_3
      try clear hfz95_0
      try clear hfz95_1
      try clear hfz95_2
      try clear hfz95_3
      try clear hfz98_0
      try clear hfz98_1
      try clear hfz98_2
      try clear hfz98_3
      try clear hx124_0
      try clear hx126_0
      try clear hx273_0
      try clear hx274_0
      try clear hx280_0
      try clear hx281_0
      try clear hx287_0
      try clear hx288_0
      try clear hx294_0
      try clear hx51_0
      try clear hx53_0
      try clear hx73_0
      try clear hx75_0
      try clear p124
      try clear p126
      try clear p2
      try clear p27
      try clear p273
      try clear p274
      try clear p280
      try clear p281
      try clear p287
      try clear p288
      try clear p294
      try clear p51
      try clear p53
      try clear p73
      try clear p75
      try clear q124
      try clear q126
      try clear q2
      try clear q27
      try clear q273
      try clear q274
      try clear q280
      try clear q281
      try clear q287
      try clear q288
      try clear q294
      try clear q4
      try clear q40
      try clear q51
      try clear q53
      try clear q73
      try clear q75
      obtain ⟨x5_3,x14_3,rfl,HA,HK3,HO_5,HO_7,BK256,HB⟩:=hrel
      cases gk with
      | zero => exact absurd HA.out (by simp [spec_l06Pushed.l3])
      | succ k3 =>
       have H:=HA.out;clear HA;simp only [spec_l06Pushed.l3] at H
       by_cases c146 : x14_3 = 0
       ·rw [if_pos c146] at H;have c146b0 : (x14_3 == 0) = true:=beq_iff_eq.mpr c146;have c146b1 : (x14_3 != 0) = false:=bne_eq_false_iff_eq.mpr c146;clear c146;have H':=Aside0.mk H;clear H
        go_wp2
        (try simp only [← hl8_2])
        go_roundg k3
        case measure=>have:=HK1.out;have:=HK2.out;have:=HK3.out;omega
        case rel=>exact ⟨(x5_3),(wrap64 (x6_1 + 1)),(by rfl),H',⟨by have:=HK1.out;have:=HK2.out;have:=HK3.out;omega⟩,⟨by exact Kd.R_mono HO_5.out (fun _ hk=>trivial)⟩,⟨by exact BK256.out⟩,⟨by exact HB.out⟩⟩
       rw [if_neg c146] at H;have c146b0 : (x14_3 == 0) = false:=beq_eq_false_iff_ne.mpr c146;have c146b1 : (x14_3 != 0) = true:=bne_iff_ne.mpr c146
       by_cases c147 : 0 ≤ x14_3
       rotate_left
       ·rw [if_neg c147] at H;exact absurd H (by simp)
       rw [if_pos c147] at H;have c147b0 : decide (0 ≤ x14_3) = true:=decide_eq_true c147;clear c147
       by_cases c148 : x14_3 < (x7_2.length : Int)
       rotate_left
       ·rw [if_neg c148] at H;exact absurd H (by simp)
       rw [if_pos c148] at H;have c148b0 : decide (x14_3 < (x7_2.length : Int)) = true:=decide_eq_true c148;clear c148
       by_cases c149 : (rd x7_2 x14_3) > 0
       ·rw [if_pos c149] at H;have c149b0 : decide (0 < (rd x7_2 x14_3)) = true:=decide_eq_true c149;clear c149
        obtain ⟨ji150,hji150⟩ : ∃ j_ : Int,(wrap64 ((rd x7_2 x14_3) - 1)) = j_:=⟨_,rfl⟩
        replace H : (if 0 ≤ (ji150) then (if (ji150) < (x5_3.length : Int) then (if (ji150) < (l0_1.length : Int) then (spec_l06Pushed.l3 k3 a1 (x5_3.set ((ji150) : Int).toNat (wrap64 ((rd x5_3 (ji150)) + 1))) x6_1 x7_2 ((rd_T67 l0_1 (ji150)).f0) a0_0 l0_1) else (none)) else (none)) else (none)) = some r:=by (rw [hji150] at H;exact H)
        have hji150w : (IntKind.i64.wrap ((rd x7_2 x14_3) - 1)) = ji150:=(i64_w _).trans hji150
        by_cases c151 : 0 ≤ (ji150)
        rotate_left
        ·rw [if_neg c151] at H;exact absurd H (by simp)
        rw [if_pos c151] at H;have c151b0 : decide (0 ≤ (ji150)) = true:=decide_eq_true c151;clear c151
        by_cases c152 : (ji150) < (x5_3.length : Int)
        rotate_left
        ·rw [if_neg c152] at H;exact absurd H (by simp)
        rw [if_pos c152] at H;have c152b0 : decide ((ji150) < (x5_3.length : Int)) = true:=decide_eq_true c152;clear c152
        obtain ⟨y299,hy299⟩ : ∃ y_ : List Int,y_ = (x5_3.set ((ji150) : Int).toNat (wrap64 ((rd x5_3 (ji150)) + 1))):=⟨_,rfl⟩
        replace H : (if (ji150) < (l0_1.length : Int) then (spec_l06Pushed.l3 k3 a1 y299 x6_1 x7_2 ((rd_T67 l0_1 (ji150)).f0) a0_0 l0_1) else (none)) = some r:=by (rw [hy299];with_reducible exact H)
        have Ny299:=Aside0.mk hy299;clear hy299
        by_cases c154 : (ji150) < (l0_1.length : Int)
        rotate_left
        ·rw [if_neg c154] at H;exact absurd H (by simp)
        rw [if_pos c154] at H;have c154b0 : decide ((ji150) < (l0_1.length : Int)) = true:=decide_eq_true c154;clear c154;have H':=Aside0.mk H;clear H;obtain ⟨Ao155,co155,eo155⟩:=Kd.R_slice HO_7.out;subst eo155;have p295 : 0 ≤ (x14_3 : Int):=od_ (by (with_reducible assumption));have q295 : x14_3 < (x7_2.length : Int):=od_ (by (with_reducible assumption));obtain ⟨ad295,e295,hx295_0⟩:=Kd.at_int (Kd.R_reads' HO_7.out).2.2 x14_3 p295 q295
        cases e295
        replace p295:=eq_true p295;replace q295:=eq_true q295
        try go_wp2
        have n0_:=Aside0.mk (Kd.R_drew HO_5.out);have n1_:=Aside0.mk (Kd.R_drew HO_7.out);have n2_:=Aside0.mk (blk_drew BK256.out);have n3_:=Aside0.mk (below_drew1 HB.out);clear HO_5 HO_7 BK256 HB;have HO_5:=n0_;have HO_7:=n1_;have BK256:=n2_;have HB:=n3_;clear n0_ n1_ n2_ n3_;have p296 : 0 ≤ (x14_3 : Int):=od_ (by (with_reducible assumption));have q296 : x14_3 < (x7_2.length : Int):=od_ (by (with_reducible assumption));obtain ⟨ad296,e296,hx296_0⟩:=Kd.at_int (Kd.R_reads' HO_7.out).2.2 x14_3 p296 q296;obtain rfl : ad295 = ad296:=(by injection e296);replace p296:=eq_true p296;replace q296:=eq_true q296;have p297 : 0 ≤ (x14_3 : Int):=od_ (by (with_reducible assumption));have q297 : x14_3 < (x7_2.length : Int):=od_ (by (with_reducible assumption));obtain ⟨ad297,e297,hx297_0⟩:=Kd.at_int (Kd.R_reads' HO_7.out).2.2 x14_3 p297 q297;obtain rfl : ad295 = ad297:=(by injection e297);replace p297:=eq_true p297;replace q297:=eq_true q297;obtain ⟨Ao157,co157,eo157⟩:=Kd.R_slice HO_5.out
        (subst eo157)
        have p298 : 0 ≤ ((ji150) : Int):=od_ (by (with_reducible assumption));have q298 : (ji150) < (x5_3.length : Int):=od_ (by (with_reducible assumption));obtain ⟨ad298,e298,hx298_0⟩:=Kd.at_int (Kd.R_reads' HO_5.out).2.2 (ji150) p298 q298
        cases e298
        replace p298:=eq_true p298;replace q298:=eq_true q298;have p153 : 0 ≤ ((ji150) : Int):=od_ (by (with_reducible assumption));have q153 : ((ji150) : Int) < ((x5_3.length : Int) : Int):=od_ (by (with_reducible assumption));obtain ⟨go153,co153,eo153,gb153,gl153,cl153,HG153⟩:=Kd.R_form HO_5.out (by omega)
        (cases eo153)
        have GB153:=Aside0.mk gb153;have GG153:=Aside0.mk HG153;clear gb153 gl153 HG153
        (simp only [add_plain] at hx298_0)
        obtain ⟨hx153_0,hf153_0⟩:=Kd.R_celln 0 HO_5.out ((ji150) : Int) p153 q153;replace p153:=eq_true p153;replace q153:=eq_true q153;have HP158:=Kd.R_putn HO_5.out ((ji150) : Int) (wrap64 ((rd x5_3 (ji150)) + 1));rw [← Ny299.out] at HP158;have HQ158:=Aside0.mk HP158;clear HP158;refine start_ (n:=17) (S:=fun w'=>w'.cell? (ad295.add (x14_3).toNat) = some (.int .i64 (rd x7_2 x14_3)) ∧ w'.cell? (ad295.add (x14_3).toNat) = some (.int .i64 (rd x7_2 x14_3)) ∧ w'.cell? ⟨go153,((ji150)).toNat,none⟩ = some (.int .i64 (rd x5_3 (ji150)))) (ds:=[16]) #[false,false,false,false,false,false,false,false,false,false,false,false,false,false,false,false,false] (by kernel_rfl) rfl rfl ⟨hx296_0,hx297_0,hx298_0⟩ (fun hHeld=>?_);refine with_tabW spec_l06Pushed.tab30 spec_l06Pushed.bits30 (fun HT_ HW_=>?_);generalize wr.drew = w156 at HO_5 HO_7 BK256 HB GG153 HQ158 hf153_0 hx153_0 hx296_0 hx297_0 hx298_0 hHeld ⊢;refine pure_ (i:=0) (N:=some 137) (v:=?_) (a':=?_) #[true,false,false,false,false,false,false,false,false,false,false,false,false,false,false,false,false] rfl rfl (any_of HT_.out (by kernel_rfl)) (fun _ _ _ h=>h) (Or.inl ⟨by rfl,?_⟩) ?_ ?_;rotate_left;intro w';go_simp;(with_reducible rfl);rotate_left;simp only [Act.put,sb_,sz_,ss_,i64_w,i32_w];rfl;refine pure_ (i:=1) (N:=some 138) (v:=?_) (a':=?_) #[true,true,false,false,false,false,false,false,false,false,false,false,false,false,false,false,false] rfl rfl (any_of HT_.out (by kernel_rfl)) (fun _ _ _ h=>h) (Or.inl ⟨by rfl,?_⟩) ?_ ?_;rotate_left;intro w';go_simp;(with_reducible rfl);rotate_left;simp only [Act.put,sb_,sz_,ss_,i64_w,i32_w];rfl;refine pure_ (i:=2) (N:=some 139) (v:=?_) (a':=?_) #[true,true,true,false,false,false,false,false,false,false,false,false,false,false,false,false,false] rfl rfl (any_of HT_.out (by kernel_rfl)) (fun _ _ _ h=>h) (Or.inl ⟨by rfl,?_⟩) ?_ ?_;rotate_left;intro w';go_simp;(with_reducible rfl);rotate_left;simp only [Act.put,sb_,sz_,ss_,i64_w,i32_w];rfl;refine pure_ (i:=3) (N:=some 140) (v:=?_) (a':=?_) #[true,true,true,true,false,false,false,false,false,false,false,false,false,false,false,false,false] rfl rfl (any_of HT_.out (by kernel_rfl)) (fun _ _ _ h=>h) (Or.inl ⟨by rfl,?_⟩) ?_ ?_;rotate_left;intro w';go_simp;(with_reducible rfl);rotate_left;simp only [Act.put,sb_,sz_,ss_,i64_w,i32_w];rfl;refine pure_ (i:=6) (N:=some 143) (v:=?_) (a':=?_) #[true,true,true,true,false,false,true,false,false,false,false,false,false,false,false,false,false] rfl rfl (any_of HT_.out (by kernel_rfl)) (fun _ _ _ h=>h) (Or.inl ⟨by rfl,?_⟩) ?_ ?_;rotate_left;intro w';go_simp;(with_reducible rfl);rotate_left;simp only [Act.put,sb_,sz_,ss_,i64_w,i32_w];rfl;refine pure_ (i:=7) (N:=some 144) (v:=?_) (a':=?_) #[true,true,true,true,false,false,true,true,false,false,false,false,false,false,false,false,false] rfl rfl (any_of HT_.out (by kernel_rfl)) (fun _ _ _ h=>h) (Or.inl ⟨by rfl,?_⟩) ?_ ?_;rotate_left;intro w';go_simp;(with_reducible rfl);rotate_left;simp only [Act.put,sb_,sz_,ss_,i64_w,i32_w];rfl;refine pure_ (i:=8) (N:=some 145) (v:=?_) (a':=?_) #[true,true,true,true,false,false,true,true,true,false,false,false,false,false,false,false,false] rfl rfl (any_of HT_.out (by kernel_rfl)) (fun _ _ _ h=>h) (Or.inl ⟨by rfl,?_⟩) ?_ ?_;rotate_left;intro w';go_simp;(with_reducible rfl);rotate_left;simp only [Act.put,sb_,sz_,ss_,i64_w,i32_w];rfl;refine pure_ (i:=9) (N:=some 146) (v:=?_) (a':=?_) #[true,true,true,true,false,false,true,true,true,true,false,false,false,false,false,false,false] rfl rfl (any_of HT_.out (by kernel_rfl)) (fun _ _ _ h=>h) (Or.inl ⟨by rfl,?_⟩) ?_ ?_;rotate_left;intro w';go_simp;(with_reducible rfl);rotate_left;simp only [Act.put,sb_,sz_,ss_,i64_w,i32_w];rfl;refine take_ (i:=4) (N:=some 141) (v:=?_) (a':=?_) #[true,true,true,true,true,false,true,true,true,true,false,false,false,false,false,false,false] rfl rfl (take_ofW HT_.out HW_.out (by kernel_rfl)) (fun _ _ _ h=>h) (Or.inl ⟨by rfl,?_⟩) hHeld ?_ ?_;rotate_left;rintro w' ⟨s0,s1,s2⟩;go_simp;(with_reducible rfl);rotate_left;simp only [Act.put,sb_,sz_,ss_,i64_w,i32_w];rfl;refine pure_ (i:=5) (N:=some 142) (v:=?_) (a':=?_) #[true,true,true,true,true,true,true,true,true,true,false,false,false,false,false,false,false] rfl rfl (any_of HT_.out (by kernel_rfl)) (fun _ _ _ h=>h) (Or.inl ⟨by rfl,?_⟩) ?_ ?_;rotate_left;intro w';go_simp;(with_reducible rfl);rotate_left;simp only [Act.put,sb_,sz_,ss_,i64_w,i32_w];rfl;refine take_ (i:=10) (N:=some 147) (v:=?_) (a':=?_) #[true,true,true,true,true,true,true,true,true,true,true,false,false,false,false,false,false] rfl rfl (take_ofW HT_.out HW_.out (by kernel_rfl)) (fun _ _ _ h=>h) (Or.inl ⟨by rfl,?_⟩) hHeld ?_ ?_;rotate_left;rintro w' ⟨s0,s1,s2⟩;go_simp;(with_reducible rfl);rotate_left;simp only [Act.put,sb_,sz_,ss_,i64_w,i32_w];rfl;refine pure_ (i:=11) (N:=some 148) (v:=?_) (a':=?_) #[true,true,true,true,true,true,true,true,true,true,true,true,false,false,false,false,false] rfl rfl (any_of HT_.out (by kernel_rfl)) (fun _ _ _ h=>h) (Or.inl ⟨by rfl,?_⟩) ?_ ?_;rotate_left;intro w';go_simp;(with_reducible rfl);rotate_left;simp only [Act.put,sb_,sz_,ss_,i64_w,i32_w];rfl;refine pure_ (i:=12) (N:=some 149) (v:=?_) (a':=?_) #[true,true,true,true,true,true,true,true,true,true,true,true,true,false,false,false,false] rfl rfl (any_of HT_.out (by kernel_rfl)) (fun _ _ _ h=>h) (Or.inl ⟨by rfl,?_⟩) ?_ ?_;rotate_left;intro w';go_simp;(with_reducible rfl);rotate_left;simp only [Act.put,sb_,sz_,ss_,i64_w,i32_w];rfl;refine take_ (i:=13) (N:=some 150) (v:=?_) (a':=?_) #[true,true,true,true,true,true,true,true,true,true,true,true,true,true,false,false,false] rfl rfl (take_ofW HT_.out HW_.out (by kernel_rfl)) (fun _ _ _ h=>h) (Or.inl ⟨by rfl,?_⟩) hHeld ?_ ?_;rotate_left;rintro w' ⟨s0,s1,s2⟩;go_simp;(with_reducible rfl);rotate_left;simp only [Act.put,sb_,sz_,ss_,i64_w,i32_w];rfl;refine pure_ (i:=14) (N:=some 151) (v:=?_) (a':=?_) #[true,true,true,true,true,true,true,true,true,true,true,true,true,true,true,false,false] rfl rfl (any_of HT_.out (by kernel_rfl)) (fun _ _ _ h=>h) (Or.inl ⟨by rfl,?_⟩) ?_ ?_;rotate_left;intro w';go_simp;(with_reducible rfl);rotate_left;simp only [Act.put,sb_,sz_,ss_,i64_w,i32_w];rfl;refine pure_ (i:=15) (N:=some 152) (v:=?_) (a':=?_) #[true,true,true,true,true,true,true,true,true,true,true,true,true,true,true,true,false] rfl rfl (any_of HT_.out (by kernel_rfl)) (fun _ _ _ h=>h) (Or.inl ⟨by rfl,?_⟩) ?_ ?_;rotate_left;intro w';go_simp;(with_reducible rfl);rotate_left;simp only [Act.put,sb_,sz_,ss_,i64_w,i32_w];rfl;refine last_ (i:=16) (N:=none) #[true,true,true,true,true,true,true,true,true,true,true,true,true,true,true,true,true] rfl rfl (one_of HT_.out (by kernel_rfl)) (by decide) (fun K hK=>?_);refine skip_ (w1:=?_) (by rfl) rfl ?_ ?_;rotate_left
        ·go_simp;rfl
        refine hK.out _ _ ?_;clear hK K;refine done_ (done_of HT_.out (by kernel_rfl)) ?_
        try go_wp2
        have n0_ : Aside0 (Kd.R (Kd.int .i64) 3 (w156.setCell ⟨go153,((ji150) : Int).toNat,none⟩ (.int .i64 (wrap64 ((rd x5_3 (ji150)) + 1)))) w.heap.size (fun k_=>some k_ ≠ (.slice (some ad295) x7_2.length co155 : Value).ownBlock) (.slice (some ⟨go153,0,none⟩) x5_3.length co157) y299):=⟨by exact HQ158.out⟩
        have n1_ : Aside0 (Kd.R (Kd.int .i64) 3 (w156.setCell ⟨go153,((ji150) : Int).toNat,none⟩ (.int .i64 (wrap64 ((rd x5_3 (ji150)) + 1)))) w.heap.size (fun k_=>some k_ ≠ (.slice (some ⟨go153,0,none⟩) x5_3.length co157 : Value).ownBlock) (.slice (some ad295) x7_2.length co155) x7_2):=⟨by exact Kd.R_mono (Kd.R_far (p:=⟨go153,((ji150) : Int).toNat,none⟩) (Kd.R_mono HO_7.out (fun k_ hk=>(⟨hk,fun e_=>hk (by rw [e_];rfl)⟩ : _ ∧ k_ ≠ go153))) (fun _ hk=>hk.2) (.int .i64 (wrap64 ((rd x5_3 (ji150)) + 1)))) (fun _ hk=>hk.1)⟩
        have n2_ : Aside0 ((w156.setCell ⟨go153,((ji150) : Int).toNat,none⟩ (.int .i64 (wrap64 ((rd x5_3 (ji150)) + 1)))).heap[gb256]? = some (.cells #[.int .i64 a0_0,.slice A0_1 l0_1.length c0_1] 30 (0,0))):=⟨by refine blk_far ?_ (by have h_:=Kd.R_ne HO_5.out BK256.out (by decide);intro e_;exact h_ (by rw [e_];rfl)) _;exact BK256.out⟩
        have n3_ : Aside0 (Below w.heap.size w (w156.setCell ⟨go153,((ji150) : Int).toNat,none⟩ (.int .i64 (wrap64 ((rd x5_3 (ji150)) + 1))))):=⟨by repeat ((with_reducible first|exact HB.out|refine below_set ?_ GB153.out))⟩
        (try clear HO_5)
        (try clear HO_7)
        (try clear BK256)
        (try clear HB)
        generalize (w156.setCell ⟨go153,((ji150) : Int).toNat,none⟩ (.int .i64 (wrap64 ((rd x5_3 (ji150)) + 1)))) = w159 at n0_ n1_ n2_ n3_ ⊢;have HO_5:=n0_;have HO_7:=n1_;have BK256:=n2_;have HB:=n3_;clear n0_ n1_ n2_ n3_;have n0_:=Aside0.mk (Kd.R_drew HO_5.out);have n1_:=Aside0.mk (Kd.R_drew HO_7.out);have n2_:=Aside0.mk (blk_drew BK256.out);have n3_:=Aside0.mk (below_drew1 HB.out);clear HO_5 HO_7 BK256 HB;have HO_5:=n0_;have HO_7:=n1_;have BK256:=n2_;have HB:=n3_;clear n0_ n1_ n2_ n3_;have p300 : 0 ≤ (x14_3 : Int):=od_ (by (with_reducible assumption));have q300 : x14_3 < (x7_2.length : Int):=od_ (by (with_reducible assumption));obtain ⟨ad300,e300,hx300_0⟩:=Kd.at_int (Kd.R_reads' HO_7.out).2.2 x14_3 p300 q300;obtain rfl : ad295 = ad300:=(by injection e300);replace p300:=eq_true p300;replace q300:=eq_true q300;have p301 : 0 ≤ ((ji150) : Int):=od_ (by (with_reducible assumption));have q301 : (ji150) < (l0_1.length : Int):=od_ (by (with_reducible assumption));obtain ⟨ad301,e301,hx301_0,hx301_1,hx301_2,hx301_3⟩:=at_T67 HR0_1.out (ji150) p301 q301;have hw301_3:=hx301_3;have hw301_2:=hx301_2;have hw301_1:=hx301_1;have hw301_0:=hx301_0
        cases e301
        replace hx301_0:=(HB.out.cell (World.block_lt_of_cell? w _ hx301_0)).trans hx301_0;replace hx301_1:=(HB.out.cell (World.block_lt_of_cell? w _ hx301_1)).trans hx301_1;replace hx301_2:=(HB.out.cell (World.block_lt_of_cell? w _ hx301_2)).trans hx301_2;replace hx301_3:=(HB.out.cell (World.block_lt_of_cell? w _ hx301_3)).trans hx301_3;replace p301:=eq_true p301;replace q301:=eq_true q301;refine start_ (n:=11) (S:=fun w'=>w'.cell? ⟨gb256,0,none⟩ = some (.int .i64 a0_0) ∧ w'.cell? ⟨gb256,1,none⟩ = some (.slice (some ad301) l0_1.length c0_1) ∧ w'.cell? (ad295.add (x14_3).toNat) = some (.int .i64 (rd x7_2 x14_3)) ∧ w'.cell? (ad301.add (((ji150)).toNat * 4)) = some (.int .i64 ((rd_T67 l0_1 (ji150)).f0)) ∧ w'.cell? ⟨(ad301.add (((ji150)).toNat * 4)).block,(ad301.add (((ji150)).toNat * 4)).off + 1,none⟩ = some (.int .i64 ((rd_T67 l0_1 (ji150)).f1)) ∧ w'.cell? ⟨(ad301.add (((ji150)).toNat * 4)).block,(ad301.add (((ji150)).toNat * 4)).off + 2,none⟩ = some (.int .i64 ((rd_T67 l0_1 (ji150)).f2)) ∧ w'.cell? ⟨(ad301.add (((ji150)).toNat * 4)).block,(ad301.add (((ji150)).toNat * 4)).off + 3,none⟩ = some (.int .i64 ((rd_T67 l0_1 (ji150)).f3))) (ds:=[]) #[false,false,false,false,false,false,false,false,false,false,false] (by kernel_rfl) rfl rfl ⟨bc_ BK256.out 0,bc_ BK256.out 1,hx300_0,((HB.out.cell (World.block_lt_of_cell? w _ hw301_0)).trans hw301_0),((HB.out.cell (World.block_lt_of_cell? w _ hw301_1)).trans hw301_1),((HB.out.cell (World.block_lt_of_cell? w _ hw301_2)).trans hw301_2),((HB.out.cell (World.block_lt_of_cell? w _ hw301_3)).trans hw301_3)⟩ (fun hHeld=>?_);refine with_tabW spec_l06Pushed.tab31 spec_l06Pushed.bits31 (fun HT_ HW_=>?_);generalize w159.drew = w160 at HO_5 HO_7 BK256 HB HQ158 hx300_0 hx301_0 hx301_1 hx301_2 hx301_3 hHeld ⊢;refine pure_ (i:=0) (N:=some 153) (v:=?_) (a':=?_) #[true,false,false,false,false,false,false,false,false,false,false] rfl rfl (any_of HT_.out (by kernel_rfl)) (fun _ _ _ h=>h) (Or.inl ⟨by rfl,?_⟩) ?_ ?_;rotate_left;intro w';go_simp;(with_reducible rfl);rotate_left;simp only [Act.put,sb_,sz_,ss_,i64_w,i32_w];rfl;refine pure_ (i:=2) (N:=some 155) (v:=?_) (a':=?_) #[true,false,true,false,false,false,false,false,false,false,false] rfl rfl (any_of HT_.out (by kernel_rfl)) (fun _ _ _ h=>h) (Or.inl ⟨by rfl,?_⟩) ?_ ?_;rotate_left;intro w';go_simp;(with_reducible rfl);rotate_left;simp only [Act.put,sb_,sz_,ss_,i64_w,i32_w];rfl;refine pure_ (i:=3) (N:=some 156) (v:=?_) (a':=?_) #[true,false,true,true,false,false,false,false,false,false,false] rfl rfl (any_of HT_.out (by kernel_rfl)) (fun _ _ _ h=>h) (Or.inl ⟨by rfl,?_⟩) ?_ ?_;rotate_left;intro w';go_simp;(with_reducible rfl);rotate_left;simp only [Act.put,sb_,sz_,ss_,i64_w,i32_w];rfl;refine pure_ (i:=4) (N:=some 157) (v:=?_) (a':=?_) #[true,false,true,true,true,false,false,false,false,false,false] rfl rfl (any_of HT_.out (by kernel_rfl)) (fun _ _ _ h=>h) (Or.inl ⟨by rfl,?_⟩) ?_ ?_;rotate_left;intro w';go_simp;(with_reducible rfl);rotate_left;simp only [Act.put,sb_,sz_,ss_,i64_w,i32_w];rfl;refine take_ (i:=1) (N:=some 154) (v:=?_) (a':=?_) #[true,true,true,true,true,false,false,false,false,false,false] rfl rfl (take_ofW HT_.out HW_.out (by kernel_rfl)) (fun _ _ _ h=>h) (Or.inl ⟨by rfl,?_⟩) hHeld ?_ ?_;rotate_left;rintro w' ⟨s0,s1,s2,s3,s4,s5,s6⟩;go_simp;(with_reducible rfl);rotate_left;simp only [Act.put,sb_,sz_,ss_,i64_w,i32_w];rfl;refine take_ (i:=5) (N:=some 158) (v:=?_) (a':=?_) #[true,true,true,true,true,true,false,false,false,false,false] rfl rfl (take_ofW HT_.out HW_.out (by kernel_rfl)) (fun _ _ _ h=>h) (Or.inl ⟨by rfl,?_⟩) hHeld ?_ ?_;rotate_left;rintro w' ⟨s0,s1,s2,s3,s4,s5,s6⟩;go_simp;(with_reducible rfl);rotate_left;simp only [Act.put,sb_,sz_,ss_,i64_w,i32_w];rfl;refine pure_ (i:=6) (N:=some 159) (v:=?_) (a':=?_) #[true,true,true,true,true,true,true,false,false,false,false] rfl rfl (any_of HT_.out (by kernel_rfl)) (fun _ _ _ h=>h) (Or.inl ⟨by rfl,?_⟩) ?_ ?_;rotate_left;intro w';go_simp;(with_reducible rfl);rotate_left;simp only [Act.put,sb_,sz_,ss_,i64_w,i32_w];rfl;refine pure_ (i:=7) (N:=some 160) (v:=?_) (a':=?_) #[true,true,true,true,true,true,true,true,false,false,false] rfl rfl (any_of HT_.out (by kernel_rfl)) (fun _ _ _ h=>h) (Or.inl ⟨by rfl,?_⟩) ?_ ?_;rotate_left;intro w';go_simp;(with_reducible rfl);rotate_left;simp only [Act.put,sb_,sz_,ss_,i64_w,i32_w];rfl;refine pure_ (i:=8) (N:=some 161) (v:=?_) (a':=?_) #[true,true,true,true,true,true,true,true,true,false,false] rfl rfl (any_of HT_.out (by kernel_rfl)) (fun _ _ _ h=>h) (Or.inl ⟨by rfl,?_⟩) ?_ ?_;rotate_left;intro w';go_simp;(with_reducible rfl);rotate_left;simp only [Act.put,sb_,sz_,ss_,i64_w,i32_w];rfl;refine take_ (i:=9) (N:=some 162) (v:=?_) (a':=?_) #[true,true,true,true,true,true,true,true,true,true,false] rfl rfl (take_ofW HT_.out HW_.out (by kernel_rfl)) (fun _ _ _ h=>h) (Or.inl ⟨by rfl,?_⟩) hHeld ?_ ?_;rotate_left;rintro w' ⟨s0,s1,s2,s3,s4,s5,s6⟩;go_simp;(with_reducible rfl);rotate_left;simp only [Act.put,sb_,sz_,ss_,i64_w,i32_w];rfl;refine pure_ (i:=10) (N:=some 14) (v:=?_) (a':=?_) #[true,true,true,true,true,true,true,true,true,true,true] rfl rfl (any_of HT_.out (by kernel_rfl)) (fun _ _ _ h=>h) (Or.inl ⟨by rfl,?_⟩) ?_ ?_;rotate_left;intro w';go_simp;(with_reducible rfl);rotate_left;simp only [Act.put,sb_,sz_,ss_,i64_w,i32_w];rfl;refine done_ (done_of HT_.out (by kernel_rfl)) ?_
        try go_wp2
        go_roundg k3
        case measure=>have:=HK1.out;have:=HK2.out;have:=HK3.out;omega
        case rel=>exact ⟨(y299),((rd_T67 l0_1 (ji150)).f0),(by rfl),H',⟨by have:=HK1.out;have:=HK2.out;have:=HK3.out;omega⟩,⟨by exact HO_5.out⟩,⟨by exact HO_7.out⟩,⟨by exact BK256.out⟩,⟨by exact HB.out⟩⟩
       rw [if_neg c149] at H;have c149b0 : decide (0 < (rd x7_2 x14_3)) = false:=decide_eq_false c149;clear c149
       obtain ⟨ji161,hji161⟩ : ∃ j_ : Int,(wrap64 ((wrap64 (-(rd x7_2 x14_3))) - 1)) = j_:=⟨_,rfl⟩
       replace H : (if 0 ≤ (ji161) then (if (ji161) < (x5_3.length : Int) then (if (ji161) < (l0_1.length : Int) then (spec_l06Pushed.l3 k3 a1 (x5_3.set ((ji161) : Int).toNat (wrap64 ((rd x5_3 (ji161)) - 1))) x6_1 x7_2 ((rd_T67 l0_1 (ji161)).f1) a0_0 l0_1) else (none)) else (none)) else (none)) = some r:=by (rw [hji161] at H;exact H)
       have hji161w : (IntKind.i64.wrap ((wrap64 (-(rd x7_2 x14_3))) - 1)) = ji161:=(i64_w _).trans hji161
       by_cases c162 : 0 ≤ (ji161)
       rotate_left
       ·rw [if_neg c162] at H;exact absurd H (by simp)
       rw [if_pos c162] at H;have c162b0 : decide (0 ≤ (ji161)) = true:=decide_eq_true c162;clear c162
       by_cases c163 : (ji161) < (x5_3.length : Int)
       rotate_left
       ·rw [if_neg c163] at H;exact absurd H (by simp)
       rw [if_pos c163] at H;have c163b0 : decide ((ji161) < (x5_3.length : Int)) = true:=decide_eq_true c163;clear c163
       obtain ⟨y305,hy305⟩ : ∃ y_ : List Int,y_ = (x5_3.set ((ji161) : Int).toNat (wrap64 ((rd x5_3 (ji161)) - 1))):=⟨_,rfl⟩
       replace H : (if (ji161) < (l0_1.length : Int) then (spec_l06Pushed.l3 k3 a1 y305 x6_1 x7_2 ((rd_T67 l0_1 (ji161)).f1) a0_0 l0_1) else (none)) = some r:=by (rw [hy305];with_reducible exact H)
       have Ny305:=Aside0.mk hy305;clear hy305
       by_cases c165 : (ji161) < (l0_1.length : Int)
       rotate_left
       ·rw [if_neg c165] at H;exact absurd H (by simp)
       rw [if_pos c165] at H;have c165b0 : decide ((ji161) < (l0_1.length : Int)) = true:=decide_eq_true c165;clear c165;have H':=Aside0.mk H;clear H;obtain ⟨Ao166,co166,eo166⟩:=Kd.R_slice HO_7.out;subst eo166;have p295 : 0 ≤ (x14_3 : Int):=od_ (by (with_reducible assumption));have q295 : x14_3 < (x7_2.length : Int):=od_ (by (with_reducible assumption));obtain ⟨ad295,e295,hx295_0⟩:=Kd.at_int (Kd.R_reads' HO_7.out).2.2 x14_3 p295 q295
       cases e295
       replace p295:=eq_true p295;replace q295:=eq_true q295
       try go_wp2
       have n0_:=Aside0.mk (Kd.R_drew HO_5.out);have n1_:=Aside0.mk (Kd.R_drew HO_7.out);have n2_:=Aside0.mk (blk_drew BK256.out);have n3_:=Aside0.mk (below_drew1 HB.out);clear HO_5 HO_7 BK256 HB;have HO_5:=n0_;have HO_7:=n1_;have BK256:=n2_;have HB:=n3_;clear n0_ n1_ n2_ n3_;have p302 : 0 ≤ (x14_3 : Int):=od_ (by (with_reducible assumption));have q302 : x14_3 < (x7_2.length : Int):=od_ (by (with_reducible assumption));obtain ⟨ad302,e302,hx302_0⟩:=Kd.at_int (Kd.R_reads' HO_7.out).2.2 x14_3 p302 q302;obtain rfl : ad295 = ad302:=(by injection e302);replace p302:=eq_true p302;replace q302:=eq_true q302;have p303 : 0 ≤ (x14_3 : Int):=od_ (by (with_reducible assumption));have q303 : x14_3 < (x7_2.length : Int):=od_ (by (with_reducible assumption));obtain ⟨ad303,e303,hx303_0⟩:=Kd.at_int (Kd.R_reads' HO_7.out).2.2 x14_3 p303 q303;obtain rfl : ad295 = ad303:=(by injection e303);replace p303:=eq_true p303;replace q303:=eq_true q303;obtain ⟨Ao168,co168,eo168⟩:=Kd.R_slice HO_5.out
       (subst eo168)
       have p304 : 0 ≤ ((ji161) : Int):=od_ (by (with_reducible assumption));have q304 : (ji161) < (x5_3.length : Int):=od_ (by (with_reducible assumption));obtain ⟨ad304,e304,hx304_0⟩:=Kd.at_int (Kd.R_reads' HO_5.out).2.2 (ji161) p304 q304
       cases e304
       replace p304:=eq_true p304;replace q304:=eq_true q304;have p164 : 0 ≤ ((ji161) : Int):=od_ (by (with_reducible assumption));have q164 : ((ji161) : Int) < ((x5_3.length : Int) : Int):=od_ (by (with_reducible assumption));obtain ⟨go164,co164,eo164,gb164,gl164,cl164,HG164⟩:=Kd.R_form HO_5.out (by omega)
       (cases eo164)
       have GB164:=Aside0.mk gb164;have GG164:=Aside0.mk HG164;clear gb164 gl164 HG164
       (simp only [add_plain] at hx304_0)
       obtain ⟨hx164_0,hf164_0⟩:=Kd.R_celln 0 HO_5.out ((ji161) : Int) p164 q164;replace p164:=eq_true p164;replace q164:=eq_true q164;have HP169:=Kd.R_putn HO_5.out ((ji161) : Int) (wrap64 ((rd x5_3 (ji161)) - 1));rw [← Ny305.out] at HP169;have HQ169:=Aside0.mk HP169;clear HP169;refine start_ (n:=19) (S:=fun w'=>w'.cell? (ad295.add (x14_3).toNat) = some (.int .i64 (rd x7_2 x14_3)) ∧ w'.cell? (ad295.add (x14_3).toNat) = some (.int .i64 (rd x7_2 x14_3)) ∧ w'.cell? ⟨go164,((ji161)).toNat,none⟩ = some (.int .i64 (rd x5_3 (ji161)))) (ds:=[18]) #[false,false,false,false,false,false,false,false,false,false,false,false,false,false,false,false,false,false,false] (by kernel_rfl) rfl rfl ⟨hx302_0,hx303_0,hx304_0⟩ (fun hHeld=>?_);refine with_tabW spec_l06Pushed.tab32 spec_l06Pushed.bits32 (fun HT_ HW_=>?_);generalize wr.drew = w167 at HO_5 HO_7 BK256 HB GG164 HQ169 hf164_0 hx164_0 hx302_0 hx303_0 hx304_0 hHeld ⊢;refine pure_ (i:=0) (N:=some 163) (v:=?_) (a':=?_) #[true,false,false,false,false,false,false,false,false,false,false,false,false,false,false,false,false,false,false] rfl rfl (any_of HT_.out (by kernel_rfl)) (fun _ _ _ h=>h) (Or.inl ⟨by rfl,?_⟩) ?_ ?_;rotate_left;intro w';go_simp;(with_reducible rfl);rotate_left;simp only [Act.put,sb_,sz_,ss_,i64_w,i32_w];rfl;refine pure_ (i:=1) (N:=some 164) (v:=?_) (a':=?_) #[true,true,false,false,false,false,false,false,false,false,false,false,false,false,false,false,false,false,false] rfl rfl (any_of HT_.out (by kernel_rfl)) (fun _ _ _ h=>h) (Or.inl ⟨by rfl,?_⟩) ?_ ?_;rotate_left;intro w';go_simp;(with_reducible rfl);rotate_left;simp only [Act.put,sb_,sz_,ss_,i64_w,i32_w];rfl;refine pure_ (i:=2) (N:=some 165) (v:=?_) (a':=?_) #[true,true,true,false,false,false,false,false,false,false,false,false,false,false,false,false,false,false,false] rfl rfl (any_of HT_.out (by kernel_rfl)) (fun _ _ _ h=>h) (Or.inl ⟨by rfl,?_⟩) ?_ ?_;rotate_left;intro w';go_simp;(with_reducible rfl);rotate_left;simp only [Act.put,sb_,sz_,ss_,i64_w,i32_w];rfl;refine pure_ (i:=3) (N:=some 166) (v:=?_) (a':=?_) #[true,true,true,true,false,false,false,false,false,false,false,false,false,false,false,false,false,false,false] rfl rfl (any_of HT_.out (by kernel_rfl)) (fun _ _ _ h=>h) (Or.inl ⟨by rfl,?_⟩) ?_ ?_;rotate_left;intro w';go_simp;(with_reducible rfl);rotate_left;simp only [Act.put,sb_,sz_,ss_,i64_w,i32_w];rfl;refine pure_ (i:=7) (N:=some 170) (v:=?_) (a':=?_) #[true,true,true,true,false,false,false,true,false,false,false,false,false,false,false,false,false,false,false] rfl rfl (any_of HT_.out (by kernel_rfl)) (fun _ _ _ h=>h) (Or.inl ⟨by rfl,?_⟩) ?_ ?_;rotate_left;intro w';go_simp;(with_reducible rfl);rotate_left;simp only [Act.put,sb_,sz_,ss_,i64_w,i32_w];rfl;refine pure_ (i:=8) (N:=some 171) (v:=?_) (a':=?_) #[true,true,true,true,false,false,false,true,true,false,false,false,false,false,false,false,false,false,false] rfl rfl (any_of HT_.out (by kernel_rfl)) (fun _ _ _ h=>h) (Or.inl ⟨by rfl,?_⟩) ?_ ?_;rotate_left;intro w';go_simp;(with_reducible rfl);rotate_left;simp only [Act.put,sb_,sz_,ss_,i64_w,i32_w];rfl;refine pure_ (i:=9) (N:=some 172) (v:=?_) (a':=?_) #[true,true,true,true,false,false,false,true,true,true,false,false,false,false,false,false,false,false,false] rfl rfl (any_of HT_.out (by kernel_rfl)) (fun _ _ _ h=>h) (Or.inl ⟨by rfl,?_⟩) ?_ ?_;rotate_left;intro w';go_simp;(with_reducible rfl);rotate_left;simp only [Act.put,sb_,sz_,ss_,i64_w,i32_w];rfl;refine pure_ (i:=10) (N:=some 173) (v:=?_) (a':=?_) #[true,true,true,true,false,false,false,true,true,true,true,false,false,false,false,false,false,false,false] rfl rfl (any_of HT_.out (by kernel_rfl)) (fun _ _ _ h=>h) (Or.inl ⟨by rfl,?_⟩) ?_ ?_;rotate_left;intro w';go_simp;(with_reducible rfl);rotate_left;simp only [Act.put,sb_,sz_,ss_,i64_w,i32_w];rfl;refine take_ (i:=4) (N:=some 167) (v:=?_) (a':=?_) #[true,true,true,true,true,false,false,true,true,true,true,false,false,false,false,false,false,false,false] rfl rfl (take_ofW HT_.out HW_.out (by kernel_rfl)) (fun _ _ _ h=>h) (Or.inl ⟨by rfl,?_⟩) hHeld ?_ ?_;rotate_left;rintro w' ⟨s0,s1,s2⟩;go_simp;(with_reducible rfl);rotate_left;simp only [Act.put,sb_,sz_,ss_,i64_w,i32_w];rfl;refine pure_ (i:=5) (N:=some 168) (v:=?_) (a':=?_) #[true,true,true,true,true,true,false,true,true,true,true,false,false,false,false,false,false,false,false] rfl rfl (any_of HT_.out (by kernel_rfl)) (fun _ _ _ h=>h) (Or.inl ⟨by rfl,?_⟩) ?_ ?_;rotate_left;intro w';go_simp;(with_reducible rfl);rotate_left;simp only [Act.put,sb_,sz_,ss_,i64_w,i32_w];rfl;refine pure_ (i:=6) (N:=some 169) (v:=?_) (a':=?_) #[true,true,true,true,true,true,true,true,true,true,true,false,false,false,false,false,false,false,false] rfl rfl (any_of HT_.out (by kernel_rfl)) (fun _ _ _ h=>h) (Or.inl ⟨by rfl,?_⟩) ?_ ?_;rotate_left;intro w';go_simp;(with_reducible rfl);rotate_left;simp only [Act.put,sb_,sz_,ss_,i64_w,i32_w];rfl;refine take_ (i:=11) (N:=some 174) (v:=?_) (a':=?_) #[true,true,true,true,true,true,true,true,true,true,true,true,false,false,false,false,false,false,false] rfl rfl (take_ofW HT_.out HW_.out (by kernel_rfl)) (fun _ _ _ h=>h) (Or.inl ⟨by rfl,?_⟩) hHeld ?_ ?_;rotate_left;rintro w' ⟨s0,s1,s2⟩;go_simp;(with_reducible rfl);rotate_left;simp only [Act.put,sb_,sz_,ss_,i64_w,i32_w];rfl;refine pure_ (i:=12) (N:=some 175) (v:=?_) (a':=?_) #[true,true,true,true,true,true,true,true,true,true,true,true,true,false,false,false,false,false,false] rfl rfl (any_of HT_.out (by kernel_rfl)) (fun _ _ _ h=>h) (Or.inl ⟨by rfl,?_⟩) ?_ ?_;rotate_left;intro w';go_simp;(with_reducible rfl);rotate_left;simp only [Act.put,sb_,sz_,ss_,i64_w,i32_w];rfl;refine pure_ (i:=13) (N:=some 176) (v:=?_) (a':=?_) #[true,true,true,true,true,true,true,true,true,true,true,true,true,true,false,false,false,false,false] rfl rfl (any_of HT_.out (by kernel_rfl)) (fun _ _ _ h=>h) (Or.inl ⟨by rfl,?_⟩) ?_ ?_;rotate_left;intro w';go_simp;(with_reducible rfl);rotate_left;simp only [Act.put,sb_,sz_,ss_,i64_w,i32_w];rfl;refine pure_ (i:=14) (N:=some 177) (v:=?_) (a':=?_) #[true,true,true,true,true,true,true,true,true,true,true,true,true,true,true,false,false,false,false] rfl rfl (any_of HT_.out (by kernel_rfl)) (fun _ _ _ h=>h) (Or.inl ⟨by rfl,?_⟩) ?_ ?_;rotate_left;intro w';go_simp;(with_reducible rfl);rotate_left;simp only [Act.put,sb_,sz_,ss_,i64_w,i32_w];rfl;refine take_ (i:=15) (N:=some 178) (v:=?_) (a':=?_) #[true,true,true,true,true,true,true,true,true,true,true,true,true,true,true,true,false,false,false] rfl rfl (take_ofW HT_.out HW_.out (by kernel_rfl)) (fun _ _ _ h=>h) (Or.inl ⟨by rfl,?_⟩) hHeld ?_ ?_;rotate_left;rintro w' ⟨s0,s1,s2⟩;go_simp;(with_reducible rfl);rotate_left;simp only [Act.put,sb_,sz_,ss_,i64_w,i32_w];rfl;refine pure_ (i:=16) (N:=some 179) (v:=?_) (a':=?_) #[true,true,true,true,true,true,true,true,true,true,true,true,true,true,true,true,true,false,false] rfl rfl (any_of HT_.out (by kernel_rfl)) (fun _ _ _ h=>h) (Or.inl ⟨by rfl,?_⟩) ?_ ?_;rotate_left;intro w';go_simp;(with_reducible rfl);rotate_left;simp only [Act.put,sb_,sz_,ss_,i64_w,i32_w];rfl;refine pure_ (i:=17) (N:=some 180) (v:=?_) (a':=?_) #[true,true,true,true,true,true,true,true,true,true,true,true,true,true,true,true,true,true,false] rfl rfl (any_of HT_.out (by kernel_rfl)) (fun _ _ _ h=>h) (Or.inl ⟨by rfl,?_⟩) ?_ ?_;rotate_left;intro w';go_simp;(with_reducible rfl);rotate_left;simp only [Act.put,sb_,sz_,ss_,i64_w,i32_w];rfl;refine last_ (i:=18) (N:=none) #[true,true,true,true,true,true,true,true,true,true,true,true,true,true,true,true,true,true,true] rfl rfl (one_of HT_.out (by kernel_rfl)) (by decide) (fun K hK=>?_);refine skip_ (w1:=?_) (by rfl) rfl ?_ ?_;rotate_left
       ·go_simp;rfl
       refine hK.out _ _ ?_;clear hK K;refine done_ (done_of HT_.out (by kernel_rfl)) ?_
       try go_wp2
       have n0_ : Aside0 (Kd.R (Kd.int .i64) 3 (w167.setCell ⟨go164,((ji161) : Int).toNat,none⟩ (.int .i64 (wrap64 ((rd x5_3 (ji161)) - 1)))) w.heap.size (fun k_=>some k_ ≠ (.slice (some ad295) x7_2.length co166 : Value).ownBlock) (.slice (some ⟨go164,0,none⟩) x5_3.length co168) y305):=⟨by exact HQ169.out⟩
       have n1_ : Aside0 (Kd.R (Kd.int .i64) 3 (w167.setCell ⟨go164,((ji161) : Int).toNat,none⟩ (.int .i64 (wrap64 ((rd x5_3 (ji161)) - 1)))) w.heap.size (fun k_=>some k_ ≠ (.slice (some ⟨go164,0,none⟩) x5_3.length co168 : Value).ownBlock) (.slice (some ad295) x7_2.length co166) x7_2):=⟨by exact Kd.R_mono (Kd.R_far (p:=⟨go164,((ji161) : Int).toNat,none⟩) (Kd.R_mono HO_7.out (fun k_ hk=>(⟨hk,fun e_=>hk (by rw [e_];rfl)⟩ : _ ∧ k_ ≠ go164))) (fun _ hk=>hk.2) (.int .i64 (wrap64 ((rd x5_3 (ji161)) - 1)))) (fun _ hk=>hk.1)⟩
       have n2_ : Aside0 ((w167.setCell ⟨go164,((ji161) : Int).toNat,none⟩ (.int .i64 (wrap64 ((rd x5_3 (ji161)) - 1)))).heap[gb256]? = some (.cells #[.int .i64 a0_0,.slice A0_1 l0_1.length c0_1] 30 (0,0))):=⟨by refine blk_far ?_ (by have h_:=Kd.R_ne HO_5.out BK256.out (by decide);intro e_;exact h_ (by rw [e_];rfl)) _;exact BK256.out⟩
       have n3_ : Aside0 (Below w.heap.size w (w167.setCell ⟨go164,((ji161) : Int).toNat,none⟩ (.int .i64 (wrap64 ((rd x5_3 (ji161)) - 1))))):=⟨by repeat ((with_reducible first|exact HB.out|refine below_set ?_ GB164.out))⟩
       (try clear HO_5)
       (try clear HO_7)
       (try clear BK256)
       (try clear HB)
       generalize (w167.setCell ⟨go164,((ji161) : Int).toNat,none⟩ (.int .i64 (wrap64 ((rd x5_3 (ji161)) - 1)))) = w170 at n0_ n1_ n2_ n3_ ⊢;have HO_5:=n0_;have HO_7:=n1_;have BK256:=n2_;have HB:=n3_;clear n0_ n1_ n2_ n3_;have n0_:=Aside0.mk (Kd.R_drew HO_5.out);have n1_:=Aside0.mk (Kd.R_drew HO_7.out);have n2_:=Aside0.mk (blk_drew BK256.out);have n3_:=Aside0.mk (below_drew1 HB.out);clear HO_5 HO_7 BK256 HB;have HO_5:=n0_;have HO_7:=n1_;have BK256:=n2_;have HB:=n3_;clear n0_ n1_ n2_ n3_;have p306 : 0 ≤ (x14_3 : Int):=od_ (by (with_reducible assumption));have q306 : x14_3 < (x7_2.length : Int):=od_ (by (with_reducible assumption));obtain ⟨ad306,e306,hx306_0⟩:=Kd.at_int (Kd.R_reads' HO_7.out).2.2 x14_3 p306 q306;obtain rfl : ad295 = ad306:=(by injection e306);replace p306:=eq_true p306;replace q306:=eq_true q306;have p307 : 0 ≤ ((ji161) : Int):=od_ (by (with_reducible assumption));have q307 : (ji161) < (l0_1.length : Int):=od_ (by (with_reducible assumption));obtain ⟨ad307,e307,hx307_0,hx307_1,hx307_2,hx307_3⟩:=at_T67 HR0_1.out (ji161) p307 q307;have hw307_3:=hx307_3;have hw307_2:=hx307_2;have hw307_1:=hx307_1;have hw307_0:=hx307_0
       cases e307
       replace hx307_0:=(HB.out.cell (World.block_lt_of_cell? w _ hx307_0)).trans hx307_0;replace hx307_1:=(HB.out.cell (World.block_lt_of_cell? w _ hx307_1)).trans hx307_1;replace hx307_2:=(HB.out.cell (World.block_lt_of_cell? w _ hx307_2)).trans hx307_2;replace hx307_3:=(HB.out.cell (World.block_lt_of_cell? w _ hx307_3)).trans hx307_3;replace p307:=eq_true p307;replace q307:=eq_true q307;refine start_ (n:=12) (S:=fun w'=>w'.cell? ⟨gb256,0,none⟩ = some (.int .i64 a0_0) ∧ w'.cell? ⟨gb256,1,none⟩ = some (.slice (some ad307) l0_1.length c0_1) ∧ w'.cell? (ad295.add (x14_3).toNat) = some (.int .i64 (rd x7_2 x14_3)) ∧ w'.cell? (ad307.add (((ji161)).toNat * 4)) = some (.int .i64 ((rd_T67 l0_1 (ji161)).f0)) ∧ w'.cell? ⟨(ad307.add (((ji161)).toNat * 4)).block,(ad307.add (((ji161)).toNat * 4)).off + 1,none⟩ = some (.int .i64 ((rd_T67 l0_1 (ji161)).f1)) ∧ w'.cell? ⟨(ad307.add (((ji161)).toNat * 4)).block,(ad307.add (((ji161)).toNat * 4)).off + 2,none⟩ = some (.int .i64 ((rd_T67 l0_1 (ji161)).f2)) ∧ w'.cell? ⟨(ad307.add (((ji161)).toNat * 4)).block,(ad307.add (((ji161)).toNat * 4)).off + 3,none⟩ = some (.int .i64 ((rd_T67 l0_1 (ji161)).f3))) (ds:=[]) #[false,false,false,false,false,false,false,false,false,false,false,false] (by kernel_rfl) rfl rfl ⟨bc_ BK256.out 0,bc_ BK256.out 1,hx306_0,((HB.out.cell (World.block_lt_of_cell? w _ hw307_0)).trans hw307_0),((HB.out.cell (World.block_lt_of_cell? w _ hw307_1)).trans hw307_1),((HB.out.cell (World.block_lt_of_cell? w _ hw307_2)).trans hw307_2),((HB.out.cell (World.block_lt_of_cell? w _ hw307_3)).trans hw307_3)⟩ (fun hHeld=>?_);refine with_tabW spec_l06Pushed.tab33 spec_l06Pushed.bits33 (fun HT_ HW_=>?_);generalize w170.drew = w171 at HO_5 HO_7 BK256 HB HQ169 hx306_0 hx307_0 hx307_1 hx307_2 hx307_3 hHeld ⊢;refine pure_ (i:=0) (N:=some 181) (v:=?_) (a':=?_) #[true,false,false,false,false,false,false,false,false,false,false,false] rfl rfl (any_of HT_.out (by kernel_rfl)) (fun _ _ _ h=>h) (Or.inl ⟨by rfl,?_⟩) ?_ ?_;rotate_left;intro w';go_simp;(with_reducible rfl);rotate_left;simp only [Act.put,sb_,sz_,ss_,i64_w,i32_w];rfl;refine pure_ (i:=2) (N:=some 183) (v:=?_) (a':=?_) #[true,false,true,false,false,false,false,false,false,false,false,false] rfl rfl (any_of HT_.out (by kernel_rfl)) (fun _ _ _ h=>h) (Or.inl ⟨by rfl,?_⟩) ?_ ?_;rotate_left;intro w';go_simp;(with_reducible rfl);rotate_left;simp only [Act.put,sb_,sz_,ss_,i64_w,i32_w];rfl;refine pure_ (i:=3) (N:=some 184) (v:=?_) (a':=?_) #[true,false,true,true,false,false,false,false,false,false,false,false] rfl rfl (any_of HT_.out (by kernel_rfl)) (fun _ _ _ h=>h) (Or.inl ⟨by rfl,?_⟩) ?_ ?_;rotate_left;intro w';go_simp;(with_reducible rfl);rotate_left;simp only [Act.put,sb_,sz_,ss_,i64_w,i32_w];rfl;refine pure_ (i:=4) (N:=some 185) (v:=?_) (a':=?_) #[true,false,true,true,true,false,false,false,false,false,false,false] rfl rfl (any_of HT_.out (by kernel_rfl)) (fun _ _ _ h=>h) (Or.inl ⟨by rfl,?_⟩) ?_ ?_;rotate_left;intro w';go_simp;(with_reducible rfl);rotate_left;simp only [Act.put,sb_,sz_,ss_,i64_w,i32_w];rfl;refine take_ (i:=1) (N:=some 182) (v:=?_) (a':=?_) #[true,true,true,true,true,false,false,false,false,false,false,false] rfl rfl (take_ofW HT_.out HW_.out (by kernel_rfl)) (fun _ _ _ h=>h) (Or.inl ⟨by rfl,?_⟩) hHeld ?_ ?_;rotate_left;rintro w' ⟨s0,s1,s2,s3,s4,s5,s6⟩;go_simp;(with_reducible rfl);rotate_left;simp only [Act.put,sb_,sz_,ss_,i64_w,i32_w];rfl;refine take_ (i:=5) (N:=some 186) (v:=?_) (a':=?_) #[true,true,true,true,true,true,false,false,false,false,false,false] rfl rfl (take_ofW HT_.out HW_.out (by kernel_rfl)) (fun _ _ _ h=>h) (Or.inl ⟨by rfl,?_⟩) hHeld ?_ ?_;rotate_left;rintro w' ⟨s0,s1,s2,s3,s4,s5,s6⟩;go_simp;(with_reducible rfl);rotate_left;simp only [Act.put,sb_,sz_,ss_,i64_w,i32_w];rfl;refine pure_ (i:=6) (N:=some 187) (v:=?_) (a':=?_) #[true,true,true,true,true,true,true,false,false,false,false,false] rfl rfl (any_of HT_.out (by kernel_rfl)) (fun _ _ _ h=>h) (Or.inl ⟨by rfl,?_⟩) ?_ ?_;rotate_left;intro w';go_simp;(with_reducible rfl);rotate_left;simp only [Act.put,sb_,sz_,ss_,i64_w,i32_w];rfl;refine pure_ (i:=7) (N:=some 188) (v:=?_) (a':=?_) #[true,true,true,true,true,true,true,true,false,false,false,false] rfl rfl (any_of HT_.out (by kernel_rfl)) (fun _ _ _ h=>h) (Or.inl ⟨by rfl,?_⟩) ?_ ?_;rotate_left;intro w';go_simp;(with_reducible rfl);rotate_left;simp only [Act.put,sb_,sz_,ss_,i64_w,i32_w];rfl;refine pure_ (i:=8) (N:=some 189) (v:=?_) (a':=?_) #[true,true,true,true,true,true,true,true,true,false,false,false] rfl rfl (any_of HT_.out (by kernel_rfl)) (fun _ _ _ h=>h) (Or.inl ⟨by rfl,?_⟩) ?_ ?_;rotate_left;intro w';go_simp;(with_reducible rfl);rotate_left;simp only [Act.put,sb_,sz_,ss_,i64_w,i32_w];rfl;refine pure_ (i:=9) (N:=some 190) (v:=?_) (a':=?_) #[true,true,true,true,true,true,true,true,true,true,false,false] rfl rfl (any_of HT_.out (by kernel_rfl)) (fun _ _ _ h=>h) (Or.inl ⟨by rfl,?_⟩) ?_ ?_;rotate_left;intro w';go_simp;(with_reducible rfl);rotate_left;simp only [Act.put,sb_,sz_,ss_,i64_w,i32_w];rfl;refine take_ (i:=10) (N:=some 191) (v:=?_) (a':=?_) #[true,true,true,true,true,true,true,true,true,true,true,false] rfl rfl (take_ofW HT_.out HW_.out (by kernel_rfl)) (fun _ _ _ h=>h) (Or.inl ⟨by rfl,?_⟩) hHeld ?_ ?_;rotate_left;rintro w' ⟨s0,s1,s2,s3,s4,s5,s6⟩;go_simp;(with_reducible rfl);rotate_left;simp only [Act.put,sb_,sz_,ss_,i64_w,i32_w];rfl;refine pure_ (i:=11) (N:=some 14) (v:=?_) (a':=?_) #[true,true,true,true,true,true,true,true,true,true,true,true] rfl rfl (any_of HT_.out (by kernel_rfl)) (fun _ _ _ h=>h) (Or.inl ⟨by rfl,?_⟩) ?_ ?_;rotate_left;intro w';go_simp;(with_reducible rfl);rotate_left;simp only [Act.put,sb_,sz_,ss_,i64_w,i32_w];rfl;refine done_ (done_of HT_.out (by kernel_rfl)) ?_
       try go_wp2
       go_roundg k3
       case measure=>have:=HK1.out;have:=HK2.out;have:=HK3.out;omega
       case rel=>exact ⟨(y305),((rd_T67 l0_1 (ji161)).f1),(by rfl),H',⟨by have:=HK1.out;have:=HK2.out;have:=HK3.out;omega⟩,⟨by exact HO_5.out⟩,⟨by exact HO_7.out⟩,⟨by exact BK256.out⟩,⟨by exact HB.out⟩⟩

end Go.Proofs.Ytgkpgigoonhgdaa.PFnMostCut
