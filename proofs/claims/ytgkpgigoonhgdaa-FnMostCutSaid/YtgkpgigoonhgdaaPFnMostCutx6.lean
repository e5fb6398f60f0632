-- Made by the session's wip/pp.py, a changed call of the kit's printer; Lean checks it.
import Derived.Test.YtgkpgigoonhgdaaPFnMostCutx0
import Derived.Test.YtgkpgigoonhgdaaPFnMostCutx1
import Derived.Test.YtgkpgigoonhgdaaPFnMostCutx2
import Derived.Test.YtgkpgigoonhgdaaPFnMostCutx3
import Derived.Test.YtgkpgigoonhgdaaPFnMostCutx4
import Derived.Test.YtgkpgigoonhgdaaPFnMostCutx5
namespace Go.Proofs.Ytgkpgigoonhgdaa.PFnMostCut
open Go.RowKit Go.Proofs.YtgkpgigoonhgdaaW.PrintWords Go.Proofs.YtgkpgigoonhgdaaW.PrintLast Go.Proofs.YtgkpgigoonhgdaaW.PrintMore
attribute [local go_sem] max2_int min2_int max_two min_two max_three min_three max_four min_four   -- for this text's walks alone
set_option linter.unusedVariables false
set_option linter.unusedSimpArgs false

abbrev fl6_0_ : Array Bool:=#[false,false,false,false,false,false,false,false,false,false]
abbrev fl6_1_ : Array Bool:=#[true,false,false,false,false,false,false,false,false,false]
abbrev fl6_2_ : Array Bool:=#[true,true,false,false,false,false,false,false,false,false]
abbrev fl6_3_ : Array Bool:=#[true,true,true,false,false,false,false,false,false,false]
abbrev fl6_4_ : Array Bool:=#[true,true,true,true,false,false,false,false,false,false]
abbrev fl6_5_ : Array Bool:=#[true,true,true,true,true,false,false,false,false,false]
abbrev fl6_6_ : Array Bool:=#[true,true,true,true,true,true,false,false,false,false]
abbrev fl6_7_ : Array Bool:=#[true,true,true,true,true,true,true,false,false,false]
abbrev fl6_8_ : Array Bool:=#[true,true,true,true,true,true,true,true,false,false]
abbrev fl6_9_ : Array Bool:=#[true,true,true,true,true,true,true,true,true,false]
abbrev fl6_10_ : Array Bool:=#[true,true,true,true,true,true,true,true,true,true]
/-! ### impl_MostFlow: function 26 -/
mutual
def impl_MostFlow.l0 : Nat → List (List (S79)) → List Int → Int → List (S67) → Option (Int × List Bool)
 | 0, _, _, _, _ => none
 | k + 1, x4, x6, x342000, x342001 => (impl_reach.f k x342000 x342001 x4 x6).bind fun bt352 => (if 1 < (bt352.2.length : Int) then (if rdOf false bt352.2 1 = true then (impl_MostFlow.l1 k x4 x6 bt352.1 20 1 x342000 x342001) else ((impl_excess.f k x342000 x342001 x6).bind fun t359 => (if 0 < (t359.length : Int) then (some (wrap64 (-(rd t359 0)), bt352.2)) else (none)))) else (none))
def impl_MostFlow.l1 : Nat → List (List (S79)) → List Int → List (S79) → Int → Int → Int → List (S67) → Option (Int × List Bool)
 | 0, _, _, _, _, _, _, _ => none
 | k + 1, x4, x6, x7, x9, x10, x342000, x342001 => if x10 = 0 then (impl_MostFlow.l2 k x4 x6 x7 x9 1 x342000 x342001) else (if 0 ≤ x10 then (if x10 < (x7.length : Int) then ((impl_step_room.f ((rd_T79 x7 x10).f0) ((rd_T79 x7 x10).f1) x342000 x342001 x6).bind fun t364 => ((impl_step_ends.f ((rd_T79 x7 x10).f0) ((rd_T79 x7 x10).f1) x342000 x342001).bind fun bt366 => (impl_MostFlow.l1 k x4 x6 x7 (mn x9 t364) bt366.1 x342000 x342001))) else (none)) else (none))
def impl_MostFlow.l2 : Nat → List (List (S79)) → List Int → List (S79) → Int → Int → Int → List (S67) → Option (Int × List Bool)
 | 0, _, _, _, _, _, _, _ => none
 | k + 1, x4, x6, x7, x9, x11, x342000, x342001 => if x11 = 0 then (impl_MostFlow.l0 k x4 x6 x342000 x342001) else (if 0 ≤ x11 then (if x11 < (x7.length : Int) then ((impl_pushed.f x6 ((rd_T79 x7 x11).f0) ((rd_T79 x7 x11).f1) x9).bind fun t369 => ((impl_step_ends.f ((rd_T79 x7 x11).f0) ((rd_T79 x7 x11).f1) x342000 x342001).bind fun bt371 => (impl_MostFlow.l2 k x4 t369 x7 x9 bt371.1 x342000 x342001))) else (none)) else (none))
end
def impl_MostFlow.f (k : Nat) (a0_0 : Int) (l0_1 : List (S67)) : Option (Int × List Bool):=(impl_NetOk.f k a0_0 l0_1).bind fun t342=>(if t342 = true then ((impl_stepsOf.f k a0_0 l0_1).bind fun bt343=>(if 0 ≤ (l0_1.length : Int) then (if ((l0_1.length : Int) : Int).toNat ≤ 35184372088832 then (impl_MostFlow.l0 k bt343.1 (List.replicate ((l0_1.length : Int) : Int).toNat 0) a0_0 l0_1) else (none)) else (none))) else (some ((-1),([] : List Bool))))
theorem impl_MostFlow.mono_l : ∀ k,(∀ y0 y1 y2 y3,LeO (impl_MostFlow.l0 k y0 y1 y2 y3) (impl_MostFlow.l0 (k + 1) y0 y1 y2 y3)) ∧ (∀ y0 y1 y2 y3 y4 y5 y6,LeO (impl_MostFlow.l1 k y0 y1 y2 y3 y4 y5 y6) (impl_MostFlow.l1 (k + 1) y0 y1 y2 y3 y4 y5 y6)) ∧ (∀ y0 y1 y2 y3 y4 y5 y6,LeO (impl_MostFlow.l2 k y0 y1 y2 y3 y4 y5 y6) (impl_MostFlow.l2 (k + 1) y0 y1 y2 y3 y4 y5 y6))
 | 0 => ⟨fun _ _ _ _ r h => by simp [impl_MostFlow.l0] at h, fun _ _ _ _ _ _ _ r h => by simp [impl_MostFlow.l1] at h, fun _ _ _ _ _ _ _ r h => by simp [impl_MostFlow.l2] at h⟩
 | k + 1 => by
  obtain ⟨ih0,ih1,ih2⟩:=impl_MostFlow.mono_l k
  refine ⟨?_,?_,?_⟩
  ·intro y0 y1 y2 y3
   unfold impl_MostFlow.l0
   repeat' first
   | (with_reducible exact ih1 _ _ _ _ _ _ _)
   | (with_reducible exact impl_excess.mono _ _ _ _)
   | (with_reducible exact impl_reach.mono _ _ _ _ _)
   | (with_reducible exact LeO.refl _)
   | (with_reducible refine LeO.ite ?_ ?_)
   | (with_reducible refine LeO.bind ?_ (fun _ => ?_))
  ·intro y0 y1 y2 y3 y4 y5 y6
   unfold impl_MostFlow.l1
   repeat' first
   | (with_reducible exact ih1 _ _ _ _ _ _ _)
   | (with_reducible exact ih2 _ _ _ _ _ _ _)
   | (with_reducible exact LeO.refl _)
   | (with_reducible refine LeO.ite ?_ ?_)
   | (with_reducible refine LeO.bind ?_ (fun _ => ?_))
  ·intro y0 y1 y2 y3 y4 y5 y6
   unfold impl_MostFlow.l2
   repeat' first
   | (with_reducible exact ih0 _ _ _ _)
   | (with_reducible exact ih2 _ _ _ _ _ _ _)
   | (with_reducible exact LeO.refl _)
   | (with_reducible refine LeO.ite ?_ ?_)
   | (with_reducible refine LeO.bind ?_ (fun _ => ?_))
theorem impl_MostFlow.mono : ∀ a0 a1 k,LeO (impl_MostFlow.f k a0 a1) (impl_MostFlow.f (k + 1) a0 a1):=by
 intro a0 a1 k
 obtain ⟨ih0,ih1,ih2⟩:=impl_MostFlow.mono_l k
 unfold impl_MostFlow.f
 repeat' first
   | (with_reducible exact ih0 _ _ _ _)
   | (with_reducible exact impl_NetOk.mono _ _ _)
   | (with_reducible exact impl_stepsOf.mono _ _ _)
   | (with_reducible exact LeO.refl _)
   | (with_reducible refine LeO.ite ?_ ?_)
   | (with_reducible refine LeO.bind ?_ (fun _ => ?_))
def impl_MostFlow.T11 : Bool × List (List Nat × List Nat):=(true,[([],[]),([],[]),([0,1],[0,1]),([2],[2]),([],[]),([3,4],[3,4]),([5],[5]),([6],[6]),([6],[6]),([7,5,0,1,2,3,4,5,6,7],[1,7])])
def impl_MostFlow.B11 : List Nat:=[0,0,3,7,0,31,63,127,127,255]
theorem impl_MostFlow.tab11 : rtab .any (opsOf Try.f26 11) = impl_MostFlow.T11:=by kernel_rfl
theorem impl_MostFlow.bits11 : waitsOk impl_MostFlow.T11.2 impl_MostFlow.B11 = true:=by kernel_rfl
def impl_MostFlow.T12 : Bool × List (List Nat × List Nat):=(true,[([],[]),([],[]),([],[]),([1,2],[1,2]),([3],[3]),([],[]),([],[]),([4,5,6],[4,5,6]),([0,7],[0,7]),([8,7,0,1,2,3,4,5,6,7,8],[0,8])])
def impl_MostFlow.B12 : List Nat:=[0,0,0,6,14,0,0,126,255,511]
theorem impl_MostFlow.tab12 : rtab .any (opsOf Try.f26 12) = impl_MostFlow.T12:=by kernel_rfl
theorem impl_MostFlow.bits12 : waitsOk impl_MostFlow.T12.2 impl_MostFlow.B12 = true:=by kernel_rfl
def impl_MostFlow.T15 : Bool × List (List Nat × List Nat):=(true,[([],[]),([],[]),([0,1],[0,1]),([2],[2]),([],[]),([3,4],[3,4]),([5],[5]),([6],[6]),([6],[6]),([7,5,0,1,2,3,4,5,6,7],[1,7])])
def impl_MostFlow.B15 : List Nat:=[0,0,3,7,0,31,63,127,127,255]
theorem impl_MostFlow.tab15 : rtab .any (opsOf Try.f26 15) = impl_MostFlow.T15:=by kernel_rfl
theorem impl_MostFlow.bits15 : waitsOk impl_MostFlow.T15.2 impl_MostFlow.B15 = true:=by kernel_rfl
set_option maxHeartbeats 8000000 in
set_option maxRecDepth 100000 in
theorem impl_MostFlow.calls (k : Nat) (a0_0 : Int) (A0_1 : Option Addr) (c0_1 : Nat) (l0_1 : List (S67)) (r1 : Int) (r2 : List Bool) (w : World) (hr0_1 : Kd.C k67 w A0_1 l0_1.length l0_1) (hc0_1 : l0_1.length ≤ c0_1) (h : impl_MostFlow.f k a0_0 l0_1 = some (r1,r2)) :
  Calls Try.prog 26 #[.agg #[.int .i64 a0_0,.slice A0_1 l0_1.length c0_1]] w fun e w'=>∃ v1_ : Value,e = .returned (.tuple #[.int .i64 r1,v1_]) ∧ Kd.R Kd.bool 4 w' w.heap.size (fun _=>True) v1_ r2 ∧ Below w.heap.size w w':=by
 have hu30:=Try.underlying30
 have hu79:=Try.underlying79
 have HR0_1:=am_ hr0_1
 have HC0_1:=am_ hc0_1
 clear hr0_1 hc0_1
 have HB:=am_ (Below.refl w.heap.size w)
 have H : ((impl_NetOk.f k a0_0 l0_1).bind fun t342=>(if t342 = true then ((impl_stepsOf.f k a0_0 l0_1).bind fun bt343=>(if 0 ≤ (l0_1.length : Int) then (if ((l0_1.length : Int) : Int).toNat ≤ 35184372088832 then (impl_MostFlow.l0 k bt343.1 (List.replicate ((l0_1.length : Int) : Int).toNat 0) a0_0 l0_1) else (none)) else (none))) else (some ((-1),([] : List Bool))))) = some (r1,r2):=h
 clear h
 replace H:=bs_ H
 obtain ⟨t342,A20,H⟩:=H
 replace H : (if t342 = true then ((impl_stepsOf.f k a0_0 l0_1).bind fun bt343=>(if 0 ≤ (l0_1.length : Int) then (if ((l0_1.length : Int) : Int).toNat ≤ 35184372088832 then (impl_MostFlow.l0 k bt343.1 (List.replicate ((l0_1.length : Int) : Int).toNat 0) a0_0 l0_1) else (none)) else (none))) else (some ((-1),([] : List Bool)))) = some (r1,r2):=H
 have A2:=am_ A20
 clear A20
 by_cases c3 : t342 = true
 rotate_left
 ·replace c3:=Bool.eq_false_iff.mpr c3
  subst c3
  have H1 : (some ((-1),([] : List Bool))) = some (r1,r2):=by rw [if_neg (show ¬ (false = true) by decide)] at H;exact H
  clear H
  have H:=H1
  clear H1
  simp only [Option.some.injEq,Prod.mk.injEq] at H
  obtain ⟨rfl,rfl⟩:=H
  go_enter Try.func26,Try.ntmps26
  go_wp2_with (first|((with_reducible refine gate_dst (N:=1) rfl ?_);refine box_event ?hg (N:=1) ?hd (cs:=#[.int .i64 a0_0,.slice A0_1 l0_1.length c0_1]) (t:=30) ?hr ?_;(case hd=>rfl);(case hg=>rfl);(case hr=>(go_simp;done));intro gb341 hg w54 hbox hb;have n0_:=am_ (below_step HB.out hb);have n1_:=am_ (hbox);have n2_:=am_ ((by rw [hg];exact (below_size HB.out) : w.heap.size ≤ gb341));have n3_:=n2_;clear HB;have HB:=n0_;have BK341:=n1_;have GW341:=n2_;have GE341:=n3_;clear n0_ n1_ n2_ n3_ hb hbox hg;have hcz55_0 : w54.cell? ⟨gb341,0,none⟩ = some (.int .i64 a0_0):=bc_ BK341.out 0;have hcz55_1 : w54.cell? ⟨gb341,1,none⟩ = some (.slice A0_1 l0_1.length c0_1):=bc_ BK341.out 1;have hfz55_0:=blk_frozen BK341.out 0;have hfz55_1:=blk_frozen BK341.out 1)|((with_reducible refine gate_callee (f:=53) rfl ?_);refine goesL_ (some 13) rfl rfl Try.func53 (by kernel_rfl) rfl #[.agg #[.int .i64 a0_0,.slice A0_1 l0_1.length c0_1]] rfl (by (try simp only [List.map_toArray,List.map_cons,List.map_nil]);rfl) ?_;(with_reducible refine (impl_NetOk.calls k a0_0 _ _ l0_1 false _ ?side1 ?side2 A2.out).mono ?_);(case side1=>exact (Kd.C_below HR0_1.out HB.out));(case side2=>exact HC0_1.out);rintro e w56 ⟨rfl,hb⟩;refine ⟨_,rfl,?_⟩;have n0_:=am_ (blk_below BK341.out hb);have n1_:=am_ (below_step HB.out hb);clear BK341 HB;have BK341:=n0_;have HB:=n1_;clear n0_ n1_;(try clear hb)))
  go_ret2
  exact ⟨_,by rfl,by exact Kd.R_nil _ _ _ _ _,by exact HB.out⟩
 subst c3
 have H1 : ((impl_stepsOf.f k a0_0 l0_1).bind fun bt343=>(if 0 ≤ (l0_1.length : Int) then (if ((l0_1.length : Int) : Int).toNat ≤ 35184372088832 then (impl_MostFlow.l0 k bt343.1 (List.replicate ((l0_1.length : Int) : Int).toNat 0) a0_0 l0_1) else (none)) else (none))) = some (r1,r2):=by rw [if_pos rfl] at H;exact H
 clear H
 have H:=H1
 clear H1
 replace H:=bs_ H
 obtain ⟨⟨t343,t346⟩,A40,H⟩:=H
 replace H : (if 0 ≤ (l0_1.length : Int) then (if ((l0_1.length : Int) : Int).toNat ≤ 35184372088832 then (impl_MostFlow.l0 k t343 (List.replicate ((l0_1.length : Int) : Int).toNat 0) a0_0 l0_1) else (none)) else (none)) = some (r1,r2):=H
 have A4:=am_ A40
 clear A40
 by_cases c5 : 0 ≤ (l0_1.length : Int)
 rotate_left
 ·rw [if_neg c5] at H
  exact absurd H (by simp)
 rw [if_pos c5] at H
 have c5b0:=eq_true c5
 have c5b1 : decide (0 ≤ (l0_1.length : Int)) = true:=decide_eq_true c5
 clear c5
 by_cases c6 : ((l0_1.length : Int) : Int).toNat ≤ 35184372088832
 rotate_left
 ·rw [if_neg c6] at H
  exact absurd H (by simp)
 rw [if_pos c6] at H
 have c6b0:=eq_true c6
 have c6b1 : decide (((l0_1.length : Int) : Int).toNat ≤ 35184372088832) = true:=decide_eq_true c6
 clear c6
 obtain ⟨y349,hy349⟩ : ∃ y_ : List Int,y_ = (List.replicate ((l0_1.length : Int) : Int).toNat 0):=⟨_,rfl⟩
 replace H : (impl_MostFlow.l0 k t343 y349 a0_0 l0_1) = some (r1,r2):=by (rw [hy349];with_reducible exact H)
 have Ny349:=am_ hy349
 clear hy349
 have H':=am_ H
 clear H
 go_enter Try.func26,Try.ntmps26
 go_wp2_with (first|((with_reducible refine gate_dst (N:=1) rfl ?_);refine box_event ?hg (N:=1) ?hd (cs:=#[.int .i64 a0_0,.slice A0_1 l0_1.length c0_1]) (t:=30) ?hr ?_;(case hd=>rfl);(case hg=>rfl);(case hr=>(go_simp;done));intro gb341 hg w7 hbox hb;have n0_:=am_ (below_step HB.out hb);have n1_:=am_ (hbox);have n2_:=am_ ((by rw [hg];exact (below_size HB.out) : w.heap.size ≤ gb341));have n3_:=n2_;clear HB;have HB:=n0_;have BK341:=n1_;have GW341:=n2_;have GE341:=n3_;clear n0_ n1_ n2_ n3_ hb hbox hg;have hcz8_0 : w7.cell? ⟨gb341,0,none⟩ = some (.int .i64 a0_0):=bc_ BK341.out 0;have hcz8_1 : w7.cell? ⟨gb341,1,none⟩ = some (.slice A0_1 l0_1.length c0_1):=bc_ BK341.out 1;have hfz8_0:=blk_frozen BK341.out 0;have hfz8_1:=blk_frozen BK341.out 1)|((with_reducible refine gate_callee (f:=53) rfl ?_);refine goesL_ (some 13) rfl rfl Try.func53 (by kernel_rfl) rfl #[.agg #[.int .i64 a0_0,.slice A0_1 l0_1.length c0_1]] rfl (by (try simp only [List.map_toArray,List.map_cons,List.map_nil]);rfl) ?_;(with_reducible refine (impl_NetOk.calls k a0_0 _ _ l0_1 true _ ?side1 ?side2 A2.out).mono ?_);(case side1=>exact (Kd.C_below HR0_1.out HB.out));(case side2=>exact HC0_1.out);rintro e w9 ⟨rfl,hb⟩;refine ⟨_,rfl,?_⟩;have n0_:=am_ (blk_below BK341.out hb);have n1_:=am_ (below_step HB.out hb);clear BK341 HB;have BK341:=n0_;have HB:=n1_;clear n0_ n1_;(try clear hb);have hcz10_0 : w9.cell? ⟨gb341,0,none⟩ = some (.int .i64 a0_0):=bc_ BK341.out 0;have hcz10_1 : w9.cell? ⟨gb341,1,none⟩ = some (.slice A0_1 l0_1.length c0_1):=bc_ BK341.out 1;have hfz10_0:=blk_frozen BK341.out 0;have hfz10_1:=blk_frozen BK341.out 1)|((with_reducible refine gate_callee (f:=49) rfl ?_);refine goesL_ (some 17) rfl rfl Try.func49 (by kernel_rfl) rfl #[.agg #[.int .i64 a0_0,.slice A0_1 l0_1.length c0_1]] rfl (by (try simp only [List.map_toArray,List.map_cons,List.map_nil]);rfl) ?_;(with_reducible refine (impl_stepsOf.calls k a0_0 _ _ l0_1 t343 t346 _ ?side1 ?side2 A4.out).mono ?_);(case side1=>exact (Kd.C_below HR0_1.out HB.out));(case side2=>exact HC0_1.out);rintro e w11 ⟨v344,v347,rfl,ho0,ho1,hb⟩;refine ⟨_,rfl,?_⟩;have n0_:=am_ (Kd.S_lower ho0 (below_size HB.out));have n1_:=am_ (Kd.S_lower ho1 (below_size HB.out));have n2_:=am_ (blk_below BK341.out hb);have n3_:=am_ (below_step HB.out hb);clear BK341 HB;have HO345:=n0_;have HO348:=n1_;have BK341:=n2_;have HB:=n3_;clear n0_ n1_ n2_ n3_;(try clear hb);(try clear ho0);(try clear ho1);have hcz12_0 : w11.cell? ⟨gb341,0,none⟩ = some (.int .i64 a0_0):=bc_ BK341.out 0;have hcz12_1 : w11.cell? ⟨gb341,1,none⟩ = some (.slice A0_1 l0_1.length c0_1):=bc_ BK341.out 1;have hfz12_0:=blk_frozen BK341.out 0;have hfz12_1:=blk_frozen BK341.out 1)|((with_reducible refine gate_dst (N:=23) rfl ?_);refine Kd.R_make (Kd.int .i64) _ 3 rfl (N:=23) rfl 25 _ _ rfl (l0_1.length : Int) rfl rfl Try.underlying25 (.int .i64 0) 8 info3 rfl (by decide) (by omega) 0 (ok:=fun _=>True) (okp:=fun _=>True) rfl (fun _ hk=>hk) trivial (od_ (by (with_reducible assumption))) (Nat.le_trans (Nat.mul_le_mul_right _ (od_ (by (with_reducible assumption)) : (l0_1.length : Int).toNat ≤ 35184372088832)) (by omega)) (Below.refl _ _) (Nat.le_refl _) ?_;intro v350 w13 ho14 hb hg_ hnew_;clear hg_ hnew_;(rw [← Ny349.out] at ho14);have n0_:=am_ (Kd.S_below HO345.out hb);have n1_:=am_ (Kd.S_below HO348.out hb);have n2_:=am_ (Kd.R_lower ho14 (below_size HB.out));have n3_:=am_ (blk_below BK341.out hb);have n4_:=am_ (below_step HB.out hb);clear HO345 HO348 BK341 HB;have HO345:=n0_;have HO348:=n1_;have HO351:=n2_;have BK341:=n3_;have HB:=n4_;clear n0_ n1_ n2_ n3_ n4_ hb ho14))
 go_loopg [] k (fun kq w'=>∃ (x6_1 : List Int),Aside0 (impl_MostFlow.l0 kq t343 x6_1 a0_0 l0_1 = some (r1,r2)) ∧ Aside0 (kq ≤ k) ∧ Aside0 (Kd.S (Kd.slice 79 k79) 71 w' w.heap.size (fun _=>True) v344 t343) ∧ Aside0 (Kd.R (Kd.int .i64) 3 w' w.heap.size (fun _=>True) v350 x6_1) ∧ Aside0 (w'.heap[gb341]? = some (.cells #[.int .i64 a0_0,(.slice A0_1 l0_1.length c0_1)] 30 (0,0))) ∧ Aside0 (Below w.heap.size w w'))
 case atStart=>exact ⟨(y349),H',⟨Nat.le_refl _⟩,⟨by exact Kd.S_mono HO345.out (fun _ hk=>trivial)⟩,⟨by exact HO351.out⟩,⟨by exact BK341.out⟩,⟨by exact HB.out⟩⟩
 case round =>
  clear H'
  try clear c2
  try clear p2
  try clear c3
  try clear c4
  try clear c5
  try clear c5b0
  try clear c5b1
  try clear c6
  try clear c6b0
  try clear c6b1
  try clear hcz10_0
  try clear hcz10_1
  try clear hcz12_0
  try clear hcz12_1
  try clear hcz8_0
  try clear hcz8_1
  try clear hfz10_0
  try clear hfz10_1
  try clear hfz12_0
  try clear hfz12_1
  try clear hfz8_0
  try clear hfz8_1
  obtain ⟨x6_1,HA,HK1,HO_4,HO_6,BK341,HB⟩:=hrel
  cases gk with
  | zero => exact absurd HA.out (by simp [impl_MostFlow.l0])
  | succ k1 =>
   have H:=HA.out
   clear HA
   simp only [impl_MostFlow.l0] at H
   replace H:=bs_ H
   obtain ⟨⟨t352,t355⟩,A150,H⟩:=H
   replace H : (if 1 < (t355.length : Int) then (if rdOf false t355 1 = true then (impl_MostFlow.l1 k1 t343 x6_1 t352 20 1 a0_0 l0_1) else ((impl_excess.f k1 a0_0 l0_1 x6_1).bind fun t359=>(if 0 < (t359.length : Int) then (some (wrap64 (-(rd t359 0)),t355)) else (none)))) else (none)) = some (r1,r2):=H
   have A15:=am_ A150
   clear A150
   by_cases c16 : 1 < (t355.length : Int)
   rotate_left
   ·rw [if_neg c16] at H
    exact absurd H (by simp)
   rw [if_pos c16] at H
   have c16b0 : decide (1 < (t355.length : Int)) = true:=decide_eq_true c16
   have c16b1 : decide (1 < t355.length) = true:=decide_eq_true (by omega)
   clear c16
   obtain ⟨bq17,hbq17⟩ : ∃ b_ : Bool,b_ = (rdOf false t355 1):=⟨_,rfl⟩
   replace H : (if bq17 = true then (impl_MostFlow.l1 k1 t343 x6_1 t352 20 1 a0_0 l0_1) else ((impl_excess.f k1 a0_0 l0_1 x6_1).bind fun t359=>(if 0 < (t359.length : Int) then (some (wrap64 (-(rd t359 0)),t355)) else (none)))) = some (r1,r2):=by rw [← hbq17] at H;exact H
   have Nbq17:=am_ hbq17
   clear hbq17
   by_cases c18 : bq17 = true
   rotate_left
   ·replace c18:=Bool.eq_false_iff.mpr c18
    subst c18
    have H1 : ((impl_excess.f k1 a0_0 l0_1 x6_1).bind fun t359=>(if 0 < (t359.length : Int) then (some (wrap64 (-(rd t359 0)),t355)) else (none))) = some (r1,r2):=by rw [if_neg (show ¬ (false = true) by decide)] at H;exact H
    clear H
    have H:=H1
    clear H1
    replace H:=bs_ H
    obtain ⟨t359,A440,H⟩:=H
    replace H : (if 0 < (t359.length : Int) then (some (wrap64 (-(rd t359 0)),t355)) else (none)) = some (r1,r2):=H
    have A44:=am_ A440
    clear A440
    by_cases c45 : 0 < (t359.length : Int)
    rotate_left
    ·rw [if_neg c45] at H
     exact absurd H (by simp)
    rw [if_pos c45] at H
    have c45b0 : decide (0 < (t359.length : Int)) = true:=decide_eq_true c45
    have c45b1 : decide (0 < t359.length) = true:=decide_eq_true (by omega)
    clear c45
    simp only [Option.some.injEq,Prod.mk.injEq] at H
    obtain ⟨rfl,rfl⟩:=H
    have hcz46_0 : wr.cell? ⟨gb341,0,none⟩ = some (.int .i64 a0_0):=bc_ BK341.out 0
    have hcz46_1 : wr.cell? ⟨gb341,1,none⟩ = some (.slice A0_1 l0_1.length c0_1):=bc_ BK341.out 1
    have hfz46_0:=blk_frozen BK341.out 0
    have hfz46_1:=blk_frozen BK341.out 1
    obtain ⟨Ao47,co47,eo47⟩:=Kd.S_slice HO_4.out
    subst eo47
    obtain ⟨Ao48,co48,eo48⟩:=Kd.R_slice HO_6.out
    subst eo48
    go_wp2_with (first|((with_reducible refine gate_callee (f:=50) rfl ?_);refine goesL_ (some 28) rfl rfl Try.func50 (by kernel_rfl) rfl #[.agg #[.int .i64 a0_0,.slice A0_1 l0_1.length c0_1],.slice Ao47 t343.length co47,.slice Ao48 x6_1.length co48] rfl (by (try simp only [List.map_toArray,List.map_cons,List.map_nil]);rfl) ?_;(with_reducible refine (impl_reach.calls k1 a0_0 _ _ l0_1 _ _ t343 _ _ x6_1 t352 t355 _ ?side1 ?side2 ?side3 ?side4 ?side5 ?side6 A15.out).mono ?_);(case side1=>exact (Kd.C_below HR0_1.out HB.out));(case side2=>exact HC0_1.out);(case side3=>repeat (exact (Kd.S_reads' HO_4.out).2.2));(case side4=>exact (Kd.S_reads' HO_4.out).2.1);(case side5=>repeat (exact (Kd.R_reads' HO_6.out).2.2));(case side6=>exact (Kd.R_reads' HO_6.out).2.1);rintro e w49 ⟨v353,v356,rfl,ho0,ho1,hb⟩;refine ⟨_,rfl,?_⟩;have n0_:=am_ (Kd.S_elder' HO_4.out (Kd.R_base ho0) hb);have n1_:=am_ (Kd.R_below HO_6.out hb);have n2_:=am_ (Kd.R_lower ho0 (below_size HB.out));have n3_:=am_ (Kd.R_lower ho1 (below_size HB.out));have n4_:=am_ (blk_below BK341.out hb);have n5_:=am_ (below_step HB.out hb);clear HO_4 HO_6 BK341 HB;have HO_4:=n0_;have HO_6:=n1_;have HO354:=n2_;have HO357:=n3_;have BK341:=n4_;have HB:=n5_;clear n0_ n1_ n2_ n3_ n4_ n5_;(try clear hb);(try clear ho0);(try clear ho1);obtain ⟨Ao50,co50,eo50⟩:=Kd.R_slice HO357.out;subst eo50;have p358 : 0 ≤ (1 : Int):=(by omega);have q358 : 1 < (t355.length : Int):=od_ (by (with_reducible assumption));obtain ⟨ad358,e358,hx358_0⟩:=Kd.at_bool (Kd.R_reads' HO357.out).2.2 1 p358 q358;(try rw [← Nbq17.out] at hx358_0);cases e358;(try simp only [show (1 : Int).toNat = 1 from rfl,Nat.reduceMul,Nat.reduceEqDiff,Go.Addr.add,↓reduceIte] at hx358_0);have qi358 : (1 < t355.length) = True:=eq_true (by omega);replace p358:=eq_true p358;replace q358:=eq_true q358;have hcz51_0 : w49.cell? ⟨gb341,0,none⟩ = some (.int .i64 a0_0):=bc_ BK341.out 0;have hcz51_1 : w49.cell? ⟨gb341,1,none⟩ = some (.slice A0_1 l0_1.length c0_1):=bc_ BK341.out 1;have hfz51_0:=blk_frozen BK341.out 0;have hfz51_1:=blk_frozen BK341.out 1)|((with_reducible refine gate_callee (f:=54) rfl ?_);refine goesL_ (some 37) rfl rfl Try.func54 (by kernel_rfl) rfl #[.agg #[.int .i64 a0_0,.slice A0_1 l0_1.length c0_1],.slice Ao48 x6_1.length co48] rfl (by (try simp only [List.map_toArray,List.map_cons,List.map_nil]);rfl) ?_;(with_reducible refine (impl_excess.calls k1 a0_0 _ _ l0_1 _ _ x6_1 t359 _ ?side1 ?side2 ?side3 ?side4 A44.out).mono ?_);(case side1=>exact (Kd.C_below HR0_1.out HB.out));(case side2=>exact HC0_1.out);(case side3=>repeat (exact (Kd.R_reads' HO_6.out).2.2));(case side4=>exact (Kd.R_reads' HO_6.out).2.1);rintro e w52 ⟨v360,rfl,ho0,hb⟩;refine ⟨_,rfl,?_⟩;have n0_:=am_ (Kd.S_below HO_4.out hb);have n1_:=am_ (Kd.R_elder' HO_6.out (Kd.R_base ho0) hb);have n2_:=am_ (Kd.R_below HO354.out hb);have n3_:=am_ (Kd.R_below HO357.out hb);have n4_:=am_ (Kd.R_lower (Kd.R_new' ho0 (Kd.R_lt HO_6.out)) (below_size HB.out));have n5_:=am_ (blk_below BK341.out hb);have n6_:=am_ (below_step HB.out hb);clear HO_4 HO_6 HO354 HO357 BK341 HB;have HO_4:=n0_;have HO_6:=n1_;have HO354:=n2_;have HO357:=n3_;have HO361:=n4_;have BK341:=n5_;have HB:=n6_;clear n0_ n1_ n2_ n3_ n4_ n5_ n6_;(try clear hb);(try clear ho0);obtain ⟨Ao53,co53,eo53⟩:=Kd.R_slice HO361.out;subst eo53;have p362 : 0 ≤ (0 : Int):=(by omega);have q362 : 0 < (t359.length : Int):=od_ (by (with_reducible assumption));obtain ⟨ad362,e362,hx362_0⟩:=Kd.at_int (Kd.R_reads' HO361.out).2.2 0 p362 q362;cases e362;have qi362 : (0 < t359.length) = True:=eq_true (by omega);(try rw [show ((0 : Int)).toNat = 0 from rfl] at hx362_0);(try rw [Addr.add_zero'] at hx362_0);replace p362:=eq_true p362;replace q362:=eq_true q362))
    go_ret2
    exact ⟨_,by rfl,by exact HO357.out,by exact HB.out⟩
   subst c18
   have H1 : (impl_MostFlow.l1 k1 t343 x6_1 t352 20 1 a0_0 l0_1) = some (r1,r2):=by rw [if_pos rfl] at H;exact H
   clear H
   have H:=H1
   clear H1
   have H':=am_ H
   clear H
   have hcz19_0 : wr.cell? ⟨gb341,0,none⟩ = some (.int .i64 a0_0):=bc_ BK341.out 0
   have hcz19_1 : wr.cell? ⟨gb341,1,none⟩ = some (.slice A0_1 l0_1.length c0_1):=bc_ BK341.out 1
   have hfz19_0:=blk_frozen BK341.out 0
   have hfz19_1:=blk_frozen BK341.out 1
   obtain ⟨Ao20,co20,eo20⟩:=Kd.S_slice HO_4.out
   subst eo20
   obtain ⟨Ao21,co21,eo21⟩:=Kd.R_slice HO_6.out
   subst eo21
   go_wp2_with (((with_reducible refine gate_callee (f:=50) rfl ?_);refine goesL_ (some 28) rfl rfl Try.func50 (by kernel_rfl) rfl #[.agg #[.int .i64 a0_0,.slice A0_1 l0_1.length c0_1],.slice Ao20 t343.length co20,.slice Ao21 x6_1.length co21] rfl (by (try simp only [List.map_toArray,List.map_cons,List.map_nil]);rfl) ?_;(with_reducible refine (impl_reach.calls k1 a0_0 _ _ l0_1 _ _ t343 _ _ x6_1 t352 t355 _ ?side1 ?side2 ?side3 ?side4 ?side5 ?side6 A15.out).mono ?_);(case side1=>exact (Kd.C_below HR0_1.out HB.out));(case side2=>exact HC0_1.out);(case side3=>repeat (exact (Kd.S_reads' HO_4.out).2.2));(case side4=>exact (Kd.S_reads' HO_4.out).2.1);(case side5=>repeat (exact (Kd.R_reads' HO_6.out).2.2));(case side6=>exact (Kd.R_reads' HO_6.out).2.1);rintro e w22 ⟨v353,v356,rfl,ho0,ho1,hb⟩;refine ⟨_,rfl,?_⟩;have n0_:=am_ (Kd.S_elder' HO_4.out (Kd.R_base ho0) hb);have n1_:=am_ (Kd.R_below HO_6.out hb);have n2_:=am_ (Kd.R_lower ho0 (below_size HB.out));have n3_:=am_ (Kd.R_lower ho1 (below_size HB.out));have n4_:=am_ (blk_below BK341.out hb);have n5_:=am_ (below_step HB.out hb);clear HO_4 HO_6 BK341 HB;have HO_4:=n0_;have HO_6:=n1_;have HO354:=n2_;have HO357:=n3_;have BK341:=n4_;have HB:=n5_;clear n0_ n1_ n2_ n3_ n4_ n5_;(try clear hb);(try clear ho0);(try clear ho1);obtain ⟨Ao23,co23,eo23⟩:=Kd.R_slice HO357.out;subst eo23;have p358 : 0 ≤ (1 : Int):=(by omega);have q358 : 1 < (t355.length : Int):=od_ (by (with_reducible assumption));obtain ⟨ad358,e358,hx358_0⟩:=Kd.at_bool (Kd.R_reads' HO357.out).2.2 1 p358 q358;(try rw [← Nbq17.out] at hx358_0);cases e358;(try simp only [show (1 : Int).toNat = 1 from rfl,Nat.reduceMul,Nat.reduceEqDiff,Go.Addr.add,↓reduceIte] at hx358_0);have qi358 : (1 < t355.length) = True:=eq_true (by omega);replace p358:=eq_true p358;replace q358:=eq_true q358))
   go_loopg [9,10] k1 (fun kq v9 v10 w'=>∃ (x9_2 : Int) (x10_2 : Int),v9 = .int .i64 x9_2 ∧ v10 = .int .i64 x10_2 ∧ Aside0 (impl_MostFlow.l1 kq t343 x6_1 t352 x9_2 x10_2 a0_0 l0_1 = some (r1,r2)) ∧ Aside0 (kq ≤ k1) ∧ Aside0 (Kd.S (Kd.slice 79 k79) 71 w' w.heap.size (fun k_=>some k_ ≠ (v353 : Value).ownBlock) (.slice Ao20 t343.length co20) t343) ∧ Aside0 (Kd.R (Kd.int .i64) 3 w' w.heap.size (fun _=>True) (.slice Ao21 x6_1.length co21) x6_1) ∧ Aside0 (Kd.R k79 79 w' w.heap.size (fun _=>True) v353 t352) ∧ Aside0 (w'.heap[gb341]? = some (.cells #[.int .i64 a0_0,(.slice A0_1 l0_1.length c0_1)] 30 (0,0))) ∧ Aside0 (Below w.heap.size w w'))
   case atStart=>exact ⟨(20),(1),(by rfl),(by rfl),H',⟨Nat.le_refl _⟩,⟨by exact Kd.S_mono HO_4.out (fun _ hk=>hk.2)⟩,⟨by exact HO_6.out⟩,⟨by exact HO354.out⟩,⟨by exact BK341.out⟩,⟨by exact HB.out⟩⟩
   case round =>
    clear H'
    try clear c1
    try clear q1
    try clear c2
    try clear p2
    try clear c3
    try clear p3
    try clear q3
    try clear hx3
    try clear qi3
    try clear c4
    try clear c5
    try clear c5b0
    try clear c5b1
    try clear c6
    try clear c6b0
    try clear c6b1
    try clear p6
    try clear c16
    try clear c16b0
    try clear c16b1
    try clear q17
    try clear c18
    try clear hcz10_0
    try clear hcz10_1
    try clear hcz12_0
    try clear hcz12_1
    try clear hcz19_0
    try clear hcz19_1
    try clear hcz8_0
    try clear hcz8_1
    try clear hfz10_0
    try clear hfz10_1
    try clear hfz12_0
    try clear hfz12_1
    try clear hfz19_0
    try clear hfz19_1
    try clear hfz8_0
    try clear hfz8_1
    try clear hx358_0
    try clear p2
    try clear p358
    try clear q358
    obtain ⟨x9_2,x10_2,rfl,rfl,HA,HK2,HO_4,HO_6,HO_7,BK341,HB⟩:=hrel
    cases gk with
    | zero => exact absurd HA.out (by simp [impl_MostFlow.l1])
    | succ k2 =>
     have H:=HA.out
     clear HA
     simp only [impl_MostFlow.l1] at H
     by_cases c24 : x10_2 = 0
     ·rw [if_pos c24] at H
      have c24b0 : (x10_2 == 0) = true:=beq_iff_eq.mpr c24
      have c24b1 : (x10_2 != 0) = false:=bne_eq_false_iff_eq.mpr c24
      clear c24
      have H':=am_ H
      clear H
      go_wp2
      go_loopg [11] k2 (fun kq v11 w'=>∃ (x6_3 : List Int) (x11_3 : Int),v11 = .int .i64 x11_3 ∧ Aside0 (impl_MostFlow.l2 kq t343 x6_3 t352 x9_2 x11_3 a0_0 l0_1 = some (r1,r2)) ∧ Aside0 (kq ≤ k2) ∧ Aside0 (Kd.S (Kd.slice 79 k79) 71 w' w.heap.size (fun k_=>some k_ ≠ (v353 : Value).ownBlock) (.slice Ao20 t343.length co20) t343) ∧ Aside0 (Kd.R (Kd.int .i64) 3 w' w.heap.size (fun _=>True) (.slice Ao21 x6_1.length co21) x6_3) ∧ Aside0 (Kd.R k79 79 w' w.heap.size (fun _=>True) v353 t352) ∧ Aside0 (w'.heap[gb341]? = some (.cells #[.int .i64 a0_0,(.slice A0_1 l0_1.length c0_1)] 30 (0,0))) ∧ Aside0 (Below w.heap.size w w'))
      case atStart=>exact ⟨(x6_1),(1),(by rfl),H',⟨Nat.le_refl _⟩,⟨by exact HO_4.out⟩,⟨by exact HO_6.out⟩,⟨by exact HO_7.out⟩,⟨by exact BK341.out⟩,⟨by exact HB.out⟩⟩
      case round =>
       clear H'
       try clear c1
       try clear q1
       try clear c2
       try clear p2
       try clear c3
       try clear p3
       try clear q3
       try clear hx3
       try clear qi3
       try clear c4
       try clear c5
       try clear c5b0
       try clear c5b1
       try clear c6
       try clear c6b0
       try clear c6b1
       try clear p6
       try clear c16
       try clear c16b0
       try clear c16b1
       try clear q17
       try clear c18
       try clear c24
       try clear c24b0
       try clear c24b1
       try clear hcz10_0
       try clear hcz10_1
       try clear hcz12_0
       try clear hcz12_1
       try clear hcz19_0
       try clear hcz19_1
       try clear hcz8_0
       try clear hcz8_1
       try clear hfz10_0
       try clear hfz10_1
       try clear hfz12_0
       try clear hfz12_1
       try clear hfz19_0
       try clear hfz19_1
       try clear hfz8_0
       try clear hfz8_1
       try clear hx358_0
       try clear p2
       try clear p3
       try clear p358
       try clear p6
       try clear q1
       try clear q17
       try clear q3
       try clear q358
       obtain ⟨x6_3,x11_3,rfl,HA,HK3,HO_4,HO_6,HO_7,BK341,HB⟩:=hrel
       have hl6_3:=(Kd.R_reads' HO_6.out).1
       rw [hl6_3] at HO_6
       (try simp only [hl6_3])
       (skip)
       (skip)
       (skip)
       cases gk with
       | zero => exact absurd HA.out (by simp [impl_MostFlow.l2])
       | succ k3 =>
        have H:=HA.out
        clear HA
        simp only [impl_MostFlow.l2] at H
        by_cases c25 : x11_3 = 0
        ·rw [if_pos c25] at H
         have c25b0 : (x11_3 == 0) = true:=beq_iff_eq.mpr c25
         have c25b1 : (x11_3 != 0) = false:=bne_eq_false_iff_eq.mpr c25
         clear c25
         have H':=am_ H
         clear H
         go_wp2
         (try simp only [← hl6_3])
         go_roundg k3
         case measure=>have:=HK1.out;have:=HK2.out;have:=HK3.out;omega
         case rel=>exact ⟨(x6_3),H',⟨by have:=HK1.out;have:=HK2.out;have:=HK3.out;omega⟩,⟨by exact Kd.S_mono HO_4.out (fun _ hk=>trivial)⟩,⟨by (try simp only [hl6_3]);exact HO_6.out⟩,⟨by exact BK341.out⟩,⟨by exact HB.out⟩⟩
        rw [if_neg c25] at H
        have c25b0 : (x11_3 == 0) = false:=beq_eq_false_iff_ne.mpr c25
        have c25b1 : (x11_3 != 0) = true:=bne_iff_ne.mpr c25
        by_cases c26 : 0 ≤ x11_3
        rotate_left
        ·rw [if_neg c26] at H
         exact absurd H (by simp)
        rw [if_pos c26] at H
        have c26b0 : decide (0 ≤ x11_3) = true:=decide_eq_true c26
        clear c26
        by_cases c27 : x11_3 < (t352.length : Int)
        rotate_left
        ·rw [if_neg c27] at H
         exact absurd H (by simp)
        rw [if_pos c27] at H
        have c27b0 : decide (x11_3 < (t352.length : Int)) = true:=decide_eq_true c27
        clear c27
        replace H:=bs_ H
        obtain ⟨t369,A280,H⟩:=H
        replace H : ((impl_step_ends.f ((rd_T79 t352 x11_3).f0) ((rd_T79 t352 x11_3).f1) a0_0 l0_1).bind fun bt371=>(impl_MostFlow.l2 k3 t343 t369 t352 x9_2 bt371.1 a0_0 l0_1)) = some (r1,r2):=H
        have A28:=am_ A280
        clear A280
        replace H:=bs_ H
        obtain ⟨⟨t371,t372⟩,A290,H⟩:=H
        replace H : (impl_MostFlow.l2 k3 t343 t369 t352 x9_2 t371 a0_0 l0_1) = some (r1,r2):=H
        have A29:=am_ A290
        clear A290
        have H':=am_ H
        clear H
        obtain ⟨Ao30,co30,eo30⟩:=Kd.R_slice HO_7.out
        subst eo30
        have p368 : 0 ≤ (x11_3 : Int):=od_ (by (with_reducible assumption))
        have q368 : x11_3 < (t352.length : Int):=od_ (by (with_reducible assumption))
        obtain ⟨ad368,e368,hx368_0,hx368_1⟩:=at_T79 (Kd.R_reads' HO_7.out).2.2 x11_3 p368 q368
        (skip)
        cases e368
        replace p368:=eq_true p368
        replace q368:=eq_true q368
        try go_wp2_with (((with_reducible refine gate_callee (f:=57) rfl ?_);refine goesL_ (some 79) rfl rfl Try.func57 (by kernel_rfl) rfl #[.slice Ao21 x6_3.length co21,.agg #[.int .i64 ((rd_T79 t352 x11_3).f0),.bool ((rd_T79 t352 x11_3).f1)],.int .i64 x9_2] rfl (by (try simp only [List.map_toArray,List.map_cons,List.map_nil]);rfl) ?_;(with_reducible refine (impl_pushed.calls (fun k_=>some k_ = (.slice Ao21 x6_3.length co21 : Value).ownBlock) (.slice Ao21 x6_3.length co21) x6_3 ((rd_T79 t352 x11_3).f0) ((rd_T79 t352 x11_3).f1) x9_2 t369 w _ ?side1 ?side2 A28.out).mono ?_);(case side1=>exact HB.out);(case side2=>exact Kd.R_tight rfl HO_6.out);rintro e w31 ⟨rfl,hy0,hb,hkp⟩;refine ⟨_,rfl,?_⟩;have n0_:=am_ (Kd.S_mono (ok':=fun k_=>some k_ ≠ (.slice (some ad368) t352.length co30 : Value).ownBlock) (Kd.S_keptB ((Kd.S_apart' HO_4.out (Kd.R_typed HO_6.out) (by decide))) hkp (fun k_ hk_ hs_=>(hk_.2) hs_)) (fun k_ hk_=>hk_.1.1));have n1_:=am_ (Kd.R_reok rfl hy0 (fun k_ e_=>HO_6.out.1 k_ e_));have n2_:=am_ (Kd.R_mono (ok':=fun k_=>True) (Kd.R_keptB ((Kd.R_apart' HO_7.out (Kd.R_typed HO_6.out) (by decide))) hkp (fun k_ hk_ hs_=>(hk_.2) hs_)) (fun k_ hk_=>trivial));have n3_:=am_ (blk_kept BK341.out hkp (fun hs_=>(fun e_=>(Kd.R_ne HO_6.out BK341.out (by decide)) e_) hs_));have n4_:=am_ (hb);clear HO_4 HO_6 HO_7 BK341 HB;have HO_4:=n0_;have HO_6:=n1_;have HO_7:=n2_;have BK341:=n3_;have HB:=n4_;clear n0_ n1_ n2_ n3_ n4_;(try clear hb);(try clear hkp);(try clear hy0)))
        have n0_:=am_ (Kd.S_drew HO_4.out)
        have n1_:=am_ (Kd.R_drew HO_6.out)
        have n2_:=am_ (Kd.R_drew HO_7.out)
        have n3_:=am_ (blk_drew BK341.out)
        have n4_:=am_ (below_drew1 HB.out)
        clear HO_4
        clear HO_6
        clear HO_7
        clear BK341
        clear HB
        have HO_4:=n0_
        have HO_6:=n1_
        have HO_7:=n2_
        have BK341:=n3_
        have HB:=n4_
        clear n0_ n1_ n2_ n3_ n4_
        have p370 : 0 ≤ (x11_3 : Int):=od_ (by (with_reducible assumption))
        have q370 : x11_3 < (t352.length : Int):=od_ (by (with_reducible assumption))
        obtain ⟨ad370,e370,hx370_0,hx370_1⟩:=at_T79 (Kd.R_reads' HO_7.out).2.2 x11_3 p370 q370
        (skip)
        obtain rfl : ad368 = ad370:=(by injection e370)
        replace p370:=eq_true p370
        replace q370:=eq_true q370
        refine start_ (n:=10) (S:=fun w'=>w'.cell? ⟨gb341,0,none⟩ = some (.int .i64 a0_0) ∧ w'.cell? ⟨gb341,1,none⟩ = some (.slice A0_1 l0_1.length c0_1) ∧ w'.cell? (ad368.add ((x11_3).toNat * 2)) = some (.int .i64 ((rd_T79 t352 x11_3).f0)) ∧ w'.cell? ⟨(ad368.add ((x11_3).toNat * 2)).block,(ad368.add ((x11_3).toNat * 2)).off + 1,none⟩ = some (.bool ((rd_T79 t352 x11_3).f1))) (ds:=[]) fl6_0_ (by kernel_rfl) rfl rfl ⟨bc_ BK341.out 0,bc_ BK341.out 1,hx370_0,hx370_1⟩ (fun hHeld=>?_);refine with_tabW impl_MostFlow.tab15 impl_MostFlow.bits15 (fun HT_ HW_=>?_)
        generalize w31.drew = w32 at HO_4 HO_6 HO_7 BK341 HB hx370_0 hx370_1 hHeld ⊢
        refine pure_ (i:=0) (N:=some 65) (v:=?_) (a':=?_) fl6_1_ rfl rfl (any_of HT_.out (by kernel_rfl)) (fun _ _ _ h=>h) (Or.inl ⟨by rfl,?_⟩) ?_ ?_
        rotate_left
        ·intro w'
         go_simp
         with_reducible rfl
        rotate_left
        ·simp only [Act.put,sb_,sz_,ss_,i64_w,i32_w]
         rfl
        refine pure_ (i:=1) (N:=some 66) (v:=?_) (a':=?_) fl6_2_ rfl rfl (any_of HT_.out (by kernel_rfl)) (fun _ _ _ h=>h) (Or.inl ⟨by rfl,?_⟩) ?_ ?_
        rotate_left
        ·intro w'
         go_simp
         with_reducible rfl
        rotate_left
        ·simp only [Act.put,sb_,sz_,ss_,i64_w,i32_w]
         rfl
        refine pure_ (i:=2) (N:=some 67) (v:=?_) (a':=?_) fl6_3_ rfl rfl (any_of HT_.out (by kernel_rfl)) (fun _ _ _ h=>h) (Or.inl ⟨by rfl,?_⟩) ?_ ?_
        rotate_left
        ·intro w'
         go_simp
         with_reducible rfl
        rotate_left
        ·simp only [Act.put,sb_,sz_,ss_,i64_w,i32_w]
         rfl
        refine take_ (i:=3) (N:=some 68) (v:=?_) (a':=?_) fl6_4_ rfl rfl (take_ofW HT_.out HW_.out (by kernel_rfl)) (fun _ _ _ h=>h) (Or.inl ⟨by rfl,?_⟩) hHeld ?_ ?_
        rotate_left
        ·rintro w' ⟨s0,s1,s2,s3⟩
         go_simp
         with_reducible rfl
        rotate_left
        ·simp only [Act.put,sb_,sz_,ss_,i64_w,i32_w]
         rfl
        refine take_ (i:=4) (N:=some 69) (v:=?_) (a':=?_) fl6_5_ rfl rfl (take_ofW HT_.out HW_.out (by kernel_rfl)) (fun _ _ _ h=>h) (Or.inl ⟨by rfl,?_⟩) hHeld ?_ ?_
        rotate_left
        ·rintro w' ⟨s0,s1,s2,s3⟩
         go_simp
         with_reducible rfl
        rotate_left
        ·simp only [Act.put,sb_,sz_,ss_,i64_w,i32_w]
         rfl
        refine one_ (i:=5) (N:=some 70) fl6_6_ rfl rfl (one_of HT_.out (by kernel_rfl)) (by decide) (fun K hK=>?_)
        refine goes_ Try.func55 (by kernel_rfl) rfl #[.agg #[.int .i64 ((rd_T79 t352 x11_3).f0),.bool ((rd_T79 t352 x11_3).f1)],.agg #[.int .i64 a0_0,.slice A0_1 l0_1.length c0_1]] (by rfl) rfl rfl (by (try simp only [List.map_toArray,List.map_cons,List.map_nil]);rfl) ?_
        with_reducible refine (impl_step_ends.calls ((rd_T79 t352 x11_3).f0) ((rd_T79 t352 x11_3).f1) a0_0 _ _ l0_1 t371 t372 _ ?side1 ?side2 A29.out).mono ?_
        (case side1=>exact (Kd.C_below HR0_1.out HB.out))
        (case side2=>exact HC0_1.out)
        rintro e w33 ⟨rfl,hb⟩
        have HS2_:=(hb.cell (World.block_lt_of_cell? _ _ (hHeld.2.2.1))).trans (hHeld.2.2.1)
        have HS3_:=(hb.cell (World.block_lt_of_cell? _ _ (hHeld.2.2.2))).trans (hHeld.2.2.2)
        refine ⟨_,rfl,?_⟩
        have n0_:=am_ (Kd.S_below HO_4.out hb)
        have n1_:=am_ (Kd.R_below HO_6.out hb)
        have n2_:=am_ (Kd.R_below HO_7.out hb)
        have n3_:=am_ (blk_below BK341.out hb)
        have n4_:=am_ (below_step HB.out hb)
        clear HO_4
        clear HO_6
        clear HO_7
        clear BK341
        clear HB
        have HO_4:=n0_
        have HO_6:=n1_
        have HO_7:=n2_
        have BK341:=n3_
        have HB:=n4_
        clear n0_ n1_ n2_ n3_ n4_
        (try clear hb)
        (skip)
        (skip)
        (skip)
        refine hK.out _ _ ⟨bc_ BK341.out 0,bc_ BK341.out 1,HS2_,HS3_⟩ (fun hHeld=>?_)
        clear hK K
        refine norm_ (a':=?_) ?_ ?_
        rotate_left
        ·show Act.put _ (some 70) _ = _
         simp only [Act.put,sb_,sz_,ss_,i64_w,i32_w]
         rfl
        refine pure_ (i:=6) (N:=some 64) (v:=?_) (a':=?_) fl6_7_ rfl rfl (any_of HT_.out (by kernel_rfl)) (fun _ _ _ h=>h) (Or.inl ⟨by rfl,?_⟩) ?_ ?_
        rotate_left
        ·intro w'
         go_simp
         with_reducible rfl
        rotate_left
        ·simp only [Act.put,sb_,sz_,ss_,i64_w,i32_w]
         rfl
        refine pure_ (i:=7) (N:=some 71) (v:=?_) (a':=?_) fl6_8_ rfl rfl (any_of HT_.out (by kernel_rfl)) (fun _ _ _ h=>h) (Or.inl ⟨by rfl,?_⟩) ?_ ?_
        rotate_left
        ·intro w'
         go_simp
         with_reducible rfl
        rotate_left
        ·simp only [Act.put,sb_,sz_,ss_,i64_w,i32_w]
         rfl
        refine pure_ (i:=8) (N:=some 72) (v:=?_) (a':=?_) fl6_9_ rfl rfl (any_of HT_.out (by kernel_rfl)) (fun _ _ _ h=>h) (Or.inl ⟨by rfl,?_⟩) ?_ ?_
        rotate_left
        ·intro w'
         go_simp
         with_reducible rfl
        rotate_left
        ·simp only [Act.put,sb_,sz_,ss_,i64_w,i32_w]
         rfl
        refine pure_ (i:=9) (N:=some 11) (v:=?_) (a':=?_) fl6_10_ rfl rfl (any_of HT_.out (by kernel_rfl)) (fun _ _ _ h=>h) (Or.inl ⟨by rfl,?_⟩) ?_ ?_
        rotate_left
        ·intro w'
         go_simp
         with_reducible rfl
        rotate_left
        ·simp only [Act.put,sb_,sz_,ss_,i64_w,i32_w]
         rfl
        refine done_ (done_of HT_.out (by kernel_rfl)) ?_
        try go_wp2
        (try simp only [← hl6_3])
        go_roundg k3
        case measure=>have:=HK1.out;have:=HK2.out;have:=HK3.out;omega
        case rel=>exact ⟨(t369),(t371),(by rfl),H',⟨by have:=HK1.out;have:=HK2.out;have:=HK3.out;omega⟩,⟨by exact HO_4.out⟩,⟨by (try simp only [hl6_3]);exact HO_6.out⟩,⟨by exact HO_7.out⟩,⟨by exact BK341.out⟩,⟨by exact HB.out⟩⟩
     rw [if_neg c24] at H
     have c24b0 : (x10_2 == 0) = false:=beq_eq_false_iff_ne.mpr c24
     have c24b1 : (x10_2 != 0) = true:=bne_iff_ne.mpr c24
     by_cases c34 : 0 ≤ x10_2
     rotate_left
     ·rw [if_neg c34] at H
      exact absurd H (by simp)
     rw [if_pos c34] at H
     have c34b0 : decide (0 ≤ x10_2) = true:=decide_eq_true c34
     clear c34
     by_cases c35 : x10_2 < (t352.length : Int)
     rotate_left
     ·rw [if_neg c35] at H
      exact absurd H (by simp)
     rw [if_pos c35] at H
     have c35b0 : decide (x10_2 < (t352.length : Int)) = true:=decide_eq_true c35
     clear c35
     replace H:=bs_ H
     obtain ⟨t364,A360,H⟩:=H
     replace H : ((impl_step_ends.f ((rd_T79 t352 x10_2).f0) ((rd_T79 t352 x10_2).f1) a0_0 l0_1).bind fun bt366=>(impl_MostFlow.l1 k2 t343 x6_1 t352 (mn x9_2 t364) bt366.1 a0_0 l0_1)) = some (r1,r2):=H
     have A36:=am_ A360
     clear A360
     obtain ⟨ji37,hji37⟩ : ∃ j_ : Int,(mn x9_2 t364) = j_:=⟨_,rfl⟩
     replace H : ((impl_step_ends.f ((rd_T79 t352 x10_2).f0) ((rd_T79 t352 x10_2).f1) a0_0 l0_1).bind fun bt366=>(impl_MostFlow.l1 k2 t343 x6_1 t352 ji37 bt366.1 a0_0 l0_1)) = some (r1,r2):=by (rw [hji37] at H;exact H)
     (skip)
     have hji37_ : (if t364 < x9_2 then t364 else x9_2) = ji37:=hji37
     replace H:=bs_ H
     obtain ⟨⟨t366,t367⟩,A380,H⟩:=H
     replace H : (impl_MostFlow.l1 k2 t343 x6_1 t352 ji37 t366 a0_0 l0_1) = some (r1,r2):=H
     have A38:=am_ A380
     clear A380
     have H':=am_ H
     clear H
     try go_wp2
     have n0_:=am_ (Kd.S_drew HO_4.out)
     have n1_:=am_ (Kd.R_drew HO_6.out)
     have n2_:=am_ (Kd.R_drew HO_7.out)
     have n3_:=am_ (blk_drew BK341.out)
     have n4_:=am_ (below_drew1 HB.out)
     clear HO_4
     clear HO_6
     clear HO_7
     clear BK341
     clear HB
     have HO_4:=n0_
     have HO_6:=n1_
     have HO_7:=n2_
     have BK341:=n3_
     have HB:=n4_
     clear n0_ n1_ n2_ n3_ n4_
     obtain ⟨Ao40,co40,eo40⟩:=Kd.R_slice HO_7.out
     (subst eo40)
     have p363 : 0 ≤ (x10_2 : Int):=od_ (by (with_reducible assumption))
     have q363 : x10_2 < (t352.length : Int):=od_ (by (with_reducible assumption))
     obtain ⟨ad363,e363,hx363_0,hx363_1⟩:=at_T79 (Kd.R_reads' HO_7.out).2.2 x10_2 p363 q363
     (skip)
     cases e363
     replace p363:=eq_true p363
     replace q363:=eq_true q363
     refine start_ (n:=10) (S:=fun w'=>w'.cell? ⟨gb341,0,none⟩ = some (.int .i64 a0_0) ∧ w'.cell? ⟨gb341,1,none⟩ = some (.slice A0_1 l0_1.length c0_1) ∧ w'.cell? (ad363.add ((x10_2).toNat * 2)) = some (.int .i64 ((rd_T79 t352 x10_2).f0)) ∧ w'.cell? ⟨(ad363.add ((x10_2).toNat * 2)).block,(ad363.add ((x10_2).toNat * 2)).off + 1,none⟩ = some (.bool ((rd_T79 t352 x10_2).f1))) (ds:=[]) fl6_0_ (by kernel_rfl) rfl rfl ⟨bc_ BK341.out 0,bc_ BK341.out 1,hx363_0,hx363_1⟩ (fun hHeld=>?_);refine with_tabW impl_MostFlow.tab12 impl_MostFlow.bits12 (fun HT_ HW_=>?_)
     generalize wr.drew = w39 at HO_4 HO_6 HO_7 BK341 HB hx363_0 hx363_1 hHeld ⊢
     refine pure_ (i:=0) (N:=some 53) (v:=?_) (a':=?_) fl6_1_ rfl rfl (any_of HT_.out (by kernel_rfl)) (fun _ _ _ h=>h) (Or.inl ⟨by rfl,?_⟩) ?_ ?_
     rotate_left
     ·intro w'
      go_simp
      with_reducible rfl
     rotate_left
     ·simp only [Act.put,sb_,sz_,ss_,i64_w,i32_w]
      rfl
     refine pure_ (i:=1) (N:=some 54) (v:=?_) (a':=?_) fl6_2_ rfl rfl (any_of HT_.out (by kernel_rfl)) (fun _ _ _ h=>h) (Or.inl ⟨by rfl,?_⟩) ?_ ?_
     rotate_left
     ·intro w'
      go_simp
      with_reducible rfl
     rotate_left
     ·simp only [Act.put,sb_,sz_,ss_,i64_w,i32_w]
      rfl
     refine pure_ (i:=2) (N:=some 55) (v:=?_) (a':=?_) fl6_3_ rfl rfl (any_of HT_.out (by kernel_rfl)) (fun _ _ _ h=>h) (Or.inl ⟨by rfl,?_⟩) ?_ ?_
     rotate_left
     ·intro w'
      go_simp
      with_reducible rfl
     rotate_left
     ·simp only [Act.put,sb_,sz_,ss_,i64_w,i32_w]
      rfl
     refine pure_ (i:=3) (N:=some 56) (v:=?_) (a':=?_) fl6_4_ rfl rfl (any_of HT_.out (by kernel_rfl)) (fun _ _ _ h=>h) (Or.inl ⟨by rfl,?_⟩) ?_ ?_
     rotate_left
     ·intro w'
      go_simp
      with_reducible rfl
     rotate_left
     ·simp only [Act.put,sb_,sz_,ss_,i64_w,i32_w]
      rfl
     refine pure_ (i:=6) (N:=some 59) (v:=?_) (a':=?_) #[true,true,true,true,false,false,true,false,false,false] rfl rfl (any_of HT_.out (by kernel_rfl)) (fun _ _ _ h=>h) (Or.inl ⟨by rfl,?_⟩) ?_ ?_
     rotate_left
     ·intro w'
      go_simp
      with_reducible rfl
     rotate_left
     ·simp only [Act.put,sb_,sz_,ss_,i64_w,i32_w]
      rfl
     refine take_ (i:=4) (N:=some 57) (v:=?_) (a':=?_) #[true,true,true,true,true,false,true,false,false,false] rfl rfl (take_ofW HT_.out HW_.out (by kernel_rfl)) (fun _ _ _ h=>h) (Or.inl ⟨by rfl,?_⟩) hHeld ?_ ?_
     rotate_left
     ·rintro w' ⟨s0,s1,s2,s3⟩
      go_simp
      with_reducible rfl
     rotate_left
     ·simp only [Act.put,sb_,sz_,ss_,i64_w,i32_w]
      rfl
     refine take_ (i:=5) (N:=some 58) (v:=?_) (a':=?_) fl6_7_ rfl rfl (take_ofW HT_.out HW_.out (by kernel_rfl)) (fun _ _ _ h=>h) (Or.inl ⟨by rfl,?_⟩) hHeld ?_ ?_
     rotate_left
     ·rintro w' ⟨s0,s1,s2,s3⟩
      go_simp
      with_reducible rfl
     rotate_left
     ·simp only [Act.put,sb_,sz_,ss_,i64_w,i32_w]
      rfl
     refine one_ (i:=7) (N:=some 60) fl6_8_ rfl rfl (one_of HT_.out (by kernel_rfl)) (by decide) (fun K hK=>?_)
     refine goes_ Try.func56 (by kernel_rfl) rfl #[.agg #[.int .i64 ((rd_T79 t352 x10_2).f0),.bool ((rd_T79 t352 x10_2).f1)],.agg #[.int .i64 a0_0,.slice A0_1 l0_1.length c0_1],.slice Ao21 x6_1.length co21] (by rfl) rfl rfl (by (try simp only [List.map_toArray,List.map_cons,List.map_nil]);rfl) ?_
     with_reducible refine (impl_step_room.calls ((rd_T79 t352 x10_2).f0) ((rd_T79 t352 x10_2).f1) a0_0 _ _ l0_1 _ _ x6_1 t364 _ ?side1 ?side2 ?side3 ?side4 A36.out).mono ?_
     (case side1=>exact (Kd.C_below HR0_1.out HB.out))
     (case side2=>exact HC0_1.out)
     (case side3=>repeat (exact (Kd.R_reads' HO_6.out).2.2))
     (case side4=>exact (Kd.R_reads' HO_6.out).2.1)
     rintro e w41 ⟨rfl,hb⟩
     have HS2_:=(hb.cell (World.block_lt_of_cell? _ _ (hHeld.2.2.1))).trans (hHeld.2.2.1)
     have HS3_:=(hb.cell (World.block_lt_of_cell? _ _ (hHeld.2.2.2))).trans (hHeld.2.2.2)
     refine ⟨_,rfl,?_⟩
     have n0_:=am_ (Kd.S_below HO_4.out hb)
     have n1_:=am_ (Kd.R_below HO_6.out hb)
     have n2_:=am_ (Kd.R_below HO_7.out hb)
     have n3_:=am_ (blk_below BK341.out hb)
     have n4_:=am_ (below_step HB.out hb)
     clear HO_4
     clear HO_6
     clear HO_7
     clear BK341
     clear HB
     have HO_4:=n0_
     have HO_6:=n1_
     have HO_7:=n2_
     have BK341:=n3_
     have HB:=n4_
     clear n0_ n1_ n2_ n3_ n4_
     (try clear hb)
     (skip)
     (skip)
     (skip)
     refine hK.out _ _ ⟨bc_ BK341.out 0,bc_ BK341.out 1,HS2_,HS3_⟩ (fun hHeld=>?_)
     clear hK K
     refine norm_ (a':=?_) ?_ ?_
     rotate_left
     ·show Act.put _ (some 60) _ = _
      simp only [Act.put,sb_,sz_,ss_,i64_w,i32_w]
      rfl
     refine pure_ (i:=8) (N:=some 61) (v:=?_) (a':=?_) fl6_9_ rfl rfl (any_of HT_.out (by kernel_rfl)) (fun _ _ _ h=>h) (Or.inl ⟨by rfl,?_⟩) ?_ ?_
     rotate_left
     ·intro w'
      go_simp
      with_reducible rfl
     rotate_left
     ·simp only [Act.put,sb_,sz_,ss_,i64_w,i32_w]
      rfl
     refine pure_ (i:=9) (N:=some 9) (v:=?_) (a':=?_) fl6_10_ rfl rfl (any_of HT_.out (by kernel_rfl)) (fun _ _ _ h=>h) (Or.inl ⟨by rfl,?_⟩) ?_ ?_
     rotate_left
     ·intro w'
      go_simp
      with_reducible rfl
     rotate_left
     ·simp only [Act.put,sb_,sz_,ss_,i64_w,i32_w]
      rfl
     refine done_ (done_of HT_.out (by kernel_rfl)) ?_
     try go_wp2
     have n0_:=am_ (Kd.S_drew HO_4.out)
     have n1_:=am_ (Kd.R_drew HO_6.out)
     have n2_:=am_ (Kd.R_drew HO_7.out)
     have n3_:=am_ (blk_drew BK341.out)
     have n4_:=am_ (below_drew1 HB.out)
     clear HO_4
     clear HO_6
     clear HO_7
     clear BK341
     clear HB
     have HO_4:=n0_
     have HO_6:=n1_
     have HO_7:=n2_
     have BK341:=n3_
     have HB:=n4_
     clear n0_ n1_ n2_ n3_ n4_
     have p365 : 0 ≤ (x10_2 : Int):=od_ (by (with_reducible assumption))
     have q365 : x10_2 < (t352.length : Int):=od_ (by (with_reducible assumption))
     obtain ⟨ad365,e365,hx365_0,hx365_1⟩:=at_T79 (Kd.R_reads' HO_7.out).2.2 x10_2 p365 q365
     (skip)
     obtain rfl : ad363 = ad365:=(by injection e365)
     replace p365:=eq_true p365
     replace q365:=eq_true q365
     refine start_ (n:=10) (S:=fun w'=>w'.cell? ⟨gb341,0,none⟩ = some (.int .i64 a0_0) ∧ w'.cell? ⟨gb341,1,none⟩ = some (.slice A0_1 l0_1.length c0_1) ∧ w'.cell? (ad363.add ((x10_2).toNat * 2)) = some (.int .i64 ((rd_T79 t352 x10_2).f0)) ∧ w'.cell? ⟨(ad363.add ((x10_2).toNat * 2)).block,(ad363.add ((x10_2).toNat * 2)).off + 1,none⟩ = some (.bool ((rd_T79 t352 x10_2).f1))) (ds:=[]) fl6_0_ (by kernel_rfl) rfl rfl ⟨bc_ BK341.out 0,bc_ BK341.out 1,hx365_0,hx365_1⟩ (fun hHeld=>?_);refine with_tabW impl_MostFlow.tab11 impl_MostFlow.bits11 (fun HT_ HW_=>?_)
     generalize w41.drew = w42 at HO_4 HO_6 HO_7 BK341 HB hx365_0 hx365_1 hHeld ⊢
     refine pure_ (i:=0) (N:=some 45) (v:=?_) (a':=?_) fl6_1_ rfl rfl (any_of HT_.out (by kernel_rfl)) (fun _ _ _ h=>h) (Or.inl ⟨by rfl,?_⟩) ?_ ?_
     rotate_left
     ·intro w'
      go_simp
      with_reducible rfl
     rotate_left
     ·simp only [Act.put,sb_,sz_,ss_,i64_w,i32_w]
      rfl
     refine pure_ (i:=1) (N:=some 46) (v:=?_) (a':=?_) fl6_2_ rfl rfl (any_of HT_.out (by kernel_rfl)) (fun _ _ _ h=>h) (Or.inl ⟨by rfl,?_⟩) ?_ ?_
     rotate_left
     ·intro w'
      go_simp
      with_reducible rfl
     rotate_left
     ·simp only [Act.put,sb_,sz_,ss_,i64_w,i32_w]
      rfl
     refine pure_ (i:=2) (N:=some 47) (v:=?_) (a':=?_) fl6_3_ rfl rfl (any_of HT_.out (by kernel_rfl)) (fun _ _ _ h=>h) (Or.inl ⟨by rfl,?_⟩) ?_ ?_
     rotate_left
     ·intro w'
      go_simp
      with_reducible rfl
     rotate_left
     ·simp only [Act.put,sb_,sz_,ss_,i64_w,i32_w]
      rfl
     refine take_ (i:=3) (N:=some 48) (v:=?_) (a':=?_) fl6_4_ rfl rfl (take_ofW HT_.out HW_.out (by kernel_rfl)) (fun _ _ _ h=>h) (Or.inl ⟨by rfl,?_⟩) hHeld ?_ ?_
     rotate_left
     ·rintro w' ⟨s0,s1,s2,s3⟩
      go_simp
      with_reducible rfl
     rotate_left
     ·simp only [Act.put,sb_,sz_,ss_,i64_w,i32_w]
      rfl
     refine take_ (i:=4) (N:=some 49) (v:=?_) (a':=?_) fl6_5_ rfl rfl (take_ofW HT_.out HW_.out (by kernel_rfl)) (fun _ _ _ h=>h) (Or.inl ⟨by rfl,?_⟩) hHeld ?_ ?_
     rotate_left
     ·rintro w' ⟨s0,s1,s2,s3⟩
      go_simp
      with_reducible rfl
     rotate_left
     ·simp only [Act.put,sb_,sz_,ss_,i64_w,i32_w]
      rfl
     refine one_ (i:=5) (N:=some 50) fl6_6_ rfl rfl (one_of HT_.out (by kernel_rfl)) (by decide) (fun K hK=>?_)
     refine goes_ Try.func55 (by kernel_rfl) rfl #[.agg #[.int .i64 ((rd_T79 t352 x10_2).f0),.bool ((rd_T79 t352 x10_2).f1)],.agg #[.int .i64 a0_0,.slice A0_1 l0_1.length c0_1]] (by rfl) rfl rfl (by (try simp only [List.map_toArray,List.map_cons,List.map_nil]);rfl) ?_
     with_reducible refine (impl_step_ends.calls ((rd_T79 t352 x10_2).f0) ((rd_T79 t352 x10_2).f1) a0_0 _ _ l0_1 t366 t367 _ ?side1 ?side2 A38.out).mono ?_
     (case side1=>exact (Kd.C_below HR0_1.out HB.out))
     (case side2=>exact HC0_1.out)
     rintro e w43 ⟨rfl,hb⟩
     have HS2_:=(hb.cell (World.block_lt_of_cell? _ _ (hHeld.2.2.1))).trans (hHeld.2.2.1)
     have HS3_:=(hb.cell (World.block_lt_of_cell? _ _ (hHeld.2.2.2))).trans (hHeld.2.2.2)
     refine ⟨_,rfl,?_⟩
     have n0_:=am_ (Kd.S_below HO_4.out hb)
     have n1_:=am_ (Kd.R_below HO_6.out hb)
     have n2_:=am_ (Kd.R_below HO_7.out hb)
     have n3_:=am_ (blk_below BK341.out hb)
     have n4_:=am_ (below_step HB.out hb)
     clear HO_4
     clear HO_6
     clear HO_7
     clear BK341
     clear HB
     have HO_4:=n0_
     have HO_6:=n1_
     have HO_7:=n2_
     have BK341:=n3_
     have HB:=n4_
     clear n0_ n1_ n2_ n3_ n4_
     (try clear hb)
     (skip)
     (skip)
     (skip)
     refine hK.out _ _ ⟨bc_ BK341.out 0,bc_ BK341.out 1,HS2_,HS3_⟩ (fun hHeld=>?_)
     clear hK K
     refine norm_ (a':=?_) ?_ ?_
     rotate_left
     ·show Act.put _ (some 50) _ = _
      simp only [Act.put,sb_,sz_,ss_,i64_w,i32_w]
      rfl
     refine pure_ (i:=6) (N:=some 44) (v:=?_) (a':=?_) fl6_7_ rfl rfl (any_of HT_.out (by kernel_rfl)) (fun _ _ _ h=>h) (Or.inl ⟨by rfl,?_⟩) ?_ ?_
     rotate_left
     ·intro w'
      go_simp
      with_reducible rfl
     rotate_left
     ·simp only [Act.put,sb_,sz_,ss_,i64_w,i32_w]
      rfl
     refine pure_ (i:=7) (N:=some 51) (v:=?_) (a':=?_) fl6_8_ rfl rfl (any_of HT_.out (by kernel_rfl)) (fun _ _ _ h=>h) (Or.inl ⟨by rfl,?_⟩) ?_ ?_
     rotate_left
     ·intro w'
      go_simp
      with_reducible rfl
     rotate_left
     ·simp only [Act.put,sb_,sz_,ss_,i64_w,i32_w]
      rfl
     refine pure_ (i:=8) (N:=some 52) (v:=?_) (a':=?_) fl6_9_ rfl rfl (any_of HT_.out (by kernel_rfl)) (fun _ _ _ h=>h) (Or.inl ⟨by rfl,?_⟩) ?_ ?_
     rotate_left
     ·intro w'
      go_simp
      with_reducible rfl
     rotate_left
     ·simp only [Act.put,sb_,sz_,ss_,i64_w,i32_w]
      rfl
     refine pure_ (i:=9) (N:=some 10) (v:=?_) (a':=?_) fl6_10_ rfl rfl (any_of HT_.out (by kernel_rfl)) (fun _ _ _ h=>h) (Or.inl ⟨by rfl,?_⟩) ?_ ?_
     rotate_left
     ·intro w'
      go_simp
      with_reducible rfl
     rotate_left
     ·simp only [Act.put,sb_,sz_,ss_,i64_w,i32_w]
      rfl
     refine done_ (done_of HT_.out (by kernel_rfl)) ?_
     try go_wp2
     go_roundg k2
     case measure=>have:=HK1.out;have:=HK2.out;omega
     case rel=>exact ⟨(ji37),(t366),(by rfl),(by rfl),H',⟨by have:=HK1.out;have:=HK2.out;omega⟩,⟨by exact HO_4.out⟩,⟨by exact HO_6.out⟩,⟨by exact HO_7.out⟩,⟨by exact BK341.out⟩,⟨by exact HB.out⟩⟩

end Go.Proofs.Ytgkpgigoonhgdaa.PFnMostCut
