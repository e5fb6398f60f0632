-- Made by the session's wip/pp.py, a changed call of the kit's printer; Lean checks it.
import Derived.Test.YtgkpgigoonhgdaaPFnMostCutx0
import Derived.Test.YtgkpgigoonhgdaaPFnMostCutx3
import Derived.Test.YtgkpgigoonhgdaaPFnMostCutx4
namespace Go.Proofs.Ytgkpgigoonhgdaa.PFnMostCut
open Go.RowKit Go.Proofs.YtgkpgigoonhgdaaW.PrintWords Go.Proofs.YtgkpgigoonhgdaaW.PrintLast Go.Proofs.YtgkpgigoonhgdaaW.PrintMore
attribute [local go_sem] max2_int min2_int max_two min_two max_three min_three max_four min_four   -- for this text's walks alone
set_option linter.unusedVariables false
set_option linter.unusedSimpArgs false

abbrev fl5_0_ : Array Bool:=#[true,true,true,true,true,true,true,false]
/-! ### impl_step_room: function 56 -/
def impl_step_room.f (a0_0 : Int) (a0_1 : Bool) (a1_0 : Int) (l1_1 : List (S67)) (l2 : List Int) : Option (Int):=if a0_1 = true then (if 0 ≤ a0_0 then (if a0_0 < (l2.length : Int) then (some (rd l2 a0_0)) else (none)) else (none)) else (if 0 ≤ a0_0 then (if a0_0 < (l1_1.length : Int) then (if a0_0 < (l2.length : Int) then (some (wrap64 (((rd_T67 l1_1 a0_0).f2) - (rd l2 a0_0)))) else (none)) else (none)) else (none))
set_option maxHeartbeats 8000000 in
set_option maxRecDepth 100000 in
theorem impl_step_room.calls (a0_0 : Int) (a0_1 : Bool) (a1_0 : Int) (A1_1 : Option Addr) (c1_1 : Nat) (l1_1 : List (S67)) (A2 : Option Addr) (c2 : Nat) (l2 : List Int) (r : Int) (w : World) (hr1_1 : Kd.C k67 w A1_1 l1_1.length l1_1) (hc1_1 : l1_1.length ≤ c1_1) (hr2 : Kd.C (Kd.int .i64) w A2 l2.length l2) (hc2 : l2.length ≤ c2) (h : impl_step_room.f a0_0 a0_1 a1_0 l1_1 l2 = some r) :
  Calls Try.prog 56 #[.agg #[.int .i64 a0_0,.bool a0_1],.agg #[.int .i64 a1_0,.slice A1_1 l1_1.length c1_1],.slice A2 l2.length c2] w fun e w'=>e = .returned (.int .i64 r) ∧ Below w.heap.size w w':=by
 have hu79:=Try.underlying79
 have hu30:=Try.underlying30
 have HR1_1:=am_ hr1_1
 have HC1_1:=am_ hc1_1
 clear hr1_1 hc1_1
 have HR2:=am_ hr2
 have HC2:=am_ hc2
 clear hr2 hc2
 have HB:=am_ (Below.refl w.heap.size w)
 have H : (if a0_1 = true then (if 0 ≤ a0_0 then (if a0_0 < (l2.length : Int) then (some (rd l2 a0_0)) else (none)) else (none)) else (if 0 ≤ a0_0 then (if a0_0 < (l1_1.length : Int) then (if a0_0 < (l2.length : Int) then (some (wrap64 (((rd_T67 l1_1 a0_0).f2) - (rd l2 a0_0)))) else (none)) else (none)) else (none))) = some r:=h
 clear h
 by_cases c4 : a0_1 = true
 ·subst c4
  have H1 : (if 0 ≤ a0_0 then (if a0_0 < (l2.length : Int) then (some (rd l2 a0_0)) else (none)) else (none)) = some r:=by rw [if_pos rfl] at H;exact H
  clear H
  have H:=H1
  clear H1
  by_cases c5 : 0 ≤ a0_0
  rotate_left
  ·rw [if_neg c5] at H
   exact absurd H (by simp)
  rw [if_pos c5] at H
  have c5b0 : decide (0 ≤ a0_0) = true:=decide_eq_true c5
  clear c5
  by_cases c6 : a0_0 < (l2.length : Int)
  ·rw [if_pos c6] at H
   have c6b0 : decide (a0_0 < (l2.length : Int)) = true:=decide_eq_true c6
   clear c6
   obtain rfl:=Option.some.inj H
   go_enter Try.func56,Try.ntmps56
   go_wp2_with (first|((with_reducible refine gate_dst (N:=3) rfl ?_);refine box_event ?hg (N:=3) ?hd (cs:=#[.int .i64 a0_0,.bool true]) (t:=79) ?hr ?_;(case hd=>rfl);(case hg=>rfl);(case hr=>(go_simp;done));intro gb213 hg w7 hbox hb;have n0_:=am_ (below_step HB.out hb);have n1_:=am_ (hbox);have n2_:=am_ ((by rw [hg];exact (below_size HB.out) : w.heap.size ≤ gb213));have n3_:=n2_;clear HB;have HB:=n0_;have BK213:=n1_;have GW213:=n2_;have GE213:=n3_;clear n0_ n1_ n2_ n3_ hb hbox hg)|((with_reducible refine gate_dst (N:=4) rfl ?_);refine box_event ?hg (N:=4) ?hd (cs:=#[.int .i64 a1_0,.slice A1_1 l1_1.length c1_1]) (t:=30) ?hr ?_;(case hd=>rfl);(case hg=>rfl);(case hr=>(go_simp;done));intro gb214 hg w8 hbox hb;have n0_:=am_ (blk_below BK213.out hb);have n1_:=am_ (below_step HB.out hb);have n2_:=am_ (hbox);have n3_:=am_ ((by rw [hg];exact (below_size HB.out) : w.heap.size ≤ gb214));have n4_:=n3_;have n5_:=am_ ((by rw [hg];exact Nat.ne_of_lt (blk_lt (g:=gb213) (o:=.cells #[.int .i64 a0_0,.bool true] 79 (0,0)) BK213.out) : gb213 ≠ gb214));have n6_:=am_ ((by rw [hg];exact Nat.ne_of_gt (blk_lt (g:=gb213) (o:=.cells #[.int .i64 a0_0,.bool true] 79 (0,0)) BK213.out) : gb214 ≠ gb213));clear BK213 HB;have BK213:=n0_;have HB:=n1_;have BK214:=n2_;have GW214:=n3_;have GE214:=n4_;have NB213_214:=n5_;have NB214_213:=n6_;clear n0_ n1_ n2_ n3_ n4_ n5_ n6_ hb hbox hg;have hnb9:=NB213_214.out;have hnc9:=NB214_213.out;have hcz10_0 : w8.cell? ⟨gb213,0,none⟩ = some (.int .i64 a0_0):=bc_ BK213.out 0;have hcz10_1 : w8.cell? ⟨gb213,1,none⟩ = some (.bool true):=bc_ BK213.out 1;have hfz10_0:=blk_frozen BK213.out 0;have hfz10_1:=blk_frozen BK213.out 1;have p215 : 0 ≤ (a0_0 : Int):=od_ (by (with_reducible assumption));have q215 : a0_0 < (l2.length : Int):=od_ (by (with_reducible assumption));obtain ⟨ad215,e215,hx215_0⟩:=Kd.at_int HR2.out a0_0 p215 q215;cases e215;replace hx215_0:=kc_ HB.out hx215_0;replace p215:=eq_true p215;replace q215:=eq_true q215))
   repeat (go_quiet (fail);try go_wp2_with (fail))
   go_ret
   exact ⟨by rfl,by exact HB.out⟩
  rw [if_neg c6] at H
  exact absurd H (by simp)
 replace c4:=Bool.eq_false_iff.mpr c4
 subst c4
 have H1 : (if 0 ≤ a0_0 then (if a0_0 < (l1_1.length : Int) then (if a0_0 < (l2.length : Int) then (some (wrap64 (((rd_T67 l1_1 a0_0).f2) - (rd l2 a0_0)))) else (none)) else (none)) else (none)) = some r:=by rw [if_neg (show ¬ (false = true) by decide)] at H;exact H
 clear H
 have H:=H1
 clear H1
 by_cases c11 : 0 ≤ a0_0
 rotate_left
 ·rw [if_neg c11] at H
  exact absurd H (by simp)
 rw [if_pos c11] at H
 have c11b0 : decide (0 ≤ a0_0) = true:=decide_eq_true c11
 clear c11
 by_cases c12 : a0_0 < (l1_1.length : Int)
 rotate_left
 ·rw [if_neg c12] at H
  exact absurd H (by simp)
 rw [if_pos c12] at H
 have c12b0 : decide (a0_0 < (l1_1.length : Int)) = true:=decide_eq_true c12
 clear c12
 by_cases c13 : a0_0 < (l2.length : Int)
 ·rw [if_pos c13] at H
  have c13b0 : decide (a0_0 < (l2.length : Int)) = true:=decide_eq_true c13
  clear c13
  obtain rfl:=Option.some.inj H
  go_enter Try.func56,Try.ntmps56
  go_wp2_with (first|((with_reducible refine gate_dst (N:=3) rfl ?_);refine box_event ?hg (N:=3) ?hd (cs:=#[.int .i64 a0_0,.bool false]) (t:=79) ?hr ?_;(case hd=>rfl);(case hg=>rfl);(case hr=>(go_simp;done));intro gb213 hg w14 hbox hb;have n0_:=am_ (below_step HB.out hb);have n1_:=am_ (hbox);have n2_:=am_ ((by rw [hg];exact (below_size HB.out) : w.heap.size ≤ gb213));have n3_:=n2_;clear HB;have HB:=n0_;have BK213:=n1_;have GW213:=n2_;have GE213:=n3_;clear n0_ n1_ n2_ n3_ hb hbox hg)|((with_reducible refine gate_dst (N:=4) rfl ?_);refine box_event ?hg (N:=4) ?hd (cs:=#[.int .i64 a1_0,.slice A1_1 l1_1.length c1_1]) (t:=30) ?hr ?_;(case hd=>rfl);(case hg=>rfl);(case hr=>(go_simp;done));intro gb214 hg w15 hbox hb;have n0_:=am_ (blk_below BK213.out hb);have n1_:=am_ (below_step HB.out hb);have n2_:=am_ (hbox);have n3_:=am_ ((by rw [hg];exact (below_size HB.out) : w.heap.size ≤ gb214));have n4_:=n3_;have n5_:=am_ ((by rw [hg];exact Nat.ne_of_lt (blk_lt (g:=gb213) (o:=.cells #[.int .i64 a0_0,.bool false] 79 (0,0)) BK213.out) : gb213 ≠ gb214));have n6_:=am_ ((by rw [hg];exact Nat.ne_of_gt (blk_lt (g:=gb213) (o:=.cells #[.int .i64 a0_0,.bool false] 79 (0,0)) BK213.out) : gb214 ≠ gb213));clear BK213 HB;have BK213:=n0_;have HB:=n1_;have BK214:=n2_;have GW214:=n3_;have GE214:=n4_;have NB213_214:=n5_;have NB214_213:=n6_;clear n0_ n1_ n2_ n3_ n4_ n5_ n6_ hb hbox hg;have hnb16:=NB213_214.out;have hnc16:=NB214_213.out;have hcz17_0 : w15.cell? ⟨gb213,0,none⟩ = some (.int .i64 a0_0):=bc_ BK213.out 0;have hcz17_1 : w15.cell? ⟨gb213,1,none⟩ = some (.bool false):=bc_ BK213.out 1;have hfz17_0:=blk_frozen BK213.out 0;have hfz17_1:=blk_frozen BK213.out 1;have hcz18_0 : w15.cell? ⟨gb214,0,none⟩ = some (.int .i64 a1_0):=bc_ BK214.out 0;have hcz18_1 : w15.cell? ⟨gb214,1,none⟩ = some (.slice A1_1 l1_1.length c1_1):=bc_ BK214.out 1;have hfz18_0:=blk_frozen BK214.out 0;have hfz18_1:=blk_frozen BK214.out 1;have p216 : 0 ≤ (a0_0 : Int):=od_ (by (with_reducible assumption));have q216 : a0_0 < (l1_1.length : Int):=od_ (by (with_reducible assumption));obtain ⟨ad216,e216,hx216_0,hx216_1,hx216_2,hx216_3⟩:=at_T67 HR1_1.out a0_0 p216 q216;cases e216;replace hx216_0:=kc_ HB.out hx216_0;replace hx216_1:=kc_ HB.out hx216_1;replace hx216_2:=kc_ HB.out hx216_2;replace hx216_3:=kc_ HB.out hx216_3;replace p216:=eq_true p216;replace q216:=eq_true q216;have p217 : 0 ≤ (a0_0 : Int):=od_ (by (with_reducible assumption));have q217 : a0_0 < (l2.length : Int):=od_ (by (with_reducible assumption));obtain ⟨ad217,e217,hx217_0⟩:=Kd.at_int HR2.out a0_0 p217 q217;cases e217;replace hx217_0:=kc_ HB.out hx217_0;replace p217:=eq_true p217;replace q217:=eq_true q217))
  repeat (go_quiet (fail);try go_wp2_with (fail))
  go_ret
  exact ⟨by rfl,by repeat ((with_reducible first|exact HB.out|apply pw_below_drewN))⟩
 rw [if_neg c13] at H
 exact absurd H (by simp)

/-! ### impl_reach: function 50 -/
mutual
def impl_reach.l0 : Nat → List (List (S79)) → List Int → List (S79) → List Bool → List Int → Int → Int → List (S67) → Option ((List (S79)) × List Bool)
 | 0, _, _, _, _, _, _, _, _ => none
 | k + 1, x1, x2, x8, x9, x10, x11, x219000, x219001 => if x11 < (x10.length : Int) then (if 0 ≤ x11 then (if 0 ≤ (rd x10 x11) then (if (rd x10 x11) < (x1.length : Int) then (impl_reach.l1 k x1 x2 x8 x9 x10 x11 (rd_L4 x1 (rd x10 x11)) ((rd_L4 x1 (rd x10 x11)).length : Int) 0 x219000 x219001) else (none)) else (none)) else (none)) else (some (x8, x9))
def impl_reach.l1 : Nat → List (List (S79)) → List Int → List (S79) → List Bool → List Int → Int → List (S79) → Int → Int → Int → List (S67) → Option ((List (S79)) × List Bool)
 | 0, _, _, _, _, _, _, _, _, _, _, _ => none
 | k + 1, x1, x2, x8, x9, x10, x11, x37, x38, x39, x219000, x219001 => if x39 < x38 then (if 0 ≤ x39 then (if x39 < (x37.length : Int) then ((impl_step_ends.f ((rd_T79 x37 x39).f0) ((rd_T79 x37 x39).f1) x219000 x219001).bind fun bt233 => (if 0 ≤ bt233.2 then (if bt233.2 < (x9.length : Int) then (if rdOf false x9 bt233.2 = true then (impl_reach.l1 k x1 x2 x8 x9 x10 x11 x37 x38 (wrap64 (x39 + 1)) x219000 x219001) else ((impl_step_room.f ((rd_T79 x37 x39).f0) ((rd_T79 x37 x39).f1) x219000 x219001 x2).bind fun t236 => (if t236 > 0 then (if bt233.2 < (x8.length : Int) then (if x10.length < 17592186044416 then (impl_reach.l1 k x1 x2 (x8.set (bt233.2 : Int).toNat (⟨(rd_T79 x37 x39).f0, (rd_T79 x37 x39).f1⟩ : S79)) (x9.set (bt233.2 : Int).toNat true) (x10 ++ [bt233.2]) x11 x37 x38 (wrap64 (x39 + 1)) x219000 x219001) else (none)) else (none)) else (impl_reach.l1 k x1 x2 x8 x9 x10 x11 x37 x38 (wrap64 (x39 + 1)) x219000 x219001)))) else (none)) else (none))) else (none)) else (none)) else (impl_reach.l0 k x1 x2 x8 x9 x10 (wrap64 (x11 + 1)) x219000 x219001)
end
def impl_reach.f (k : Nat) (a0_0 : Int) (l0_1 : List (S67)) (l1 : List (List (S79))) (l2 : List Int) : Option ((List (S79)) × List Bool):=if 0 ≤ a0_0 then (if (a0_0 : Int).toNat ≤ 17592186044416 then (if (a0_0 : Int).toNat ≤ 281474976710656 then ((some (List.replicate (a0_0 : Int).toNat false : List Bool)).bind fun y222=>(if 0 < (y222.length : Int) then (impl_reach.l0 k l1 l2 (List.replicate (a0_0 : Int).toNat z79) (y222.set (0 : Int).toNat true) (([0] : List Int)) 0 a0_0 l0_1) else (none))) else (none)) else (none)) else (none)
theorem impl_reach.mono_l : ∀ k,(∀ y0 y1 y2 y3 y4 y5 y6 y7,LeO (impl_reach.l0 k y0 y1 y2 y3 y4 y5 y6 y7) (impl_reach.l0 (k + 1) y0 y1 y2 y3 y4 y5 y6 y7)) ∧ (∀ y0 y1 y2 y3 y4 y5 y6 y7 y8 y9 y10,LeO (impl_reach.l1 k y0 y1 y2 y3 y4 y5 y6 y7 y8 y9 y10) (impl_reach.l1 (k + 1) y0 y1 y2 y3 y4 y5 y6 y7 y8 y9 y10))
 | 0 => ⟨fun _ _ _ _ _ _ _ _ r h => by simp [impl_reach.l0] at h, fun _ _ _ _ _ _ _ _ _ _ _ r h => by simp [impl_reach.l1] at h⟩
 | k + 1 => by
  obtain ⟨ih0,ih1⟩:=impl_reach.mono_l k
  refine ⟨?_,?_⟩
  ·intro y0 y1 y2 y3 y4 y5 y6 y7
   unfold impl_reach.l0
   repeat' first
   | (with_reducible exact ih1 _ _ _ _ _ _ _ _ _ _ _)
   | (with_reducible exact LeO.refl _)
   | (with_reducible refine LeO.ite ?_ ?_)
  ·intro y0 y1 y2 y3 y4 y5 y6 y7 y8 y9 y10
   unfold impl_reach.l1
   repeat' first
   | (with_reducible exact ih0 _ _ _ _ _ _ _ _)
   | (with_reducible exact ih1 _ _ _ _ _ _ _ _ _ _ _)
   | (with_reducible exact LeO.refl _)
   | (with_reducible refine LeO.ite ?_ ?_)
   | (with_reducible refine LeO.bind ?_ (fun _ => ?_))
theorem impl_reach.mono : ∀ a0 a1 a2 a3 k,LeO (impl_reach.f k a0 a1 a2 a3) (impl_reach.f (k + 1) a0 a1 a2 a3):=by
 intro a0 a1 a2 a3 k
 obtain ⟨ih0,ih1⟩:=impl_reach.mono_l k
 unfold impl_reach.f
 repeat' first
   | (with_reducible exact ih0 _ _ _ _ _ _ _ _)
   | (with_reducible exact LeO.refl _)
   | (with_reducible refine LeO.ite ?_ ?_)
   | (with_reducible refine LeO.bind ?_ (fun _ => ?_))
def impl_reach.T1 : Bool × List (List Nat × List Nat):=(true,[([],[]),([0],[0]),([1,1],[1]),([],[]),([3],[3]),([4,4],[4]),([2,0,1,2],[2]),([5,6,0,1,2,3,4,5,6],[5])])
def impl_reach.B1 : List Nat:=[0,1,3,0,8,24,7,127]
theorem impl_reach.tab1 : rtab .any (opsOf Try.f50 1) = impl_reach.T1:=by kernel_rfl
theorem impl_reach.bits1 : waitsOk impl_reach.T1.2 impl_reach.B1 = true:=by kernel_rfl
set_option maxHeartbeats 8000000 in
set_option maxRecDepth 100000 in
theorem impl_reach.calls (k : Nat) (a0_0 : Int) (A0_1 : Option Addr) (c0_1 : Nat) (l0_1 : List (S67)) (A1 : Option Addr) (c1 : Nat) (l1 : List (List (S79))) (A2 : Option Addr) (c2 : Nat) (l2 : List Int) (r1 : List (S79)) (r2 : List Bool) (w : World) (hr0_1 : Kd.C k67 w A0_1 l0_1.length l0_1) (hc0_1 : l0_1.length ≤ c0_1) (hr1 : Kd.C (Kd.slice 79 k79) w A1 l1.length l1) (hc1 : l1.length ≤ c1) (hr2 : Kd.C (Kd.int .i64) w A2 l2.length l2) (hc2 : l2.length ≤ c2) (h : impl_reach.f k a0_0 l0_1 l1 l2 = some (r1,r2)) :
  Calls Try.prog 50 #[.agg #[.int .i64 a0_0,.slice A0_1 l0_1.length c0_1],.slice A1 l1.length c1,.slice A2 l2.length c2] w fun e w'=>∃ v0_ v1_ : Value,e = .returned (.tuple #[v0_,v1_]) ∧ Kd.R k79 79 w' w.heap.size (fun _=>True) v0_ r1 ∧ Kd.R Kd.bool 4 w' w.heap.size (fun _=>True) v1_ r2 ∧ Below w.heap.size w w':=by
 have hu30:=Try.underlying30
 have hu79:=Try.underlying79
 have HR0_1:=am_ hr0_1
 have HC0_1:=am_ hc0_1
 clear hr0_1 hc0_1
 have HR1:=am_ hr1
 have HC1:=am_ hc1
 clear hr1 hc1
 have HR2:=am_ hr2
 have HC2:=am_ hc2
 clear hr2 hc2
 have HB:=am_ (Below.refl w.heap.size w)
 have H : (if 0 ≤ a0_0 then (if (a0_0 : Int).toNat ≤ 17592186044416 then (if (a0_0 : Int).toNat ≤ 281474976710656 then ((some (List.replicate (a0_0 : Int).toNat false : List Bool)).bind fun y222=>(if 0 < (y222.length : Int) then (impl_reach.l0 k l1 l2 (List.replicate (a0_0 : Int).toNat z79) (y222.set (0 : Int).toNat true) (([0] : List Int)) 0 a0_0 l0_1) else (none))) else (none)) else (none)) else (none)) = some (r1,r2):=h
 clear h
 by_cases c4 : 0 ≤ a0_0
 rotate_left
 ·rw [if_neg c4] at H
  exact absurd H (by simp)
 rw [if_pos c4] at H
 have c4b0:=eq_true c4
 have c4b1 : decide (0 ≤ a0_0) = true:=decide_eq_true c4
 clear c4
 by_cases c5 : (a0_0 : Int).toNat ≤ 17592186044416
 rotate_left
 ·rw [if_neg c5] at H
  exact absurd H (by simp)
 rw [if_pos c5] at H
 have c5b0:=eq_true c5
 have c5b1 : decide ((a0_0 : Int).toNat ≤ 17592186044416) = true:=decide_eq_true c5
 clear c5
 obtain ⟨y219,hy219⟩ : ∃ y_ : List (S79),y_ = (List.replicate (a0_0 : Int).toNat z79):=⟨_,rfl⟩
 replace H : (if (a0_0 : Int).toNat ≤ 281474976710656 then ((some (List.replicate (a0_0 : Int).toNat false : List Bool)).bind fun y222=>(if 0 < (y222.length : Int) then (impl_reach.l0 k l1 l2 y219 (y222.set (0 : Int).toNat true) (([0] : List Int)) 0 a0_0 l0_1) else (none))) else (none)) = some (r1,r2):=by (rw [hy219];with_reducible exact H)
 have Ny219:=am_ hy219
 clear hy219
 by_cases c6 : (a0_0 : Int).toNat ≤ 281474976710656
 rotate_left
 ·rw [if_neg c6] at H
  exact absurd H (by simp)
 rw [if_pos c6] at H
 have c6b0:=eq_true c6
 have c6b1 : decide ((a0_0 : Int).toNat ≤ 281474976710656) = true:=decide_eq_true c6
 clear c6
 obtain ⟨y222,hy222⟩ : ∃ y_ : List Bool,y_ = (List.replicate (a0_0 : Int).toNat false):=⟨_,rfl⟩
 replace H : (if 0 < (y222.length : Int) then (impl_reach.l0 k l1 l2 y219 (y222.set (0 : Int).toNat true) (([0] : List Int)) 0 a0_0 l0_1) else (none)) = some (r1,r2):=by (have H2_:=(Option.bind_some _ _).symm.trans H;rw [hy222];with_reducible exact H2_)
 have Ny222:=am_ hy222
 clear hy222
 by_cases c7 : 0 < (y222.length : Int)
 rotate_left
 ·rw [if_neg c7] at H
  exact absurd H (by simp)
 rw [if_pos c7] at H
 have c7b0 : decide (0 < (y222.length : Int)) = true:=decide_eq_true c7
 have c7b1 : decide (0 < y222.length) = true:=decide_eq_true (by omega)
 clear c7
 obtain ⟨y225,hy225⟩ : ∃ y_ : List Bool,y_ = (y222.set (0 : Int).toNat true):=⟨_,rfl⟩
 replace H : (impl_reach.l0 k l1 l2 y219 y225 (([0] : List Int)) 0 a0_0 l0_1) = some (r1,r2):=by (rw [hy225];with_reducible exact H)
 have Ny225:=am_ hy225
 clear hy225
 obtain ⟨y226,hy226⟩ : ∃ y_ : List Int,y_ = (([0] : List Int)):=⟨_,rfl⟩
 replace H : (impl_reach.l0 k l1 l2 y219 y225 y226 0 a0_0 l0_1) = some (r1,r2):=by (rw [hy226];with_reducible exact H)
 have Ny226:=am_ hy226
 clear hy226
 have H':=am_ H
 clear H
 go_enter Try.func50,Try.ntmps50
 try go_wp2_with (((with_reducible refine gate_dst (N:=3) rfl ?_);refine box_event ?hg (N:=3) ?hd (cs:=#[.int .i64 a0_0,.slice A0_1 l0_1.length c0_1]) (t:=30) ?hr ?_;(case hd=>rfl);(case hg=>rfl);(case hr=>(go_simp;done));intro gb218 hg w9 hbox hb;have n0_:=am_ (below_step HB.out hb);have n1_:=am_ (hbox);have n2_:=am_ ((by rw [hg];exact (below_size HB.out) : w.heap.size ≤ gb218));have n3_:=n2_;clear HB;have HB:=n0_;have BK218:=n1_;have GW218:=n2_;have GE218:=n3_;clear n0_ n1_ n2_ n3_ hb hbox hg))
 have n0_:=am_ (blk_drew BK218.out)
 have n1_:=am_ (below_drew1 HB.out)
 clear BK218
 clear HB
 have BK218:=n0_
 have HB:=n1_
 clear n0_ n1_
 refine start_ (n:=8) (S:=fun w'=>w'.cell? ⟨gb218,0,none⟩ = some (.int .i64 a0_0) ∧ w'.cell? ⟨gb218,1,none⟩ = some (.slice A0_1 l0_1.length c0_1)) (ds:=[]) #[false,false,false,false,false,false,false,false] (by kernel_rfl) rfl rfl ⟨bc_ BK218.out 0,bc_ BK218.out 1⟩ (fun hHeld=>?_);refine with_tabW impl_reach.tab1 impl_reach.bits1 (fun HT_ HW_=>?_)
 generalize w9.drew = w10 at BK218 HB hHeld ⊢
 refine pure_ (i:=0) (N:=some 16) (v:=?_) (a':=?_) #[true,false,false,false,false,false,false,false] rfl rfl (any_of HT_.out (by kernel_rfl)) (fun _ _ _ h=>h) (Or.inl ⟨by rfl,?_⟩) ?_ ?_
 rotate_left
 ·intro w'
  go_simp
  with_reducible rfl
 rotate_left
 ·simp only [Act.put,sb_,sz_,ss_,i64_w,i32_w]
  rfl
 refine pure_ (i:=3) (N:=some 19) (v:=?_) (a':=?_) #[true,false,false,true,false,false,false,false] rfl rfl (any_of HT_.out (by kernel_rfl)) (fun _ _ _ h=>h) (Or.inl ⟨by rfl,?_⟩) ?_ ?_
 rotate_left
 ·intro w'
  go_simp
  with_reducible rfl
 rotate_left
 ·simp only [Act.put,sb_,sz_,ss_,i64_w,i32_w]
  rfl
 refine take_ (i:=1) (N:=some 17) (v:=?_) (a':=?_) #[true,true,false,true,false,false,false,false] rfl rfl (take_ofW HT_.out HW_.out (by kernel_rfl)) (fun _ _ _ h=>h) (Or.inl ⟨by rfl,?_⟩) hHeld ?_ ?_
 rotate_left
 ·rintro w' ⟨s0,s1⟩
  go_simp
  with_reducible rfl
 rotate_left
 ·simp only [Act.put,sb_,sz_,ss_,i64_w,i32_w]
  rfl
 refine take_ (i:=4) (N:=some 20) (v:=?_) (a':=?_) #[true,true,false,true,true,false,false,false] rfl rfl (take_ofW HT_.out HW_.out (by kernel_rfl)) (fun _ _ _ h=>h) (Or.inl ⟨by rfl,?_⟩) hHeld ?_ ?_
 rotate_left
 ·rintro w' ⟨s0,s1⟩
  go_simp
  with_reducible rfl
 rotate_left
 ·simp only [Act.put,sb_,sz_,ss_,i64_w,i32_w]
  rfl
 refine join_ (σ:=Value × Value) 1 fl5_0_ (fun s_=>[(18,s_.1),(21,s_.2),(8,s_.1)]) (fun s_ w'=>(w'.cell? ⟨gb218,0,none⟩ = some (.int .i64 a0_0) ∧ w'.cell? ⟨gb218,1,none⟩ = some (.slice A0_1 l0_1.length c0_1)) ∧ (Kd.R k79 79 w' w.heap.size (fun _=>True) s_.1 y219) ∧ (Kd.R Kd.bool 4 w' w.heap.size (fun _=>True) s_.2 y222) ∧ (w'.heap[gb218]? = some (.cells #[.int .i64 a0_0,.slice A0_1 l0_1.length c0_1] 30 (0,0))) ∧ (Below w.heap.size w w')) ?_ ?_
 rotate_left
 ·intro hCont
  refine two_ (i:=2) (j:=5) (Ni:=some 18) (Nj:=some 21) #[true,true,true,true,true,false,false,false] #[true,true,false,true,true,true,false,false] rfl rfl rfl rfl (two_of HT_.out (by kernel_rfl)) (by decide) (by decide) (fun K hK=>?_) (fun K hK=>?_)
  ·skip
   refine Kd.R_make_step k79 _ 79 (by rfl) (N:=18) rfl 71 _ _ rfl a0_0 rfl rfl Try.underlying71 (.agg #[(.int .i64 0),(.bool false)]) 16 info79 rfl (by decide) (by omega) z79 (ok:=fun _=>True) (okp:=fun _=>True) (k79_mkM _ _ _ z79 ) (fun _ hk=>hk) trivial (od_ (by (with_reducible assumption))) (Nat.le_trans (Nat.mul_le_mul_right _ (od_ (by (with_reducible assumption)) : a0_0.toNat ≤ 17592186044416)) (by omega)) (Below.refl _ _) (Nat.le_refl _) ?_
   intro v220 w11 ho12 hb hg_ hnew_
   clear hg_ hnew_
   (rw [← Ny219.out] at ho12)
   have n0_:=am_ (Kd.R_lower ho12 (below_size HB.out))
   have n1_:=am_ (blk_below BK218.out hb)
   have n2_:=am_ (below_step HB.out hb)
   clear BK218
   clear HB
   have HO221:=n0_
   have BK218:=n1_
   have HB:=n2_
   clear n0_ n1_ n2_
   clear hb ho12
   refine hK.out _ _ ⟨bc_ BK218.out 0,bc_ BK218.out 1⟩ (fun hHeld=>?_)
   clear hK K
   refine norm_ (a':=?_) ?_ ?_
   rotate_left
   ·show Act.put _ (some 18) _ = _
    simp only [Act.put,sb_,sz_,ss_,i64_w,i32_w]
    rfl
   refine pure_ (i:=6) (N:=some 8) (v:=?_) (a':=?_) #[true,true,true,true,true,false,true,false] rfl rfl (any_of HT_.out (by kernel_rfl)) (fun _ _ _ h=>h) (Or.inl ⟨by rfl,?_⟩) ?_ ?_
   rotate_left
   ·intro w'
    go_simp
    with_reducible rfl
   rotate_left
   ·simp only [Act.put,sb_,sz_,ss_,i64_w,i32_w]
    rfl
   refine one_ (i:=5) (N:=some 21) fl5_0_ rfl rfl (one_of HT_.out (by kernel_rfl)) (by decide) (fun K hK=>?_)
   refine Kd.R_make_step Kd.bool _ 4 (by rfl) (N:=21) rfl 38 _ _ rfl a0_0 rfl rfl Try.underlying38 (.bool false) 1 info4 rfl (by decide) (by omega) false (ok:=fun _=>True) (okp:=fun _=>True) rfl (fun _ hk=>hk) trivial (od_ (by (with_reducible assumption))) (Nat.le_trans (Nat.mul_le_mul_right _ (od_ (by (with_reducible assumption)) : a0_0.toNat ≤ 281474976710656)) (by omega)) (Below.refl _ _) (Nat.le_refl _) ?_
   intro v223 w13 ho14 hb hg_ hnew_
   clear hg_ hnew_
   (rw [← Ny222.out] at ho14)
   have n0_:=am_ (Kd.R_below HO221.out hb)
   have n1_:=am_ (Kd.R_lower ho14 (below_size HB.out))
   have n2_:=am_ (blk_below BK218.out hb)
   have n3_:=am_ (below_step HB.out hb)
   clear HO221
   clear BK218
   clear HB
   have HO221:=n0_
   have HO224:=n1_
   have BK218:=n2_
   have HB:=n3_
   clear n0_ n1_ n2_ n3_
   clear hb ho14
   refine hK.out _ _ ⟨bc_ BK218.out 0,bc_ BK218.out 1⟩ (fun hHeld=>?_)
   clear hK K
   refine norm_ (a':=?_) ?_ ?_
   rotate_left
   ·show Act.put _ (some 21) _ = _
    simp only [Act.put,sb_,sz_,ss_,i64_w,i32_w]
    rfl
   exact norm_ (by simp only [putAll,Act.put,sb_,sz_,ss_]) (hCont (v220,v223) _ ⟨hHeld,HO221.out,HO224.out,BK218.out,HB.out⟩)
  ·skip
   refine Kd.R_make_step Kd.bool _ 4 (by rfl) (N:=21) rfl 38 _ _ rfl a0_0 rfl rfl Try.underlying38 (.bool false) 1 info4 rfl (by decide) (by omega) false (ok:=fun _=>True) (okp:=fun _=>True) rfl (fun _ hk=>hk) trivial (od_ (by (with_reducible assumption))) (Nat.le_trans (Nat.mul_le_mul_right _ (od_ (by (with_reducible assumption)) : a0_0.toNat ≤ 281474976710656)) (by omega)) (Below.refl _ _) (Nat.le_refl _) ?_
   intro v223 w11 ho12 hb hg_ hnew_
   clear hg_ hnew_
   (rw [← Ny222.out] at ho12)
   have n0_:=am_ (Kd.R_lower ho12 (below_size HB.out))
   have n1_:=am_ (blk_below BK218.out hb)
   have n2_:=am_ (below_step HB.out hb)
   clear BK218
   clear HB
   have HO224:=n0_
   have BK218:=n1_
   have HB:=n2_
   clear n0_ n1_ n2_
   clear hb ho12
   refine hK.out _ _ ⟨bc_ BK218.out 0,bc_ BK218.out 1⟩ (fun hHeld=>?_)
   clear hK K
   refine norm_ (a':=?_) ?_ ?_
   rotate_left
   ·show Act.put _ (some 21) _ = _
    simp only [Act.put,sb_,sz_,ss_,i64_w,i32_w]
    rfl
   refine one_ (i:=2) (N:=some 18) #[true,true,true,true,true,true,false,false] rfl rfl (one_of HT_.out (by kernel_rfl)) (by decide) (fun K hK=>?_)
   refine Kd.R_make_step k79 _ 79 (by rfl) (N:=18) rfl 71 _ _ rfl a0_0 rfl rfl Try.underlying71 (.agg #[(.int .i64 0),(.bool false)]) 16 info79 rfl (by decide) (by omega) z79 (ok:=fun _=>True) (okp:=fun _=>True) (k79_mkM _ _ _ z79 ) (fun _ hk=>hk) trivial (od_ (by (with_reducible assumption))) (Nat.le_trans (Nat.mul_le_mul_right _ (od_ (by (with_reducible assumption)) : a0_0.toNat ≤ 17592186044416)) (by omega)) (Below.refl _ _) (Nat.le_refl _) ?_
   intro v220 w13 ho14 hb hg_ hnew_
   clear hg_ hnew_
   (rw [← Ny219.out] at ho14)
   have n0_:=am_ (Kd.R_below HO224.out hb)
   have n1_:=am_ (Kd.R_lower ho14 (below_size HB.out))
   have n2_:=am_ (blk_below BK218.out hb)
   have n3_:=am_ (below_step HB.out hb)
   clear HO224
   clear BK218
   clear HB
   have HO224:=n0_
   have HO221:=n1_
   have BK218:=n2_
   have HB:=n3_
   clear n0_ n1_ n2_ n3_
   clear hb ho14
   refine hK.out _ _ ⟨bc_ BK218.out 0,bc_ BK218.out 1⟩ (fun hHeld=>?_)
   clear hK K
   refine norm_ (a':=?_) ?_ ?_
   rotate_left
   ·show Act.put _ (some 18) _ = _
    simp only [Act.put,sb_,sz_,ss_,i64_w,i32_w]
    rfl
   refine pure_ (i:=6) (N:=some 8) (v:=?_) (a':=?_) fl5_0_ rfl rfl (any_of HT_.out (by kernel_rfl)) (fun _ _ _ h=>h) (Or.inl ⟨by rfl,?_⟩) ?_ ?_
   rotate_left
   ·intro w'
    go_simp
    with_reducible rfl
   rotate_left
   ·simp only [Act.put,sb_,sz_,ss_,i64_w,i32_w]
    rfl
   exact norm_ (by simp only [putAll,Act.put,sb_,sz_,ss_]) (hCont (v220,v223) _ ⟨hHeld,HO221.out,HO224.out,BK218.out,HB.out⟩)
 rintro ⟨v220,v223⟩ w15 ⟨hS_,h0_,h1_,h2_,h3_⟩
 have n0_ : Aside0 (Kd.R k79 79 w15 w.heap.size (fun _=>True) v220 y219):=⟨h0_⟩
 have n1_ : Aside0 (Kd.R Kd.bool 4 w15 w.heap.size (fun _=>True) v223 y222):=⟨h1_⟩
 have n2_ : Aside0 (w15.heap[gb218]? = some (.cells #[.int .i64 a0_0,.slice A0_1 l0_1.length c0_1] 30 (0,0))):=⟨h2_⟩
 have n3_ : Aside0 (Below w.heap.size w w15):=⟨h3_⟩
 clear BK218
 clear HB
 clear h0_ h1_ h2_ h3_
 have HO221:=n0_
 have HO224:=n1_
 have BK218:=n2_
 have HB:=n3_
 clear n0_ n1_ n2_ n3_
 have hHeld : w15.cell? ⟨gb218,0,none⟩ = some (.int .i64 a0_0) ∧ w15.cell? ⟨gb218,1,none⟩ = some (.slice A0_1 l0_1.length c0_1):=hS_
 refine norm_ (a':=?_) ?_ ?_
 rotate_left
 ·simp only [putAll,Act.put,sb_,sz_,ss_]
  rfl
 refine pure_ (i:=7) (N:=some 9) (v:=?_) (a':=?_) #[true,true,true,true,true,true,true,true] rfl rfl (any_of HT_.out (by kernel_rfl)) (fun _ _ _ h=>h) (Or.inl ⟨by rfl,?_⟩) ?_ ?_
 rotate_left
 ·intro w'
  go_simp
  with_reducible rfl
 rotate_left
 ·simp only [Act.put,sb_,sz_,ss_,i64_w,i32_w]
  rfl
 refine done_ (done_of HT_.out (by kernel_rfl)) ?_
 have p8 : 0 ≤ (0 : Int):=(by omega)
 have q8 : (0 : Int) < ((y222.length : Int) : Int):=od_ (by (with_reducible assumption))
 have qi8 : (0 < y222.length) = True:=eq_true (by omega)
 obtain ⟨go8,co8,eo8,gb8,gl8,cl8,HG8⟩:=Kd.R_form HO224.out (by omega)
 (cases eo8)
 have GB8:=am_ gb8
 have GG8:=am_ HG8
 clear gb8 gl8 HG8
 obtain ⟨hx8_0,hf8_0⟩:=Kd.R_celln false HO224.out (0 : Int) p8 q8
 (try rw [show ((0 : Int)).toNat = 0 from rfl] at hx8_0)
 (skip)
 (try rw [show ((0 : Int)).toNat = 0 from rfl] at hf8_0)
 (skip)
 replace p8:=eq_true p8
 replace q8:=eq_true q8
 obtain ⟨hy16_,hz16_⟩:=Kd.R_celln false HO224.out (0 : Int) (by omega) (od_ (by (with_reducible assumption)))
 (skip)
 (try rw [show ((0 : Int)).toNat = 0 from rfl] at hy16_)
 (try rw [show ((0 : Int)).toNat = 0 from rfl] at hz16_)
 have HP16:=Kd.R_putg HO224.out (0 : Int) true
 try go_wp2_with (first|((with_reducible refine gate_store (t:=4) (p:=23) rfl ?_);refine store_event (t:=4) (p:=23) (v:=?vo_w17) (w1:=(w15.setCell ⟨go8,(0 : Int).toNat,none⟩ (.bool true))) ?hg ?ho ?hn ?hr ?_;(case ho=>rfl);(case hg=>rfl);(case hn=>rfl);(case hr=>(go_simp;done));intro w17 hw;have hg : w15.grownBy w17 (some go8):=(by rw [hw];exact HP16.2);have hp_ : Kd.R Kd.bool 4 w17 w.heap.size (fun _=>True) (.slice (some ⟨go8,0,none⟩) y222.length co8) y225:=(by rw [hw,Ny225.out];exact HP16.1);clear HP16;have n0_:=am_ (blk_grown (g:=gb218) (o:=.cells #[.int .i64 a0_0,.slice A0_1 l0_1.length c0_1] 30 (0,0)) BK218.out hg (Kd.R_ne HO224.out BK218.out (by decide)));have n1_:=am_ (Kd.R_over' (v:=(.slice (some ⟨go8,0,none⟩) y222.length co8)) HO221.out (Kd.R_typed HO224.out) (by decide) hg);have n2_:=am_ (hp_);have n3_:=am_ ((by rw [hw];exact below_set (HB.out) GB8.out : Below w.heap.size w w17));clear BK218 HO221 HO224 HB;have BK218:=n0_;have HO221:=n1_;have HO224:=n2_;have HB:=n3_;clear n0_ n1_ n2_ n3_ hg hw hp_)|((with_reducible refine gate_dst (N:=24) rfl ?_);refine Kd.R_lit (Kd.int .i64) _ 3 ?hg (N:=24) ?hd (xs:=([0] : List Int)) (inner:=[.int .i64 0]) (ok:=fun _=>True) (okp:=fun _=>True) ?hr ?hp (fun _ hk=>hk) trivial (Below.refl _ _) (Nat.le_refl _) (by simp) ?_;(case hd=>rfl);(case hg=>rfl);(case hr=>(go_simp;done));(case hp=>exact (Reps.one (show Kd.M (Kd.int .i64) _ _ _ 0 [.int .i64 0] from rfl) (Reps.none _ _)));intro v227 w18 ho19 hb hg_ hnew_;clear hg_ hnew_;(rw [← Ny226.out] at ho19);have n0_:=am_ (Kd.R_below HO221.out hb);have n1_:=am_ (Kd.R_below HO224.out hb);have n2_:=am_ (Kd.R_lower ho19 (below_size HB.out));have n3_:=am_ (blk_below BK218.out hb);have n4_:=am_ (below_step HB.out hb);clear HO221 HO224 BK218 HB;have HO221:=n0_;have HO224:=n1_;have HO228:=n2_;have BK218:=n3_;have HB:=n4_;clear n0_ n1_ n2_ n3_ n4_ hb ho19))
 go_loopg [10,11] k (fun kq v10 v11 w'=>∃ (x8_1 : List (S79)) (x9_1 : List Bool) (x10_1 : List Int) (x11_1 : Int),v11 = .int .i64 x11_1 ∧ Aside0 (impl_reach.l0 kq l1 l2 x8_1 x9_1 x10_1 x11_1 a0_0 l0_1 = some (r1,r2)) ∧ Aside0 (kq ≤ k) ∧ Aside0 (Kd.R k79 79 w' w.heap.size (fun _=>True) v220 x8_1) ∧ Aside0 (Kd.R Kd.bool 4 w' w.heap.size (fun _=>True) (.slice (some ⟨go8,0,none⟩) y222.length co8) x9_1) ∧ Aside0 (Kd.R (Kd.int .i64) 3 w' w.heap.size (fun _=>True) v10 x10_1) ∧ Aside0 (w'.heap[gb218]? = some (.cells #[.int .i64 a0_0,(.slice A0_1 l0_1.length c0_1)] 30 (0,0))) ∧ Aside0 (Below w.heap.size w w'))
 case atStart=>exact ⟨(y219),(y225),(y226),(0),(by rfl),H',⟨Nat.le_refl _⟩,⟨by exact HO221.out⟩,⟨by exact HO224.out⟩,⟨by exact HO228.out⟩,⟨by exact BK218.out⟩,⟨by exact HB.out⟩⟩
 case round =>
  clear H'
  try clear c1
  try clear c2
  try clear p2
  try clear c4
  try clear c4b0
  try clear c4b1
  try clear c5
  try clear c5b0
  try clear c5b1
  try clear c6
  try clear c6b0
  try clear c6b1
  try clear c7
  try clear c7b0
  try clear c7b1
  try clear p8
  try clear q8
  try clear hx8
  try clear qi8
  try clear hf8
  try clear hx8_0
  try clear p8
  try clear q8
  obtain ⟨x8_1,x9_1,x10_1,x11_1,rfl,HA,HK1,HO_8,HO_9,HO_10,BK218,HB⟩:=hrel
  have hl9_1:=(Kd.R_reads' HO_9.out).1
  rw [hl9_1] at HO_9
  (try simp only [hl9_1])
  (skip)
  (skip)
  (skip)
  cases gk with
  | zero => exact absurd HA.out (by simp [impl_reach.l0])
  | succ k1 =>
   have H:=HA.out
   clear HA
   simp only [impl_reach.l0] at H
   by_cases c20 : x11_1 < (x10_1.length : Int)
   rotate_left
   ·rw [if_neg c20] at H
    have c20b0 : decide (x11_1 < (x10_1.length : Int)) = false:=decide_eq_false c20
    clear c20
    simp only [Option.some.injEq,Prod.mk.injEq] at H
    obtain ⟨rfl,rfl⟩:=H
    obtain ⟨Ao66,co66,eo66⟩:=Kd.R_slice HO_10.out
    subst eo66
    go_wp2
    go_ret2
    exact ⟨_,_,by rfl,by exact HO_8.out,by exact HO_9.out,by exact HB.out⟩
   rw [if_pos c20] at H
   have c20b0 : decide (x11_1 < (x10_1.length : Int)) = true:=decide_eq_true c20
   clear c20
   by_cases c21 : 0 ≤ x11_1
   rotate_left
   ·rw [if_neg c21] at H
    exact absurd H (by simp)
   rw [if_pos c21] at H
   have c21b0 : decide (0 ≤ x11_1) = true:=decide_eq_true c21
   clear c21
   by_cases c22 : 0 ≤ (rd x10_1 x11_1)
   rotate_left
   ·rw [if_neg c22] at H
    exact absurd H (by simp)
   rw [if_pos c22] at H
   have c22b0 : decide (0 ≤ (rd x10_1 x11_1)) = true:=decide_eq_true c22
   clear c22
   by_cases c23 : (rd x10_1 x11_1) < (l1.length : Int)
   rotate_left
   ·rw [if_neg c23] at H
    exact absurd H (by simp)
   rw [if_pos c23] at H
   have c23b0 : decide ((rd x10_1 x11_1) < (l1.length : Int)) = true:=decide_eq_true c23
   clear c23
   have H':=am_ H
   clear H
   obtain ⟨Ao24,co24,eo24⟩:=Kd.R_slice HO_10.out
   subst eo24
   have p229 : 0 ≤ (x11_1 : Int):=od_ (by (with_reducible assumption))
   have q229 : x11_1 < (x10_1.length : Int):=od_ (by (with_reducible assumption))
   obtain ⟨ad229,e229,hx229_0⟩:=Kd.at_int (Kd.R_reads' HO_10.out).2.2 x11_1 p229 q229
   cases e229
   replace p229:=eq_true p229
   replace q229:=eq_true q229
   have p230 : 0 ≤ ((rd x10_1 x11_1) : Int):=od_ (by (with_reducible assumption))
   have q230 : (rd x10_1 x11_1) < (l1.length : Int):=od_ (by (with_reducible assumption))
   obtain ⟨ad230,A230_0,c230_0,e230,hx230_0,hl230_0,hi230_0⟩:=at_L4 HR1.out (rd x10_1 x11_1) p230 q230
   cases e230
   replace hx230_0:=kc_ HB.out hx230_0
   have HR230_0:=am_ hi230_0
   have HC230_0:=am_ hl230_0
   clear hi230_0 hl230_0
   replace p230:=eq_true p230
   replace q230:=eq_true q230
   go_wp2
   go_loopg [10,39] k1 (fun kq v10 v39 w'=>∃ (x8_2 : List (S79)) (x9_2 : List Bool) (x10_2 : List Int) (x39_2 : Int),v39 = .int .i64 x39_2 ∧ Aside0 (impl_reach.l1 kq l1 l2 x8_2 x9_2 x10_2 x11_1 (rd_L4 l1 (rd x10_1 x11_1)) ((rd_L4 l1 (rd x10_1 x11_1)).length : Int) x39_2 a0_0 l0_1 = some (r1,r2)) ∧ Aside0 (kq ≤ k1) ∧ Aside0 (Kd.R k79 79 w' w.heap.size (fun _=>True) v220 x8_2) ∧ Aside0 (Kd.R Kd.bool 4 w' w.heap.size (fun _=>True) (.slice (some ⟨go8,0,none⟩) x9_1.length co8) x9_2) ∧ Aside0 (Kd.R (Kd.int .i64) 3 w' w.heap.size (fun _=>True) v10 x10_2) ∧ Aside0 (w'.heap[gb218]? = some (.cells #[.int .i64 a0_0,(.slice A0_1 l0_1.length c0_1)] 30 (0,0))) ∧ Aside0 (Below w.heap.size w w'))
   case atStart=>exact ⟨(x8_1),(x9_1),(x10_1),(0),(by rfl),H',⟨Nat.le_refl _⟩,⟨by exact HO_8.out⟩,⟨by exact HO_9.out⟩,⟨by exact HO_10.out⟩,⟨by exact BK218.out⟩,⟨by exact HB.out⟩⟩
   case round =>
    clear H'
    try clear c1
    try clear c2
    try clear p2
    try clear q2
    try clear hx2
    try clear c4
    try clear c4b0
    try clear c4b1
    try clear c5
    try clear c5b0
    try clear c5b1
    try clear c6
    try clear c6b0
    try clear c6b1
    try clear c7
    try clear c7b0
    try clear c7b1
    try clear p8
    try clear q8
    try clear hx8
    try clear qi8
    try clear hf8
    try clear c20
    try clear c20b0
    try clear c21
    try clear c21b0
    try clear c22
    try clear c22b0
    try clear p22
    try clear q22
    try clear hx22
    try clear c23
    try clear c23b0
    try clear p23
    try clear q23
    try clear hx23
    try clear hx229_0
    try clear hx230_0
    try clear hx8_0
    try clear p2
    try clear p229
    try clear p230
    try clear p8
    try clear q229
    try clear q230
    try clear q8
    obtain ⟨x8_2,x9_2,x10_2,x39_2,rfl,HA,HK2,HO_8,HO_9,HO_10,BK218,HB⟩:=hrel
    have hl9_2:=(Kd.R_reads' HO_9.out).1
    rw [hl9_2] at HO_9
    (try simp only [hl9_2])
    (skip)
    (skip)
    (skip)
    cases gk with
    | zero => exact absurd HA.out (by simp [impl_reach.l1])
    | succ k2 =>
     have H:=HA.out
     clear HA
     simp only [impl_reach.l1] at H
     by_cases c25 : x39_2 < ((rd_L4 l1 (rd x10_1 x11_1)).length : Int)
     rotate_left
     ·rw [if_neg c25] at H
      have c25b0 : decide (x39_2 < ((rd_L4 l1 (rd x10_1 x11_1)).length : Int)) = false:=decide_eq_false c25
      clear c25
      have H':=am_ H
      clear H
      go_wp2
      (try simp only [← hl9_1,← hl9_2])
      go_roundg k2
      case measure=>have:=HK1.out;have:=HK2.out;omega
      case rel=>exact ⟨(x8_2),(x9_2),(x10_2),(wrap64 (x11_1 + 1)),(by rfl),H',⟨by have:=HK1.out;have:=HK2.out;omega⟩,⟨by exact HO_8.out⟩,⟨by (try simp only [hl9_1]);(try simp only [hl9_2]);exact HO_9.out⟩,⟨by exact HO_10.out⟩,⟨by exact BK218.out⟩,⟨by exact HB.out⟩⟩
     rw [if_pos c25] at H
     have c25b0 : decide (x39_2 < ((rd_L4 l1 (rd x10_1 x11_1)).length : Int)) = true:=decide_eq_true c25
     clear c25
     by_cases c26 : 0 ≤ x39_2
     rotate_left
     ·rw [if_neg c26] at H
      exact absurd H (by simp)
     rw [if_pos c26] at H
     have c26b0 : decide (0 ≤ x39_2) = true:=decide_eq_true c26
     clear c26
     by_cases c27 : x39_2 < ((rd_L4 l1 (rd x10_1 x11_1)).length : Int)
     rotate_left
     ·rw [if_neg c27] at H
      exact absurd H (by simp)
     rw [if_pos c27] at H
     have c27b0 : decide (x39_2 < ((rd_L4 l1 (rd x10_1 x11_1)).length : Int)) = true:=decide_eq_true c27
     clear c27
     replace H:=bs_ H
     obtain ⟨⟨t233,t234⟩,A280,H⟩:=H
     replace H : (if 0 ≤ t234 then (if t234 < (x9_2.length : Int) then (if rdOf false x9_2 t234 = true then (impl_reach.l1 k2 l1 l2 x8_2 x9_2 x10_2 x11_1 (rd_L4 l1 (rd x10_1 x11_1)) ((rd_L4 l1 (rd x10_1 x11_1)).length : Int) (wrap64 (x39_2 + 1)) a0_0 l0_1) else ((impl_step_room.f ((rd_T79 (rd_L4 l1 (rd x10_1 x11_1)) x39_2).f0) ((rd_T79 (rd_L4 l1 (rd x10_1 x11_1)) x39_2).f1) a0_0 l0_1 l2).bind fun t236=>(if t236 > 0 then (if t234 < (x8_2.length : Int) then (if x10_2.length < 17592186044416 then (impl_reach.l1 k2 l1 l2 (x8_2.set (t234 : Int).toNat (⟨(rd_T79 (rd_L4 l1 (rd x10_1 x11_1)) x39_2).f0,(rd_T79 (rd_L4 l1 (rd x10_1 x11_1)) x39_2).f1⟩ : S79)) (x9_2.set (t234 : Int).toNat true) (x10_2 ++ [t234]) x11_1 (rd_L4 l1 (rd x10_1 x11_1)) ((rd_L4 l1 (rd x10_1 x11_1)).length : Int) (wrap64 (x39_2 + 1)) a0_0 l0_1) else (none)) else (none)) else (impl_reach.l1 k2 l1 l2 x8_2 x9_2 x10_2 x11_1 (rd_L4 l1 (rd x10_1 x11_1)) ((rd_L4 l1 (rd x10_1 x11_1)).length : Int) (wrap64 (x39_2 + 1)) a0_0 l0_1)))) else (none)) else (none)) = some (r1,r2):=H
     have A28:=am_ A280
     clear A280
     by_cases c29 : 0 ≤ t234
     rotate_left
     ·rw [if_neg c29] at H
      exact absurd H (by simp)
     rw [if_pos c29] at H
     have c29b0 : decide (0 ≤ t234) = true:=decide_eq_true c29
     clear c29
     by_cases c30 : t234 < (x9_2.length : Int)
     rotate_left
     ·rw [if_neg c30] at H
      exact absurd H (by simp)
     rw [if_pos c30] at H
     have c30b0 : decide (t234 < (x9_2.length : Int)) = true:=decide_eq_true c30
     clear c30
     obtain ⟨bq31,hbq31⟩ : ∃ b_ : Bool,b_ = (rdOf false x9_2 t234):=⟨_,rfl⟩
     replace H : (if bq31 = true then (impl_reach.l1 k2 l1 l2 x8_2 x9_2 x10_2 x11_1 (rd_L4 l1 (rd x10_1 x11_1)) ((rd_L4 l1 (rd x10_1 x11_1)).length : Int) (wrap64 (x39_2 + 1)) a0_0 l0_1) else ((impl_step_room.f ((rd_T79 (rd_L4 l1 (rd x10_1 x11_1)) x39_2).f0) ((rd_T79 (rd_L4 l1 (rd x10_1 x11_1)) x39_2).f1) a0_0 l0_1 l2).bind fun t236=>(if t236 > 0 then (if t234 < (x8_2.length : Int) then (if x10_2.length < 17592186044416 then (impl_reach.l1 k2 l1 l2 (x8_2.set (t234 : Int).toNat (⟨(rd_T79 (rd_L4 l1 (rd x10_1 x11_1)) x39_2).f0,(rd_T79 (rd_L4 l1 (rd x10_1 x11_1)) x39_2).f1⟩ : S79)) (x9_2.set (t234 : Int).toNat true) (x10_2 ++ [t234]) x11_1 (rd_L4 l1 (rd x10_1 x11_1)) ((rd_L4 l1 (rd x10_1 x11_1)).length : Int) (wrap64 (x39_2 + 1)) a0_0 l0_1) else (none)) else (none)) else (impl_reach.l1 k2 l1 l2 x8_2 x9_2 x10_2 x11_1 (rd_L4 l1 (rd x10_1 x11_1)) ((rd_L4 l1 (rd x10_1 x11_1)).length : Int) (wrap64 (x39_2 + 1)) a0_0 l0_1)))) = some (r1,r2):=by rw [← hbq31] at H;exact H
     have Nbq31:=am_ hbq31
     clear hbq31
     by_cases c32 : bq31 = true
     ·subst c32
      have H1 : (impl_reach.l1 k2 l1 l2 x8_2 x9_2 x10_2 x11_1 (rd_L4 l1 (rd x10_1 x11_1)) ((rd_L4 l1 (rd x10_1 x11_1)).length : Int) (wrap64 (x39_2 + 1)) a0_0 l0_1) = some (r1,r2):=by rw [if_pos rfl] at H;exact H
      clear H
      have H:=H1
      clear H1
      have H':=am_ H
      clear H
      have p231 : 0 ≤ (x39_2 : Int):=od_ (by (with_reducible assumption))
      have q231 : x39_2 < ((rd_L4 l1 (rd x10_1 x11_1)).length : Int):=od_ (by (with_reducible assumption))
      obtain ⟨ad231,e231,hx231_0,hx231_1⟩:=at_T79 HR230_0.out x39_2 p231 q231
      (skip)
      cases e231
      replace hx231_0:=kc_ HB.out hx231_0
      replace hx231_1:=kc_ HB.out hx231_1
      replace p231:=eq_true p231
      replace q231:=eq_true q231
      go_wp2_with (first|((with_reducible refine gate_dst (N:=13) rfl ?_);refine box_event ?hg (N:=13) ?hd (cs:=#[.int .i64 0,.bool false]) (t:=79) ?hr ?_;(case hd=>rfl);(case hg=>rfl);(case hr=>(go_simp;done));intro gb232 hg w33 hbox hb;have n0_:=am_ (Kd.R_below (Kd.R_elderB HO_8.out gb232 (Nat.le_of_eq hg.symm)) hb);have n1_:=am_ (Kd.R_below HO_9.out hb);have n2_:=am_ (Kd.R_below HO_10.out hb);have n3_:=am_ (blk_below BK218.out hb);have n4_:=am_ (below_step HB.out hb);have n5_:=am_ (hbox);have n6_:=am_ ((by rw [hg];exact (below_size HB.out) : w.heap.size ≤ gb232));have n7_:=n6_;have n8_:=am_ ((by rw [hg];exact Nat.ne_of_lt (blk_lt (g:=gb218) (o:=.cells #[.int .i64 a0_0,.slice A0_1 l0_1.length c0_1] 30 (0,0)) BK218.out) : gb218 ≠ gb232));have n9_:=am_ ((by rw [hg];exact Nat.ne_of_gt (blk_lt (g:=gb218) (o:=.cells #[.int .i64 a0_0,.slice A0_1 l0_1.length c0_1] 30 (0,0)) BK218.out) : gb232 ≠ gb218));clear HO_8 HO_9 HO_10 BK218 HB;have HO_8:=n0_;have HO_9:=n1_;have HO_10:=n2_;have BK218:=n3_;have HB:=n4_;have BK232:=n5_;have GW232:=n6_;have GE232:=n7_;have NB218_232:=n8_;have NB232_218:=n9_;clear n0_ n1_ n2_ n3_ n4_ n5_ n6_ n7_ n8_ n9_ hb hbox hg;have hnb34:=NB232_218.out;have hnc34:=NB218_232.out;have hcz35_0 : w33.cell? ⟨gb232,0,none⟩ = some (.int .i64 0):=bc_ BK232.out 0;have hcz35_1 : w33.cell? ⟨gb232,1,none⟩ = some (.bool false):=bc_ BK232.out 1;have hfz35_0:=blk_frozen BK232.out 0;have hfz35_1:=blk_frozen BK232.out 1;have hcz36_0 : w33.cell? ⟨gb218,0,none⟩ = some (.int .i64 a0_0):=bc_ BK218.out 0;have hcz36_1 : w33.cell? ⟨gb218,1,none⟩ = some (.slice A0_1 l0_1.length c0_1):=bc_ BK218.out 1;have hfz36_0:=blk_frozen BK218.out 0;have hfz36_1:=blk_frozen BK218.out 1)|((with_reducible refine gate_callee (f:=55) rfl ?_);refine goesL_ (some 46) rfl rfl Try.func55 (by kernel_rfl) rfl #[.agg #[.int .i64 ((rd_T79 (rd_L4 l1 (rd x10_1 x11_1)) x39_2).f0),.bool ((rd_T79 (rd_L4 l1 (rd x10_1 x11_1)) x39_2).f1)],.agg #[.int .i64 a0_0,.slice A0_1 l0_1.length c0_1]] rfl (by (try simp only [List.map_toArray,List.map_cons,List.map_nil]);rfl) ?_;(with_reducible refine (impl_step_ends.calls ((rd_T79 (rd_L4 l1 (rd x10_1 x11_1)) x39_2).f0) ((rd_T79 (rd_L4 l1 (rd x10_1 x11_1)) x39_2).f1) a0_0 _ _ l0_1 t233 t234 _ ?side1 ?side2 A28.out).mono ?_);(case side1=>exact Kd.C_below HR0_1.out (by repeat ((with_reducible first|exact HB.out|refine below_set ?_ GE232.out))));(case side2=>exact HC0_1.out);rintro e w37 ⟨rfl,hb⟩;refine ⟨_,rfl,?_⟩;have n0_:=am_ (Kd.R_below (by exact (Kd.R_mono (Kd.R_far (p:=⟨gb232,1,none⟩) (Kd.R_far (p:=⟨gb232,0,none⟩) (Kd.R_mono HO_8.out (fun k_ hk=>(⟨hk,hk.2⟩ : _ ∧ k_ ≠ gb232))) (fun _ hk=>hk.2) (.int .i64 ((rd_T79 (rd_L4 l1 (rd x10_1 x11_1)) x39_2).f0))) (fun _ hk=>hk.2) (.bool ((rd_T79 (rd_L4 l1 (rd x10_1 x11_1)) x39_2).f1))) (fun _ h_=>h_.1))) hb);have n1_:=am_ (Kd.R_below (by exact (Kd.R_mono (Kd.R_far (p:=⟨gb232,1,none⟩) (Kd.R_far (p:=⟨gb232,0,none⟩) (Kd.R_types HO_9.out BK232.out (by decide)) (fun _ hk=>hk.2) (.int .i64 ((rd_T79 (rd_L4 l1 (rd x10_1 x11_1)) x39_2).f0))) (fun _ hk=>hk.2) (.bool ((rd_T79 (rd_L4 l1 (rd x10_1 x11_1)) x39_2).f1))) (fun _ h_=>h_.1))) hb);have n2_:=am_ (Kd.R_below (by exact (Kd.R_mono (Kd.R_far (p:=⟨gb232,1,none⟩) (Kd.R_far (p:=⟨gb232,0,none⟩) (Kd.R_types HO_10.out BK232.out (by decide)) (fun _ hk=>hk.2) (.int .i64 ((rd_T79 (rd_L4 l1 (rd x10_1 x11_1)) x39_2).f0))) (fun _ hk=>hk.2) (.bool ((rd_T79 (rd_L4 l1 (rd x10_1 x11_1)) x39_2).f1))) (fun _ h_=>h_.1))) hb);have n3_:=am_ (blk_below (g:=gb218) (o:=.cells #[.int .i64 a0_0,.slice A0_1 l0_1.length c0_1] 30 (0,0)) (by refine blk_far ?_ NB218_232.out _;refine blk_far ?_ NB218_232.out _;exact BK218.out) hb);have n4_:=am_ (blk_below (g:=gb232) (o:=.cells #[.int .i64 ((rd_T79 (rd_L4 l1 (rd x10_1 x11_1)) x39_2).f0),.bool ((rd_T79 (rd_L4 l1 (rd x10_1 x11_1)) x39_2).f1)] 79 (0,0)) (by refine blk_put (cs:=#[.int .i64 ((rd_T79 (rd_L4 l1 (rd x10_1 x11_1)) x39_2).f0),.bool false]) ?_ 1 _ rfl;refine blk_put (cs:=#[.int .i64 0,.bool false]) ?_ 0 _ rfl;exact BK232.out) hb);have n5_:=am_ (below_step (by repeat ((with_reducible first|exact HB.out|refine below_set ?_ GE232.out))) hb);clear HO_8 HO_9 HO_10 BK218 BK232 HB;have HO_8:=n0_;have HO_9:=n1_;have HO_10:=n2_;have BK218:=n3_;have BK232:=n4_;have HB:=n5_;clear n0_ n1_ n2_ n3_ n4_ n5_;(try clear hb);have p235 : 0 ≤ (t234 : Int):=od_ (by (with_reducible assumption));have q235 : t234 < (x9_2.length : Int):=od_ (by (with_reducible assumption));obtain ⟨ad235,e235,hx235_0⟩:=Kd.at_bool (Kd.R_reads' HO_9.out).2.2 t234 p235 q235;(try rw [← Nbq31.out] at hx235_0);obtain rfl : (⟨go8,0,none⟩ : Addr) = ad235:=(by injection e235);(simp only [add_plain] at hx235_0);replace p235:=eq_true p235;replace q235:=eq_true q235))
      (try simp only [← hl9_2])
      go_roundg k2
      case measure=>have:=HK1.out;have:=HK2.out;omega
      case rel=>exact ⟨(x8_2),(x9_2),(x10_2),(wrap64 (x39_2 + 1)),(by rfl),H',⟨by have:=HK1.out;have:=HK2.out;omega⟩,⟨by exact Kd.R_mono HO_8.out (fun _ hk=>trivial)⟩,⟨by (try simp only [hl9_2]);exact HO_9.out⟩,⟨by exact HO_10.out⟩,⟨by exact BK218.out⟩,⟨by exact HB.out⟩⟩
     replace c32:=Bool.eq_false_iff.mpr c32
     subst c32
     have H1 : ((impl_step_room.f ((rd_T79 (rd_L4 l1 (rd x10_1 x11_1)) x39_2).f0) ((rd_T79 (rd_L4 l1 (rd x10_1 x11_1)) x39_2).f1) a0_0 l0_1 l2).bind fun t236=>(if t236 > 0 then (if t234 < (x8_2.length : Int) then (if x10_2.length < 17592186044416 then (impl_reach.l1 k2 l1 l2 (x8_2.set (t234 : Int).toNat (⟨(rd_T79 (rd_L4 l1 (rd x10_1 x11_1)) x39_2).f0,(rd_T79 (rd_L4 l1 (rd x10_1 x11_1)) x39_2).f1⟩ : S79)) (x9_2.set (t234 : Int).toNat true) (x10_2 ++ [t234]) x11_1 (rd_L4 l1 (rd x10_1 x11_1)) ((rd_L4 l1 (rd x10_1 x11_1)).length : Int) (wrap64 (x39_2 + 1)) a0_0 l0_1) else (none)) else (none)) else (impl_reach.l1 k2 l1 l2 x8_2 x9_2 x10_2 x11_1 (rd_L4 l1 (rd x10_1 x11_1)) ((rd_L4 l1 (rd x10_1 x11_1)).length : Int) (wrap64 (x39_2 + 1)) a0_0 l0_1))) = some (r1,r2):=by rw [if_neg (show ¬ (false = true) by decide)] at H;exact H
     clear H
     have H:=H1
     clear H1
     replace H:=bs_ H
     obtain ⟨t236,A380,H⟩:=H
     replace H : (if t236 > 0 then (if t234 < (x8_2.length : Int) then (if x10_2.length < 17592186044416 then (impl_reach.l1 k2 l1 l2 (x8_2.set (t234 : Int).toNat (⟨(rd_T79 (rd_L4 l1 (rd x10_1 x11_1)) x39_2).f0,(rd_T79 (rd_L4 l1 (rd x10_1 x11_1)) x39_2).f1⟩ : S79)) (x9_2.set (t234 : Int).toNat true) (x10_2 ++ [t234]) x11_1 (rd_L4 l1 (rd x10_1 x11_1)) ((rd_L4 l1 (rd x10_1 x11_1)).length : Int) (wrap64 (x39_2 + 1)) a0_0 l0_1) else (none)) else (none)) else (impl_reach.l1 k2 l1 l2 x8_2 x9_2 x10_2 x11_1 (rd_L4 l1 (rd x10_1 x11_1)) ((rd_L4 l1 (rd x10_1 x11_1)).length : Int) (wrap64 (x39_2 + 1)) a0_0 l0_1)) = some (r1,r2):=H
     have A38:=am_ A380
     clear A380
     by_cases c39 : t236 > 0
     rotate_left
     ·rw [if_neg c39] at H
      have c39b0 : decide (0 < t236) = false:=decide_eq_false c39
      clear c39
      have H':=am_ H
      clear H
      have p231 : 0 ≤ (x39_2 : Int):=od_ (by (with_reducible assumption))
      have q231 : x39_2 < ((rd_L4 l1 (rd x10_1 x11_1)).length : Int):=od_ (by (with_reducible assumption))
      obtain ⟨ad231,e231,hx231_0,hx231_1⟩:=at_T79 HR230_0.out x39_2 p231 q231
      (skip)
      cases e231
      replace hx231_0:=kc_ HB.out hx231_0
      replace hx231_1:=kc_ HB.out hx231_1
      replace p231:=eq_true p231
      replace q231:=eq_true q231
      go_wp2_with (first|((with_reducible refine gate_dst (N:=13) rfl ?_);refine box_event ?hg (N:=13) ?hd (cs:=#[.int .i64 0,.bool false]) (t:=79) ?hr ?_;(case hd=>rfl);(case hg=>rfl);(case hr=>(go_simp;done));intro gb232 hg w58 hbox hb;have n0_:=am_ (Kd.R_below (Kd.R_elderB HO_8.out gb232 (Nat.le_of_eq hg.symm)) hb);have n1_:=am_ (Kd.R_below HO_9.out hb);have n2_:=am_ (Kd.R_below HO_10.out hb);have n3_:=am_ (blk_below BK218.out hb);have n4_:=am_ (below_step HB.out hb);have n5_:=am_ (hbox);have n6_:=am_ ((by rw [hg];exact (below_size HB.out) : w.heap.size ≤ gb232));have n7_:=n6_;have n8_:=am_ ((by rw [hg];exact Nat.ne_of_lt (blk_lt (g:=gb218) (o:=.cells #[.int .i64 a0_0,.slice A0_1 l0_1.length c0_1] 30 (0,0)) BK218.out) : gb218 ≠ gb232));have n9_:=am_ ((by rw [hg];exact Nat.ne_of_gt (blk_lt (g:=gb218) (o:=.cells #[.int .i64 a0_0,.slice A0_1 l0_1.length c0_1] 30 (0,0)) BK218.out) : gb232 ≠ gb218));clear HO_8 HO_9 HO_10 BK218 HB;have HO_8:=n0_;have HO_9:=n1_;have HO_10:=n2_;have BK218:=n3_;have HB:=n4_;have BK232:=n5_;have GW232:=n6_;have GE232:=n7_;have NB218_232:=n8_;have NB232_218:=n9_;clear n0_ n1_ n2_ n3_ n4_ n5_ n6_ n7_ n8_ n9_ hb hbox hg;have hnb59:=NB232_218.out;have hnc59:=NB218_232.out;have hcz60_0 : w58.cell? ⟨gb232,0,none⟩ = some (.int .i64 0):=bc_ BK232.out 0;have hcz60_1 : w58.cell? ⟨gb232,1,none⟩ = some (.bool false):=bc_ BK232.out 1;have hfz60_0:=blk_frozen BK232.out 0;have hfz60_1:=blk_frozen BK232.out 1;have hcz61_0 : w58.cell? ⟨gb218,0,none⟩ = some (.int .i64 a0_0):=bc_ BK218.out 0;have hcz61_1 : w58.cell? ⟨gb218,1,none⟩ = some (.slice A0_1 l0_1.length c0_1):=bc_ BK218.out 1;have hfz61_0:=blk_frozen BK218.out 0;have hfz61_1:=blk_frozen BK218.out 1)|((with_reducible refine gate_callee (f:=55) rfl ?_);refine goesL_ (some 46) rfl rfl Try.func55 (by kernel_rfl) rfl #[.agg #[.int .i64 ((rd_T79 (rd_L4 l1 (rd x10_1 x11_1)) x39_2).f0),.bool ((rd_T79 (rd_L4 l1 (rd x10_1 x11_1)) x39_2).f1)],.agg #[.int .i64 a0_0,.slice A0_1 l0_1.length c0_1]] rfl (by (try simp only [List.map_toArray,List.map_cons,List.map_nil]);rfl) ?_;(with_reducible refine (impl_step_ends.calls ((rd_T79 (rd_L4 l1 (rd x10_1 x11_1)) x39_2).f0) ((rd_T79 (rd_L4 l1 (rd x10_1 x11_1)) x39_2).f1) a0_0 _ _ l0_1 t233 t234 _ ?side1 ?side2 A28.out).mono ?_);(case side1=>exact Kd.C_below HR0_1.out (by repeat ((with_reducible first|exact HB.out|refine below_set ?_ GE232.out))));(case side2=>exact HC0_1.out);rintro e w62 ⟨rfl,hb⟩;refine ⟨_,rfl,?_⟩;have n0_:=am_ (Kd.R_below (by exact (Kd.R_mono (Kd.R_far (p:=⟨gb232,1,none⟩) (Kd.R_far (p:=⟨gb232,0,none⟩) (Kd.R_mono HO_8.out (fun k_ hk=>(⟨hk,hk.2⟩ : _ ∧ k_ ≠ gb232))) (fun _ hk=>hk.2) (.int .i64 ((rd_T79 (rd_L4 l1 (rd x10_1 x11_1)) x39_2).f0))) (fun _ hk=>hk.2) (.bool ((rd_T79 (rd_L4 l1 (rd x10_1 x11_1)) x39_2).f1))) (fun _ h_=>h_.1))) hb);have n1_:=am_ (Kd.R_below (by exact (Kd.R_mono (Kd.R_far (p:=⟨gb232,1,none⟩) (Kd.R_far (p:=⟨gb232,0,none⟩) (Kd.R_types HO_9.out BK232.out (by decide)) (fun _ hk=>hk.2) (.int .i64 ((rd_T79 (rd_L4 l1 (rd x10_1 x11_1)) x39_2).f0))) (fun _ hk=>hk.2) (.bool ((rd_T79 (rd_L4 l1 (rd x10_1 x11_1)) x39_2).f1))) (fun _ h_=>h_.1))) hb);have n2_:=am_ (Kd.R_below (by exact (Kd.R_mono (Kd.R_far (p:=⟨gb232,1,none⟩) (Kd.R_far (p:=⟨gb232,0,none⟩) (Kd.R_types HO_10.out BK232.out (by decide)) (fun _ hk=>hk.2) (.int .i64 ((rd_T79 (rd_L4 l1 (rd x10_1 x11_1)) x39_2).f0))) (fun _ hk=>hk.2) (.bool ((rd_T79 (rd_L4 l1 (rd x10_1 x11_1)) x39_2).f1))) (fun _ h_=>h_.1))) hb);have n3_:=am_ (blk_below (g:=gb218) (o:=.cells #[.int .i64 a0_0,.slice A0_1 l0_1.length c0_1] 30 (0,0)) (by refine blk_far ?_ NB218_232.out _;refine blk_far ?_ NB218_232.out _;exact BK218.out) hb);have n4_:=am_ (blk_below (g:=gb232) (o:=.cells #[.int .i64 ((rd_T79 (rd_L4 l1 (rd x10_1 x11_1)) x39_2).f0),.bool ((rd_T79 (rd_L4 l1 (rd x10_1 x11_1)) x39_2).f1)] 79 (0,0)) (by refine blk_put (cs:=#[.int .i64 ((rd_T79 (rd_L4 l1 (rd x10_1 x11_1)) x39_2).f0),.bool false]) ?_ 1 _ rfl;refine blk_put (cs:=#[.int .i64 0,.bool false]) ?_ 0 _ rfl;exact BK232.out) hb);have n5_:=am_ (below_step (by repeat ((with_reducible first|exact HB.out|refine below_set ?_ GE232.out))) hb);clear HO_8 HO_9 HO_10 BK218 BK232 HB;have HO_8:=n0_;have HO_9:=n1_;have HO_10:=n2_;have BK218:=n3_;have BK232:=n4_;have HB:=n5_;clear n0_ n1_ n2_ n3_ n4_ n5_;(try clear hb);have p235 : 0 ≤ (t234 : Int):=od_ (by (with_reducible assumption));have q235 : t234 < (x9_2.length : Int):=od_ (by (with_reducible assumption));obtain ⟨ad235,e235,hx235_0⟩:=Kd.at_bool (Kd.R_reads' HO_9.out).2.2 t234 p235 q235;(try rw [← Nbq31.out] at hx235_0);obtain rfl : (⟨go8,0,none⟩ : Addr) = ad235:=(by injection e235);(simp only [add_plain] at hx235_0);replace p235:=eq_true p235;replace q235:=eq_true q235;have hcz63_0 : w62.cell? ⟨gb232,0,none⟩ = some (.int .i64 ((rd_T79 (rd_L4 l1 (rd x10_1 x11_1)) x39_2).f0)):=bc_ BK232.out 0;have hcz63_1 : w62.cell? ⟨gb232,1,none⟩ = some (.bool ((rd_T79 (rd_L4 l1 (rd x10_1 x11_1)) x39_2).f1)):=bc_ BK232.out 1;have hfz63_0:=blk_frozen BK232.out 0;have hfz63_1:=blk_frozen BK232.out 1;have hcz64_0 : w62.cell? ⟨gb218,0,none⟩ = some (.int .i64 a0_0):=bc_ BK218.out 0;have hcz64_1 : w62.cell? ⟨gb218,1,none⟩ = some (.slice A0_1 l0_1.length c0_1):=bc_ BK218.out 1;have hfz64_0:=blk_frozen BK218.out 0;have hfz64_1:=blk_frozen BK218.out 1)|(go_at_call 56;(with_reducible refine (impl_step_room.calls ((rd_T79 (rd_L4 l1 (rd x10_1 x11_1)) x39_2).f0) ((rd_T79 (rd_L4 l1 (rd x10_1 x11_1)) x39_2).f1) a0_0 _ _ l0_1 _ _ l2 t236 _ ?side1 ?side2 ?side3 ?side4 A38.out).mono ?_);(case side1=>exact (Kd.C_below HR0_1.out HB.out));(case side2=>exact HC0_1.out);(case side3=>exact (Kd.C_below HR2.out HB.out));(case side4=>exact HC2.out);rintro e w65 ⟨rfl,hb⟩;have n0_:=am_ (Kd.R_below HO_8.out hb);have n1_:=am_ (Kd.R_below HO_9.out hb);have n2_:=am_ (Kd.R_below HO_10.out hb);have n3_:=am_ (blk_below BK218.out hb);have n4_:=am_ (blk_below (g:=gb232) (o:=.cells #[.int .i64 ((rd_T79 (rd_L4 l1 (rd x10_1 x11_1)) x39_2).f0),.bool ((rd_T79 (rd_L4 l1 (rd x10_1 x11_1)) x39_2).f1)] 79 (0,0)) BK232.out hb);have n5_:=am_ (below_step HB.out hb);clear HO_8 HO_9 HO_10 BK218 BK232 HB;have HO_8:=n0_;have HO_9:=n1_;have HO_10:=n2_;have BK218:=n3_;have BK232:=n4_;have HB:=n5_;clear n0_ n1_ n2_ n3_ n4_ n5_;(try clear hb)))
      (try simp only [← hl9_2])
      go_roundg k2
      case measure=>have:=HK1.out;have:=HK2.out;omega
      case rel=>exact ⟨(x8_2),(x9_2),(x10_2),(wrap64 (x39_2 + 1)),(by rfl),H',⟨by have:=HK1.out;have:=HK2.out;omega⟩,⟨by exact Kd.R_mono HO_8.out (fun _ hk=>trivial)⟩,⟨by (try simp only [hl9_2]);exact HO_9.out⟩,⟨by exact HO_10.out⟩,⟨by exact BK218.out⟩,⟨by exact HB.out⟩⟩
     rw [if_pos c39] at H
     have c39b0 : decide (0 < t236) = true:=decide_eq_true c39
     clear c39
     by_cases c40 : t234 < (x8_2.length : Int)
     rotate_left
     ·rw [if_neg c40] at H
      exact absurd H (by simp)
     rw [if_pos c40] at H
     have c40b0 : decide (t234 < (x8_2.length : Int)) = true:=decide_eq_true c40
     clear c40
     obtain ⟨y237,hy237⟩ : ∃ y_ : List (S79),y_ = (x8_2.set (t234 : Int).toNat (⟨(rd_T79 (rd_L4 l1 (rd x10_1 x11_1)) x39_2).f0,(rd_T79 (rd_L4 l1 (rd x10_1 x11_1)) x39_2).f1⟩ : S79)):=⟨_,rfl⟩
     replace H : (if x10_2.length < 17592186044416 then (impl_reach.l1 k2 l1 l2 y237 (x9_2.set (t234 : Int).toNat true) (x10_2 ++ [t234]) x11_1 (rd_L4 l1 (rd x10_1 x11_1)) ((rd_L4 l1 (rd x10_1 x11_1)).length : Int) (wrap64 (x39_2 + 1)) a0_0 l0_1) else (none)) = some (r1,r2):=by (rw [hy237];with_reducible exact H)
     have Ny237:=am_ hy237
     clear hy237
     obtain ⟨y238,hy238⟩ : ∃ y_ : List Bool,y_ = (x9_2.set (t234 : Int).toNat true):=⟨_,rfl⟩
     replace H : (if x10_2.length < 17592186044416 then (impl_reach.l1 k2 l1 l2 y237 y238 (x10_2 ++ [t234]) x11_1 (rd_L4 l1 (rd x10_1 x11_1)) ((rd_L4 l1 (rd x10_1 x11_1)).length : Int) (wrap64 (x39_2 + 1)) a0_0 l0_1) else (none)) = some (r1,r2):=by (rw [hy238];with_reducible exact H)
     have Ny238:=am_ hy238
     clear hy238
     by_cases c43 : x10_2.length < 17592186044416
     rotate_left
     ·rw [if_neg c43] at H
      exact absurd H (by simp)
     rw [if_pos c43] at H
     have LMc43:=am_ c43
     clear c43
     obtain ⟨y239,hy239⟩ : ∃ y_ : List Int,y_ = (x10_2 ++ [t234]):=⟨_,rfl⟩
     replace H : (impl_reach.l1 k2 l1 l2 y237 y238 y239 x11_1 (rd_L4 l1 (rd x10_1 x11_1)) ((rd_L4 l1 (rd x10_1 x11_1)).length : Int) (wrap64 (x39_2 + 1)) a0_0 l0_1) = some (r1,r2):=by (rw [hy239];with_reducible exact H)
     have Ny239:=am_ hy239
     clear hy239
     have H':=am_ H
     clear H
     have p231 : 0 ≤ (x39_2 : Int):=od_ (by (with_reducible assumption))
     have q231 : x39_2 < ((rd_L4 l1 (rd x10_1 x11_1)).length : Int):=od_ (by (with_reducible assumption))
     obtain ⟨ad231,e231,hx231_0,hx231_1⟩:=at_T79 HR230_0.out x39_2 p231 q231
     (skip)
     cases e231
     replace hx231_0:=kc_ HB.out hx231_0
     replace hx231_1:=kc_ HB.out hx231_1
     replace p231:=eq_true p231
     replace q231:=eq_true q231
     go_wp2_with (first|((with_reducible refine gate_dst (N:=13) rfl ?_);refine box_event ?hg (N:=13) ?hd (cs:=#[.int .i64 0,.bool false]) (t:=79) ?hr ?_;(case hd=>rfl);(case hg=>rfl);(case hr=>(go_simp;done));intro gb232 hg w44 hbox hb;have n0_:=am_ (Kd.R_below (Kd.R_elderB HO_8.out gb232 (Nat.le_of_eq hg.symm)) hb);have n1_:=am_ (Kd.R_below HO_9.out hb);have n2_:=am_ (Kd.R_below HO_10.out hb);have n3_:=am_ (blk_below BK218.out hb);have n4_:=am_ (below_step HB.out hb);have n5_:=am_ (hbox);have n6_:=am_ ((by rw [hg];exact (below_size HB.out) : w.heap.size ≤ gb232));have n7_:=n6_;have n8_:=am_ ((by rw [hg];exact Nat.ne_of_lt (blk_lt (g:=gb218) (o:=.cells #[.int .i64 a0_0,.slice A0_1 l0_1.length c0_1] 30 (0,0)) BK218.out) : gb218 ≠ gb232));have n9_:=am_ ((by rw [hg];exact Nat.ne_of_gt (blk_lt (g:=gb218) (o:=.cells #[.int .i64 a0_0,.slice A0_1 l0_1.length c0_1] 30 (0,0)) BK218.out) : gb232 ≠ gb218));clear HO_8 HO_9 HO_10 BK218 HB;have HO_8:=n0_;have HO_9:=n1_;have HO_10:=n2_;have BK218:=n3_;have HB:=n4_;have BK232:=n5_;have GW232:=n6_;have GE232:=n7_;have NB218_232:=n8_;have NB232_218:=n9_;clear n0_ n1_ n2_ n3_ n4_ n5_ n6_ n7_ n8_ n9_ hb hbox hg;have hnb45:=NB232_218.out;have hnc45:=NB218_232.out;have hcz46_0 : w44.cell? ⟨gb232,0,none⟩ = some (.int .i64 0):=bc_ BK232.out 0;have hcz46_1 : w44.cell? ⟨gb232,1,none⟩ = some (.bool false):=bc_ BK232.out 1;have hfz46_0:=blk_frozen BK232.out 0;have hfz46_1:=blk_frozen BK232.out 1;have hcz47_0 : w44.cell? ⟨gb218,0,none⟩ = some (.int .i64 a0_0):=bc_ BK218.out 0;have hcz47_1 : w44.cell? ⟨gb218,1,none⟩ = some (.slice A0_1 l0_1.length c0_1):=bc_ BK218.out 1;have hfz47_0:=blk_frozen BK218.out 0;have hfz47_1:=blk_frozen BK218.out 1)|((with_reducible refine gate_callee (f:=55) rfl ?_);refine goesL_ (some 46) rfl rfl Try.func55 (by kernel_rfl) rfl #[.agg #[.int .i64 ((rd_T79 (rd_L4 l1 (rd x10_1 x11_1)) x39_2).f0),.bool ((rd_T79 (rd_L4 l1 (rd x10_1 x11_1)) x39_2).f1)],.agg #[.int .i64 a0_0,.slice A0_1 l0_1.length c0_1]] rfl (by (try simp only [List.map_toArray,List.map_cons,List.map_nil]);rfl) ?_;(with_reducible refine (impl_step_ends.calls ((rd_T79 (rd_L4 l1 (rd x10_1 x11_1)) x39_2).f0) ((rd_T79 (rd_L4 l1 (rd x10_1 x11_1)) x39_2).f1) a0_0 _ _ l0_1 t233 t234 _ ?side1 ?side2 A28.out).mono ?_);(case side1=>exact Kd.C_below HR0_1.out (by repeat ((with_reducible first|exact HB.out|refine below_set ?_ GE232.out))));(case side2=>exact HC0_1.out);rintro e w48 ⟨rfl,hb⟩;refine ⟨_,rfl,?_⟩;have n0_:=am_ (Kd.R_below (by exact (Kd.R_mono (Kd.R_far (p:=⟨gb232,1,none⟩) (Kd.R_far (p:=⟨gb232,0,none⟩) (Kd.R_mono HO_8.out (fun k_ hk=>(⟨hk,hk.2⟩ : _ ∧ k_ ≠ gb232))) (fun _ hk=>hk.2) (.int .i64 ((rd_T79 (rd_L4 l1 (rd x10_1 x11_1)) x39_2).f0))) (fun _ hk=>hk.2) (.bool ((rd_T79 (rd_L4 l1 (rd x10_1 x11_1)) x39_2).f1))) (fun _ h_=>h_.1))) hb);have n1_:=am_ (Kd.R_below (by exact (Kd.R_mono (Kd.R_far (p:=⟨gb232,1,none⟩) (Kd.R_far (p:=⟨gb232,0,none⟩) (Kd.R_types HO_9.out BK232.out (by decide)) (fun _ hk=>hk.2) (.int .i64 ((rd_T79 (rd_L4 l1 (rd x10_1 x11_1)) x39_2).f0))) (fun _ hk=>hk.2) (.bool ((rd_T79 (rd_L4 l1 (rd x10_1 x11_1)) x39_2).f1))) (fun _ h_=>h_.1))) hb);have n2_:=am_ (Kd.R_below (by exact (Kd.R_mono (Kd.R_far (p:=⟨gb232,1,none⟩) (Kd.R_far (p:=⟨gb232,0,none⟩) (Kd.R_types HO_10.out BK232.out (by decide)) (fun _ hk=>hk.2) (.int .i64 ((rd_T79 (rd_L4 l1 (rd x10_1 x11_1)) x39_2).f0))) (fun _ hk=>hk.2) (.bool ((rd_T79 (rd_L4 l1 (rd x10_1 x11_1)) x39_2).f1))) (fun _ h_=>h_.1))) hb);have n3_:=am_ (blk_below (g:=gb218) (o:=.cells #[.int .i64 a0_0,.slice A0_1 l0_1.length c0_1] 30 (0,0)) (by refine blk_far ?_ NB218_232.out _;refine blk_far ?_ NB218_232.out _;exact BK218.out) hb);have n4_:=am_ (blk_below (g:=gb232) (o:=.cells #[.int .i64 ((rd_T79 (rd_L4 l1 (rd x10_1 x11_1)) x39_2).f0),.bool ((rd_T79 (rd_L4 l1 (rd x10_1 x11_1)) x39_2).f1)] 79 (0,0)) (by refine blk_put (cs:=#[.int .i64 ((rd_T79 (rd_L4 l1 (rd x10_1 x11_1)) x39_2).f0),.bool false]) ?_ 1 _ rfl;refine blk_put (cs:=#[.int .i64 0,.bool false]) ?_ 0 _ rfl;exact BK232.out) hb);have n5_:=am_ (below_step (by repeat ((with_reducible first|exact HB.out|refine below_set ?_ GE232.out))) hb);clear HO_8 HO_9 HO_10 BK218 BK232 HB;have HO_8:=n0_;have HO_9:=n1_;have HO_10:=n2_;have BK218:=n3_;have BK232:=n4_;have HB:=n5_;clear n0_ n1_ n2_ n3_ n4_ n5_;(try clear hb);have p235 : 0 ≤ (t234 : Int):=od_ (by (with_reducible assumption));have q235 : t234 < (x9_2.length : Int):=od_ (by (with_reducible assumption));obtain ⟨ad235,e235,hx235_0⟩:=Kd.at_bool (Kd.R_reads' HO_9.out).2.2 t234 p235 q235;(try rw [← Nbq31.out] at hx235_0);obtain rfl : (⟨go8,0,none⟩ : Addr) = ad235:=(by injection e235);(simp only [add_plain] at hx235_0);replace p235:=eq_true p235;replace q235:=eq_true q235;have hcz49_0 : w48.cell? ⟨gb232,0,none⟩ = some (.int .i64 ((rd_T79 (rd_L4 l1 (rd x10_1 x11_1)) x39_2).f0)):=bc_ BK232.out 0;have hcz49_1 : w48.cell? ⟨gb232,1,none⟩ = some (.bool ((rd_T79 (rd_L4 l1 (rd x10_1 x11_1)) x39_2).f1)):=bc_ BK232.out 1;have hfz49_0:=blk_frozen BK232.out 0;have hfz49_1:=blk_frozen BK232.out 1;have hcz50_0 : w48.cell? ⟨gb218,0,none⟩ = some (.int .i64 a0_0):=bc_ BK218.out 0;have hcz50_1 : w48.cell? ⟨gb218,1,none⟩ = some (.slice A0_1 l0_1.length c0_1):=bc_ BK218.out 1;have hfz50_0:=blk_frozen BK218.out 0;have hfz50_1:=blk_frozen BK218.out 1)|(go_at_call 56;(with_reducible refine (impl_step_room.calls ((rd_T79 (rd_L4 l1 (rd x10_1 x11_1)) x39_2).f0) ((rd_T79 (rd_L4 l1 (rd x10_1 x11_1)) x39_2).f1) a0_0 _ _ l0_1 _ _ l2 t236 _ ?side1 ?side2 ?side3 ?side4 A38.out).mono ?_);(case side1=>exact (Kd.C_below HR0_1.out HB.out));(case side2=>exact HC0_1.out);(case side3=>exact (Kd.C_below HR2.out HB.out));(case side4=>exact HC2.out);rintro e w51 ⟨rfl,hb⟩;have n0_:=am_ (Kd.R_below HO_8.out hb);have n1_:=am_ (Kd.R_below HO_9.out hb);have n2_:=am_ (Kd.R_below HO_10.out hb);have n3_:=am_ (blk_below BK218.out hb);have n4_:=am_ (blk_below (g:=gb232) (o:=.cells #[.int .i64 ((rd_T79 (rd_L4 l1 (rd x10_1 x11_1)) x39_2).f0),.bool ((rd_T79 (rd_L4 l1 (rd x10_1 x11_1)) x39_2).f1)] 79 (0,0)) BK232.out hb);have n5_:=am_ (below_step HB.out hb);clear HO_8 HO_9 HO_10 BK218 BK232 HB;have HO_8:=n0_;have HO_9:=n1_;have HO_10:=n2_;have BK218:=n3_;have BK232:=n4_;have HB:=n5_;clear n0_ n1_ n2_ n3_ n4_ n5_;(try clear hb);have hcz52_0 : w51.cell? ⟨gb232,0,none⟩ = some (.int .i64 ((rd_T79 (rd_L4 l1 (rd x10_1 x11_1)) x39_2).f0)):=bc_ BK232.out 0;have hcz52_1 : w51.cell? ⟨gb232,1,none⟩ = some (.bool ((rd_T79 (rd_L4 l1 (rd x10_1 x11_1)) x39_2).f1)):=bc_ BK232.out 1;have hfz52_0:=blk_frozen BK232.out 0;have hfz52_1:=blk_frozen BK232.out 1;have p41 : 0 ≤ (t234 : Int):=od_ (by (with_reducible assumption));have q41 : (t234 : Int) < ((x8_2.length : Int) : Int):=od_ (by (with_reducible assumption));obtain ⟨go41,co41,eo41,gb41,gl41,cl41,HG41⟩:=Kd.R_form HO_8.out (by omega);(cases eo41);have GB41:=am_ gb41;have GG41:=am_ HG41;clear gb41 gl41 HG41;obtain ⟨ce41,hcl41,hM41,hcc41,hfr41⟩:=Kd.R_elem HO_8.out z79 (t234 : Int) p41 q41;obtain rfl:=k79_openM hM41;have hx41_0 : w51.cell? ⟨go41,(t234 : Int).toNat * 2,none⟩ = some (.int .i64 ((rd_T79 x8_2 t234).f0)):=hcc41 0 _ rfl;have hx41_1 : w51.cell? ⟨go41,(t234 : Int).toNat * 2 + 1,none⟩ = some (.bool ((rd_T79 x8_2 t234).f1)):=hcc41 1 _ rfl;have hf41_0 : w51.frozen? ⟨go41,(t234 : Int).toNat * 2,none⟩ = false:=hfr41 0;have hf41_1 : w51.frozen? ⟨go41,(t234 : Int).toNat * 2 + 1,none⟩ = false:=hfr41 1;clear hcl41 hcc41 hfr41 hM41;replace p41:=eq_true p41;replace q41:=eq_true q41;have n_:=am_ (Kd.R_mono (ok':=(fun k_=>k_ ≠ gb232)) HO_8.out (fun k_ hk=>hk.2));clear HO_8;have HO_8:=n_;clear n_;have HX53:=am_ (show Kd.R k79 79 w51 w.heap.size (fun k_=>k_ ≠ gb232) (.slice (some ⟨go41,0,none⟩) x8_2.length co41) x8_2 from HO_8.out);obtain ⟨ce53,hcl53,hM53,hcc53,hfr53⟩:=Kd.R_elem HX53.out z79 (t234 : Int) (od_ (by (with_reducible assumption))) (by have h_ : (t234 : Int) < ((x8_2.length : Int) : Int):=od_ (by (with_reducible assumption));exact h_);obtain rfl:=k79_openM hM53;have HP53:=Kd.R_seg HX53.out (t234 : Int) (od_ (by (with_reducible assumption))) (by have h_ : (t234 : Int) < ((x8_2.length : Int) : Int):=od_ (by (with_reducible assumption));exact h_) (seg:=[.int .i64 ((rd_T79 (rd_L4 l1 (rd x10_1 x11_1)) x39_2).f0),.bool ((rd_T79 (rd_L4 l1 (rd x10_1 x11_1)) x39_2).f1)]) (j:=0) hcl53 hcc53 (show 2 ≤ 2 from by decide) (x':=(⟨(rd_T79 (rd_L4 l1 (rd x10_1 x11_1)) x39_2).f0,(rd_T79 (rd_L4 l1 (rd x10_1 x11_1)) x39_2).f1⟩ : S79)) (k79_mkM _ _ _ (⟨(rd_T79 (rd_L4 l1 (rd x10_1 x11_1)) x39_2).f0,(rd_T79 (rd_L4 l1 (rd x10_1 x11_1)) x39_2).f1⟩ : S79) ) (fun _ hk=>hk);have hx53_0:=hcc53 0 _ rfl;(try simp only [show (k79).sz = 2 from rfl,Nat.mul_one,Nat.add_zero] at hx53_0);have hf53_0:=hfr53 0;(try simp only [show (k79).sz = 2 from rfl,Nat.mul_one,Nat.add_zero] at hf53_0);have hx53_1:=hcc53 1 _ rfl;(try simp only [show (k79).sz = 2 from rfl,Nat.mul_one,Nat.add_zero] at hx53_1);have hf53_1:=hfr53 1;(try simp only [show (k79).sz = 2 from rfl,Nat.mul_one,Nat.add_zero] at hf53_1);clear hcl53 hcc53 hfr53 hM53)|((with_reducible refine gate_store (t:=79) (p:=66) rfl ?_);refine store_event (t:=79) (p:=66) (v:=?vo_w54) (w1:=((w51.setCell ⟨go41,(t234 : Int).toNat * 2,none⟩ (.int .i64 ((rd_T79 (rd_L4 l1 (rd x10_1 x11_1)) x39_2).f0))).setCell ⟨go41,(t234 : Int).toNat * 2 + 1,none⟩ (.bool ((rd_T79 (rd_L4 l1 (rd x10_1 x11_1)) x39_2).f1)))) ?hg ?ho ?hn ?hr ?_;(case ho=>rfl);(case hg=>rfl);(case hn=>rfl);(case hr=>(go_simp;done));intro w54 hw;have hg : w51.grownBy w54 (some go41):=(by rw [hw];exact HP53.2);have hp_ : Kd.R k79 79 w54 w.heap.size (fun k_=>k_ ≠ gb232) (.slice (some ⟨go41,0,none⟩) x8_2.length co41) y237:=(by rw [hw,Ny237.out];exact HP53.1);clear HP53;have n0_:=am_ (hp_);have n1_:=am_ (Kd.R_over' (v:=(.slice (some ⟨go41,0,none⟩) x8_2.length co41)) HO_9.out (Kd.R_typed HO_8.out) (by decide) hg);have n2_:=am_ (Kd.R_over' (v:=(.slice (some ⟨go41,0,none⟩) x8_2.length co41)) HO_10.out (Kd.R_typed HO_8.out) (by decide) hg);have n3_:=am_ (blk_grown (g:=gb218) (o:=.cells #[.int .i64 a0_0,.slice A0_1 l0_1.length c0_1] 30 (0,0)) BK218.out hg (Kd.R_ne HO_8.out BK218.out (by decide)));have n4_:=am_ (blk_grown (g:=gb232) (o:=.cells #[.int .i64 ((rd_T79 (rd_L4 l1 (rd x10_1 x11_1)) x39_2).f0),.bool ((rd_T79 (rd_L4 l1 (rd x10_1 x11_1)) x39_2).f1)] 79 (0,0)) BK232.out hg (Kd.R_away HO_8.out (fun _ hk=>hk)));have n5_:=am_ ((by rw [hw];exact below_set (below_set (HB.out) GB41.out) GB41.out : Below w.heap.size w w54));clear HO_8 HO_9 HO_10 BK218 BK232 HB;have HO_8:=n0_;have HO_9:=n1_;have HO_10:=n2_;have BK218:=n3_;have BK232:=n4_;have HB:=n5_;clear n0_ n1_ n2_ n3_ n4_ n5_ hg hw hp_;have p42 : 0 ≤ (t234 : Int):=od_ (by (with_reducible assumption));have q42 : (t234 : Int) < ((x9_2.length : Int) : Int):=od_ (by (with_reducible assumption));obtain ⟨hx42_0,hf42_0⟩:=Kd.R_celln false HO_9.out (t234 : Int) p42 q42;replace p42:=eq_true p42;replace q42:=eq_true q42;obtain ⟨hy55_,hz55_⟩:=Kd.R_celln false HO_9.out (t234 : Int) (od_ (by (with_reducible assumption))) (od_ (by (with_reducible assumption)));have HP55:=Kd.R_putg HO_9.out (t234 : Int) true)|((with_reducible refine gate_store (t:=4) (p:=67) rfl ?_);refine store_event (t:=4) (p:=67) (v:=?vo_w56) (w1:=(w54.setCell ⟨go8,(t234 : Int).toNat,none⟩ (.bool true))) ?hg ?ho ?hn ?hr ?_;(case ho=>rfl);(case hg=>rfl);(case hn=>rfl);(case hr=>(go_simp;done));intro w56 hw;have hg : w54.grownBy w56 (some go8):=(by rw [hw];exact HP55.2);have hp_ : Kd.R Kd.bool 4 w56 w.heap.size (fun _=>True) (.slice (some ⟨go8,0,none⟩) x9_2.length co8) y238:=(by rw [hw,Ny238.out];exact HP55.1);clear HP55;have n0_:=am_ (Kd.R_over' (v:=(.slice (some ⟨go8,0,none⟩) x9_2.length co8)) HO_8.out (Kd.R_typed HO_9.out) (by decide) hg);have n1_:=am_ (hp_);have n2_:=am_ (Kd.R_over' (v:=(.slice (some ⟨go8,0,none⟩) x9_2.length co8)) HO_10.out (Kd.R_typed HO_9.out) (by decide) hg);have n3_:=am_ (blk_grown (g:=gb218) (o:=.cells #[.int .i64 a0_0,.slice A0_1 l0_1.length c0_1] 30 (0,0)) BK218.out hg (Kd.R_ne HO_9.out BK218.out (by decide)));have n4_:=am_ (blk_grown (g:=gb232) (o:=.cells #[.int .i64 ((rd_T79 (rd_L4 l1 (rd x10_1 x11_1)) x39_2).f0),.bool ((rd_T79 (rd_L4 l1 (rd x10_1 x11_1)) x39_2).f1)] 79 (0,0)) BK232.out hg (Kd.R_ne HO_9.out BK232.out (by decide)));have n5_:=am_ ((by rw [hw];exact below_set (HB.out) GB8.out : Below w.heap.size w w56));clear HO_8 HO_9 HO_10 BK218 BK232 HB;have HO_8:=n0_;have HO_9:=n1_;have HO_10:=n2_;have BK218:=n3_;have BK232:=n4_;have HB:=n5_;clear n0_ n1_ n2_ n3_ n4_ n5_ hg hw hp_)|((with_reducible refine gate_builtin (b:=.append) (xs:=#[.tmp 68,.tmp 70]) rfl ?_);at_builtin;refine Kd.R_append (Kd.int .i64) (w0:=w) w.heap.size rfl (.tmp 68) (.tmp 70) 25 3 (.int .i64 0) 8 rfl Try.underlying25 info3 rfl (by decide) (by omega) u10 x10_2 t234 [.int .i64 t234] (fun _=>True) (fun _=>False) rfl rfl ?aP (fun _ hk=>hk.elim) ?aF ?aO ?aB ?aS ?aL ?_;(case aP=>exact rfl);(case aB=>exact HB.out);(case aF=>exact (fun _ _=>trivial));(case aO=>exact HO_10.out);(case aS=>exact (below_size HB.out));(case aL=>have:=LMc43.out;omega);intro v240 w57 ho hb hg hat;rw [← Ny239.out] at ho;have n0_:=am_ (Kd.R_over' HO_8.out (Kd.R_typed HO_10.out) (by decide) hg);have n1_:=am_ (Kd.R_over' HO_9.out (Kd.R_typed HO_10.out) (by decide) hg);have n2_:=am_ (blk_grown (g:=gb218) (o:=.cells #[.int .i64 a0_0,.slice A0_1 l0_1.length c0_1] 30 (0,0)) BK218.out hg (Kd.R_ne HO_10.out BK218.out (by decide)));have n3_:=am_ (blk_grown (g:=gb232) (o:=.cells #[.int .i64 ((rd_T79 (rd_L4 l1 (rd x10_1 x11_1)) x39_2).f0),.bool ((rd_T79 (rd_L4 l1 (rd x10_1 x11_1)) x39_2).f1)] 79 (0,0)) BK232.out hg (Kd.R_ne HO_10.out BK232.out (by decide)));have n4_:=am_ (hb);have n5_:=am_ (ho);clear HO_8 HO_9 BK218 BK232 HB HO_10;have HO_8:=n0_;have HO_9:=n1_;have BK218:=n2_;have BK232:=n3_;have HB:=n4_;have HO241:=n5_;clear n0_ n1_ n2_ n3_ n4_ n5_ ho hb hg hat))
     (try simp only [← hl9_2])
     go_roundg k2
     case measure=>have:=HK1.out;have:=HK2.out;omega
     case rel=>exact ⟨(y237),(y238),(y239),(wrap64 (x39_2 + 1)),(by rfl),H',⟨by have:=HK1.out;have:=HK2.out;omega⟩,⟨by exact Kd.R_mono HO_8.out (fun _ hk=>trivial)⟩,⟨by (try simp only [hl9_2]);exact HO_9.out⟩,⟨by exact HO241.out⟩,⟨by exact BK218.out⟩,⟨by exact HB.out⟩⟩

/-! ### impl_ReachedBy: function 21 -/
def impl_ReachedBy.f (k : Nat) (a0_0 : Int) (l0_1 : List (S67)) (l1 : List Int) : Option (List Bool):=(impl_FlowOk.f k a0_0 l0_1 l1).bind fun t243=>(if t243 = true then ((impl_stepsOf.f k a0_0 l0_1).bind fun bt244=>((impl_reach.f k a0_0 l0_1 bt244.1 l1).bind fun bt250=>(some bt250.2))) else (some ([] : List Bool)))
theorem impl_ReachedBy.mono : ∀ a0 a1 a2 k,LeO (impl_ReachedBy.f k a0 a1 a2) (impl_ReachedBy.f (k + 1) a0 a1 a2):=by
 intro a0 a1 a2 k
 unfold impl_ReachedBy.f
 repeat' first
   | (with_reducible exact impl_FlowOk.mono _ _ _ _)
   | (with_reducible exact impl_reach.mono _ _ _ _ _)
   | (with_reducible exact impl_stepsOf.mono _ _ _)
   | (with_reducible exact LeO.refl _)
   | (with_reducible refine LeO.ite ?_ ?_)
   | (with_reducible refine LeO.bind ?_ (fun _ => ?_))
set_option maxHeartbeats 8000000 in
set_option maxRecDepth 100000 in
theorem impl_ReachedBy.calls (k : Nat) (a0_0 : Int) (A0_1 : Option Addr) (c0_1 : Nat) (l0_1 : List (S67)) (A1 : Option Addr) (c1 : Nat) (l1 : List Int) (r : List Bool) (w : World) (hr0_1 : Kd.C k67 w A0_1 l0_1.length l0_1) (hc0_1 : l0_1.length ≤ c0_1) (hr1 : Kd.C (Kd.int .i64) w A1 l1.length l1) (hc1 : l1.length ≤ c1) (h : impl_ReachedBy.f k a0_0 l0_1 l1 = some r) :
  Calls Try.prog 21 #[.agg #[.int .i64 a0_0,.slice A0_1 l0_1.length c0_1],.slice A1 l1.length c1] w fun e w'=>∃ v0_ : Value,e = .returned (v0_) ∧ Kd.R Kd.bool 4 w' w.heap.size (fun _=>True) v0_ r ∧ Below w.heap.size w w':=by
 have hu30:=Try.underlying30
 have HR0_1:=am_ hr0_1
 have HC0_1:=am_ hc0_1
 clear hr0_1 hc0_1
 have HR1:=am_ hr1
 have HC1:=am_ hc1
 clear hr1 hc1
 have HB:=am_ (Below.refl w.heap.size w)
 have H : ((impl_FlowOk.f k a0_0 l0_1 l1).bind fun t243=>(if t243 = true then ((impl_stepsOf.f k a0_0 l0_1).bind fun bt244=>((impl_reach.f k a0_0 l0_1 bt244.1 l1).bind fun bt250=>(some bt250.2))) else (some ([] : List Bool)))) = some r:=h
 clear h
 replace H:=bs_ H
 obtain ⟨t243,A30,H⟩:=H
 replace H : (if t243 = true then ((impl_stepsOf.f k a0_0 l0_1).bind fun bt244=>((impl_reach.f k a0_0 l0_1 bt244.1 l1).bind fun bt250=>(some bt250.2))) else (some ([] : List Bool))) = some r:=H
 have A3:=am_ A30
 clear A30
 by_cases c4 : t243 = true
 ·subst c4
  have H1 : ((impl_stepsOf.f k a0_0 l0_1).bind fun bt244=>((impl_reach.f k a0_0 l0_1 bt244.1 l1).bind fun bt250=>(some bt250.2))) = some r:=by rw [if_pos rfl] at H;exact H
  clear H
  have H:=H1
  clear H1
  replace H:=bs_ H
  obtain ⟨⟨t244,t247⟩,A50,H⟩:=H
  replace H : ((impl_reach.f k a0_0 l0_1 t244 l1).bind fun bt250=>(some bt250.2)) = some r:=H
  have A5:=am_ A50
  clear A50
  replace H:=bs_ H
  obtain ⟨⟨t250,t253⟩,A60,H⟩:=H
  replace H : (some t253) = some r:=H
  have A6:=am_ A60
  clear A60
  obtain rfl:=Option.some.inj H
  go_enter Try.func21,Try.ntmps21
  go_wp2_with (first|((with_reducible refine gate_dst (N:=2) rfl ?_);refine box_event ?hg (N:=2) ?hd (cs:=#[.int .i64 a0_0,.slice A0_1 l0_1.length c0_1]) (t:=30) ?hr ?_;(case hd=>rfl);(case hg=>rfl);(case hr=>(go_simp;done));intro gb242 hg w7 hbox hb;have n0_:=am_ (below_step HB.out hb);have n1_:=am_ (hbox);have n2_:=am_ ((by rw [hg];exact (below_size HB.out) : w.heap.size ≤ gb242));have n3_:=n2_;clear HB;have HB:=n0_;have BK242:=n1_;have GW242:=n2_;have GE242:=n3_;clear n0_ n1_ n2_ n3_ hb hbox hg;have hcz8_0 : w7.cell? ⟨gb242,0,none⟩ = some (.int .i64 a0_0):=bc_ BK242.out 0;have hcz8_1 : w7.cell? ⟨gb242,1,none⟩ = some (.slice A0_1 l0_1.length c0_1):=bc_ BK242.out 1;have hfz8_0:=blk_frozen BK242.out 0;have hfz8_1:=blk_frozen BK242.out 1)|((with_reducible refine gate_callee (f:=31) rfl ?_);refine goesL_ (some 11) rfl rfl Try.func31 (by kernel_rfl) rfl #[.agg #[.int .i64 a0_0,.slice A0_1 l0_1.length c0_1],.slice A1 l1.length c1] rfl (by (try simp only [List.map_toArray,List.map_cons,List.map_nil]);rfl) ?_;(with_reducible refine (impl_FlowOk.calls k a0_0 _ _ l0_1 _ _ l1 true _ ?side1 ?side2 ?side3 ?side4 A3.out).mono ?_);(case side1=>exact (Kd.C_below HR0_1.out HB.out));(case side2=>exact HC0_1.out);(case side3=>exact (Kd.C_below HR1.out HB.out));(case side4=>exact HC1.out);rintro e w9 ⟨rfl,hb⟩;refine ⟨_,rfl,?_⟩;have n0_:=am_ (blk_below BK242.out hb);have n1_:=am_ (below_step HB.out hb);clear BK242 HB;have BK242:=n0_;have HB:=n1_;clear n0_ n1_;(try clear hb);have hcz10_0 : w9.cell? ⟨gb242,0,none⟩ = some (.int .i64 a0_0):=bc_ BK242.out 0;have hcz10_1 : w9.cell? ⟨gb242,1,none⟩ = some (.slice A0_1 l0_1.length c0_1):=bc_ BK242.out 1;have hfz10_0:=blk_frozen BK242.out 0;have hfz10_1:=blk_frozen BK242.out 1)|((with_reducible refine gate_callee (f:=49) rfl ?_);refine goesL_ (some 15) rfl rfl Try.func49 (by kernel_rfl) rfl #[.agg #[.int .i64 a0_0,.slice A0_1 l0_1.length c0_1]] rfl (by (try simp only [List.map_toArray,List.map_cons,List.map_nil]);rfl) ?_;(with_reducible refine (impl_stepsOf.calls k a0_0 _ _ l0_1 t244 t247 _ ?side1 ?side2 A5.out).mono ?_);(case side1=>exact (Kd.C_below HR0_1.out HB.out));(case side2=>exact HC0_1.out);rintro e w11 ⟨v245,v248,rfl,ho0,ho1,hb⟩;refine ⟨_,rfl,?_⟩;have n0_:=am_ (Kd.S_lower ho0 (below_size HB.out));have n1_:=am_ (Kd.S_lower ho1 (below_size HB.out));have n2_:=am_ (blk_below BK242.out hb);have n3_:=am_ (below_step HB.out hb);clear BK242 HB;have HO246:=n0_;have HO249:=n1_;have BK242:=n2_;have HB:=n3_;clear n0_ n1_ n2_ n3_;(try clear hb);(try clear ho0);(try clear ho1);have hcz12_0 : w11.cell? ⟨gb242,0,none⟩ = some (.int .i64 a0_0):=bc_ BK242.out 0;have hcz12_1 : w11.cell? ⟨gb242,1,none⟩ = some (.slice A0_1 l0_1.length c0_1):=bc_ BK242.out 1;have hfz12_0:=blk_frozen BK242.out 0;have hfz12_1:=blk_frozen BK242.out 1;obtain ⟨Ao13,co13,eo13⟩:=Kd.S_slice HO246.out;subst eo13)|((with_reducible refine gate_callee (f:=50) rfl ?_);refine goesL_ (some 22) rfl rfl Try.func50 (by kernel_rfl) rfl #[.agg #[.int .i64 a0_0,.slice A0_1 l0_1.length c0_1],.slice Ao13 t244.length co13,.slice A1 l1.length c1] rfl (by (try simp only [List.map_toArray,List.map_cons,List.map_nil]);rfl) ?_;(with_reducible refine (impl_reach.calls k a0_0 _ _ l0_1 _ _ t244 _ _ l1 t250 t253 _ ?side1 ?side2 ?side3 ?side4 ?side5 ?side6 A6.out).mono ?_);(case side1=>exact (Kd.C_below HR0_1.out HB.out));(case side2=>exact HC0_1.out);(case side3=>repeat (exact (Kd.S_reads' HO246.out).2.2));(case side4=>exact (Kd.S_reads' HO246.out).2.1);(case side5=>exact (Kd.C_below HR1.out HB.out));(case side6=>exact HC1.out);rintro e w14 ⟨v251,v254,rfl,ho0,ho1,hb⟩;refine ⟨_,rfl,?_⟩;have n0_:=am_ (Kd.S_elder' HO246.out (Kd.R_base ho0) hb);have n1_:=am_ (Kd.S_elder' HO249.out (Kd.R_base ho0) hb);have n2_:=am_ (Kd.R_lower ho0 (below_size HB.out));have n3_:=am_ (Kd.R_lower ho1 (below_size HB.out));have n4_:=am_ (blk_below BK242.out hb);have n5_:=am_ (below_step HB.out hb);clear HO246 HO249 BK242 HB;have HO246:=n0_;have HO249:=n1_;have HO252:=n2_;have HO255:=n3_;have BK242:=n4_;have HB:=n5_;clear n0_ n1_ n2_ n3_ n4_ n5_;(try clear hb);(try clear ho0);(try clear ho1)))
  go_ret
  exact ⟨_,by rfl,by exact HO255.out,by exact HB.out⟩
 replace c4:=Bool.eq_false_iff.mpr c4
 subst c4
 have H1 : (some ([] : List Bool)) = some r:=by rw [if_neg (show ¬ (false = true) by decide)] at H;exact H
 clear H
 have H:=H1
 clear H1
 obtain rfl:=Option.some.inj H
 go_enter Try.func21,Try.ntmps21
 go_wp2_with (first|((with_reducible refine gate_dst (N:=2) rfl ?_);refine box_event ?hg (N:=2) ?hd (cs:=#[.int .i64 a0_0,.slice A0_1 l0_1.length c0_1]) (t:=30) ?hr ?_;(case hd=>rfl);(case hg=>rfl);(case hr=>(go_simp;done));intro gb242 hg w15 hbox hb;have n0_:=am_ (below_step HB.out hb);have n1_:=am_ (hbox);have n2_:=am_ ((by rw [hg];exact (below_size HB.out) : w.heap.size ≤ gb242));have n3_:=n2_;clear HB;have HB:=n0_;have BK242:=n1_;have GW242:=n2_;have GE242:=n3_;clear n0_ n1_ n2_ n3_ hb hbox hg;have hcz16_0 : w15.cell? ⟨gb242,0,none⟩ = some (.int .i64 a0_0):=bc_ BK242.out 0;have hcz16_1 : w15.cell? ⟨gb242,1,none⟩ = some (.slice A0_1 l0_1.length c0_1):=bc_ BK242.out 1;have hfz16_0:=blk_frozen BK242.out 0;have hfz16_1:=blk_frozen BK242.out 1)|((with_reducible refine gate_callee (f:=31) rfl ?_);refine goesL_ (some 11) rfl rfl Try.func31 (by kernel_rfl) rfl #[.agg #[.int .i64 a0_0,.slice A0_1 l0_1.length c0_1],.slice A1 l1.length c1] rfl (by (try simp only [List.map_toArray,List.map_cons,List.map_nil]);rfl) ?_;(with_reducible refine (impl_FlowOk.calls k a0_0 _ _ l0_1 _ _ l1 false _ ?side1 ?side2 ?side3 ?side4 A3.out).mono ?_);(case side1=>exact (Kd.C_below HR0_1.out HB.out));(case side2=>exact HC0_1.out);(case side3=>exact (Kd.C_below HR1.out HB.out));(case side4=>exact HC1.out);rintro e w17 ⟨rfl,hb⟩;refine ⟨_,rfl,?_⟩;have n0_:=am_ (blk_below BK242.out hb);have n1_:=am_ (below_step HB.out hb);clear BK242 HB;have BK242:=n0_;have HB:=n1_;clear n0_ n1_;(try clear hb)))
 go_ret
 exact ⟨_,by rfl,by exact Kd.R_nil _ _ _ _ _,by exact HB.out⟩

/-! ### impl_pushed: function 57 -/
def impl_pushed.f (l0 : List Int) (a1_0 : Int) (a1_1 : Bool) (a2 : Int) : Option (List Int):=if a1_1 = true then (if 0 ≤ a1_0 then (if a1_0 < (l0.length : Int) then (some (l0.set (a1_0 : Int).toNat (wrap64 ((rd l0 a1_0) + (wrap64 (-a2)))))) else (none)) else (none)) else (if 0 ≤ a1_0 then (if a1_0 < (l0.length : Int) then (some (l0.set (a1_0 : Int).toNat (wrap64 ((rd l0 a1_0) + a2)))) else (none)) else (none))
set_option maxHeartbeats 8000000 in
set_option maxRecDepth 100000 in
theorem impl_pushed.calls (P0_ : Nat → Prop) (u9000_ : Value) (l0 : List Int) (a1_0 : Int) (a1_1 : Bool) (a2 : Int) (r : List Int) (w0 w : World) (hB : Below w0.heap.size w0 w) (ho0 : Kd.R (Kd.int .i64) 3 w w0.heap.size P0_ u9000_ l0) (h : impl_pushed.f l0 a1_0 a1_1 a2 = some r) :
  Calls Try.prog 57 #[u9000_,.agg #[.int .i64 a1_0,.bool a1_1],.int .i64 a2] w fun e w'=>e = .returned (.tuple #[]) ∧ Kd.R (Kd.int .i64) 3 w' w0.heap.size (fun k_=>(P0_ k_ ∨ w.heap.size ≤ k_)) u9000_ r ∧ Below w0.heap.size w0 w' ∧ Kept w w' (fun k_=>P0_ k_):=by
 have hu79:=Try.underlying79
 have HO0:=am_ (show Kd.R (Kd.int .i64) 3 w w0.heap.size (fun k_=>(P0_ k_ ∨ w.heap.size ≤ k_)) u9000_ l0 from Kd.R_mono ho0 (fun k_ hk=>(.inl hk)))
 have HK:=am_ (Kept.refl w (fun k_=>P0_ k_))
 have HW0:=am_ hB.size
 have HB:=am_ hB
 clear hB
 have H : (if a1_1 = true then (if 0 ≤ a1_0 then (if a1_0 < (l0.length : Int) then (some (l0.set (a1_0 : Int).toNat (wrap64 ((rd l0 a1_0) + (wrap64 (-a2)))))) else (none)) else (none)) else (if 0 ≤ a1_0 then (if a1_0 < (l0.length : Int) then (some (l0.set (a1_0 : Int).toNat (wrap64 ((rd l0 a1_0) + a2)))) else (none)) else (none))) = some r:=h
 clear h
 by_cases c4 : a1_1 = true
 ·subst c4
  have H1 : (if 0 ≤ a1_0 then (if a1_0 < (l0.length : Int) then (some (l0.set (a1_0 : Int).toNat (wrap64 ((rd l0 a1_0) + (wrap64 (-a2)))))) else (none)) else (none)) = some r:=by rw [if_pos rfl] at H;exact H
  clear H
  have H:=H1
  clear H1
  by_cases c5 : 0 ≤ a1_0
  rotate_left
  ·rw [if_neg c5] at H
   exact absurd H (by simp)
  rw [if_pos c5] at H
  have c5b0 : decide (0 ≤ a1_0) = true:=decide_eq_true c5
  clear c5
  by_cases c6 : a1_0 < (l0.length : Int)
  ·rw [if_pos c6] at H
   have c6b0 : decide (a1_0 < (l0.length : Int)) = true:=decide_eq_true c6
   clear c6
   obtain ⟨y338,hy338⟩ : ∃ y_ : List Int,y_ = (l0.set (a1_0 : Int).toNat (wrap64 ((rd l0 a1_0) + (wrap64 (-a2))))):=⟨_,rfl⟩
   replace H : (some y338) = some r:=by (rw [hy338];with_reducible exact H)
   have Ny338:=am_ hy338
   clear hy338
   obtain rfl:=Option.some.inj H
   go_enter Try.func57,Try.ntmps57
   go_wp2_with (first|((with_reducible refine gate_dst (N:=4) rfl ?_);refine box_event ?hg (N:=4) ?hd (cs:=#[.int .i64 a1_0,.bool true]) (t:=79) ?hr ?_;(case hd=>rfl);(case hg=>rfl);(case hr=>(go_simp;done));intro gb336 hg w8 hbox hb;have n0_:=am_ (Kd.R_below HO0.out hb);have n1_:=am_ (Kept.below (S:=(fun k_=>P0_ k_)) (by exact HK.out) hb);have n2_:=am_ (below_step HB.out hb);have n3_:=am_ (hbox);have n4_:=am_ ((by rw [hg];exact (by exact HK.out.1) : w.heap.size ≤ gb336));have n5_:=am_ ((by rw [hg];exact (below_size HB.out) : w0.heap.size ≤ gb336));clear HO0 HK HB;have HO0:=n0_;have HK:=n1_;have HB:=n2_;have BK336:=n3_;have GW336:=n4_;have GE336:=n5_;clear n0_ n1_ n2_ n3_ n4_ n5_ hb hbox hg;have hcz9_0 : w8.cell? ⟨gb336,0,none⟩ = some (.int .i64 a1_0):=bc_ BK336.out 0;have hcz9_1 : w8.cell? ⟨gb336,1,none⟩ = some (.bool true):=bc_ BK336.out 1;have hfz9_0:=blk_frozen BK336.out 0;have hfz9_1:=blk_frozen BK336.out 1;obtain ⟨Ao10,co10,eo10⟩:=Kd.R_slice HO0.out;subst eo10;have p337 : 0 ≤ (a1_0 : Int):=od_ (by (with_reducible assumption));have q337 : a1_0 < (l0.length : Int):=od_ (by (with_reducible assumption));obtain ⟨ad337,e337,hx337_0⟩:=Kd.at_int (Kd.R_reads' HO0.out).2.2 a1_0 p337 q337;cases e337;replace p337:=eq_true p337;replace q337:=eq_true q337;have p7 : 0 ≤ (a1_0 : Int):=od_ (by (with_reducible assumption));have q7 : (a1_0 : Int) < ((l0.length : Int) : Int):=od_ (by (with_reducible assumption));obtain ⟨go7,co7,eo7,gb7,gl7,cl7,HG7⟩:=Kd.R_form HO0.out (by omega);(cases eo7);have GB7:=am_ gb7;have GG7:=am_ HG7;clear gb7 gl7 HG7;have HMgo7:=am_ (show (P0_ go7 ∨ w.heap.size ≤ go7) from (HO0.out.1 _ rfl));(simp only [add_plain] at hx337_0);obtain ⟨hx7_0,hf7_0⟩:=Kd.R_celln 0 HO0.out (a1_0 : Int) p7 q7;replace p7:=eq_true p7;replace q7:=eq_true q7;obtain ⟨hy11_,hz11_⟩:=Kd.R_celln 0 HO0.out (a1_0 : Int) (od_ (by (with_reducible assumption))) (od_ (by (with_reducible assumption)));have HP11:=Kd.R_putg HO0.out (a1_0 : Int) (wrap64 ((rd l0 a1_0) + (wrap64 (-a2)))))|((with_reducible refine gate_store (t:=3) (p:=17) rfl ?_);refine store_event (t:=3) (p:=17) (v:=?vo_w12) (w1:=(w8.setCell ⟨go7,(a1_0 : Int).toNat,none⟩ (.int .i64 (wrap64 ((rd l0 a1_0) + (wrap64 (-a2))))))) ?hg ?ho ?hn ?hr ?_;(case ho=>rfl);(case hg=>rfl);(case hn=>rfl);(case hr=>(go_simp;done));intro w12 hw;have hg : w8.grownBy w12 (some go7):=(by rw [hw];exact HP11.2);have hp_ : Kd.R (Kd.int .i64) 3 w12 w0.heap.size (fun k_=>(P0_ k_ ∨ w.heap.size ≤ k_)) (.slice (some ⟨go7,0,none⟩) l0.length co10) y338:=(by rw [hw,Ny338.out];exact HP11.1);clear HP11;have n0_:=am_ (hp_);have n1_:=am_ (blk_grown (g:=gb336) (o:=.cells #[.int .i64 a1_0,.bool true] 79 (0,0)) BK336.out hg (Kd.R_ne HO0.out BK336.out (by decide)));have n2_:=am_ ((by rw [hw];exact below_set (HB.out) GB7.out : Below w0.heap.size w0 w12));have n3_:=am_ (Kept.of_grown (S:=(fun k_=>P0_ k_)) hg (by exact HK.out) (fun k_ e_=>(HO0.out.1 k_ e_)));clear HO0 BK336 HB HK;have HO0:=n0_;have BK336:=n1_;have HB:=n2_;have HK:=n3_;clear n0_ n1_ n2_ n3_ hg hw hp_))
   go_end0
   exact ⟨by rfl,by exact HO0.out,by exact HB.out,by exact HK.out⟩
  rw [if_neg c6] at H
  exact absurd H (by simp)
 replace c4:=Bool.eq_false_iff.mpr c4
 subst c4
 have H1 : (if 0 ≤ a1_0 then (if a1_0 < (l0.length : Int) then (some (l0.set (a1_0 : Int).toNat (wrap64 ((rd l0 a1_0) + a2)))) else (none)) else (none)) = some r:=by rw [if_neg (show ¬ (false = true) by decide)] at H;exact H
 clear H
 have H:=H1
 clear H1
 by_cases c13 : 0 ≤ a1_0
 rotate_left
 ·rw [if_neg c13] at H
  exact absurd H (by simp)
 rw [if_pos c13] at H
 have c13b0 : decide (0 ≤ a1_0) = true:=decide_eq_true c13
 clear c13
 by_cases c14 : a1_0 < (l0.length : Int)
 ·rw [if_pos c14] at H
  have c14b0 : decide (a1_0 < (l0.length : Int)) = true:=decide_eq_true c14
  clear c14
  obtain ⟨y340,hy340⟩ : ∃ y_ : List Int,y_ = (l0.set (a1_0 : Int).toNat (wrap64 ((rd l0 a1_0) + a2))):=⟨_,rfl⟩
  replace H : (some y340) = some r:=by (rw [hy340];with_reducible exact H)
  have Ny340:=am_ hy340
  clear hy340
  obtain rfl:=Option.some.inj H
  go_enter Try.func57,Try.ntmps57
  go_wp2_with (first|((with_reducible refine gate_dst (N:=4) rfl ?_);refine box_event ?hg (N:=4) ?hd (cs:=#[.int .i64 a1_0,.bool false]) (t:=79) ?hr ?_;(case hd=>rfl);(case hg=>rfl);(case hr=>(go_simp;done));intro gb336 hg w16 hbox hb;have n0_:=am_ (Kd.R_below HO0.out hb);have n1_:=am_ (Kept.below (S:=(fun k_=>P0_ k_)) (by exact HK.out) hb);have n2_:=am_ (below_step HB.out hb);have n3_:=am_ (hbox);have n4_:=am_ ((by rw [hg];exact (by exact HK.out.1) : w.heap.size ≤ gb336));have n5_:=am_ ((by rw [hg];exact (below_size HB.out) : w0.heap.size ≤ gb336));clear HO0 HK HB;have HO0:=n0_;have HK:=n1_;have HB:=n2_;have BK336:=n3_;have GW336:=n4_;have GE336:=n5_;clear n0_ n1_ n2_ n3_ n4_ n5_ hb hbox hg;have hcz17_0 : w16.cell? ⟨gb336,0,none⟩ = some (.int .i64 a1_0):=bc_ BK336.out 0;have hcz17_1 : w16.cell? ⟨gb336,1,none⟩ = some (.bool false):=bc_ BK336.out 1;have hfz17_0:=blk_frozen BK336.out 0;have hfz17_1:=blk_frozen BK336.out 1;obtain ⟨Ao18,co18,eo18⟩:=Kd.R_slice HO0.out;subst eo18;have p339 : 0 ≤ (a1_0 : Int):=od_ (by (with_reducible assumption));have q339 : a1_0 < (l0.length : Int):=od_ (by (with_reducible assumption));obtain ⟨ad339,e339,hx339_0⟩:=Kd.at_int (Kd.R_reads' HO0.out).2.2 a1_0 p339 q339;cases e339;replace p339:=eq_true p339;replace q339:=eq_true q339;have p15 : 0 ≤ (a1_0 : Int):=od_ (by (with_reducible assumption));have q15 : (a1_0 : Int) < ((l0.length : Int) : Int):=od_ (by (with_reducible assumption));obtain ⟨go15,co15,eo15,gb15,gl15,cl15,HG15⟩:=Kd.R_form HO0.out (by omega);(cases eo15);have GB15:=am_ gb15;have GG15:=am_ HG15;clear gb15 gl15 HG15;have HMgo15:=am_ (show (P0_ go15 ∨ w.heap.size ≤ go15) from (HO0.out.1 _ rfl));(simp only [add_plain] at hx339_0);obtain ⟨hx15_0,hf15_0⟩:=Kd.R_celln 0 HO0.out (a1_0 : Int) p15 q15;replace p15:=eq_true p15;replace q15:=eq_true q15;obtain ⟨hy19_,hz19_⟩:=Kd.R_celln 0 HO0.out (a1_0 : Int) (od_ (by (with_reducible assumption))) (od_ (by (with_reducible assumption)));have HP19:=Kd.R_putg HO0.out (a1_0 : Int) (wrap64 ((rd l0 a1_0) + a2)))|((with_reducible refine gate_store (t:=3) (p:=17) rfl ?_);refine store_event (t:=3) (p:=17) (v:=?vo_w20) (w1:=(w16.setCell ⟨go15,(a1_0 : Int).toNat,none⟩ (.int .i64 (wrap64 ((rd l0 a1_0) + a2))))) ?hg ?ho ?hn ?hr ?_;(case ho=>rfl);(case hg=>rfl);(case hn=>rfl);(case hr=>(go_simp;done));intro w20 hw;have hg : w16.grownBy w20 (some go15):=(by rw [hw];exact HP19.2);have hp_ : Kd.R (Kd.int .i64) 3 w20 w0.heap.size (fun k_=>(P0_ k_ ∨ w.heap.size ≤ k_)) (.slice (some ⟨go15,0,none⟩) l0.length co18) y340:=(by rw [hw,Ny340.out];exact HP19.1);clear HP19;have n0_:=am_ (hp_);have n1_:=am_ (blk_grown (g:=gb336) (o:=.cells #[.int .i64 a1_0,.bool false] 79 (0,0)) BK336.out hg (Kd.R_ne HO0.out BK336.out (by decide)));have n2_:=am_ ((by rw [hw];exact below_set (HB.out) GB15.out : Below w0.heap.size w0 w20));have n3_:=am_ (Kept.of_grown (S:=(fun k_=>P0_ k_)) hg (by exact HK.out) (fun k_ e_=>(HO0.out.1 k_ e_)));clear HO0 BK336 HB HK;have HO0:=n0_;have BK336:=n1_;have HB:=n2_;have HK:=n3_;clear n0_ n1_ n2_ n3_ hg hw hp_))
  go_end0
  exact ⟨by rfl,by exact HO0.out,by exact HB.out,by exact HK.out⟩
 rw [if_neg c14] at H
 exact absurd H (by simp)

end Go.Proofs.Ytgkpgigoonhgdaa.PFnMostCut
