-- Made by the session's wip/pp.py, a changed call of the kit's printer; Lean checks it.
import Derived.Test.YtgkpgigoonhgdaaPFnCheapestx0
import Derived.Test.YtgkpgigoonhgdaaPFnCheapestx1
import Derived.Test.YtgkpgigoonhgdaaPFnCheapestx3
import Derived.Test.YtgkpgigoonhgdaaPFnCheapestx7
namespace Go.Proofs.Ytgkpgigoonhgdaa.PFnCheapest
open Go.RowKit Go.Proofs.YtgkpgigoonhgdaaW.PrintWords Go.Proofs.YtgkpgigoonhgdaaW.PrintLast Go.Proofs.YtgkpgigoonhgdaaW.PrintMore
attribute [local go_sem] max2_int min2_int max_two min_two max_three min_three max_four min_four   -- for this text's walks alone
set_option linter.unusedVariables false
set_option linter.unusedSimpArgs false

abbrev fl8_0_ : Array Bool:=#[true,true,true,true,true,true,true,false]
/-! ### impl_distances: function 66 -/
mutual
def impl_distances.l0 : Nat → List (List (S79)) → List Int → List Int → List Bool → Int → Int → List (S67) → Option (List Int)
 | 0, _, _, _, _, _, _, _ => none
 | k + 1, x1, x2, x7, x8, x9, x285000, x285001 => if x9 < x285000 then (if 0 ≤ x9 then (if x9 < (x7.length : Int) then (impl_distances.l0 k x1 x2 (x7.set (x9 : Int).toNat 1152921504606846976) x8 (wrap64 (x9 + 1)) x285000 x285001) else (none)) else (none)) else (impl_distances.l1 k x1 x2 x7 x8 (([0] : List Int)) x285000 x285001)
def impl_distances.l1 : Nat → List (List (S79)) → List Int → List Int → List Bool → List Int → Int → List (S67) → Option (List Int)
 | 0, _, _, _, _, _, _, _ => none
 | k + 1, x1, x2, x7, x8, x10, x285000, x285001 => if (x10.length : Int) > 0 then (if 0 < (x10.length : Int) then (if 0 ≤ (rd x10 0) then (if (rd x10 0) < (x8.length : Int) then (if (rd x10 0) < (x1.length : Int) then (impl_distances.l2 k x1 x2 x7 (x8.set ((rd x10 0) : Int).toNat false) x10 (rd x10 0) (rd_L4 x1 (rd x10 0)) ((rd_L4 x1 (rd x10 0)).length : Int) 0 x285000 x285001) else (none)) else (none)) else (none)) else (none)) else (some x7)
def impl_distances.l2 : Nat → List (List (S79)) → List Int → List Int → List Bool → List Int → Int → List (S79) → Int → Int → Int → List (S67) → Option (List Int)
 | 0, _, _, _, _, _, _, _, _, _, _, _ => none
 | k + 1, x1, x2, x7, x8, x10, x11, x47, x48, x49, x285000, x285001 => if x49 < x48 then (if 0 ≤ x49 then (if x49 < (x47.length : Int) then ((impl_step_ends.f ((rd_T79 x47 x49).f0) ((rd_T79 x47 x49).f1) x285000 x285001).bind fun bt303 => (if 0 ≤ x11 then (if x11 < (x7.length : Int) then ((impl_step_length.f ((rd_T79 x47 x49).f0) ((rd_T79 x47 x49).f1) x285000 x285001).bind fun t306 => ((impl_step_room.f ((rd_T79 x47 x49).f0) ((rd_T79 x47 x49).f1) x285000 x285001 x2).bind fun t307 => (if t307 = 0 then (impl_distances.j3 k x1 x2 x7 x8 x10 x11 bt303.2 (wrap64 ((rd x7 x11) + t306)) x47 x48 x49 true x285000 x285001) else (if 0 ≤ bt303.2 then (if bt303.2 < (x7.length : Int) then (impl_distances.j3 k x1 x2 x7 x8 x10 x11 bt303.2 (wrap64 ((rd x7 x11) + t306)) x47 x48 x49 (decide ((wrap64 ((rd x7 x11) + t306)) ≥ (rd x7 bt303.2))) x285000 x285001) else (none)) else (none))))) else (none)) else (none))) else (none)) else (none)) else (if 1 ≤ (x10.length : Int) then (impl_distances.l1 k x1 x2 x7 x8 (x10.drop (1 : Int).toNat) x285000 x285001) else (none))
def impl_distances.j3 : Nat → List (List (S79)) → List Int → List Int → List Bool → List Int → Int → Int → Int → List (S79) → Int → Int → Bool → Int → List (S67) → Option (List Int)
 | 0, _, _, _, _, _, _, _, _, _, _, _, _, _, _ => none
 | k + 1, x1, x2, x7, x8, x10, x11, x15, x16, x47, x48, x49, x79, x285000, x285001 => if x79 = true then (impl_distances.l2 k x1 x2 x7 x8 x10 x11 x47 x48 (wrap64 (x49 + 1)) x285000 x285001) else (if 0 ≤ x15 then (if x15 < (x7.length : Int) then ((some (x7.set (x15 : Int).toNat x16 : List Int)).bind fun y309 => (if x15 < (x8.length : Int) then (if rdOf false x8 x15 = true then (impl_distances.l2 k x1 x2 y309 x8 x10 x11 x47 x48 (wrap64 (x49 + 1)) x285000 x285001) else (if x10.length < 17592186044416 then (impl_distances.l2 k x1 x2 y309 (x8.set (x15 : Int).toNat true) (x10 ++ [x15]) x11 x47 x48 (wrap64 (x49 + 1)) x285000 x285001) else (none))) else (none))) else (none)) else (none))
end
def impl_distances.f (k : Nat) (a0_0 : Int) (l0_1 : List (S67)) (l1 : List (List (S79))) (l2 : List Int) : Option (List Int):=if 0 ≤ a0_0 then (if (a0_0 : Int).toNat ≤ 35184372088832 then (if (a0_0 : Int).toNat ≤ 281474976710656 then (impl_distances.l0 k l1 l2 (List.replicate (a0_0 : Int).toNat 0) (List.replicate (a0_0 : Int).toNat false) 1 a0_0 l0_1) else (none)) else (none)) else (none)
theorem impl_distances.mono_l : ∀ k,(∀ y0 y1 y2 y3 y4 y5 y6,LeO (impl_distances.l0 k y0 y1 y2 y3 y4 y5 y6) (impl_distances.l0 (k + 1) y0 y1 y2 y3 y4 y5 y6)) ∧ (∀ y0 y1 y2 y3 y4 y5 y6,LeO (impl_distances.l1 k y0 y1 y2 y3 y4 y5 y6) (impl_distances.l1 (k + 1) y0 y1 y2 y3 y4 y5 y6)) ∧ (∀ y0 y1 y2 y3 y4 y5 y6 y7 y8 y9 y10,LeO (impl_distances.l2 k y0 y1 y2 y3 y4 y5 y6 y7 y8 y9 y10) (impl_distances.l2 (k + 1) y0 y1 y2 y3 y4 y5 y6 y7 y8 y9 y10)) ∧ (∀ y0 y1 y2 y3 y4 y5 y6 y7 y8 y9 y10 y11 y12 y13,LeO (impl_distances.j3 k y0 y1 y2 y3 y4 y5 y6 y7 y8 y9 y10 y11 y12 y13) (impl_distances.j3 (k + 1) y0 y1 y2 y3 y4 y5 y6 y7 y8 y9 y10 y11 y12 y13))
 | 0 => ⟨fun _ _ _ _ _ _ _ r h => by simp [impl_distances.l0] at h, fun _ _ _ _ _ _ _ r h => by simp [impl_distances.l1] at h, fun _ _ _ _ _ _ _ _ _ _ _ r h => by simp [impl_distances.l2] at h, fun _ _ _ _ _ _ _ _ _ _ _ _ _ _ r h => by simp [impl_distances.j3] at h⟩
 | k + 1 => by
  obtain ⟨ih0,ih1,ih2,ih3⟩:=impl_distances.mono_l k
  refine ⟨?_,?_,?_,?_⟩
  ·intro y0 y1 y2 y3 y4 y5 y6
   unfold impl_distances.l0
   repeat' first
   | (with_reducible exact ih0 _ _ _ _ _ _ _)
   | (with_reducible exact ih1 _ _ _ _ _ _ _)
   | (with_reducible exact LeO.refl _)
   | (with_reducible refine LeO.ite ?_ ?_)
  ·intro y0 y1 y2 y3 y4 y5 y6
   unfold impl_distances.l1
   repeat' first
   | (with_reducible exact ih2 _ _ _ _ _ _ _ _ _ _ _)
   | (with_reducible exact LeO.refl _)
   | (with_reducible refine LeO.ite ?_ ?_)
  ·intro y0 y1 y2 y3 y4 y5 y6 y7 y8 y9 y10
   unfold impl_distances.l2
   repeat' first
   | (with_reducible exact ih1 _ _ _ _ _ _ _)
   | (with_reducible exact ih3 _ _ _ _ _ _ _ _ _ _ _ _ _ _)
   | (with_reducible exact LeO.refl _)
   | (with_reducible refine LeO.ite ?_ ?_)
   | (with_reducible refine LeO.bind ?_ (fun _ => ?_))
  ·intro y0 y1 y2 y3 y4 y5 y6 y7 y8 y9 y10 y11 y12 y13
   unfold impl_distances.j3
   repeat' first
   | (with_reducible exact ih2 _ _ _ _ _ _ _ _ _ _ _)
   | (with_reducible exact LeO.refl _)
   | (with_reducible refine LeO.ite ?_ ?_)
   | (with_reducible refine LeO.bind ?_ (fun _ => ?_))
theorem impl_distances.mono : ∀ a0 a1 a2 a3 k,LeO (impl_distances.f k a0 a1 a2 a3) (impl_distances.f (k + 1) a0 a1 a2 a3):=by
 intro a0 a1 a2 a3 k
 obtain ⟨ih0,ih1,ih2,ih3⟩:=impl_distances.mono_l k
 unfold impl_distances.f
 repeat' first
   | (with_reducible exact ih0 _ _ _ _ _ _ _)
   | (with_reducible exact LeO.refl _)
   | (with_reducible refine LeO.ite ?_ ?_)
def impl_distances.T1 : Bool × List (List Nat × List Nat):=(true,[([],[]),([0],[0]),([1,1],[1]),([],[]),([3],[3]),([4,4],[4]),([2,0,1,2],[2]),([5,6,0,1,2,3,4,5,6],[5])])
def impl_distances.B1 : List Nat:=[0,1,3,0,8,24,7,127]
theorem impl_distances.tab1 : rtab .any (opsOf Try.f66 1) = impl_distances.T1:=by kernel_rfl
theorem impl_distances.bits1 : waitsOk impl_distances.T1.2 impl_distances.B1 = true:=by kernel_rfl
def impl_distances.T15 : Bool × List (List Nat × List Nat):=(true,[([],[]),([],[]),([0,1],[0,1]),([2],[2]),([],[]),([],[]),([4,5],[4,5]),([3,6],[3,6]),([7,6,0,1,2,3,4,5,6,7],[7])])
def impl_distances.B15 : List Nat:=[0,0,3,7,0,0,48,127,255]
theorem impl_distances.tab15 : rtab .any (opsOf Try.f66 15) = impl_distances.T15:=by kernel_rfl
theorem impl_distances.bits15 : waitsOk impl_distances.T15.2 impl_distances.B15 = true:=by kernel_rfl
set_option maxHeartbeats 8000000 in
set_option maxRecDepth 100000 in
theorem impl_distances.calls (k : Nat) (a0_0 : Int) (A0_1 : Option Addr) (c0_1 : Nat) (l0_1 : List (S67)) (A1 : Option Addr) (c1 : Nat) (l1 : List (List (S79))) (A2 : Option Addr) (c2 : Nat) (l2 : List Int) (r : List Int) (w : World) (hr0_1 : Kd.C k67 w A0_1 l0_1.length l0_1) (hc0_1 : l0_1.length ≤ c0_1) (hr1 : Kd.C (Kd.slice 79 k79) w A1 l1.length l1) (hc1 : l1.length ≤ c1) (hr2 : Kd.C (Kd.int .i64) w A2 l2.length l2) (hc2 : l2.length ≤ c2) (h : impl_distances.f k a0_0 l0_1 l1 l2 = some r) :
  Calls Try.prog 66 #[.agg #[.int .i64 a0_0,.slice A0_1 l0_1.length c0_1],.slice A1 l1.length c1,.slice A2 l2.length c2] w fun e w'=>∃ v0_ : Value,e = .returned (v0_) ∧ Kd.R (Kd.int .i64) 3 w' w.heap.size (fun _=>True) v0_ r ∧ Below w.heap.size w w':=by
 have hu30:=Try.underlying30
 have hu79:=Try.underlying79
 have HR0_1:=am_ hr0_1
 have HC0_1:=am_ hc0_1
 clear hr0_1 hc0_1
 have HR1:=am_ hr1
 have HC1:=am_ hc1
 clear hr1 hc1
 have HR2:=am_ hr2
 have HC2:=am_ hc2
 clear hr2 hc2
 have HB:=am_ (Below.refl w.heap.size w)
 have H : (if 0 ≤ a0_0 then (if (a0_0 : Int).toNat ≤ 35184372088832 then (if (a0_0 : Int).toNat ≤ 281474976710656 then (impl_distances.l0 k l1 l2 (List.replicate (a0_0 : Int).toNat 0) (List.replicate (a0_0 : Int).toNat false) 1 a0_0 l0_1) else (none)) else (none)) else (none)) = some r:=h
 clear h
 by_cases c4 : 0 ≤ a0_0
 rotate_left
 ·rw [if_neg c4] at H
  exact absurd H (by simp)
 rw [if_pos c4] at H
 have c4b0:=eq_true c4
 have c4b1 : decide (0 ≤ a0_0) = true:=decide_eq_true c4
 clear c4
 by_cases c5 : (a0_0 : Int).toNat ≤ 35184372088832
 rotate_left
 ·rw [if_neg c5] at H
  exact absurd H (by simp)
 rw [if_pos c5] at H
 have c5b0:=eq_true c5
 have c5b1 : decide ((a0_0 : Int).toNat ≤ 35184372088832) = true:=decide_eq_true c5
 clear c5
 obtain ⟨y285,hy285⟩ : ∃ y_ : List Int,y_ = (List.replicate (a0_0 : Int).toNat 0):=⟨_,rfl⟩
 replace H : (if (a0_0 : Int).toNat ≤ 281474976710656 then (impl_distances.l0 k l1 l2 y285 (List.replicate (a0_0 : Int).toNat false) 1 a0_0 l0_1) else (none)) = some r:=by (rw [hy285];with_reducible exact H)
 have Ny285:=am_ hy285
 clear hy285
 by_cases c6 : (a0_0 : Int).toNat ≤ 281474976710656
 rotate_left
 ·rw [if_neg c6] at H
  exact absurd H (by simp)
 rw [if_pos c6] at H
 have c6b0:=eq_true c6
 have c6b1 : decide ((a0_0 : Int).toNat ≤ 281474976710656) = true:=decide_eq_true c6
 clear c6
 obtain ⟨y288,hy288⟩ : ∃ y_ : List Bool,y_ = (List.replicate (a0_0 : Int).toNat false):=⟨_,rfl⟩
 replace H : (impl_distances.l0 k l1 l2 y285 y288 1 a0_0 l0_1) = some r:=by (rw [hy288];with_reducible exact H)
 have Ny288:=am_ hy288
 clear hy288
 have H':=am_ H
 clear H
 go_enter Try.func66,Try.ntmps66
 try go_wp2_with (((with_reducible refine gate_dst (N:=3) rfl ?_);refine box_event ?hg (N:=3) ?hd (cs:=#[.int .i64 a0_0,.slice A0_1 l0_1.length c0_1]) (t:=30) ?hr ?_;(case hd=>rfl);(case hg=>rfl);(case hr=>(go_simp;done));intro gb284 hg w7 hbox hb;have n0_:=am_ (below_step HB.out hb);have n1_:=am_ (hbox);have n2_:=am_ ((by rw [hg];exact (below_size HB.out) : w.heap.size ≤ gb284));have n3_:=n2_;clear HB;have HB:=n0_;have BK284:=n1_;have GW284:=n2_;have GE284:=n3_;clear n0_ n1_ n2_ n3_ hb hbox hg))
 have n0_:=am_ (blk_drew BK284.out)
 have n1_:=am_ (below_drew1 HB.out)
 clear BK284
 clear HB
 have BK284:=n0_
 have HB:=n1_
 clear n0_ n1_
 refine start_ (n:=8) (S:=fun w'=>w'.cell? ⟨gb284,0,none⟩ = some (.int .i64 a0_0) ∧ w'.cell? ⟨gb284,1,none⟩ = some (.slice A0_1 l0_1.length c0_1)) (ds:=[]) #[false,false,false,false,false,false,false,false] (by kernel_rfl) rfl rfl ⟨(blk_cell BK284.out 0).trans rfl,(blk_cell BK284.out 1).trans rfl⟩ (fun hHeld=>?_);refine with_tabW impl_distances.tab1 impl_distances.bits1 (fun HT_ HW_=>?_)
 generalize w7.drew = w8 at BK284 HB hHeld ⊢
 refine pure_ (i:=0) (N:=some 17) (v:=?_) (a':=?_) #[true,false,false,false,false,false,false,false] rfl rfl (any_of HT_.out (by kernel_rfl)) (fun _ _ _ h=>h) (Or.inl ⟨by rfl,?_⟩) ?_ ?_
 rotate_left
 ·intro w'
  go_simp
  with_reducible rfl
 rotate_left
 ·simp only [Act.put,List.setIfInBounds_toArray,List.set_cons_zero,List.set_cons_succ,i64_w,i32_w]
  rfl
 refine pure_ (i:=3) (N:=some 20) (v:=?_) (a':=?_) #[true,false,false,true,false,false,false,false] rfl rfl (any_of HT_.out (by kernel_rfl)) (fun _ _ _ h=>h) (Or.inl ⟨by rfl,?_⟩) ?_ ?_
 rotate_left
 ·intro w'
  go_simp
  with_reducible rfl
 rotate_left
 ·simp only [Act.put,List.setIfInBounds_toArray,List.set_cons_zero,List.set_cons_succ,i64_w,i32_w]
  rfl
 refine take_ (i:=1) (N:=some 18) (v:=?_) (a':=?_) #[true,true,false,true,false,false,false,false] rfl rfl (take_ofW HT_.out HW_.out (by kernel_rfl)) (fun _ _ _ h=>h) (Or.inl ⟨by rfl,?_⟩) hHeld ?_ ?_
 rotate_left
 ·rintro w' ⟨s0,s1⟩
  go_simp
  with_reducible rfl
 rotate_left
 ·simp only [Act.put,List.setIfInBounds_toArray,List.set_cons_zero,List.set_cons_succ,i64_w,i32_w]
  rfl
 refine take_ (i:=4) (N:=some 21) (v:=?_) (a':=?_) #[true,true,false,true,true,false,false,false] rfl rfl (take_ofW HT_.out HW_.out (by kernel_rfl)) (fun _ _ _ h=>h) (Or.inl ⟨by rfl,?_⟩) hHeld ?_ ?_
 rotate_left
 ·rintro w' ⟨s0,s1⟩
  go_simp
  with_reducible rfl
 rotate_left
 ·simp only [Act.put,List.setIfInBounds_toArray,List.set_cons_zero,List.set_cons_succ,i64_w,i32_w]
  rfl
 refine join_ (σ:=Value × Value) 1 fl8_0_ (fun s_=>[(19,s_.1),(22,s_.2),(7,s_.1)]) (fun s_ w'=>(w'.cell? ⟨gb284,0,none⟩ = some (.int .i64 a0_0) ∧ w'.cell? ⟨gb284,1,none⟩ = some (.slice A0_1 l0_1.length c0_1)) ∧ (Kd.R (Kd.int .i64) 3 w' w.heap.size (fun _=>True) s_.1 y285) ∧ (Kd.R Kd.bool 4 w' w.heap.size (fun _=>True) s_.2 y288) ∧ (w'.heap[gb284]? = some (.cells #[.int .i64 a0_0,.slice A0_1 l0_1.length c0_1] 30 (0,0))) ∧ (Below w.heap.size w w')) ?_ ?_
 rotate_left
 ·intro hCont
  refine two_ (i:=2) (j:=5) (Ni:=some 19) (Nj:=some 22) #[true,true,true,true,true,false,false,false] #[true,true,false,true,true,true,false,false] rfl rfl rfl rfl (two_of HT_.out (by kernel_rfl)) (by decide) (by decide) (fun K hK=>?_) (fun K hK=>?_)
  ·skip
   refine Kd.R_make_step (Kd.int .i64) _ 3 (by rfl) (N:=19) rfl 25 _ _ rfl a0_0 rfl rfl Try.underlying25 (.int .i64 0) 8 info3 rfl (by decide) (by omega) 0 (ok:=fun _=>True) (okp:=fun _=>True) rfl (fun _ hk=>hk) trivial (of_decide_eq_true (by (with_reducible assumption))) (Nat.le_trans (Nat.mul_le_mul_right _ (of_decide_eq_true (by (with_reducible assumption)) : a0_0.toNat ≤ 35184372088832)) (by omega)) (Below.refl _ _) (Nat.le_refl _) ?_
   intro v286 w9 ho10 hb hg_ hnew_
   clear hg_ hnew_
   (rw [← Ny285.out] at ho10)
   have n0_:=am_ (Kd.R_lower ho10 (below_size HB.out))
   have n1_:=am_ (blk_below BK284.out hb)
   have n2_:=am_ (below_step HB.out hb)
   clear BK284
   clear HB
   have HO287:=n0_
   have BK284:=n1_
   have HB:=n2_
   clear n0_ n1_ n2_
   clear hb ho10
   refine hK.out _ _ ⟨(blk_cell BK284.out 0).trans rfl,(blk_cell BK284.out 1).trans rfl⟩ (fun hHeld=>?_)
   clear hK K
   refine norm_ (a':=?_) ?_ ?_
   rotate_left
   ·show Act.put _ (some 19) _ = _
    simp only [Act.put,List.setIfInBounds_toArray,List.set_cons_zero,List.set_cons_succ,i64_w,i32_w]
    rfl
   refine pure_ (i:=6) (N:=some 7) (v:=?_) (a':=?_) #[true,true,true,true,true,false,true,false] rfl rfl (any_of HT_.out (by kernel_rfl)) (fun _ _ _ h=>h) (Or.inl ⟨by rfl,?_⟩) ?_ ?_
   rotate_left
   ·intro w'
    go_simp
    with_reducible rfl
   rotate_left
   ·simp only [Act.put,List.setIfInBounds_toArray,List.set_cons_zero,List.set_cons_succ,i64_w,i32_w]
    rfl
   refine one_ (i:=5) (N:=some 22) fl8_0_ rfl rfl (one_of HT_.out (by kernel_rfl)) (by decide) (fun K hK=>?_)
   refine Kd.R_make_step Kd.bool _ 4 (by rfl) (N:=22) rfl 38 _ _ rfl a0_0 rfl rfl Try.underlying38 (.bool false) 1 info4 rfl (by decide) (by omega) false (ok:=fun _=>True) (okp:=fun _=>True) rfl (fun _ hk=>hk) trivial (of_decide_eq_true (by (with_reducible assumption))) (Nat.le_trans (Nat.mul_le_mul_right _ (of_decide_eq_true (by (with_reducible assumption)) : a0_0.toNat ≤ 281474976710656)) (by omega)) (Below.refl _ _) (Nat.le_refl _) ?_
   intro v289 w11 ho12 hb hg_ hnew_
   clear hg_ hnew_
   (rw [← Ny288.out] at ho12)
   have n0_:=am_ (Kd.R_below HO287.out hb)
   have n1_:=am_ (Kd.R_lower ho12 (below_size HB.out))
   have n2_:=am_ (blk_below BK284.out hb)
   have n3_:=am_ (below_step HB.out hb)
   clear HO287
   clear BK284
   clear HB
   have HO287:=n0_
   have HO290:=n1_
   have BK284:=n2_
   have HB:=n3_
   clear n0_ n1_ n2_ n3_
   clear hb ho12
   refine hK.out _ _ ⟨(blk_cell BK284.out 0).trans rfl,(blk_cell BK284.out 1).trans rfl⟩ (fun hHeld=>?_)
   clear hK K
   refine norm_ (a':=?_) ?_ ?_
   rotate_left
   ·show Act.put _ (some 22) _ = _
    simp only [Act.put,List.setIfInBounds_toArray,List.set_cons_zero,List.set_cons_succ,i64_w,i32_w]
    rfl
   exact norm_ (by simp only [putAll,Act.put,List.setIfInBounds_toArray,List.set_cons_zero,List.set_cons_succ]) (hCont (v286,v289) _ ⟨hHeld,HO287.out,HO290.out,BK284.out,HB.out⟩)
  ·skip
   refine Kd.R_make_step Kd.bool _ 4 (by rfl) (N:=22) rfl 38 _ _ rfl a0_0 rfl rfl Try.underlying38 (.bool false) 1 info4 rfl (by decide) (by omega) false (ok:=fun _=>True) (okp:=fun _=>True) rfl (fun _ hk=>hk) trivial (of_decide_eq_true (by (with_reducible assumption))) (Nat.le_trans (Nat.mul_le_mul_right _ (of_decide_eq_true (by (with_reducible assumption)) : a0_0.toNat ≤ 281474976710656)) (by omega)) (Below.refl _ _) (Nat.le_refl _) ?_
   intro v289 w9 ho10 hb hg_ hnew_
   clear hg_ hnew_
   (rw [← Ny288.out] at ho10)
   have n0_:=am_ (Kd.R_lower ho10 (below_size HB.out))
   have n1_:=am_ (blk_below BK284.out hb)
   have n2_:=am_ (below_step HB.out hb)
   clear BK284
   clear HB
   have HO290:=n0_
   have BK284:=n1_
   have HB:=n2_
   clear n0_ n1_ n2_
   clear hb ho10
   refine hK.out _ _ ⟨(blk_cell BK284.out 0).trans rfl,(blk_cell BK284.out 1).trans rfl⟩ (fun hHeld=>?_)
   clear hK K
   refine norm_ (a':=?_) ?_ ?_
   rotate_left
   ·show Act.put _ (some 22) _ = _
    simp only [Act.put,List.setIfInBounds_toArray,List.set_cons_zero,List.set_cons_succ,i64_w,i32_w]
    rfl
   refine one_ (i:=2) (N:=some 19) #[true,true,true,true,true,true,false,false] rfl rfl (one_of HT_.out (by kernel_rfl)) (by decide) (fun K hK=>?_)
   refine Kd.R_make_step (Kd.int .i64) _ 3 (by rfl) (N:=19) rfl 25 _ _ rfl a0_0 rfl rfl Try.underlying25 (.int .i64 0) 8 info3 rfl (by decide) (by omega) 0 (ok:=fun _=>True) (okp:=fun _=>True) rfl (fun _ hk=>hk) trivial (of_decide_eq_true (by (with_reducible assumption))) (Nat.le_trans (Nat.mul_le_mul_right _ (of_decide_eq_true (by (with_reducible assumption)) : a0_0.toNat ≤ 35184372088832)) (by omega)) (Below.refl _ _) (Nat.le_refl _) ?_
   intro v286 w11 ho12 hb hg_ hnew_
   clear hg_ hnew_
   (rw [← Ny285.out] at ho12)
   have n0_:=am_ (Kd.R_below HO290.out hb)
   have n1_:=am_ (Kd.R_lower ho12 (below_size HB.out))
   have n2_:=am_ (blk_below BK284.out hb)
   have n3_:=am_ (below_step HB.out hb)
   clear HO290
   clear BK284
   clear HB
   have HO290:=n0_
   have HO287:=n1_
   have BK284:=n2_
   have HB:=n3_
   clear n0_ n1_ n2_ n3_
   clear hb ho12
   refine hK.out _ _ ⟨(blk_cell BK284.out 0).trans rfl,(blk_cell BK284.out 1).trans rfl⟩ (fun hHeld=>?_)
   clear hK K
   refine norm_ (a':=?_) ?_ ?_
   rotate_left
   ·show Act.put _ (some 19) _ = _
    simp only [Act.put,List.setIfInBounds_toArray,List.set_cons_zero,List.set_cons_succ,i64_w,i32_w]
    rfl
   refine pure_ (i:=6) (N:=some 7) (v:=?_) (a':=?_) fl8_0_ rfl rfl (any_of HT_.out (by kernel_rfl)) (fun _ _ _ h=>h) (Or.inl ⟨by rfl,?_⟩) ?_ ?_
   rotate_left
   ·intro w'
    go_simp
    with_reducible rfl
   rotate_left
   ·simp only [Act.put,List.setIfInBounds_toArray,List.set_cons_zero,List.set_cons_succ,i64_w,i32_w]
    rfl
   exact norm_ (by simp only [putAll,Act.put,List.setIfInBounds_toArray,List.set_cons_zero,List.set_cons_succ]) (hCont (v286,v289) _ ⟨hHeld,HO287.out,HO290.out,BK284.out,HB.out⟩)
 rintro ⟨v286,v289⟩ w13 ⟨hS_,h0_,h1_,h2_,h3_⟩
 have n0_ : Aside0 (Kd.R (Kd.int .i64) 3 w13 w.heap.size (fun _=>True) v286 y285):=⟨h0_⟩
 have n1_ : Aside0 (Kd.R Kd.bool 4 w13 w.heap.size (fun _=>True) v289 y288):=⟨h1_⟩
 have n2_ : Aside0 (w13.heap[gb284]? = some (.cells #[.int .i64 a0_0,.slice A0_1 l0_1.length c0_1] 30 (0,0))):=⟨h2_⟩
 have n3_ : Aside0 (Below w.heap.size w w13):=⟨h3_⟩
 clear BK284
 clear HB
 clear h0_ h1_ h2_ h3_
 have HO287:=n0_
 have HO290:=n1_
 have BK284:=n2_
 have HB:=n3_
 clear n0_ n1_ n2_ n3_
 have hHeld : w13.cell? ⟨gb284,0,none⟩ = some (.int .i64 a0_0) ∧ w13.cell? ⟨gb284,1,none⟩ = some (.slice A0_1 l0_1.length c0_1):=hS_
 refine norm_ (a':=?_) ?_ ?_
 rotate_left
 ·simp only [putAll,Act.put,List.setIfInBounds_toArray,List.set_cons_zero,List.set_cons_succ]
  rfl
 refine pure_ (i:=7) (N:=some 8) (v:=?_) (a':=?_) #[true,true,true,true,true,true,true,true] rfl rfl (any_of HT_.out (by kernel_rfl)) (fun _ _ _ h=>h) (Or.inl ⟨by rfl,?_⟩) ?_ ?_
 rotate_left
 ·intro w'
  go_simp
  with_reducible rfl
 rotate_left
 ·simp only [Act.put,List.setIfInBounds_toArray,List.set_cons_zero,List.set_cons_succ,i64_w,i32_w]
  rfl
 refine done_ (done_of HT_.out (by kernel_rfl)) ?_
 try go_wp2
 go_loopg [9] k (fun kq v9 w'=>∃ (x7_1 : List Int) (x9_1 : Int),v9 = .int .i64 x9_1 ∧ Aside0 (impl_distances.l0 kq l1 l2 x7_1 y288 x9_1 a0_0 l0_1 = some r) ∧ Aside0 (kq ≤ k) ∧ Aside0 (Kd.R (Kd.int .i64) 3 w' w.heap.size (fun _=>True) v286 x7_1) ∧ Aside0 (Kd.R Kd.bool 4 w' w.heap.size (fun _=>True) v289 y288) ∧ Aside0 (w'.heap[gb284]? = some (.cells #[.int .i64 a0_0,(.slice A0_1 l0_1.length c0_1)] 30 (0,0))) ∧ Aside0 (Below w.heap.size w w'))
 case atStart=>exact ⟨(y285),(1),(by rfl),H',⟨Nat.le_refl _⟩,⟨by exact HO287.out⟩,⟨by exact HO290.out⟩,⟨by exact BK284.out⟩,⟨by exact HB.out⟩⟩
 case round =>
  clear H'
  try clear c1
  try clear c2
  try clear p2
  try clear c4
  try clear c4b0
  try clear c4b1
  try clear c5
  try clear c5b0
  try clear c5b1
  try clear c6
  try clear c6b0
  try clear c6b1
  obtain ⟨x7_1,x9_1,rfl,HA,HK1,HO_7,HO_8,BK284,HB⟩:=hrel
  cases gk with
  | zero => exact absurd HA.out (by simp [impl_distances.l0])
  | succ k1 =>
   have H:=HA.out
   clear HA
   simp only [impl_distances.l0] at H
   by_cases c14 : x9_1 < a0_0
   ·rw [if_pos c14] at H
    have c14b0 : decide (x9_1 < a0_0) = true:=decide_eq_true c14
    clear c14
    by_cases c15 : 0 ≤ x9_1
    rotate_left
    ·rw [if_neg c15] at H
     exact absurd H (by simp)
    rw [if_pos c15] at H
    have c15b0 : decide (0 ≤ x9_1) = true:=decide_eq_true c15
    clear c15
    by_cases c16 : x9_1 < (x7_1.length : Int)
    rotate_left
    ·rw [if_neg c16] at H
     exact absurd H (by simp)
    rw [if_pos c16] at H
    have c16b0 : decide (x9_1 < (x7_1.length : Int)) = true:=decide_eq_true c16
    clear c16
    obtain ⟨y291,hy291⟩ : ∃ y_ : List Int,y_ = (x7_1.set (x9_1 : Int).toNat 1152921504606846976):=⟨_,rfl⟩
    replace H : (impl_distances.l0 k1 l1 l2 y291 y288 (wrap64 (x9_1 + 1)) a0_0 l0_1) = some r:=by (rw [hy291];with_reducible exact H)
    have Ny291:=am_ hy291
    clear hy291
    have H':=am_ H
    clear H
    have hcz18_0 : wr.cell? ⟨gb284,0,none⟩ = some (.int .i64 a0_0):=(blk_cell BK284.out 0).trans rfl
    have hcz18_1 : wr.cell? ⟨gb284,1,none⟩ = some (.slice A0_1 l0_1.length c0_1):=(blk_cell BK284.out 1).trans rfl
    have hfz18_0:=blk_frozen BK284.out 0
    have hfz18_1:=blk_frozen BK284.out 1
    have p17 : 0 ≤ (x9_1 : Int):=of_decide_eq_true (by (with_reducible assumption))
    have q17 : (x9_1 : Int) < ((x7_1.length : Int) : Int):=of_decide_eq_true (by (with_reducible assumption))
    obtain ⟨go17,co17,eo17,gb17,gl17,cl17,HG17⟩:=Kd.R_form HO_7.out (by omega)
    (cases eo17)
    have GB17:=am_ gb17
    have GG17:=am_ HG17
    clear gb17 gl17 HG17
    obtain ⟨hx17_0,hf17_0⟩:=Kd.R_celln 0 HO_7.out (x9_1 : Int) p17 q17
    replace p17:=eq_true p17
    replace q17:=eq_true q17
    have HP19:=Kd.R_putg HO_7.out (x9_1 : Int) 1152921504606846976
    go_wp2_with (((with_reducible refine gate_store (t:=3) (p:=31) rfl ?_);refine store_event (t:=3) (p:=31) (v:=?vo_w20) (w1:=(wr.setCell ⟨go17,(x9_1 : Int).toNat,none⟩ (.int .i64 1152921504606846976))) ?hg ?ho ?hn ?hr ?_;(case ho=>rfl);(case hg=>rfl);(case hn=>rfl);(case hr=>(go_simp;done));intro w20 hw;have hg : wr.grownBy w20 (some go17):=(by rw [hw];exact HP19.2);have hp_ : Kd.R (Kd.int .i64) 3 w20 w.heap.size (fun _=>True) (.slice (some ⟨go17,0,none⟩) x7_1.length co17) y291:=(by rw [hw,Ny291.out];exact HP19.1);clear HP19;have n0_:=am_ (hp_);have n1_:=am_ (Kd.R_over' (v:=(.slice (some ⟨go17,0,none⟩) x7_1.length co17)) HO_8.out (Kd.R_typed HO_7.out) (by decide) hg);have n2_:=am_ (blk_grown (g:=gb284) (o:=.cells #[.int .i64 a0_0,.slice A0_1 l0_1.length c0_1] 30 (0,0)) BK284.out hg (Kd.R_ne HO_7.out BK284.out (by decide)));have n3_:=am_ ((by rw [hw];exact below_set (HB.out) GB17.out : Below w.heap.size w w20));clear HO_7 HO_8 BK284 HB;have HO_7:=n0_;have HO_8:=n1_;have BK284:=n2_;have HB:=n3_;clear n0_ n1_ n2_ n3_ hg hw hp_))
    go_roundg k1
    case measure=>have:=HK1.out;omega
    case rel=>exact ⟨(y291),(wrap64 (x9_1 + 1)),(by rfl),H',⟨by have:=HK1.out;omega⟩,⟨by exact HO_7.out⟩,⟨by exact HO_8.out⟩,⟨by exact BK284.out⟩,⟨by exact HB.out⟩⟩
   rw [if_neg c14] at H
   have c14b0 : decide (x9_1 < a0_0) = false:=decide_eq_false c14
   clear c14
   obtain ⟨y292,hy292⟩ : ∃ y_ : List Int,y_ = (([0] : List Int)):=⟨_,rfl⟩
   replace H : (impl_distances.l1 k1 l1 l2 x7_1 y288 y292 a0_0 l0_1) = some r:=by (rw [hy292];with_reducible exact H)
   have Ny292:=am_ hy292
   clear hy292
   have H':=am_ H
   clear H
   have hcz21_0 : wr.cell? ⟨gb284,0,none⟩ = some (.int .i64 a0_0):=(blk_cell BK284.out 0).trans rfl
   have hcz21_1 : wr.cell? ⟨gb284,1,none⟩ = some (.slice A0_1 l0_1.length c0_1):=(blk_cell BK284.out 1).trans rfl
   have hfz21_0:=blk_frozen BK284.out 0
   have hfz21_1:=blk_frozen BK284.out 1
   go_wp2_with (((with_reducible refine gate_dst (N:=32) rfl ?_);refine Kd.R_lit (Kd.int .i64) _ 3 ?hg (N:=32) ?hd (xs:=([0] : List Int)) (inner:=[.int .i64 0]) (ok:=fun _=>True) (okp:=fun _=>True) ?hr ?hp (fun _ hk=>hk) trivial (Below.refl _ _) (Nat.le_refl _) (by simp) ?_;(case hd=>rfl);(case hg=>rfl);(case hr=>(go_simp;done));(case hp=>exact (Reps.one (show Kd.M (Kd.int .i64) _ _ _ 0 [.int .i64 0] from rfl) (Reps.none _ _)));intro v293 w22 ho23 hb hg_ hnew_;clear hg_ hnew_;(rw [← Ny292.out] at ho23);have n0_:=am_ (Kd.R_elder' HO_7.out (Kd.R_base ho23) hb);have n1_:=am_ (Kd.R_below HO_8.out hb);have n2_:=am_ (Kd.R_lower (Kd.R_new' ho23 (Kd.R_lt HO_7.out)) (below_size HB.out));have n3_:=am_ (blk_below BK284.out hb);have n4_:=am_ (below_step HB.out hb);clear HO_7 HO_8 BK284 HB;have HO_7:=n0_;have HO_8:=n1_;have HO294:=n2_;have BK284:=n3_;have HB:=n4_;clear n0_ n1_ n2_ n3_ n4_ hb ho23))
   go_loopg [10] k1 (fun kq v10 w'=>∃ (x7_2 : List Int) (x8_2 : List Bool) (x10_2 : List Int),Aside0 (impl_distances.l1 kq l1 l2 x7_2 x8_2 x10_2 a0_0 l0_1 = some r) ∧ Aside0 (kq ≤ k1) ∧ Aside0 (Kd.R (Kd.int .i64) 3 w' w.heap.size (fun k_=>some k_ ≠ (v10 : Value).ownBlock) v286 x7_2) ∧ Aside0 (Kd.R Kd.bool 4 w' w.heap.size (fun _=>True) v289 x8_2) ∧ Aside0 (Kd.Q (Kd.int .i64) 3 w' w.heap.size (fun k_=>some k_ ≠ (v286 : Value).ownBlock) v10 x10_2) ∧ Aside0 (w'.heap[gb284]? = some (.cells #[.int .i64 a0_0,(.slice A0_1 l0_1.length c0_1)] 30 (0,0))) ∧ Aside0 (Below w.heap.size w w'))
   case atStart=>exact ⟨(x7_1),(y288),(y292),H',⟨Nat.le_refl _⟩,⟨by exact Kd.R_mono HO_7.out (fun _ hk=>hk.2)⟩,⟨by exact HO_8.out⟩,⟨Kd.Q_of_R (by exact Kd.R_mono HO294.out (fun _ hk=>hk.2))⟩,⟨by exact BK284.out⟩,⟨by exact HB.out⟩⟩
   case round =>
    clear H'
    try clear c1
    try clear p1
    try clear q1
    try clear hx1
    try clear c2
    try clear p2
    try clear c4
    try clear c4b0
    try clear c4b1
    try clear c5
    try clear c5b0
    try clear c5b1
    try clear c6
    try clear c6b0
    try clear c6b1
    try clear p6
    try clear c14
    try clear c14b0
    try clear c15
    try clear c15b0
    try clear c16
    try clear c16b0
    try clear p17
    try clear q17
    try clear hx17
    try clear hf17
    try clear hcz18_0
    try clear hcz18_1
    try clear hcz21_0
    try clear hcz21_1
    try clear hfz18_0
    try clear hfz18_1
    try clear hfz21_0
    try clear hfz21_1
    try clear hx17_0
    try clear p17
    try clear p2
    try clear q17
    obtain ⟨x7_2,x8_2,x10_2,HA,HK2,HO_7,HO_8,HO_10,BK284,HB⟩:=hrel
    cases gk with
    | zero => exact absurd HA.out (by simp [impl_distances.l1])
    | succ k2 =>
     have H:=HA.out
     clear HA
     simp only [impl_distances.l1] at H
     by_cases c24 : (x10_2.length : Int) > 0
     rotate_left
     ·rw [if_neg c24] at H
      have c24b0 : decide (0 < (x10_2.length : Int)) = false:=decide_eq_false c24
      have c24b1 : decide (0 < x10_2.length) = false:=decide_eq_false (by omega)
      clear c24
      obtain rfl:=Option.some.inj H
      obtain ⟨Ao80,co80,eo80,_⟩:=Kd.Q_slice HO_10.out
      subst eo80
      go_wp2
      go_ret
      exact ⟨_,by rfl,by exact Kd.R_mono HO_7.out (fun _ hk=>trivial),by exact HB.out⟩
     rw [if_pos c24] at H
     have c24b0 : decide (0 < (x10_2.length : Int)) = true:=decide_eq_true c24
     have c24b1 : decide (0 < x10_2.length) = true:=decide_eq_true (by omega)
     clear c24
     by_cases c25 : 0 < (x10_2.length : Int)
     rotate_left
     ·rw [if_neg c25] at H
      exact absurd H (by simp)
     rw [if_pos c25] at H
     have c25b0 : decide (0 < (x10_2.length : Int)) = true:=decide_eq_true c25
     have c25b1 : decide (0 < x10_2.length) = true:=decide_eq_true (by omega)
     clear c25
     by_cases c26 : 0 ≤ (rd x10_2 0)
     rotate_left
     ·rw [if_neg c26] at H
      exact absurd H (by simp)
     rw [if_pos c26] at H
     have c26b0 : decide (0 ≤ (rd x10_2 0)) = true:=decide_eq_true c26
     clear c26
     by_cases c27 : (rd x10_2 0) < (x8_2.length : Int)
     rotate_left
     ·rw [if_neg c27] at H
      exact absurd H (by simp)
     rw [if_pos c27] at H
     have c27b0 : decide ((rd x10_2 0) < (x8_2.length : Int)) = true:=decide_eq_true c27
     clear c27
     obtain ⟨y296,hy296⟩ : ∃ y_ : List Bool,y_ = (x8_2.set ((rd x10_2 0) : Int).toNat false):=⟨_,rfl⟩
     replace H : (if (rd x10_2 0) < (l1.length : Int) then (impl_distances.l2 k2 l1 l2 x7_2 y296 x10_2 (rd x10_2 0) (rd_L4 l1 (rd x10_2 0)) ((rd_L4 l1 (rd x10_2 0)).length : Int) 0 a0_0 l0_1) else (none)) = some r:=by (rw [hy296];with_reducible exact H)
     have Ny296:=am_ hy296
     clear hy296
     by_cases c29 : (rd x10_2 0) < (l1.length : Int)
     rotate_left
     ·rw [if_neg c29] at H
      exact absurd H (by simp)
     rw [if_pos c29] at H
     have c29b0 : decide ((rd x10_2 0) < (l1.length : Int)) = true:=decide_eq_true c29
     clear c29
     have H':=am_ H
     clear H
     obtain ⟨Ao30,co30,eo30,_⟩:=Kd.Q_slice HO_10.out
     subst eo30
     have p295 : 0 ≤ (0 : Int):=(by omega)
     have q295 : 0 < (x10_2.length : Int):=of_decide_eq_true (by (with_reducible assumption))
     obtain ⟨ad295,e295,hx295_0⟩:=Kd.at_int (Kd.Q_reads' HO_10.out).2.2 0 p295 q295
     cases e295
     have qi295 : (0 < x10_2.length) = True:=eq_true (by omega)
     (try rw [show ((0 : Int)).toNat = 0 from rfl] at hx295_0)
     (try rw [Addr.add_zero'] at hx295_0)
     replace p295:=eq_true p295
     replace q295:=eq_true q295
     have p28 : 0 ≤ ((rd x10_2 0) : Int):=of_decide_eq_true (by (with_reducible assumption))
     have q28 : ((rd x10_2 0) : Int) < ((x8_2.length : Int) : Int):=of_decide_eq_true (by (with_reducible assumption))
     obtain ⟨go28,co28,eo28,gb28,gl28,cl28,HG28⟩:=Kd.R_form HO_8.out (by omega)
     (cases eo28)
     have GB28:=am_ gb28
     have GG28:=am_ HG28
     clear gb28 gl28 HG28
     obtain ⟨hx28_0,hf28_0⟩:=Kd.R_celln false HO_8.out ((rd x10_2 0) : Int) p28 q28
     replace p28:=eq_true p28
     replace q28:=eq_true q28
     have HP31:=Kd.R_putg HO_8.out ((rd x10_2 0) : Int) false
     go_wp2_with (((with_reducible refine gate_store (t:=4) (p:=43) rfl ?_);refine store_event (t:=4) (p:=43) (v:=?vo_w32) (w1:=(wr.setCell ⟨go28,((rd x10_2 0) : Int).toNat,none⟩ (.bool false))) ?hg ?ho ?hn ?hr ?_;(case ho=>rfl);(case hg=>rfl);(case hn=>rfl);(case hr=>(go_simp;done));intro w32 hw;have hg : wr.grownBy w32 (some go28):=(by rw [hw];exact HP31.2);have hp_ : Kd.R Kd.bool 4 w32 w.heap.size (fun _=>True) (.slice (some ⟨go28,0,none⟩) x8_2.length co28) y296:=(by rw [hw,Ny296.out];exact HP31.1);clear HP31;have n0_:=am_ (Kd.R_over' (v:=(.slice (some ⟨go28,0,none⟩) x8_2.length co28)) HO_7.out (Kd.R_typed HO_8.out) (by decide) hg);have n1_:=am_ (hp_);have n2_:=am_ (Kd.Q_over' (v:=(.slice (some ⟨go28,0,none⟩) x8_2.length co28)) HO_10.out (Kd.R_typed HO_8.out) (by decide) hg);have n3_:=am_ (blk_grown (g:=gb284) (o:=.cells #[.int .i64 a0_0,.slice A0_1 l0_1.length c0_1] 30 (0,0)) BK284.out hg (Kd.R_ne HO_8.out BK284.out (by decide)));have n4_:=am_ ((by rw [hw];exact below_set (HB.out) GB28.out : Below w.heap.size w w32));clear HO_7 HO_8 HO_10 BK284 HB;have HO_7:=n0_;have HO_8:=n1_;have HO_10:=n2_;have BK284:=n3_;have HB:=n4_;clear n0_ n1_ n2_ n3_ n4_ hg hw hp_;have p297 : 0 ≤ ((rd x10_2 0) : Int):=of_decide_eq_true (by (with_reducible assumption));have q297 : (rd x10_2 0) < (l1.length : Int):=of_decide_eq_true (by (with_reducible assumption));obtain ⟨ad297,A297_0,c297_0,e297,hx297_0,hl297_0,hi297_0⟩:=at_L4 HR1.out (rd x10_2 0) p297 q297;cases e297;replace hx297_0:=kc_ HB.out hx297_0;have HR297_0:=am_ hi297_0;have HC297_0:=am_ hl297_0;clear hi297_0 hl297_0;replace p297:=eq_true p297;replace q297:=eq_true q297))
     go_loopg [10,49] k2 (fun kq v10 v49 w'=>∃ (x7_3 : List Int) (x8_3 : List Bool) (x10_3 : List Int) (x49_3 : Int),v49 = .int .i64 x49_3 ∧ Aside0 (impl_distances.l2 kq l1 l2 x7_3 x8_3 x10_3 (rd x10_2 0) (rd_L4 l1 (rd x10_2 0)) ((rd_L4 l1 (rd x10_2 0)).length : Int) x49_3 a0_0 l0_1 = some r) ∧ Aside0 (kq ≤ k2) ∧ Aside0 (Kd.R (Kd.int .i64) 3 w' w.heap.size (fun k_=>some k_ ≠ (v10 : Value).ownBlock) v286 x7_3) ∧ Aside0 (Kd.R Kd.bool 4 w' w.heap.size (fun _=>True) (.slice (some ⟨go28,0,none⟩) x8_2.length co28) x8_3) ∧ Aside0 (Kd.Q (Kd.int .i64) 3 w' w.heap.size (fun k_=>some k_ ≠ (v286 : Value).ownBlock) v10 x10_3) ∧ Aside0 (w'.heap[gb284]? = some (.cells #[.int .i64 a0_0,(.slice A0_1 l0_1.length c0_1)] 30 (0,0))) ∧ Aside0 (Below w.heap.size w w'))
     case atStart=>exact ⟨(x7_2),(y296),(x10_2),(0),(by rfl),H',⟨Nat.le_refl _⟩,⟨by exact HO_7.out⟩,⟨by exact HO_8.out⟩,⟨by exact HO_10.out⟩,⟨by exact BK284.out⟩,⟨by exact HB.out⟩⟩
     case round =>
      clear H'
      try clear c1
      try clear p1
      try clear q1
      try clear hx1
      try clear c2
      try clear p2
      try clear q2
      try clear hx2
      try clear qi2
      try clear c4
      try clear c4b0
      try clear c4b1
      try clear c5
      try clear c5b0
      try clear c5b1
      try clear c6
      try clear c6b0
      try clear c6b1
      try clear p6
      try clear c14
      try clear c14b0
      try clear c15
      try clear c15b0
      try clear c16
      try clear c16b0
      try clear p17
      try clear q17
      try clear hx17
      try clear hf17
      try clear c24
      try clear c24b0
      try clear c24b1
      try clear c25
      try clear c25b0
      try clear c25b1
      try clear c26
      try clear c26b0
      try clear c27
      try clear c27b0
      try clear p28
      try clear q28
      try clear hx28
      try clear hf28
      try clear c29
      try clear c29b0
      try clear p29
      try clear q29
      try clear hx29
      try clear qi29
      try clear hcz18_0
      try clear hcz18_1
      try clear hcz21_0
      try clear hcz21_1
      try clear hfz18_0
      try clear hfz18_1
      try clear hfz21_0
      try clear hfz21_1
      try clear hx17_0
      try clear hx28_0
      try clear hx295_0
      try clear hx297_0
      try clear p1
      try clear p17
      try clear p2
      try clear p28
      try clear p295
      try clear p297
      try clear p6
      try clear q1
      try clear q17
      try clear q28
      try clear q295
      try clear q297
      obtain ⟨x7_3,x8_3,x10_3,x49_3,rfl,HA,HK3,HO_7,HO_8,HO_10,BK284,HB⟩:=hrel
      have hl8_3:=(Kd.R_reads' HO_8.out).1
      rw [hl8_3] at HO_8
      (try simp only [hl8_3])
      (skip)
      (skip)
      (skip)
      cases gk with
      | zero => exact absurd HA.out (by simp [impl_distances.l2])
      | succ k3 =>
       have H:=HA.out
       clear HA
       simp only [impl_distances.l2] at H
       by_cases c33 : x49_3 < ((rd_L4 l1 (rd x10_2 0)).length : Int)
       rotate_left
       ·rw [if_neg c33] at H
        have c33b0 : decide (x49_3 < ((rd_L4 l1 (rd x10_2 0)).length : Int)) = false:=decide_eq_false c33
        clear c33
        by_cases c77 : 1 ≤ (x10_3.length : Int)
        rotate_left
        ·rw [if_neg c77] at H
         exact absurd H (by simp)
        rw [if_pos c77] at H
        have c77b0:=eq_true c77
        have c77b1 : decide (1 ≤ (x10_3.length : Int)) = true:=decide_eq_true c77
        clear c77
        obtain ⟨y298,hy298⟩ : ∃ y_ : List Int,y_ = (x10_3.drop (1 : Int).toNat):=⟨_,rfl⟩
        replace H : (impl_distances.l1 k3 l1 l2 x7_3 x8_3 y298 a0_0 l0_1) = some r:=by (rw [hy298];with_reducible exact H)
        have Ny298:=am_ hy298
        clear hy298
        have H':=am_ H
        clear H
        obtain ⟨Ao78,co78,eo78,_⟩:=Kd.Q_slice HO_10.out
        subst eo78
        have q79 : (1 : Int) ≤ ((x10_3.length : Int) : Int):=of_decide_eq_true (by (with_reducible assumption))
        obtain ⟨i079,hi079,_,hsz79,_⟩:=info_parts info3
        have hcut79:=cut_from (P:=Try.prog) 25 3 .i64 Try.underlying25 hi079 1 hsz79 Ao78 x10_3.length co78 1 (by omega) q79
        have hr79:=Kd.Q_drop (k:=(1 : Int).toNat) HO_10.out (by omega)
        obtain ⟨A79,hA79⟩ : ∃ A1,A1 = (if co78 = (1 : Int).toNat then Ao78 else (Ao78 : Option Addr).map (·.add ((1 : Int).toNat * 1))):=⟨_,rfl⟩
        obtain ⟨c79,hc79⟩ : ∃ c1,c1 = co78 - (1 : Int).toNat:=⟨_,rfl⟩
        have hy79 : y298.length = x10_3.length - (1 : Int).toNat:=(by rw [Ny298.out,List.length_drop])
        rw [← Ny298.out] at hr79
        rw [← hy79,← hA79,← hc79] at hcut79
        replace hr79 : Kd.Q (Kd.int .i64) 3 wr w.heap.size (fun k_=>some k_ ≠ (v286 : Value).ownBlock) (.slice A79 y298.length c79) y298:=(by rw [hA79,hc79,hy79];exact hr79)
        have HE79 : Aside0 ((Value.slice A79 y298.length c79).ownBlock = (.slice Ao78 x10_3.length co78 : Value).ownBlock):=⟨by rw [hA79];split <;> (cases (Ao78 : Option Addr) <;> rfl)⟩
        clear hy79 hi079 hsz79 HO_10 hA79 hc79
        have HO300:=am_ hr79
        clear hr79
        replace q79:=eq_true q79
        have n_:=am_ (Kd.R_mono (ok':=fun k_=>some k_ ≠ (.slice A79 y298.length c79 : Value).ownBlock) HO_7.out (fun k_ hk=>(by rw [HE79.out];exact hk)))
        clear HO_7
        have HO_7:=n_
        clear n_
        go_wp2
        (try simp only [← hl8_3])
        go_roundg k3
        case measure=>have:=HK1.out;have:=HK2.out;have:=HK3.out;omega
        case rel=>exact ⟨(x7_3),(x8_3),(y298),H',⟨by have:=HK1.out;have:=HK2.out;have:=HK3.out;omega⟩,⟨by exact HO_7.out⟩,⟨by (try simp only [hl8_3]);exact HO_8.out⟩,⟨by exact HO300.out⟩,⟨by exact BK284.out⟩,⟨by exact HB.out⟩⟩
       rw [if_pos c33] at H
       have c33b0 : decide (x49_3 < ((rd_L4 l1 (rd x10_2 0)).length : Int)) = true:=decide_eq_true c33
       clear c33
       by_cases c34 : 0 ≤ x49_3
       rotate_left
       ·rw [if_neg c34] at H
        exact absurd H (by simp)
       rw [if_pos c34] at H
       have c34b0 : decide (0 ≤ x49_3) = true:=decide_eq_true c34
       clear c34
       by_cases c35 : x49_3 < ((rd_L4 l1 (rd x10_2 0)).length : Int)
       rotate_left
       ·rw [if_neg c35] at H
        exact absurd H (by simp)
       rw [if_pos c35] at H
       have c35b0 : decide (x49_3 < ((rd_L4 l1 (rd x10_2 0)).length : Int)) = true:=decide_eq_true c35
       clear c35
       replace H:=Option.bind_eq_some_iff.mp H
       obtain ⟨⟨t303,t304⟩,A360,H⟩:=H
       replace H : (if 0 ≤ (rd x10_2 0) then (if (rd x10_2 0) < (x7_3.length : Int) then ((impl_step_length.f ((rd_T79 (rd_L4 l1 (rd x10_2 0)) x49_3).f0) ((rd_T79 (rd_L4 l1 (rd x10_2 0)) x49_3).f1) a0_0 l0_1).bind fun t306=>((impl_step_room.f ((rd_T79 (rd_L4 l1 (rd x10_2 0)) x49_3).f0) ((rd_T79 (rd_L4 l1 (rd x10_2 0)) x49_3).f1) a0_0 l0_1 l2).bind fun t307=>(if t307 = 0 then (impl_distances.j3 k3 l1 l2 x7_3 x8_3 x10_3 (rd x10_2 0) t304 (wrap64 ((rd x7_3 (rd x10_2 0)) + t306)) (rd_L4 l1 (rd x10_2 0)) ((rd_L4 l1 (rd x10_2 0)).length : Int) x49_3 true a0_0 l0_1) else (if 0 ≤ t304 then (if t304 < (x7_3.length : Int) then (impl_distances.j3 k3 l1 l2 x7_3 x8_3 x10_3 (rd x10_2 0) t304 (wrap64 ((rd x7_3 (rd x10_2 0)) + t306)) (rd_L4 l1 (rd x10_2 0)) ((rd_L4 l1 (rd x10_2 0)).length : Int) x49_3 (decide ((wrap64 ((rd x7_3 (rd x10_2 0)) + t306)) ≥ (rd x7_3 t304))) a0_0 l0_1) else (none)) else (none))))) else (none)) else (none)) = some r:=H
       have A36:=am_ A360
       clear A360
       by_cases c37 : 0 ≤ (rd x10_2 0)
       rotate_left
       ·rw [if_neg c37] at H
        exact absurd H (by simp)
       rw [if_pos c37] at H
       have c37b0 : decide (0 ≤ (rd x10_2 0)) = true:=decide_eq_true c37
       clear c37
       by_cases c38 : (rd x10_2 0) < (x7_3.length : Int)
       rotate_left
       ·rw [if_neg c38] at H
        exact absurd H (by simp)
       rw [if_pos c38] at H
       have c38b0 : decide ((rd x10_2 0) < (x7_3.length : Int)) = true:=decide_eq_true c38
       clear c38
       replace H:=Option.bind_eq_some_iff.mp H
       obtain ⟨t306,A390,H⟩:=H
       replace H : ((impl_step_room.f ((rd_T79 (rd_L4 l1 (rd x10_2 0)) x49_3).f0) ((rd_T79 (rd_L4 l1 (rd x10_2 0)) x49_3).f1) a0_0 l0_1 l2).bind fun t307=>(if t307 = 0 then (impl_distances.j3 k3 l1 l2 x7_3 x8_3 x10_3 (rd x10_2 0) t304 (wrap64 ((rd x7_3 (rd x10_2 0)) + t306)) (rd_L4 l1 (rd x10_2 0)) ((rd_L4 l1 (rd x10_2 0)).length : Int) x49_3 true a0_0 l0_1) else (if 0 ≤ t304 then (if t304 < (x7_3.length : Int) then (impl_distances.j3 k3 l1 l2 x7_3 x8_3 x10_3 (rd x10_2 0) t304 (wrap64 ((rd x7_3 (rd x10_2 0)) + t306)) (rd_L4 l1 (rd x10_2 0)) ((rd_L4 l1 (rd x10_2 0)).length : Int) x49_3 (decide ((wrap64 ((rd x7_3 (rd x10_2 0)) + t306)) ≥ (rd x7_3 t304))) a0_0 l0_1) else (none)) else (none)))) = some r:=H
       have A39:=am_ A390
       clear A390
       have HC40:=am_ H
       clear H
       have p301 : 0 ≤ (x49_3 : Int):=of_decide_eq_true (by (with_reducible assumption))
       have q301 : x49_3 < ((rd_L4 l1 (rd x10_2 0)).length : Int):=of_decide_eq_true (by (with_reducible assumption))
       obtain ⟨ad301,e301,hx301_0,hx301_1⟩:=at_T79 HR297_0.out x49_3 p301 q301
       cases e301
       replace hx301_0:=kc_ HB.out hx301_0
       replace hx301_1:=kc_ HB.out hx301_1
       replace p301:=eq_true p301
       replace q301:=eq_true q301
       try go_wp2_with (first|((with_reducible refine gate_dst (N:=13) rfl ?_);refine box_event ?hg (N:=13) ?hd (cs:=#[.int .i64 0,.bool false]) (t:=79) ?hr ?_;(case hd=>rfl);(case hg=>rfl);(case hr=>(go_simp;done));intro gb302 hg w41 hbox hb;have n0_:=am_ (Kd.R_below HO_7.out hb);have n1_:=am_ (Kd.R_below HO_8.out hb);have n2_:=am_ (Kd.Q_below HO_10.out hb);have n3_:=am_ (blk_below BK284.out hb);have n4_:=am_ (below_step HB.out hb);have n5_:=am_ (hbox);have n6_:=am_ ((by rw [hg];exact (below_size HB.out) : w.heap.size ≤ gb302));have n7_:=n6_;have n8_:=am_ ((by rw [hg];exact Nat.ne_of_lt (blk_lt (g:=gb284) (o:=.cells #[.int .i64 a0_0,.slice A0_1 l0_1.length c0_1] 30 (0,0)) BK284.out) : gb284 ≠ gb302));have n9_:=am_ ((by rw [hg];exact Nat.ne_of_gt (blk_lt (g:=gb284) (o:=.cells #[.int .i64 a0_0,.slice A0_1 l0_1.length c0_1] 30 (0,0)) BK284.out) : gb302 ≠ gb284));clear HO_7 HO_8 HO_10 BK284 HB;have HO_7:=n0_;have HO_8:=n1_;have HO_10:=n2_;have BK284:=n3_;have HB:=n4_;have BK302:=n5_;have GW302:=n6_;have GE302:=n7_;have NB284_302:=n8_;have NB302_284:=n9_;clear n0_ n1_ n2_ n3_ n4_ n5_ n6_ n7_ n8_ n9_ hb hbox hg;have hnb42:=NB302_284.out;have hnc42:=NB284_302.out;have hcz43_0 : w41.cell? ⟨gb302,0,none⟩ = some (.int .i64 0):=(blk_cell BK302.out 0).trans rfl;have hcz43_1 : w41.cell? ⟨gb302,1,none⟩ = some (.bool false):=(blk_cell BK302.out 1).trans rfl;have hfz43_0:=blk_frozen BK302.out 0;have hfz43_1:=blk_frozen BK302.out 1;have hcz44_0 : w41.cell? ⟨gb284,0,none⟩ = some (.int .i64 a0_0):=(blk_cell BK284.out 0).trans rfl;have hcz44_1 : w41.cell? ⟨gb284,1,none⟩ = some (.slice A0_1 l0_1.length c0_1):=(blk_cell BK284.out 1).trans rfl;have hfz44_0:=blk_frozen BK284.out 0;have hfz44_1:=blk_frozen BK284.out 1)|((with_reducible refine gate_callee (f:=55) rfl ?_);refine goesL_ (some 56) rfl rfl Try.func55 (by kernel_rfl) rfl #[.agg #[.int .i64 ((rd_T79 (rd_L4 l1 (rd x10_2 0)) x49_3).f0),.bool ((rd_T79 (rd_L4 l1 (rd x10_2 0)) x49_3).f1)],.agg #[.int .i64 a0_0,.slice A0_1 l0_1.length c0_1]] rfl (by (try simp only [List.map_toArray,List.map_cons,List.map_nil]);rfl) ?_;(with_reducible refine (impl_step_ends.calls ((rd_T79 (rd_L4 l1 (rd x10_2 0)) x49_3).f0) ((rd_T79 (rd_L4 l1 (rd x10_2 0)) x49_3).f1) a0_0 _ _ l0_1 t303 t304 _ ?side1 ?side2 A36.out).mono ?_);(case side1=>exact Kd.C_below HR0_1.out (by repeat ((with_reducible first|exact HB.out|refine below_set ?_ GE302.out))));(case side2=>exact HC0_1.out);rintro e w45 ⟨rfl,hb⟩;refine ⟨_,rfl,?_⟩;have n0_:=am_ (Kd.R_below (by exact (Kd.R_mono (Kd.R_far (p:=⟨gb302,1,none⟩) (Kd.R_far (p:=⟨gb302,0,none⟩) (Kd.R_types HO_7.out BK302.out (by decide)) (fun _ hk=>hk.2) (.int .i64 ((rd_T79 (rd_L4 l1 (rd x10_2 0)) x49_3).f0))) (fun _ hk=>hk.2) (.bool ((rd_T79 (rd_L4 l1 (rd x10_2 0)) x49_3).f1))) (fun _ h_=>h_.1))) hb);have n1_:=am_ (Kd.R_below (by exact (Kd.R_mono (Kd.R_far (p:=⟨gb302,1,none⟩) (Kd.R_far (p:=⟨gb302,0,none⟩) (Kd.R_types HO_8.out BK302.out (by decide)) (fun _ hk=>hk.2) (.int .i64 ((rd_T79 (rd_L4 l1 (rd x10_2 0)) x49_3).f0))) (fun _ hk=>hk.2) (.bool ((rd_T79 (rd_L4 l1 (rd x10_2 0)) x49_3).f1))) (fun _ h_=>h_.1))) hb);have n2_:=am_ (Kd.Q_below (by exact (Kd.Q_mono (Kd.Q_far (p:=⟨gb302,1,none⟩) (Kd.Q_far (p:=⟨gb302,0,none⟩) (Kd.Q_types HO_10.out BK302.out (by decide)) (fun _ hk=>hk.2) (.int .i64 ((rd_T79 (rd_L4 l1 (rd x10_2 0)) x49_3).f0))) (fun _ hk=>hk.2) (.bool ((rd_T79 (rd_L4 l1 (rd x10_2 0)) x49_3).f1))) (fun _ h_=>h_.1))) hb);have n3_:=am_ (blk_below (g:=gb284) (o:=.cells #[.int .i64 a0_0,.slice A0_1 l0_1.length c0_1] 30 (0,0)) (by refine blk_far ?_ NB284_302.out _;refine blk_far ?_ NB284_302.out _;exact BK284.out) hb);have n4_:=am_ (blk_below (g:=gb302) (o:=.cells #[.int .i64 ((rd_T79 (rd_L4 l1 (rd x10_2 0)) x49_3).f0),.bool ((rd_T79 (rd_L4 l1 (rd x10_2 0)) x49_3).f1)] 79 (0,0)) (by refine blk_put (cs:=#[.int .i64 ((rd_T79 (rd_L4 l1 (rd x10_2 0)) x49_3).f0),.bool false]) ?_ 1 _ rfl;refine blk_put (cs:=#[.int .i64 0,.bool false]) ?_ 0 _ rfl;exact BK302.out) hb);have n5_:=am_ (below_step (by repeat ((with_reducible first|exact HB.out|refine below_set ?_ GE302.out))) hb);clear HO_7 HO_8 HO_10 BK284 BK302 HB;have HO_7:=n0_;have HO_8:=n1_;have HO_10:=n2_;have BK284:=n3_;have BK302:=n4_;have HB:=n5_;clear n0_ n1_ n2_ n3_ n4_ n5_;(try clear hb)))
       have n0_:=am_ (Kd.R_drew HO_7.out)
       have n1_:=am_ (Kd.R_drew HO_8.out)
       have n2_:=am_ (Kd.Q_drew HO_10.out)
       have n3_:=am_ (blk_drew BK284.out)
       have n4_:=am_ (blk_drew BK302.out)
       have n5_:=am_ (below_drew1 HB.out)
       clear HO_7
       clear HO_8
       clear HO_10
       clear BK284
       clear BK302
       clear HB
       have HO_7:=n0_
       have HO_8:=n1_
       have HO_10:=n2_
       have BK284:=n3_
       have BK302:=n4_
       have HB:=n5_
       clear n0_ n1_ n2_ n3_ n4_ n5_
       obtain ⟨Ao47,co47,eo47⟩:=Kd.R_slice HO_7.out
       (subst eo47)
       have p305 : 0 ≤ ((rd x10_2 0) : Int):=of_decide_eq_true (by (with_reducible assumption))
       have q305 : (rd x10_2 0) < (x7_3.length : Int):=of_decide_eq_true (by (with_reducible assumption))
       obtain ⟨ad305,e305,hx305_0⟩:=Kd.at_int (Kd.R_reads' HO_7.out).2.2 (rd x10_2 0) p305 q305
       cases e305
       replace p305:=eq_true p305
       replace q305:=eq_true q305
       refine start_ (n:=9) (S:=fun w'=>w'.cell? ⟨gb302,0,none⟩ = some (.int .i64 ((rd_T79 (rd_L4 l1 (rd x10_2 0)) x49_3).f0)) ∧ w'.cell? ⟨gb302,1,none⟩ = some (.bool ((rd_T79 (rd_L4 l1 (rd x10_2 0)) x49_3).f1)) ∧ w'.cell? ⟨gb284,0,none⟩ = some (.int .i64 a0_0) ∧ w'.cell? ⟨gb284,1,none⟩ = some (.slice A0_1 l0_1.length c0_1) ∧ w'.cell? (ad305.add ((rd x10_2 0)).toNat) = some (.int .i64 (rd x7_3 (rd x10_2 0)))) (ds:=[]) #[false,false,false,false,false,false,false,false,false] (by kernel_rfl) rfl rfl ⟨(blk_cell BK302.out 0).trans rfl,(blk_cell BK302.out 1).trans rfl,(blk_cell BK284.out 0).trans rfl,(blk_cell BK284.out 1).trans rfl,hx305_0⟩ (fun hHeld=>?_);refine with_tabW impl_distances.tab15 impl_distances.bits15 (fun HT_ HW_=>?_)
       generalize w45.drew = w46 at HO_7 HO_8 HO_10 BK284 BK302 HB hx305_0 hHeld ⊢
       refine pure_ (i:=0) (N:=some 59) (v:=?_) (a':=?_) #[true,false,false,false,false,false,false,false,false] rfl rfl (any_of HT_.out (by kernel_rfl)) (fun _ _ _ h=>h) (Or.inl ⟨by rfl,?_⟩) ?_ ?_
       rotate_left
       ·intro w'
        go_simp
        with_reducible rfl
       rotate_left
       ·simp only [Act.put,List.setIfInBounds_toArray,List.set_cons_zero,List.set_cons_succ,i64_w,i32_w]
        rfl
       refine pure_ (i:=1) (N:=some 60) (v:=?_) (a':=?_) #[true,true,false,false,false,false,false,false,false] rfl rfl (any_of HT_.out (by kernel_rfl)) (fun _ _ _ h=>h) (Or.inl ⟨by rfl,?_⟩) ?_ ?_
       rotate_left
       ·intro w'
        go_simp
        with_reducible rfl
       rotate_left
       ·simp only [Act.put,List.setIfInBounds_toArray,List.set_cons_zero,List.set_cons_succ,i64_w,i32_w]
        rfl
       refine pure_ (i:=2) (N:=some 61) (v:=?_) (a':=?_) #[true,true,true,false,false,false,false,false,false] rfl rfl (any_of HT_.out (by kernel_rfl)) (fun _ _ _ h=>h) (Or.inl ⟨by rfl,?_⟩) ?_ ?_
       rotate_left
       ·intro w'
        go_simp
        with_reducible rfl
       rotate_left
       ·simp only [Act.put,List.setIfInBounds_toArray,List.set_cons_zero,List.set_cons_succ,i64_w,i32_w]
        rfl
       refine take_ (i:=3) (N:=some 62) (v:=?_) (a':=?_) #[true,true,true,true,false,false,false,false,false] rfl rfl (take_ofW HT_.out HW_.out (by kernel_rfl)) (fun _ _ _ h=>h) (Or.inl ⟨by rfl,?_⟩) hHeld ?_ ?_
       rotate_left
       ·rintro w' ⟨s0,s1,s2,s3,s4⟩
        go_simp
        with_reducible rfl
       rotate_left
       ·simp only [Act.put,List.setIfInBounds_toArray,List.set_cons_zero,List.set_cons_succ,i64_w,i32_w]
        rfl
       refine take_ (i:=4) (N:=some 63) (v:=?_) (a':=?_) #[true,true,true,true,true,false,false,false,false] rfl rfl (take_ofW HT_.out HW_.out (by kernel_rfl)) (fun _ _ _ h=>h) (Or.inl ⟨by rfl,?_⟩) hHeld ?_ ?_
       rotate_left
       ·rintro w' ⟨s0,s1,s2,s3,s4⟩
        go_simp
        with_reducible rfl
       rotate_left
       ·simp only [Act.put,List.setIfInBounds_toArray,List.set_cons_zero,List.set_cons_succ,i64_w,i32_w]
        rfl
       refine take_ (i:=5) (N:=some 64) (v:=?_) (a':=?_) #[true,true,true,true,true,true,false,false,false] rfl rfl (take_ofW HT_.out HW_.out (by kernel_rfl)) (fun _ _ _ h=>h) (Or.inl ⟨by rfl,?_⟩) hHeld ?_ ?_
       rotate_left
       ·rintro w' ⟨s0,s1,s2,s3,s4⟩
        go_simp
        with_reducible rfl
       rotate_left
       ·simp only [Act.put,List.setIfInBounds_toArray,List.set_cons_zero,List.set_cons_succ,i64_w,i32_w]
        rfl
       refine one_ (i:=6) (N:=some 65) #[true,true,true,true,true,true,true,false,false] rfl rfl (one_of HT_.out (by kernel_rfl)) (by decide) (fun K hK=>?_)
       refine goes_ Try.func67 (by kernel_rfl) rfl #[.agg #[.int .i64 ((rd_T79 (rd_L4 l1 (rd x10_2 0)) x49_3).f0),.bool ((rd_T79 (rd_L4 l1 (rd x10_2 0)) x49_3).f1)],.agg #[.int .i64 a0_0,.slice A0_1 l0_1.length c0_1]] (by rfl) rfl rfl (by (try simp only [List.map_toArray,List.map_cons,List.map_nil]);rfl) ?_
       with_reducible refine (impl_step_length.calls ((rd_T79 (rd_L4 l1 (rd x10_2 0)) x49_3).f0) ((rd_T79 (rd_L4 l1 (rd x10_2 0)) x49_3).f1) a0_0 _ _ l0_1 t306 _ ?side1 ?side2 A39.out).mono ?_
       (case side1=>exact (Kd.C_below HR0_1.out HB.out))
       (case side2=>exact HC0_1.out)
       rintro e w48 ⟨rfl,hb⟩
       have HS4_:=(hb.cell (World.block_lt_of_cell? _ _ (hHeld.2.2.2.2))).trans (hHeld.2.2.2.2)
       refine ⟨_,rfl,?_⟩
       have n0_:=am_ (Kd.R_below HO_7.out hb)
       have n1_:=am_ (Kd.R_below HO_8.out hb)
       have n2_:=am_ (Kd.Q_below HO_10.out hb)
       have n3_:=am_ (blk_below BK284.out hb)
       have n4_:=am_ (blk_below (g:=gb302) (o:=.cells #[.int .i64 ((rd_T79 (rd_L4 l1 (rd x10_2 0)) x49_3).f0),.bool ((rd_T79 (rd_L4 l1 (rd x10_2 0)) x49_3).f1)] 79 (0,0)) BK302.out hb)
       have n5_:=am_ (below_step HB.out hb)
       clear HO_7
       clear HO_8
       clear HO_10
       clear BK284
       clear BK302
       clear HB
       have HO_7:=n0_
       have HO_8:=n1_
       have HO_10:=n2_
       have BK284:=n3_
       have BK302:=n4_
       have HB:=n5_
       clear n0_ n1_ n2_ n3_ n4_ n5_
       (try clear hb)
       (skip)
       (skip)
       (skip)
       refine hK.out _ _ ⟨(blk_cell BK302.out 0).trans rfl,(blk_cell BK302.out 1).trans rfl,(blk_cell BK284.out 0).trans rfl,(blk_cell BK284.out 1).trans rfl,HS4_⟩ (fun hHeld=>?_)
       clear hK K
       refine norm_ (a':=?_) ?_ ?_
       rotate_left
       ·show Act.put _ (some 65) _ = _
        simp only [Act.put,List.setIfInBounds_toArray,List.set_cons_zero,List.set_cons_succ,i64_w,i32_w]
        rfl
       refine pure_ (i:=7) (N:=some 66) (v:=?_) (a':=?_) #[true,true,true,true,true,true,true,true,false] rfl rfl (any_of HT_.out (by kernel_rfl)) (fun _ _ _ h=>h) (Or.inl ⟨by rfl,?_⟩) ?_ ?_
       rotate_left
       ·intro w'
        go_simp
        with_reducible rfl
       rotate_left
       ·simp only [Act.put,List.setIfInBounds_toArray,List.set_cons_zero,List.set_cons_succ,i64_w,i32_w]
        rfl
       refine pure_ (i:=8) (N:=some 16) (v:=?_) (a':=?_) #[true,true,true,true,true,true,true,true,true] rfl rfl (any_of HT_.out (by kernel_rfl)) (fun _ _ _ h=>h) (Or.inl ⟨by rfl,?_⟩) ?_ ?_
       rotate_left
       ·intro w'
        go_simp
        with_reducible rfl
       rotate_left
       ·simp only [Act.put,List.setIfInBounds_toArray,List.set_cons_zero,List.set_cons_succ,i64_w,i32_w]
        rfl
       refine done_ (done_of HT_.out (by kernel_rfl)) ?_
       go_upto_region 16 with (fail)
       go_cut [79] (fun v79 wc=>∃ (kq : Nat) (x79_39 : Bool),v79 = .bool x79_39 ∧ Aside0 (impl_distances.j3 kq l1 l2 x7_3 x8_3 x10_3 (rd x10_2 0) t304 (wrap64 ((rd x7_3 (rd x10_2 0)) + t306)) (rd_L4 l1 (rd x10_2 0)) ((rd_L4 l1 (rd x10_2 0)).length : Int) x49_3 x79_39 a0_0 l0_1 = some r) ∧ Aside0 (kq ≤ k3) ∧ Aside0 (Kd.R (Kd.int .i64) 3 wc w.heap.size (fun k_=>some k_ ≠ (u10 : Value).ownBlock) (.slice (some ad305) x7_3.length co47) x7_3) ∧ Aside0 (Kd.R Kd.bool 4 wc w.heap.size (fun _=>True) (.slice (some ⟨go28,0,none⟩) x8_3.length co28) x8_3) ∧ Aside0 (Kd.Q (Kd.int .i64) 3 wc w.heap.size (fun k_=>some k_ ≠ ((.slice (some ad305) x7_3.length co47) : Value).ownBlock) u10 x10_3) ∧ Aside0 (wc.heap[gb284]? = some (.cells #[.int .i64 a0_0,(.slice A0_1 l0_1.length c0_1)] 30 (0,0))) ∧ Aside0 (wc.heap[gb302]? = some (.cells #[.int .i64 ((rd_T79 (rd_L4 l1 (rd x10_2 0)) x49_3).f0),.bool ((rd_T79 (rd_L4 l1 (rd x10_2 0)) x49_3).f1)] 79 (0,0))) ∧ Aside0 (Below w.heap.size w wc))
       case first =>
        have H:=HC40.out
        clear HC40
        replace H:=Option.bind_eq_some_iff.mp H
        obtain ⟨t307,A490,H⟩:=H
        replace H : (if t307 = 0 then (impl_distances.j3 k3 l1 l2 x7_3 x8_3 x10_3 (rd x10_2 0) t304 (wrap64 ((rd x7_3 (rd x10_2 0)) + t306)) (rd_L4 l1 (rd x10_2 0)) ((rd_L4 l1 (rd x10_2 0)).length : Int) x49_3 true a0_0 l0_1) else (if 0 ≤ t304 then (if t304 < (x7_3.length : Int) then (impl_distances.j3 k3 l1 l2 x7_3 x8_3 x10_3 (rd x10_2 0) t304 (wrap64 ((rd x7_3 (rd x10_2 0)) + t306)) (rd_L4 l1 (rd x10_2 0)) ((rd_L4 l1 (rd x10_2 0)).length : Int) x49_3 (decide ((wrap64 ((rd x7_3 (rd x10_2 0)) + t306)) ≥ (rd x7_3 t304))) a0_0 l0_1) else (none)) else (none))) = some r:=H
        have A49:=am_ A490
        clear A490
        by_cases c50 : t307 = 0
        ·rw [if_pos c50] at H
         have c50b0 : (t307 == 0) = true:=beq_iff_eq.mpr c50
         have c50b1 : (t307 != 0) = false:=bne_eq_false_iff_eq.mpr c50
         clear c50
         (skip)
         have H':=am_ H
         clear H
         have hnb51:=NB302_284.out
         have hnc51:=NB284_302.out
         have hcz52_0 : w48.cell? ⟨gb302,0,none⟩ = some (.int .i64 ((rd_T79 (rd_L4 l1 (rd x10_2 0)) x49_3).f0)):=(blk_cell BK302.out 0).trans rfl
         have hcz52_1 : w48.cell? ⟨gb302,1,none⟩ = some (.bool ((rd_T79 (rd_L4 l1 (rd x10_2 0)) x49_3).f1)):=(blk_cell BK302.out 1).trans rfl
         have hfz52_0:=blk_frozen BK302.out 0
         have hfz52_1:=blk_frozen BK302.out 1
         have hcz53_0 : w48.cell? ⟨gb284,0,none⟩ = some (.int .i64 a0_0):=(blk_cell BK284.out 0).trans rfl
         have hcz53_1 : w48.cell? ⟨gb284,1,none⟩ = some (.slice A0_1 l0_1.length c0_1):=(blk_cell BK284.out 1).trans rfl
         have hfz53_0:=blk_frozen BK284.out 0
         have hfz53_1:=blk_frozen BK284.out 1
         go_wp2_with (((with_reducible refine gate_callee (f:=56) rfl ?_);refine goesL_ (some 70) rfl rfl Try.func56 (by kernel_rfl) rfl #[.agg #[.int .i64 ((rd_T79 (rd_L4 l1 (rd x10_2 0)) x49_3).f0),.bool ((rd_T79 (rd_L4 l1 (rd x10_2 0)) x49_3).f1)],.agg #[.int .i64 a0_0,.slice A0_1 l0_1.length c0_1],.slice A2 l2.length c2] rfl (by (try simp only [List.map_toArray,List.map_cons,List.map_nil]);rfl) ?_;(with_reducible refine (impl_step_room.calls ((rd_T79 (rd_L4 l1 (rd x10_2 0)) x49_3).f0) ((rd_T79 (rd_L4 l1 (rd x10_2 0)) x49_3).f1) a0_0 _ _ l0_1 _ _ l2 t307 _ ?side1 ?side2 ?side3 ?side4 A49.out).mono ?_);(case side1=>exact (Kd.C_below HR0_1.out HB.out));(case side2=>exact HC0_1.out);(case side3=>exact (Kd.C_below HR2.out HB.out));(case side4=>exact HC2.out);rintro e w54 ⟨rfl,hb⟩;refine ⟨_,rfl,?_⟩;have n0_:=am_ (Kd.R_below HO_7.out hb);have n1_:=am_ (Kd.R_below HO_8.out hb);have n2_:=am_ (Kd.Q_below HO_10.out hb);have n3_:=am_ (blk_below BK284.out hb);have n4_:=am_ (blk_below (g:=gb302) (o:=.cells #[.int .i64 ((rd_T79 (rd_L4 l1 (rd x10_2 0)) x49_3).f0),.bool ((rd_T79 (rd_L4 l1 (rd x10_2 0)) x49_3).f1)] 79 (0,0)) BK302.out hb);have n5_:=am_ (below_step HB.out hb);clear HO_7 HO_8 HO_10 BK284 BK302 HB;have HO_7:=n0_;have HO_8:=n1_;have HO_10:=n2_;have BK284:=n3_;have BK302:=n4_;have HB:=n5_;clear n0_ n1_ n2_ n3_ n4_ n5_;(try clear hb)))
         go_meet
         case rel=>exact ⟨_,(true),(by rfl),H',⟨by have:=HK1.out;have:=HK2.out;have:=HK3.out;omega⟩,⟨by exact HO_7.out⟩,⟨by exact HO_8.out⟩,⟨by exact HO_10.out⟩,⟨by exact BK284.out⟩,⟨by exact BK302.out⟩,⟨by exact HB.out⟩⟩
        rw [if_neg c50] at H
        have c50b0 : (t307 == 0) = false:=beq_eq_false_iff_ne.mpr c50
        have c50b1 : (t307 != 0) = true:=bne_iff_ne.mpr c50
        (skip)
        by_cases c55 : 0 ≤ t304
        rotate_left
        ·rw [if_neg c55] at H
         exact absurd H (by simp)
        rw [if_pos c55] at H
        have c55b0 : decide (0 ≤ t304) = true:=decide_eq_true c55
        clear c55
        by_cases c56 : t304 < (x7_3.length : Int)
        rotate_left
        ·rw [if_neg c56] at H
         exact absurd H (by simp)
        rw [if_pos c56] at H
        have c56b0 : decide (t304 < (x7_3.length : Int)) = true:=decide_eq_true c56
        clear c56
        have H':=am_ H
        clear H
        have hnb57:=NB302_284.out
        have hnc57:=NB284_302.out
        have hcz58_0 : w48.cell? ⟨gb302,0,none⟩ = some (.int .i64 ((rd_T79 (rd_L4 l1 (rd x10_2 0)) x49_3).f0)):=(blk_cell BK302.out 0).trans rfl
        have hcz58_1 : w48.cell? ⟨gb302,1,none⟩ = some (.bool ((rd_T79 (rd_L4 l1 (rd x10_2 0)) x49_3).f1)):=(blk_cell BK302.out 1).trans rfl
        have hfz58_0:=blk_frozen BK302.out 0
        have hfz58_1:=blk_frozen BK302.out 1
        have hcz59_0 : w48.cell? ⟨gb284,0,none⟩ = some (.int .i64 a0_0):=(blk_cell BK284.out 0).trans rfl
        have hcz59_1 : w48.cell? ⟨gb284,1,none⟩ = some (.slice A0_1 l0_1.length c0_1):=(blk_cell BK284.out 1).trans rfl
        have hfz59_0:=blk_frozen BK284.out 0
        have hfz59_1:=blk_frozen BK284.out 1
        go_wp2_with (((with_reducible refine gate_callee (f:=56) rfl ?_);refine goesL_ (some 70) rfl rfl Try.func56 (by kernel_rfl) rfl #[.agg #[.int .i64 ((rd_T79 (rd_L4 l1 (rd x10_2 0)) x49_3).f0),.bool ((rd_T79 (rd_L4 l1 (rd x10_2 0)) x49_3).f1)],.agg #[.int .i64 a0_0,.slice A0_1 l0_1.length c0_1],.slice A2 l2.length c2] rfl (by (try simp only [List.map_toArray,List.map_cons,List.map_nil]);rfl) ?_;(with_reducible refine (impl_step_room.calls ((rd_T79 (rd_L4 l1 (rd x10_2 0)) x49_3).f0) ((rd_T79 (rd_L4 l1 (rd x10_2 0)) x49_3).f1) a0_0 _ _ l0_1 _ _ l2 t307 _ ?side1 ?side2 ?side3 ?side4 A49.out).mono ?_);(case side1=>exact (Kd.C_below HR0_1.out HB.out));(case side2=>exact HC0_1.out);(case side3=>exact (Kd.C_below HR2.out HB.out));(case side4=>exact HC2.out);rintro e w60 ⟨rfl,hb⟩;refine ⟨_,rfl,?_⟩;have n0_:=am_ (Kd.R_below HO_7.out hb);have n1_:=am_ (Kd.R_below HO_8.out hb);have n2_:=am_ (Kd.Q_below HO_10.out hb);have n3_:=am_ (blk_below BK284.out hb);have n4_:=am_ (blk_below (g:=gb302) (o:=.cells #[.int .i64 ((rd_T79 (rd_L4 l1 (rd x10_2 0)) x49_3).f0),.bool ((rd_T79 (rd_L4 l1 (rd x10_2 0)) x49_3).f1)] 79 (0,0)) BK302.out hb);have n5_:=am_ (below_step HB.out hb);clear HO_7 HO_8 HO_10 BK284 BK302 HB;have HO_7:=n0_;have HO_8:=n1_;have HO_10:=n2_;have BK284:=n3_;have BK302:=n4_;have HB:=n5_;clear n0_ n1_ n2_ n3_ n4_ n5_;(try clear hb);have p308 : 0 ≤ (t304 : Int):=of_decide_eq_true (by (with_reducible assumption));have q308 : t304 < (x7_3.length : Int):=of_decide_eq_true (by (with_reducible assumption));obtain ⟨ad308,e308,hx308_0⟩:=Kd.at_int (Kd.R_reads' HO_7.out).2.2 t304 p308 q308;obtain rfl : ad305 = ad308:=(by injection e308);replace p308:=eq_true p308;replace q308:=eq_true q308))
        go_meet
        case rel=>exact ⟨_,(decide ((wrap64 ((rd x7_3 (rd x10_2 0)) + t306)) ≥ (rd x7_3 t304))),(by rfl),H',⟨by have:=HK1.out;have:=HK2.out;have:=HK3.out;omega⟩,⟨by exact HO_7.out⟩,⟨by exact HO_8.out⟩,⟨by exact HO_10.out⟩,⟨by exact BK284.out⟩,⟨by exact BK302.out⟩,⟨by exact HB.out⟩⟩
       case rest =>
        clear HC40
        try clear c1
        try clear p1
        try clear q1
        try clear hx1
        try clear c2
        try clear p2
        try clear q2
        try clear hx2
        try clear qi2
        try clear c3
        try clear p3
        try clear q3
        try clear hx3
        try clear c4
        try clear c4b0
        try clear c4b1
        try clear c5
        try clear c5b0
        try clear c5b1
        try clear c6
        try clear c6b0
        try clear c6b1
        try clear p6
        try clear c14
        try clear c14b0
        try clear c15
        try clear c15b0
        try clear c16
        try clear c16b0
        try clear p17
        try clear q17
        try clear hx17
        try clear hf17
        try clear c24
        try clear c24b0
        try clear c24b1
        try clear c25
        try clear c25b0
        try clear c25b1
        try clear c26
        try clear c26b0
        try clear c27
        try clear c27b0
        try clear p28
        try clear q28
        try clear hx28
        try clear hf28
        try clear c29
        try clear c29b0
        try clear p29
        try clear q29
        try clear hx29
        try clear qi29
        try clear p30
        try clear q30
        try clear hx30
        try clear c33
        try clear c33b0
        try clear c34
        try clear c34b0
        try clear c35
        try clear c35b0
        try clear c37
        try clear c37b0
        try clear c38
        try clear c38b0
        try clear c42
        try clear c50
        try clear c50b0
        try clear c50b1
        try clear c51
        try clear c55
        try clear c55b0
        try clear c56
        try clear c56b0
        try clear c57
        try clear hcz18_0
        try clear hcz18_1
        try clear hcz21_0
        try clear hcz21_1
        try clear hcz43_0
        try clear hcz43_1
        try clear hcz44_0
        try clear hcz44_1
        try clear hcz52_0
        try clear hcz52_1
        try clear hcz53_0
        try clear hcz53_1
        try clear hcz58_0
        try clear hcz58_1
        try clear hcz59_0
        try clear hcz59_1
        try clear hfz18_0
        try clear hfz18_1
        try clear hfz21_0
        try clear hfz21_1
        try clear hfz43_0
        try clear hfz43_1
        try clear hfz44_0
        try clear hfz44_1
        try clear hfz52_0
        try clear hfz52_1
        try clear hfz53_0
        try clear hfz53_1
        try clear hfz58_0
        try clear hfz58_1
        try clear hfz59_0
        try clear hfz59_1
        try clear hx17_0
        try clear hx28_0
        try clear hx295_0
        try clear hx297_0
        try clear hx301_0
        try clear hx301_1
        try clear hx305_0
        try clear hx308_0
        try clear p1
        try clear p17
        try clear p2
        try clear p28
        try clear p29
        try clear p295
        try clear p297
        try clear p301
        try clear p305
        try clear p308
        try clear p6
        try clear q1
        try clear q17
        try clear q2
        try clear q28
        try clear q29
        try clear q295
        try clear q297
        try clear q301
        try clear q305
        try clear q308
        obtain ⟨kq,x79_39,rfl,HA,HJ39,HO_7,HO_8,HO_10,BK284,BK302,HB⟩:=hcut
        cases kq with
        | zero => exact absurd HA.out (by simp [impl_distances.j3])
        | succ kj39 =>
         have H:=HA.out
         clear HA
         simp only [impl_distances.j3] at H
         by_cases c61 : x79_39 = true
         ·subst c61
          have H1 : (impl_distances.l2 kj39 l1 l2 x7_3 x8_3 x10_3 (rd x10_2 0) (rd_L4 l1 (rd x10_2 0)) ((rd_L4 l1 (rd x10_2 0)).length : Int) (wrap64 (x49_3 + 1)) a0_0 l0_1) = some r:=by rw [if_pos rfl] at H;exact H
          clear H
          have H:=H1
          clear H1
          have H':=am_ H
          clear H
          go_wp2
          (try simp only [← hl8_3])
          go_roundg kj39
          case measure=>have:=HK1.out;have:=HK2.out;have:=HK3.out;have:=HJ39.out;omega
          case rel=>exact ⟨(x7_3),(x8_3),(x10_3),(wrap64 (x49_3 + 1)),(by rfl),H',⟨by have:=HK1.out;have:=HK2.out;have:=HK3.out;have:=HJ39.out;omega⟩,⟨by exact HO_7.out⟩,⟨by (try simp only [hl8_3]);exact HO_8.out⟩,⟨by exact HO_10.out⟩,⟨by exact BK284.out⟩,⟨by exact HB.out⟩⟩
         replace c61:=Bool.eq_false_iff.mpr c61
         subst c61
         have H1 : (if 0 ≤ t304 then (if t304 < (x7_3.length : Int) then ((some (x7_3.set (t304 : Int).toNat (wrap64 ((rd x7_3 (rd x10_2 0)) + t306)) : List Int)).bind fun y309=>(if t304 < (x8_3.length : Int) then (if rdOf false x8_3 t304 = true then (impl_distances.l2 kj39 l1 l2 y309 x8_3 x10_3 (rd x10_2 0) (rd_L4 l1 (rd x10_2 0)) ((rd_L4 l1 (rd x10_2 0)).length : Int) (wrap64 (x49_3 + 1)) a0_0 l0_1) else (if x10_3.length < 17592186044416 then (impl_distances.l2 kj39 l1 l2 y309 (x8_3.set (t304 : Int).toNat true) (x10_3 ++ [t304]) (rd x10_2 0) (rd_L4 l1 (rd x10_2 0)) ((rd_L4 l1 (rd x10_2 0)).length : Int) (wrap64 (x49_3 + 1)) a0_0 l0_1) else (none))) else (none))) else (none)) else (none)) = some r:=by rw [if_neg (show ¬ (false = true) by decide)] at H;exact H
         clear H
         have H:=H1
         clear H1
         by_cases c62 : 0 ≤ t304
         rotate_left
         ·rw [if_neg c62] at H
          exact absurd H (by simp)
         rw [if_pos c62] at H
         have c62b0 : decide (0 ≤ t304) = true:=decide_eq_true c62
         clear c62
         by_cases c63 : t304 < (x7_3.length : Int)
         rotate_left
         ·rw [if_neg c63] at H
          exact absurd H (by simp)
         rw [if_pos c63] at H
         have c63b0 : decide (t304 < (x7_3.length : Int)) = true:=decide_eq_true c63
         clear c63
         obtain ⟨y309,hy309⟩ : ∃ y_ : List Int,y_ = (x7_3.set (t304 : Int).toNat (wrap64 ((rd x7_3 (rd x10_2 0)) + t306))):=⟨_,rfl⟩
         replace H : (if t304 < (x8_3.length : Int) then (if rdOf false x8_3 t304 = true then (impl_distances.l2 kj39 l1 l2 y309 x8_3 x10_3 (rd x10_2 0) (rd_L4 l1 (rd x10_2 0)) ((rd_L4 l1 (rd x10_2 0)).length : Int) (wrap64 (x49_3 + 1)) a0_0 l0_1) else (if x10_3.length < 17592186044416 then (impl_distances.l2 kj39 l1 l2 y309 (x8_3.set (t304 : Int).toNat true) (x10_3 ++ [t304]) (rd x10_2 0) (rd_L4 l1 (rd x10_2 0)) ((rd_L4 l1 (rd x10_2 0)).length : Int) (wrap64 (x49_3 + 1)) a0_0 l0_1) else (none))) else (none)) = some r:=by (have H2_:=(Option.bind_some _ _).symm.trans H;rw [hy309];with_reducible exact H2_)
         have Ny309:=am_ hy309
         clear hy309
         by_cases c65 : t304 < (x8_3.length : Int)
         rotate_left
         ·rw [if_neg c65] at H
          exact absurd H (by simp)
         rw [if_pos c65] at H
         have c65b0 : decide (t304 < (x8_3.length : Int)) = true:=decide_eq_true c65
         clear c65
         obtain ⟨bq66,hbq66⟩ : ∃ b_ : Bool,b_ = (rdOf false x8_3 t304):=⟨_,rfl⟩
         replace H : (if bq66 = true then (impl_distances.l2 kj39 l1 l2 y309 x8_3 x10_3 (rd x10_2 0) (rd_L4 l1 (rd x10_2 0)) ((rd_L4 l1 (rd x10_2 0)).length : Int) (wrap64 (x49_3 + 1)) a0_0 l0_1) else (if x10_3.length < 17592186044416 then (impl_distances.l2 kj39 l1 l2 y309 (x8_3.set (t304 : Int).toNat true) (x10_3 ++ [t304]) (rd x10_2 0) (rd_L4 l1 (rd x10_2 0)) ((rd_L4 l1 (rd x10_2 0)).length : Int) (wrap64 (x49_3 + 1)) a0_0 l0_1) else (none))) = some r:=by rw [← hbq66] at H;exact H
         have Nbq66:=am_ hbq66
         clear hbq66
         by_cases c67 : bq66 = true
         ·subst c67
          have H1 : (impl_distances.l2 kj39 l1 l2 y309 x8_3 x10_3 (rd x10_2 0) (rd_L4 l1 (rd x10_2 0)) ((rd_L4 l1 (rd x10_2 0)).length : Int) (wrap64 (x49_3 + 1)) a0_0 l0_1) = some r:=by rw [if_pos rfl] at H;exact H
          clear H
          have H:=H1
          clear H1
          have H':=am_ H
          clear H
          have p64 : 0 ≤ (t304 : Int):=of_decide_eq_true (by (with_reducible assumption))
          have q64 : (t304 : Int) < ((x7_3.length : Int) : Int):=of_decide_eq_true (by (with_reducible assumption))
          obtain ⟨go64,co64,eo64,gb64,gl64,cl64,HG64⟩:=Kd.R_form HO_7.out (by omega)
          (cases eo64)
          have GB64:=am_ gb64
          have GG64:=am_ HG64
          clear gb64 gl64 HG64
          (skip)
          (skip)
          obtain ⟨hx64_0,hf64_0⟩:=Kd.R_celln 0 HO_7.out (t304 : Int) p64 q64
          replace p64:=eq_true p64
          replace q64:=eq_true q64
          have HP68:=Kd.R_putg HO_7.out (t304 : Int) (wrap64 ((rd x7_3 (rd x10_2 0)) + t306))
          go_wp2_with (((with_reducible refine gate_store (t:=3) (p:=83) rfl ?_);refine store_event (t:=3) (p:=83) (v:=?vo_w69) (w1:=(wc.setCell ⟨go64,(t304 : Int).toNat,none⟩ (.int .i64 (wrap64 ((rd x7_3 (rd x10_2 0)) + t306))))) ?hg ?ho ?hn ?hr ?_;(case ho=>rfl);(case hg=>rfl);(case hn=>rfl);(case hr=>(go_simp;done));intro w69 hw;have hg : wc.grownBy w69 (some go64):=(by rw [hw];exact HP68.2);have hp_ : Kd.R (Kd.int .i64) 3 w69 w.heap.size (fun k_=>some k_ ≠ (u10 : Value).ownBlock) (.slice (some ⟨go64,0,none⟩) x7_3.length co47) y309:=(by rw [hw,Ny309.out];exact HP68.1);clear HP68;have n0_:=am_ (hp_);have n1_:=am_ (Kd.R_over' (v:=(.slice (some ⟨go64,0,none⟩) x7_3.length co47)) HO_8.out (Kd.R_typed HO_7.out) (by decide) hg);have n2_:=am_ (Kd.Q_after (v:=(.slice (some ⟨go64,0,none⟩) x7_3.length co47)) (v1:=(.slice (some ⟨go64,0,none⟩) x7_3.length co47)) (ok:=(fun _=>True)) (by exact Kd.Q_mono HO_10.out (fun _ hk=>⟨trivial,hk⟩)) hg (.inl rfl));have n3_:=am_ (blk_grown (g:=gb284) (o:=.cells #[.int .i64 a0_0,.slice A0_1 l0_1.length c0_1] 30 (0,0)) BK284.out hg (Kd.R_ne HO_7.out BK284.out (by decide)));have n4_:=am_ (blk_grown (g:=gb302) (o:=.cells #[.int .i64 ((rd_T79 (rd_L4 l1 (rd x10_2 0)) x49_3).f0),.bool ((rd_T79 (rd_L4 l1 (rd x10_2 0)) x49_3).f1)] 79 (0,0)) BK302.out hg (Kd.R_ne HO_7.out BK302.out (by decide)));have n5_:=am_ ((by rw [hw];exact below_set (HB.out) GB64.out : Below w.heap.size w w69));clear HO_7 HO_8 HO_10 BK284 BK302 HB;have HO_7:=n0_;have HO_8:=n1_;have HO_10:=n2_;have BK284:=n3_;have BK302:=n4_;have HB:=n5_;clear n0_ n1_ n2_ n3_ n4_ n5_ hg hw hp_;have p310 : 0 ≤ (t304 : Int):=of_decide_eq_true (by (with_reducible assumption));have q310 : t304 < (x8_3.length : Int):=of_decide_eq_true (by (with_reducible assumption));obtain ⟨ad310,e310,hx310_0⟩:=Kd.at_bool (Kd.R_reads' HO_8.out).2.2 t304 p310 q310;(try rw [← Nbq66.out] at hx310_0);obtain rfl : (⟨go28,0,none⟩ : Addr) = ad310:=(by injection e310);(simp only [add_plain] at hx310_0);replace p310:=eq_true p310;replace q310:=eq_true q310))
          (try simp only [← hl8_3])
          go_roundg kj39
          case measure=>have:=HK1.out;have:=HK2.out;have:=HK3.out;have:=HJ39.out;omega
          case rel=>exact ⟨(y309),(x8_3),(x10_3),(wrap64 (x49_3 + 1)),(by rfl),H',⟨by have:=HK1.out;have:=HK2.out;have:=HK3.out;have:=HJ39.out;omega⟩,⟨by exact HO_7.out⟩,⟨by (try simp only [hl8_3]);exact HO_8.out⟩,⟨by exact Kd.Q_mono HO_10.out (fun _ hk=>hk.2)⟩,⟨by exact BK284.out⟩,⟨by exact HB.out⟩⟩
         replace c67:=Bool.eq_false_iff.mpr c67
         subst c67
         have H1 : (if x10_3.length < 17592186044416 then (impl_distances.l2 kj39 l1 l2 y309 (x8_3.set (t304 : Int).toNat true) (x10_3 ++ [t304]) (rd x10_2 0) (rd_L4 l1 (rd x10_2 0)) ((rd_L4 l1 (rd x10_2 0)).length : Int) (wrap64 (x49_3 + 1)) a0_0 l0_1) else (none)) = some r:=by rw [if_neg (show ¬ (false = true) by decide)] at H;exact H
         clear H
         have H:=H1
         clear H1
         obtain ⟨y311,hy311⟩ : ∃ y_ : List Bool,y_ = (x8_3.set (t304 : Int).toNat true):=⟨_,rfl⟩
         replace H : (if x10_3.length < 17592186044416 then (impl_distances.l2 kj39 l1 l2 y309 y311 (x10_3 ++ [t304]) (rd x10_2 0) (rd_L4 l1 (rd x10_2 0)) ((rd_L4 l1 (rd x10_2 0)).length : Int) (wrap64 (x49_3 + 1)) a0_0 l0_1) else (none)) = some r:=by (rw [hy311];with_reducible exact H)
         have Ny311:=am_ hy311
         clear hy311
         by_cases c71 : x10_3.length < 17592186044416
         rotate_left
         ·rw [if_neg c71] at H
          exact absurd H (by simp)
         rw [if_pos c71] at H
         have LMc71:=am_ c71
         clear c71
         obtain ⟨y312,hy312⟩ : ∃ y_ : List Int,y_ = (x10_3 ++ [t304]):=⟨_,rfl⟩
         replace H : (impl_distances.l2 kj39 l1 l2 y309 y311 y312 (rd x10_2 0) (rd_L4 l1 (rd x10_2 0)) ((rd_L4 l1 (rd x10_2 0)).length : Int) (wrap64 (x49_3 + 1)) a0_0 l0_1) = some r:=by (rw [hy312];with_reducible exact H)
         have Ny312:=am_ hy312
         clear hy312
         have H':=am_ H
         clear H
         have p64 : 0 ≤ (t304 : Int):=of_decide_eq_true (by (with_reducible assumption))
         have q64 : (t304 : Int) < ((x7_3.length : Int) : Int):=of_decide_eq_true (by (with_reducible assumption))
         obtain ⟨go64,co64,eo64,gb64,gl64,cl64,HG64⟩:=Kd.R_form HO_7.out (by omega)
         (cases eo64)
         have GB64:=am_ gb64
         have GG64:=am_ HG64
         clear gb64 gl64 HG64
         obtain ⟨hx64_0,hf64_0⟩:=Kd.R_celln 0 HO_7.out (t304 : Int) p64 q64
         replace p64:=eq_true p64
         replace q64:=eq_true q64
         have HP72:=Kd.R_putg HO_7.out (t304 : Int) (wrap64 ((rd x7_3 (rd x10_2 0)) + t306))
         go_wp2_with (first|((with_reducible refine gate_store (t:=3) (p:=83) rfl ?_);refine store_event (t:=3) (p:=83) (v:=?vo_w73) (w1:=(wc.setCell ⟨go64,(t304 : Int).toNat,none⟩ (.int .i64 (wrap64 ((rd x7_3 (rd x10_2 0)) + t306))))) ?hg ?ho ?hn ?hr ?_;(case ho=>rfl);(case hg=>rfl);(case hn=>rfl);(case hr=>(go_simp;done));intro w73 hw;have hg : wc.grownBy w73 (some go64):=(by rw [hw];exact HP72.2);have hp_ : Kd.R (Kd.int .i64) 3 w73 w.heap.size (fun k_=>some k_ ≠ (u10 : Value).ownBlock) (.slice (some ⟨go64,0,none⟩) x7_3.length co47) y309:=(by rw [hw,Ny309.out];exact HP72.1);clear HP72;have n0_:=am_ (hp_);have n1_:=am_ (Kd.R_over' (v:=(.slice (some ⟨go64,0,none⟩) x7_3.length co47)) HO_8.out (Kd.R_typed HO_7.out) (by decide) hg);have n2_:=am_ (Kd.Q_after (v:=(.slice (some ⟨go64,0,none⟩) x7_3.length co47)) (v1:=(.slice (some ⟨go64,0,none⟩) x7_3.length co47)) (ok:=(fun _=>True)) (by exact Kd.Q_mono HO_10.out (fun _ hk=>⟨trivial,hk⟩)) hg (.inl rfl));have n3_:=am_ (blk_grown (g:=gb284) (o:=.cells #[.int .i64 a0_0,.slice A0_1 l0_1.length c0_1] 30 (0,0)) BK284.out hg (Kd.R_ne HO_7.out BK284.out (by decide)));have n4_:=am_ (blk_grown (g:=gb302) (o:=.cells #[.int .i64 ((rd_T79 (rd_L4 l1 (rd x10_2 0)) x49_3).f0),.bool ((rd_T79 (rd_L4 l1 (rd x10_2 0)) x49_3).f1)] 79 (0,0)) BK302.out hg (Kd.R_ne HO_7.out BK302.out (by decide)));have n5_:=am_ ((by rw [hw];exact below_set (HB.out) GB64.out : Below w.heap.size w w73));clear HO_7 HO_8 HO_10 BK284 BK302 HB;have HO_7:=n0_;have HO_8:=n1_;have HO_10:=n2_;have BK284:=n3_;have BK302:=n4_;have HB:=n5_;clear n0_ n1_ n2_ n3_ n4_ n5_ hg hw hp_;have p310 : 0 ≤ (t304 : Int):=of_decide_eq_true (by (with_reducible assumption));have q310 : t304 < (x8_3.length : Int):=of_decide_eq_true (by (with_reducible assumption));obtain ⟨ad310,e310,hx310_0⟩:=Kd.at_bool (Kd.R_reads' HO_8.out).2.2 t304 p310 q310;(try rw [← Nbq66.out] at hx310_0);obtain rfl : (⟨go28,0,none⟩ : Addr) = ad310:=(by injection e310);(simp only [add_plain] at hx310_0);replace p310:=eq_true p310;replace q310:=eq_true q310;have p70 : 0 ≤ (t304 : Int):=of_decide_eq_true (by (with_reducible assumption));have q70 : (t304 : Int) < ((x8_3.length : Int) : Int):=of_decide_eq_true (by (with_reducible assumption));obtain ⟨hx70_0,hf70_0⟩:=Kd.R_celln false HO_8.out (t304 : Int) p70 q70;replace p70:=eq_true p70;replace q70:=eq_true q70;obtain ⟨hy74_,hz74_⟩:=Kd.R_celln false HO_8.out (t304 : Int) (of_decide_eq_true (by (with_reducible assumption))) (of_decide_eq_true (by (with_reducible assumption)));have HP74:=Kd.R_putg HO_8.out (t304 : Int) true)|((with_reducible refine gate_store (t:=4) (p:=91) rfl ?_);refine store_event (t:=4) (p:=91) (v:=?vo_w75) (w1:=(w73.setCell ⟨go28,(t304 : Int).toNat,none⟩ (.bool true))) ?hg ?ho ?hn ?hr ?_;(case ho=>rfl);(case hg=>rfl);(case hn=>rfl);(case hr=>(go_simp;done));intro w75 hw;have hg : w73.grownBy w75 (some go28):=(by rw [hw];exact HP74.2);have hp_ : Kd.R Kd.bool 4 w75 w.heap.size (fun _=>True) (.slice (some ⟨go28,0,none⟩) x8_3.length co28) y311:=(by rw [hw,Ny311.out];exact HP74.1);clear HP74;have n0_:=am_ (Kd.R_over' (v:=(.slice (some ⟨go28,0,none⟩) x8_3.length co28)) HO_7.out (Kd.R_typed HO_8.out) (by decide) hg);have n1_:=am_ (hp_);have n2_:=am_ (Kd.Q_over' (v:=(.slice (some ⟨go28,0,none⟩) x8_3.length co28)) HO_10.out (Kd.R_typed HO_8.out) (by decide) hg);have n3_:=am_ (blk_grown (g:=gb284) (o:=.cells #[.int .i64 a0_0,.slice A0_1 l0_1.length c0_1] 30 (0,0)) BK284.out hg (Kd.R_ne HO_8.out BK284.out (by decide)));have n4_:=am_ (blk_grown (g:=gb302) (o:=.cells #[.int .i64 ((rd_T79 (rd_L4 l1 (rd x10_2 0)) x49_3).f0),.bool ((rd_T79 (rd_L4 l1 (rd x10_2 0)) x49_3).f1)] 79 (0,0)) BK302.out hg (Kd.R_ne HO_8.out BK302.out (by decide)));have n5_:=am_ ((by rw [hw];exact below_set (HB.out) GB28.out : Below w.heap.size w w75));clear HO_7 HO_8 HO_10 BK284 BK302 HB;have HO_7:=n0_;have HO_8:=n1_;have HO_10:=n2_;have BK284:=n3_;have BK302:=n4_;have HB:=n5_;clear n0_ n1_ n2_ n3_ n4_ n5_ hg hw hp_)|((with_reducible refine gate_builtin (b:=.append) (xs:=#[.tmp 92,.tmp 94]) rfl ?_);at_builtin;refine Kd.Q_append (Kd.int .i64) (w0:=w) w.heap.size rfl (.tmp 92) (.tmp 94) 25 3 (.int .i64 0) 8 rfl Try.underlying25 info3 rfl (by decide) (by omega) u10 x10_3 t304 [.int .i64 t304] (fun k_=>some k_ ≠ (.slice (some ⟨go64,0,none⟩) x7_3.length co47 : Value).ownBlock) (fun _=>False) rfl rfl ?aP (fun _ hk=>hk.elim) ?aF ?aO ?aB ?aS ?aL ?_;(case aP=>exact rfl);(case aB=>exact HB.out);(case aF=>exact (fun k_ hk=>Kd.fresh' (Kd.R_lt HO_7.out) k_ hk));(case aO=>exact (by exact Kd.Q_mono HO_10.out (fun _ hk=>hk.2)));(case aS=>exact (below_size HB.out));(case aL=>have:=LMc71.out;omega);intro v313 w76 ho hb hg hat;rw [← Ny312.out] at ho;have n0_:=am_ (Kd.R_after (ok:=(fun _=>True)) (by exact Kd.R_mono HO_7.out (fun _ hk=>⟨trivial,hk⟩)) hg hat);have n1_:=am_ (Kd.R_over' HO_8.out (Kd.Q_typed HO_10.out) (by decide) hg);have n2_:=am_ (blk_grown (g:=gb284) (o:=.cells #[.int .i64 a0_0,.slice A0_1 l0_1.length c0_1] 30 (0,0)) BK284.out hg (Kd.Q_ne HO_10.out BK284.out (by decide)));have n3_:=am_ (blk_grown (g:=gb302) (o:=.cells #[.int .i64 ((rd_T79 (rd_L4 l1 (rd x10_2 0)) x49_3).f0),.bool ((rd_T79 (rd_L4 l1 (rd x10_2 0)) x49_3).f1)] 79 (0,0)) BK302.out hg (Kd.Q_ne HO_10.out BK302.out (by decide)));have n4_:=am_ (hb);have n5_:=am_ (ho);clear HO_7 HO_8 BK284 BK302 HB HO_10;have HO_7:=n0_;have HO_8:=n1_;have BK284:=n2_;have BK302:=n3_;have HB:=n4_;have HO314:=n5_;clear n0_ n1_ n2_ n3_ n4_ n5_ ho hb hg hat))
         (try simp only [← hl8_3])
         go_roundg kj39
         case measure=>have:=HK1.out;have:=HK2.out;have:=HK3.out;have:=HJ39.out;omega
         case rel=>exact ⟨(y309),(y311),(y312),(wrap64 (x49_3 + 1)),(by rfl),H',⟨by have:=HK1.out;have:=HK2.out;have:=HK3.out;have:=HJ39.out;omega⟩,⟨by exact Kd.R_mono HO_7.out (fun _ hk=>hk.2)⟩,⟨by (try simp only [hl8_3]);exact HO_8.out⟩,⟨by exact HO314.out⟩,⟨by exact BK284.out⟩,⟨by exact HB.out⟩⟩

end Go.Proofs.Ytgkpgigoonhgdaa.PFnCheapest
