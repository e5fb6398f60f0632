-- Made by the session's wip/pp.py, a changed call of the kit's printer; Lean checks it.
import Derived.Test.YtgkpgigoonhgdaaPFnMostCutx0
import Derived.Test.YtgkpgigoonhgdaaPFnMostCutx3
namespace Go.Proofs.Ytgkpgigoonhgdaa.PFnMostCut
open Go.RowKit Go.Proofs.YtgkpgigoonhgdaaW.PrintWords Go.Proofs.YtgkpgigoonhgdaaW.PrintLast Go.Proofs.YtgkpgigoonhgdaaW.PrintMore
attribute [local go_sem] max2_int min2_int max_two min_two max_three min_three max_four min_four   -- for this text's walks alone
set_option linter.unusedVariables false
set_option linter.unusedSimpArgs false

abbrev fl4_0_ : Array Bool:=#[true,true,true,true,true,true,true,false]
abbrev fl4_1_ : Array Bool:=#[false,false,false,false,false,false,false,false,false,false,false]
abbrev fl4_2_ : Array Bool:=#[true,false,false,false,false,false,false,false,false,false,false]
abbrev fl4_3_ : Array Bool:=#[true,true,false,false,false,false,false,false,false,false,false]
abbrev fl4_4_ : Array Bool:=#[true,true,true,false,false,false,false,false,false,false,false]
abbrev fl4_5_ : Array Bool:=#[true,true,true,true,false,false,false,false,false,false,false]
abbrev fl4_6_ : Array Bool:=#[true,true,true,true,true,false,false,false,false,false,false]
abbrev fl4_7_ : Array Bool:=#[true,true,true,true,true,true,false,false,false,false,false]
abbrev fl4_8_ : Array Bool:=#[true,true,true,true,true,true,true,false,false,false,false]
abbrev fl4_9_ : Array Bool:=#[true,true,true,true,true,true,true,true,false,false,false]
abbrev fl4_10_ : Array Bool:=#[true,true,true,true,true,true,true,true,true,false,false]
abbrev fl4_11_ : Array Bool:=#[true,true,true,true,true,true,true,true,true,true,false]
abbrev fl4_12_ : Array Bool:=#[true,true,true,true,true,true,true,true,true,true,true]
/-! ### impl_stepsOf: function 49 -/
/-- block k is not the row's own, and is one of those set apart -/
def Sep (v : Value) (O : Nat → Prop) (k : Nat) : Prop:=some k ≠ v.ownBlock ∧ O k

theorem S_self {α : Type} {d : Kd α} {e base m n : Nat} {w : World} {v : Value} {xs : List α} (h : Kd.S d e w base (fun k=>k = m) v xs) (hn : ∃ b,v.ownBlock = some b ∧ n ≤ b) : Kd.S d e w base (fun k=>some k = v.ownBlock) v xs:=by
 obtain ⟨b,e1,_⟩:=hn
 have e2:=(Kd.S_R h).1 b e1
 exact Kd.S_mono h (fun k hk=>by rw [hk,e1,e2])

theorem refresh {α : Type} {d : Kd α} {e base : Nat} {w : World} {v1 v2 : Value} {xs ys : List α} {O1 O2 A B A' B' : Nat → Prop} (h1 : Kd.S d e w base (fun k=>(Sep v2 O1 k ∧ A k) ∧ B k) v1 xs) (h2 : Kd.S d e w base (fun k=>(Sep v1 O2 k ∧ A' k) ∧ B' k) v2 ys) (dj : ∀ k,O1 k → ¬ O2 k) :
  ∃ P1 P2 : Nat → Prop,(∀ k,P1 k → ¬ P2 k) ∧ (∀ k,w.heap.size ≤ k → P1 k) ∧ Kd.S d e w base (fun k=>(Sep v2 P1 k ∧ A k) ∧ B k) v1 xs ∧ Kd.S d e w base (fun k=>(Sep v1 P2 k ∧ A' k) ∧ B' k) v2 ys :=
 ⟨fun k=>O1 k ∨ w.heap.size ≤ k,fun k=>O2 k ∧ k < w.heap.size,fun k q1 q2=>q1.elim (fun q=>dj k q q2.1) (fun q=>by omega),fun k q=>.inr q,Kd.S_mono h1 (fun k q=>⟨⟨⟨q.1.1.1,.inl q.1.1.2⟩,q.1.2⟩,q.2⟩),Kd.S_mono (Kd.S_bound h2) (fun k q=>⟨⟨⟨q.1.1.1.1,q.1.1.1.2,q.2.2.1⟩,q.1.1.2⟩,q.1.2⟩)⟩

theorem refresh2 {α : Type} {d : Kd α} {e base : Nat} {w : World} {v1 v2 : Value} {xs ys : List α} {O1 O2 A B A' B' : Nat → Prop} (h1 : Kd.S d e w base (fun k=>Sep v2 O1 k ∧ A k ∧ B k) v1 xs) (h2 : Kd.S d e w base (fun k=>A' k ∧ Sep v1 O2 k ∧ B' k) v2 ys) (dj : ∀ k,O1 k → ¬ O2 k) :
  ∃ P1 P2 : Nat → Prop,(∀ k,P1 k → ¬ P2 k) ∧ (∀ k,w.heap.size ≤ k → P2 k) ∧ Kd.S d e w base (fun k=>Sep v2 P1 k ∧ A k ∧ B k) v1 xs ∧ Kd.S d e w base (fun k=>A' k ∧ Sep v1 P2 k ∧ B' k) v2 ys :=
 ⟨fun k=>O1 k ∧ k < w.heap.size,fun k=>O2 k ∨ w.heap.size ≤ k,fun k q1 q2=>q2.elim (fun q=>dj k q1.1 q) (fun q=>by omega),fun k q=>.inr q,Kd.S_mono (Kd.S_bound h1) (fun k q=>⟨⟨q.1.1.1,q.1.1.2,q.2.2.1⟩,q.1.2⟩),Kd.S_mono h2 (fun k q=>⟨q.1,⟨q.2.1.1,.inl q.2.1.2⟩,q.2.2⟩)⟩
mutual
def impl_stepsOf.l0 : Nat → List (List (S79)) → List (List (S79)) → Int → Int → Int → List (S67) → Option ((List (List (S79))) × (List (List (S79))))
 | 0, _, _, _, _, _, _ => none
 | k + 1, x2, x3, x17, x18, x228000, x228001 => if x18 < x17 then ((some (([(⟨x18, false⟩ : S79), (⟨x18, true⟩ : S79)] : List (S79)) : List (S79))).bind fun y234 => (impl_stepsOf.l1 k x2 x3 x17 x18 y234 (y234.length : Int) 0 x228000 x228001)) else (some (x2, x3))
def impl_stepsOf.l1 : Nat → List (List (S79)) → List (List (S79)) → Int → Int → List (S79) → Int → Int → Int → List (S67) → Option ((List (List (S79))) × (List (List (S79))))
 | 0, _, _, _, _, _, _, _, _, _ => none
 | k + 1, x2, x3, x17, x18, x25, x26, x27, x228000, x228001 => if x27 < x26 then (if 0 ≤ x27 then (if x27 < (x25.length : Int) then ((impl_step_ends.f ((rd_T79 x25 x27).f0) ((rd_T79 x25 x27).f1) x228000 x228001).bind fun bt239 => (if 0 ≤ bt239.1 then (if bt239.1 < (x2.length : Int) then (if (rd_L4 x2 bt239.1).length < 8796093022208 then (if 0 ≤ bt239.2 then (if bt239.2 < (x3.length : Int) then (if (rd_L4 x3 bt239.2).length < 8796093022208 then (impl_stepsOf.l1 k (x2.set (bt239.1 : Int).toNat ((rd_L4 x2 bt239.1) ++ [(⟨(rd_T79 x25 x27).f0, (rd_T79 x25 x27).f1⟩ : S79)])) (x3.set (bt239.2 : Int).toNat ((rd_L4 x3 bt239.2) ++ [(⟨(rd_T79 x25 x27).f0, (rd_T79 x25 x27).f1⟩ : S79)])) x17 x18 x25 x26 (wrap64 (x27 + 1)) x228000 x228001) else (none)) else (none)) else (none)) else (none)) else (none)) else (none))) else (none)) else (none)) else (impl_stepsOf.l0 k x2 x3 x17 (wrap64 (x18 + 1)) x228000 x228001)
end
def impl_stepsOf.f (k : Nat) (a0_0 : Int) (l0_1 : List (S67)) : Option ((List (List (S79))) × (List (List (S79)))):=if 0 ≤ a0_0 then (if (a0_0 : Int).toNat ≤ 11728124029610 then (impl_stepsOf.l0 k (List.replicate (a0_0 : Int).toNat []) (List.replicate (a0_0 : Int).toNat []) (l0_1.length : Int) 0 a0_0 l0_1) else (none)) else (none)
theorem impl_stepsOf.mono_l : ∀ k,(∀ y0 y1 y2 y3 y4 y5,LeO (impl_stepsOf.l0 k y0 y1 y2 y3 y4 y5) (impl_stepsOf.l0 (k + 1) y0 y1 y2 y3 y4 y5)) ∧ (∀ y0 y1 y2 y3 y4 y5 y6 y7 y8,LeO (impl_stepsOf.l1 k y0 y1 y2 y3 y4 y5 y6 y7 y8) (impl_stepsOf.l1 (k + 1) y0 y1 y2 y3 y4 y5 y6 y7 y8))
 | 0 => ⟨fun _ _ _ _ _ _ r h => by simp [impl_stepsOf.l0] at h, fun _ _ _ _ _ _ _ _ _ r h => by simp [impl_stepsOf.l1] at h⟩
 | k + 1 => by
  obtain ⟨ih0,ih1⟩:=impl_stepsOf.mono_l k
  refine ⟨?_,?_⟩
  ·intro y0 y1 y2 y3 y4 y5
   unfold impl_stepsOf.l0
   repeat' first
   | (with_reducible exact ih1 _ _ _ _ _ _ _ _ _)
   | (with_reducible exact LeO.refl _)
   | (with_reducible refine LeO.ite ?_ ?_)
   | (with_reducible refine LeO.bind ?_ (fun _ => ?_))
  ·intro y0 y1 y2 y3 y4 y5 y6 y7 y8
   unfold impl_stepsOf.l1
   repeat' first
   | (with_reducible exact ih0 _ _ _ _ _ _)
   | (with_reducible exact ih1 _ _ _ _ _ _ _ _ _)
   | (with_reducible exact LeO.refl _)
   | (with_reducible refine LeO.ite ?_ ?_)
   | (with_reducible refine LeO.bind ?_ (fun _ => ?_))
theorem impl_stepsOf.mono : ∀ a0 a1 k,LeO (impl_stepsOf.f k a0 a1) (impl_stepsOf.f (k + 1) a0 a1):=by
 intro a0 a1 k
 obtain ⟨ih0,ih1⟩:=impl_stepsOf.mono_l k
 unfold impl_stepsOf.f
 repeat' first
   | (with_reducible exact ih0 _ _ _ _ _ _)
   | (with_reducible exact LeO.refl _)
   | (with_reducible refine LeO.ite ?_ ?_)
def impl_stepsOf.T1 : Bool × List (List Nat × List Nat):=(true,[([],[]),([0],[0]),([1,1],[1]),([],[]),([3],[3]),([4,4],[4]),([2,0,1,2],[2]),([5,6,0,1,2,3,4,5,6],[5])])
def impl_stepsOf.B1 : List Nat:=[0,1,3,0,8,24,7,127]
theorem impl_stepsOf.tab1 : rtab .any (opsOf Try.f49 1) = impl_stepsOf.T1:=by kernel_rfl
theorem impl_stepsOf.bits1 : waitsOk impl_stepsOf.T1.2 impl_stepsOf.B1 = true:=by kernel_rfl
def impl_stepsOf.T9 : Bool × List (List Nat × List Nat):=(true,[([],[]),([],[]),([],[]),([],[]),([2,3],[2,3]),([4],[4]),([],[]),([6],[6]),([5,7],[5,7]),([0,1,0,1,2,3,4,5,6,7,8],[0,1]),([9,8,8,0,1,2,3,4,5,6,7,8],[8,9])])
def impl_stepsOf.B9 : List Nat:=[0,0,0,0,12,28,0,64,252,511,1023]
theorem impl_stepsOf.tab9 : rtab .any (opsOf Try.f49 9) = impl_stepsOf.T9:=by kernel_rfl
theorem impl_stepsOf.bits9 : waitsOk impl_stepsOf.T9.2 impl_stepsOf.B9 = true:=by kernel_rfl
def impl_stepsOf.T10 : Bool × List (List Nat × List Nat):=(true,[([],[]),([],[]),([],[]),([],[]),([2,3],[2,3]),([4],[4]),([],[]),([6],[6]),([5,7],[5,7]),([0,1,0,1,2,3,4,5,6,7,8],[0,1]),([9,8,8,0,1,2,3,4,5,6,7,8],[8,9])])
def impl_stepsOf.B10 : List Nat:=[0,0,0,0,12,28,0,64,252,511,1023]
theorem impl_stepsOf.tab10 : rtab .any (opsOf Try.f49 10) = impl_stepsOf.T10:=by kernel_rfl
theorem impl_stepsOf.bits10 : waitsOk impl_stepsOf.T10.2 impl_stepsOf.B10 = true:=by kernel_rfl
set_option maxHeartbeats 8000000 in
set_option maxRecDepth 100000 in
theorem impl_stepsOf.calls (k : Nat) (a0_0 : Int) (A0_1 : Option Addr) (c0_1 : Nat) (l0_1 : List (S67)) (r1 : List (List (S79))) (r2 : List (List (S79))) (w : World) (hr0_1 : Kd.C k67 w A0_1 l0_1.length l0_1) (hc0_1 : l0_1.length ≤ c0_1) (h : impl_stepsOf.f k a0_0 l0_1 = some (r1,r2)) :
  Calls Try.prog 49 #[.agg #[.int .i64 a0_0,.slice A0_1 l0_1.length c0_1]] w fun e w'=>∃ v0_ v1_ : Value,e = .returned (.tuple #[v0_,v1_]) ∧ Kd.S (Kd.slice 79 k79) 71 w' w.heap.size (fun k_=>some k_ ≠ (v1_ : Value).ownBlock) v0_ r1 ∧ Kd.S (Kd.slice 79 k79) 71 w' w.heap.size (fun k_=>some k_ ≠ (v0_ : Value).ownBlock) v1_ r2 ∧ Below w.heap.size w w':=by
 have hu30:=Try.underlying30
 have hu79:=Try.underlying79
 have HR0_1:=am_ hr0_1
 have HC0_1:=am_ hc0_1
 clear hr0_1 hc0_1
 have HB:=am_ (Below.refl w.heap.size w)
 have H : (if 0 ≤ a0_0 then (if (a0_0 : Int).toNat ≤ 11728124029610 then (impl_stepsOf.l0 k (List.replicate (a0_0 : Int).toNat []) (List.replicate (a0_0 : Int).toNat []) (l0_1.length : Int) 0 a0_0 l0_1) else (none)) else (none)) = some (r1,r2):=h
 clear h
 by_cases c2 : 0 ≤ a0_0
 rotate_left
 ·rw [if_neg c2] at H
  exact absurd H (by simp)
 rw [if_pos c2] at H
 have c2b0:=eq_true c2
 have c2b1 : decide (0 ≤ a0_0) = true:=decide_eq_true c2
 clear c2
 by_cases c3 : (a0_0 : Int).toNat ≤ 11728124029610
 rotate_left
 ·rw [if_neg c3] at H
  exact absurd H (by simp)
 rw [if_pos c3] at H
 have c3b0:=eq_true c3
 have c3b1 : decide ((a0_0 : Int).toNat ≤ 11728124029610) = true:=decide_eq_true c3
 clear c3
 obtain ⟨y228,hy228⟩ : ∃ y_ : List (List (S79)),y_ = (List.replicate (a0_0 : Int).toNat []):=⟨_,rfl⟩
 replace H : (impl_stepsOf.l0 k y228 (List.replicate (a0_0 : Int).toNat []) (l0_1.length : Int) 0 a0_0 l0_1) = some (r1,r2):=by (rw [hy228];with_reducible exact H)
 have Ny228:=am_ hy228
 clear hy228
 obtain ⟨y231,hy231⟩ : ∃ y_ : List (List (S79)),y_ = (List.replicate (a0_0 : Int).toNat []):=⟨_,rfl⟩
 replace H : (impl_stepsOf.l0 k y228 y231 (l0_1.length : Int) 0 a0_0 l0_1) = some (r1,r2):=by (rw [hy231];with_reducible exact H)
 have Ny231:=am_ hy231
 clear hy231
 have H':=am_ H
 clear H
 go_enter Try.func49,Try.ntmps49
 try go_wp2_with (((with_reducible refine gate_dst (N:=1) rfl ?_);refine box_event ?hg (N:=1) ?hd (cs:=#[.int .i64 a0_0,.slice A0_1 l0_1.length c0_1]) (t:=30) ?hr ?_;(case hd=>rfl);(case hg=>rfl);(case hr=>(go_simp;done));intro gb227 hg w4 hbox hb;have n0_:=am_ (below_step HB.out hb);have n1_:=am_ (hbox);have n2_:=am_ ((by rw [hg];exact (below_size HB.out) : w.heap.size ≤ gb227));have n3_:=n2_;clear HB;have HB:=n0_;have BK227:=n1_;have GW227:=n2_;have GE227:=n3_;clear n0_ n1_ n2_ n3_ hb hbox hg))
 have n0_:=am_ (blk_drew BK227.out)
 have n1_:=am_ (below_drew1 HB.out)
 clear BK227
 clear HB
 have BK227:=n0_
 have HB:=n1_
 clear n0_ n1_
 refine start_ (n:=8) (S:=fun w'=>w'.cell? ⟨gb227,0,none⟩ = some (.int .i64 a0_0) ∧ w'.cell? ⟨gb227,1,none⟩ = some (.slice A0_1 l0_1.length c0_1)) (ds:=[]) #[false,false,false,false,false,false,false,false] (by kernel_rfl) rfl rfl ⟨bc_ BK227.out 0,bc_ BK227.out 1⟩ (fun hHeld=>?_);refine with_tabW impl_stepsOf.tab1 impl_stepsOf.bits1 (fun HT_ HW_=>?_)
 generalize w4.drew = w5 at BK227 HB hHeld ⊢
 refine pure_ (i:=0) (N:=some 9) (v:=?_) (a':=?_) #[true,false,false,false,false,false,false,false] rfl rfl (any_of HT_.out (by kernel_rfl)) (fun _ _ _ h=>h) (Or.inl ⟨by rfl,?_⟩) ?_ ?_
 rotate_left
 ·intro w'
  go_simp
  with_reducible rfl
 rotate_left
 ·simp only [Act.put,sb_,sz_,ss_,i64_w,i32_w]
  rfl
 refine pure_ (i:=3) (N:=some 12) (v:=?_) (a':=?_) #[true,false,false,true,false,false,false,false] rfl rfl (any_of HT_.out (by kernel_rfl)) (fun _ _ _ h=>h) (Or.inl ⟨by rfl,?_⟩) ?_ ?_
 rotate_left
 ·intro w'
  go_simp
  with_reducible rfl
 rotate_left
 ·simp only [Act.put,sb_,sz_,ss_,i64_w,i32_w]
  rfl
 refine take_ (i:=1) (N:=some 10) (v:=?_) (a':=?_) #[true,true,false,true,false,false,false,false] rfl rfl (take_ofW HT_.out HW_.out (by kernel_rfl)) (fun _ _ _ h=>h) (Or.inl ⟨by rfl,?_⟩) hHeld ?_ ?_
 rotate_left
 ·rintro w' ⟨s0,s1⟩
  go_simp
  with_reducible rfl
 rotate_left
 ·simp only [Act.put,sb_,sz_,ss_,i64_w,i32_w]
  rfl
 refine take_ (i:=4) (N:=some 13) (v:=?_) (a':=?_) #[true,true,false,true,true,false,false,false] rfl rfl (take_ofW HT_.out HW_.out (by kernel_rfl)) (fun _ _ _ h=>h) (Or.inl ⟨by rfl,?_⟩) hHeld ?_ ?_
 rotate_left
 ·rintro w' ⟨s0,s1⟩
  go_simp
  with_reducible rfl
 rotate_left
 ·simp only [Act.put,sb_,sz_,ss_,i64_w,i32_w]
  rfl
 refine join_ (σ:=Value × Value) 1 fl4_0_ (fun s_=>[(11,s_.1),(14,s_.2),(2,s_.1)]) (fun s_ w'=>(w'.cell? ⟨gb227,0,none⟩ = some (.int .i64 a0_0) ∧ w'.cell? ⟨gb227,1,none⟩ = some (.slice A0_1 l0_1.length c0_1)) ∧ (Kd.S (Kd.slice 79 k79) 71 w' w.heap.size (fun k_=>Sep s_.2 (fun k_=>some k_ = s_.1.ownBlock) k_) s_.1 y228) ∧ (Kd.S (Kd.slice 79 k79) 71 w' w.heap.size (fun k_=>Sep s_.1 (fun k_=>some k_ = s_.2.ownBlock) k_) s_.2 y231) ∧ (w'.heap[gb227]? = some (.cells #[.int .i64 a0_0,.slice A0_1 l0_1.length c0_1] 30 (0,0))) ∧ (Below w.heap.size w w')) ?_ ?_
 rotate_left
 ·intro hCont
  refine two_ (i:=2) (j:=5) (Ni:=some 11) (Nj:=some 14) #[true,true,true,true,true,false,false,false] #[true,true,false,true,true,true,false,false] rfl rfl rfl rfl (two_of HT_.out (by kernel_rfl)) (by decide) (by decide) (fun K hK=>?_) (fun K hK=>?_)
  ·skip
   refine Kd.S_make_step (Kd.slice 79 k79) _ 71 (by rfl) (N:=11) rfl 68 _ _ rfl a0_0 rfl rfl Try.underlying68 (.slice none 0 0) 24 info71 rfl (by decide) (by omega) [] (ok:=fun k_=>k_ = _) (okp:=fun _=>False) ⟨_,rfl,Kd.R_nil _ _ _ _ _⟩ (fun _ hk=>hk.elim) rfl (od_ (by (with_reducible assumption))) (Nat.le_trans (Nat.mul_le_mul_right _ (od_ (by (with_reducible assumption)) : a0_0.toNat ≤ 11728124029610)) (by omega)) (Below.refl _ _) (Nat.le_refl _) ?_
   intro v229 w6 ho7 hb hg_ hnew_
   replace ho7:=S_self ho7 hnew_
   clear hg_ hnew_
   (rw [← Ny228.out] at ho7)
   have n0_:=am_ (Kd.S_lower ho7 (below_size HB.out))
   have n1_:=am_ (blk_below BK227.out hb)
   have n2_:=am_ (below_step HB.out hb)
   clear BK227
   clear HB
   have HO230:=n0_
   have BK227:=n1_
   have HB:=n2_
   clear n0_ n1_ n2_
   clear hb ho7
   refine hK.out _ _ ⟨bc_ BK227.out 0,bc_ BK227.out 1⟩ (fun hHeld=>?_)
   clear hK K
   refine norm_ (a':=?_) ?_ ?_
   rotate_left
   ·show Act.put _ (some 11) _ = _
    simp only [Act.put,sb_,sz_,ss_,i64_w,i32_w]
    rfl
   refine pure_ (i:=6) (N:=some 2) (v:=?_) (a':=?_) #[true,true,true,true,true,false,true,false] rfl rfl (any_of HT_.out (by kernel_rfl)) (fun _ _ _ h=>h) (Or.inl ⟨by rfl,?_⟩) ?_ ?_
   rotate_left
   ·intro w'
    go_simp
    with_reducible rfl
   rotate_left
   ·simp only [Act.put,sb_,sz_,ss_,i64_w,i32_w]
    rfl
   refine one_ (i:=5) (N:=some 14) fl4_0_ rfl rfl (one_of HT_.out (by kernel_rfl)) (by decide) (fun K hK=>?_)
   refine Kd.S_make_step (Kd.slice 79 k79) _ 71 (by rfl) (N:=14) rfl 68 _ _ rfl a0_0 rfl rfl Try.underlying68 (.slice none 0 0) 24 info71 rfl (by decide) (by omega) [] (ok:=fun k_=>k_ = _) (okp:=fun _=>False) ⟨_,rfl,Kd.R_nil _ _ _ _ _⟩ (fun _ hk=>hk.elim) rfl (od_ (by (with_reducible assumption))) (Nat.le_trans (Nat.mul_le_mul_right _ (od_ (by (with_reducible assumption)) : a0_0.toNat ≤ 11728124029610)) (by omega)) (Below.refl _ _) (Nat.le_refl _) ?_
   intro v232 w8 ho9 hb hg_ hnew_
   replace ho9:=S_self ho9 hnew_
   clear hg_ hnew_
   (rw [← Ny231.out] at ho9)
   have n0_:=am_ (Kd.S_elder' HO230.out (Kd.S_base ho9) hb)
   have n1_:=am_ (Kd.S_lower (Kd.S_new' ho9 (Kd.S_lt HO230.out)) (below_size HB.out))
   have n2_:=am_ (blk_below BK227.out hb)
   have n3_:=am_ (below_step HB.out hb)
   clear HO230
   clear BK227
   clear HB
   have HO230:=n0_
   have HO233:=n1_
   have BK227:=n2_
   have HB:=n3_
   clear n0_ n1_ n2_ n3_
   clear hb ho9
   refine hK.out _ _ ⟨bc_ BK227.out 0,bc_ BK227.out 1⟩ (fun hHeld=>?_)
   clear hK K
   refine norm_ (a':=?_) ?_ ?_
   rotate_left
   ·show Act.put _ (some 14) _ = _
    simp only [Act.put,sb_,sz_,ss_,i64_w,i32_w]
    rfl
   exact norm_ (by simp only [putAll,Act.put,sb_,sz_,ss_]) (hCont (v229,v232) _ ⟨hHeld,(by exact Kd.S_mono HO230.out (fun _ hk=>⟨hk.2,hk.1⟩)),(by exact Kd.S_mono HO233.out (fun _ hk=>⟨hk.2,hk.1⟩)),BK227.out,HB.out⟩)
  ·skip
   refine Kd.S_make_step (Kd.slice 79 k79) _ 71 (by rfl) (N:=14) rfl 68 _ _ rfl a0_0 rfl rfl Try.underlying68 (.slice none 0 0) 24 info71 rfl (by decide) (by omega) [] (ok:=fun k_=>k_ = _) (okp:=fun _=>False) ⟨_,rfl,Kd.R_nil _ _ _ _ _⟩ (fun _ hk=>hk.elim) rfl (od_ (by (with_reducible assumption))) (Nat.le_trans (Nat.mul_le_mul_right _ (od_ (by (with_reducible assumption)) : a0_0.toNat ≤ 11728124029610)) (by omega)) (Below.refl _ _) (Nat.le_refl _) ?_
   intro v232 w6 ho7 hb hg_ hnew_
   replace ho7:=S_self ho7 hnew_
   clear hg_ hnew_
   (rw [← Ny231.out] at ho7)
   have n0_:=am_ (Kd.S_lower ho7 (below_size HB.out))
   have n1_:=am_ (blk_below BK227.out hb)
   have n2_:=am_ (below_step HB.out hb)
   clear BK227
   clear HB
   have HO233:=n0_
   have BK227:=n1_
   have HB:=n2_
   clear n0_ n1_ n2_
   clear hb ho7
   refine hK.out _ _ ⟨bc_ BK227.out 0,bc_ BK227.out 1⟩ (fun hHeld=>?_)
   clear hK K
   refine norm_ (a':=?_) ?_ ?_
   rotate_left
   ·show Act.put _ (some 14) _ = _
    simp only [Act.put,sb_,sz_,ss_,i64_w,i32_w]
    rfl
   refine one_ (i:=2) (N:=some 11) #[true,true,true,true,true,true,false,false] rfl rfl (one_of HT_.out (by kernel_rfl)) (by decide) (fun K hK=>?_)
   refine Kd.S_make_step (Kd.slice 79 k79) _ 71 (by rfl) (N:=11) rfl 68 _ _ rfl a0_0 rfl rfl Try.underlying68 (.slice none 0 0) 24 info71 rfl (by decide) (by omega) [] (ok:=fun k_=>k_ = _) (okp:=fun _=>False) ⟨_,rfl,Kd.R_nil _ _ _ _ _⟩ (fun _ hk=>hk.elim) rfl (od_ (by (with_reducible assumption))) (Nat.le_trans (Nat.mul_le_mul_right _ (od_ (by (with_reducible assumption)) : a0_0.toNat ≤ 11728124029610)) (by omega)) (Below.refl _ _) (Nat.le_refl _) ?_
   intro v229 w8 ho9 hb hg_ hnew_
   replace ho9:=S_self ho9 hnew_
   clear hg_ hnew_
   (rw [← Ny228.out] at ho9)
   have n0_:=am_ (Kd.S_elder' HO233.out (Kd.S_base ho9) hb)
   have n1_:=am_ (Kd.S_lower (Kd.S_new' ho9 (Kd.S_lt HO233.out)) (below_size HB.out))
   have n2_:=am_ (blk_below BK227.out hb)
   have n3_:=am_ (below_step HB.out hb)
   clear HO233
   clear BK227
   clear HB
   have HO233:=n0_
   have HO230:=n1_
   have BK227:=n2_
   have HB:=n3_
   clear n0_ n1_ n2_ n3_
   clear hb ho9
   refine hK.out _ _ ⟨bc_ BK227.out 0,bc_ BK227.out 1⟩ (fun hHeld=>?_)
   clear hK K
   refine norm_ (a':=?_) ?_ ?_
   rotate_left
   ·show Act.put _ (some 11) _ = _
    simp only [Act.put,sb_,sz_,ss_,i64_w,i32_w]
    rfl
   refine pure_ (i:=6) (N:=some 2) (v:=?_) (a':=?_) fl4_0_ rfl rfl (any_of HT_.out (by kernel_rfl)) (fun _ _ _ h=>h) (Or.inl ⟨by rfl,?_⟩) ?_ ?_
   rotate_left
   ·intro w'
    go_simp
    with_reducible rfl
   rotate_left
   ·simp only [Act.put,sb_,sz_,ss_,i64_w,i32_w]
    rfl
   exact norm_ (by simp only [putAll,Act.put,sb_,sz_,ss_]) (hCont (v229,v232) _ ⟨hHeld,(by exact Kd.S_mono HO230.out (fun _ hk=>⟨hk.2,hk.1⟩)),(by exact Kd.S_mono HO233.out (fun _ hk=>⟨hk.2,hk.1⟩)),BK227.out,HB.out⟩)
 rintro ⟨v229,v232⟩ w10 ⟨hS_,h0_,h1_,h2_,h3_⟩
 have n0_ : Aside0 (Kd.S (Kd.slice 79 k79) 71 w10 w.heap.size (fun k_=>Sep v232 (fun k_=>some k_ = v229.ownBlock) k_) v229 y228):=⟨h0_⟩
 have n1_ : Aside0 (Kd.S (Kd.slice 79 k79) 71 w10 w.heap.size (fun k_=>Sep v229 (fun k_=>some k_ = v232.ownBlock) k_) v232 y231):=⟨h1_⟩
 have DJ0 : Aside0 (∀ k_ : Nat,some k_ = v229.ownBlock → ¬ some k_ = v232.ownBlock):=⟨fun k_ e1_ e2_=>(((Kd.S_R h0_).1 k_ e1_.symm).1 e2_)⟩
 have n2_ : Aside0 (w10.heap[gb227]? = some (.cells #[.int .i64 a0_0,.slice A0_1 l0_1.length c0_1] 30 (0,0))):=⟨h2_⟩
 have n3_ : Aside0 (Below w.heap.size w w10):=⟨h3_⟩
 clear BK227
 clear HB
 clear h0_ h1_ h2_ h3_
 have HO230:=n0_
 have HO233:=n1_
 have BK227:=n2_
 have HB:=n3_
 clear n0_ n1_ n2_ n3_
 have hHeld : w10.cell? ⟨gb227,0,none⟩ = some (.int .i64 a0_0) ∧ w10.cell? ⟨gb227,1,none⟩ = some (.slice A0_1 l0_1.length c0_1):=hS_
 refine norm_ (a':=?_) ?_ ?_
 rotate_left
 ·simp only [putAll,Act.put,sb_,sz_,ss_]
  rfl
 refine pure_ (i:=7) (N:=some 3) (v:=?_) (a':=?_) #[true,true,true,true,true,true,true,true] rfl rfl (any_of HT_.out (by kernel_rfl)) (fun _ _ _ h=>h) (Or.inl ⟨by rfl,?_⟩) ?_ ?_
 rotate_left
 ·intro w'
  go_simp
  with_reducible rfl
 rotate_left
 ·simp only [Act.put,sb_,sz_,ss_,i64_w,i32_w]
  rfl
 refine done_ (done_of HT_.out (by kernel_rfl)) ?_
 have hcz11_0 : w10.cell? ⟨gb227,0,none⟩ = some (.int .i64 a0_0):=bc_ BK227.out 0
 have hcz11_1 : w10.cell? ⟨gb227,1,none⟩ = some (.slice A0_1 l0_1.length c0_1):=bc_ BK227.out 1
 have hfz11_0:=blk_frozen BK227.out 0
 have hfz11_1:=blk_frozen BK227.out 1
 try go_wp2
 go_loopg [18] k (fun kq v18 w'=>∃ (O1 O2 : Nat → Prop) (x2_1 : List (List (S79))) (x3_1 : List (List (S79))) (x18_1 : Int),v18 = .int .i64 x18_1 ∧ Aside0 (impl_stepsOf.l0 kq x2_1 x3_1 (l0_1.length : Int) x18_1 a0_0 l0_1 = some (r1,r2)) ∧ Aside0 (kq ≤ k) ∧ Aside0 (∀ k_ : Nat,O1 k_ → ¬ O2 k_) ∧ Aside0 (Kd.S (Kd.slice 79 k79) 71 w' w.heap.size (fun k_=>Sep v232 O1 k_) v229 x2_1) ∧ Aside0 (Kd.S (Kd.slice 79 k79) 71 w' w.heap.size (fun k_=>Sep v229 O2 k_) v232 x3_1) ∧ Aside0 (w'.heap[gb227]? = some (.cells #[.int .i64 a0_0,(.slice A0_1 l0_1.length c0_1)] 30 (0,0))) ∧ Aside0 (Below w.heap.size w w'))
 case atStart=>exact ⟨_,_,(y228),(y231),(0),(by rfl),H',⟨Nat.le_refl _⟩,DJ0,⟨by exact HO230.out⟩,⟨by exact HO233.out⟩,⟨by exact BK227.out⟩,⟨by exact HB.out⟩⟩
 case round =>
  clear H'
  try clear c2
  try clear c2b0
  try clear c2b1
  try clear p2
  try clear c3
  try clear c3b0
  try clear c3b1
  try clear c4
  try clear hcz11_0
  try clear hcz11_1
  try clear hfz11_0
  try clear hfz11_1
  obtain ⟨O1,O2,x2_1,x3_1,x18_1,rfl,HA,HK1,DJ,HO_2,HO_3,BK227,HB⟩:=hrel
  clear DJ0
  cases gk with
  | zero => exact absurd HA.out (by simp [impl_stepsOf.l0])
  | succ k1 =>
   have H:=HA.out
   clear HA
   simp only [impl_stepsOf.l0] at H
   by_cases c12 : x18_1 < (l0_1.length : Int)
   rotate_left
   ·rw [if_neg c12] at H
    have c12b0 : decide (x18_1 < (l0_1.length : Int)) = false:=decide_eq_false c12
    clear c12
    simp only [Option.some.injEq,Prod.mk.injEq] at H
    obtain ⟨rfl,rfl⟩:=H
    go_wp2
    go_ret2
    exact ⟨_,_,by rfl,by exact Kd.S_mono HO_2.out (fun _ hk=>hk.1),by exact Kd.S_mono HO_3.out (fun _ hk=>hk.1),by exact HB.out⟩
   rw [if_pos c12] at H
   have c12b0 : decide (x18_1 < (l0_1.length : Int)) = true:=decide_eq_true c12
   clear c12
   obtain ⟨y234,hy234⟩ : ∃ y_ : List (S79),y_ = (([(⟨x18_1,false⟩ : S79),(⟨x18_1,true⟩ : S79)] : List (S79))):=⟨_,rfl⟩
   replace H : (impl_stepsOf.l1 k1 x2_1 x3_1 (l0_1.length : Int) x18_1 y234 (y234.length : Int) 0 a0_0 l0_1) = some (r1,r2):=by (have H2_:=(Option.bind_some _ _).symm.trans H;rw [hy234];with_reducible exact H2_)
   have Ny234:=am_ hy234
   clear hy234
   have H':=am_ H
   clear H
   go_wp2_with (((with_reducible refine gate_dst (N:=25) rfl ?_);refine Kd.R_lit k79 _ 79 ?hg (N:=25) ?hd (xs:=([(⟨x18_1,false⟩ : S79),(⟨x18_1,true⟩ : S79)] : List (S79))) (inner:=[.int .i64 x18_1,.bool false,.int .i64 x18_1,.bool true]) (ok:=fun _=>True) (okp:=fun _=>True) ?hr ?hp (fun _ hk=>hk) trivial (Below.refl _ _) (Nat.le_refl _) (by simp) ?_;(case hd=>rfl);(case hg=>rfl);(case hr=>(go_simp;done));(case hp=>exact (Reps.c2 (show Kd.M k79 _ _ _ (⟨x18_1,false⟩ : S79) [.int .i64 x18_1,.bool false] from (k79_mkM _ _ _ (⟨x18_1,false⟩ : S79) )) (Reps.c2 (show Kd.M k79 _ _ _ (⟨x18_1,true⟩ : S79) [.int .i64 x18_1,.bool true] from (k79_mkM _ _ _ (⟨x18_1,true⟩ : S79) )) (Reps.none _ _))));intro v235 w13 ho14 hb hg_ hnew_;clear hg_ hnew_;(rw [← Ny234.out] at ho14);have n0_:=am_ (Kd.S_elder' HO_2.out (Kd.R_base ho14) hb);have n1_:=am_ (Kd.S_elder' HO_3.out (Kd.R_base ho14) hb);have n2_:=am_ (Kd.R_lower ho14 (below_size HB.out));have n3_:=am_ (blk_below BK227.out hb);have n4_:=am_ (below_step HB.out hb);clear HO_2 HO_3 BK227 HB;have HO_2:=n0_;have HO_3:=n1_;have HO236:=n2_;have BK227:=n3_;have HB:=n4_;clear n0_ n1_ n2_ n3_ n4_ hb ho14;obtain ⟨Ao15,co15,eo15⟩:=Kd.R_slice HO236.out;subst eo15))
   go_loopg [27] k1 (fun kq v27 w'=>∃ (P1 P2 : Nat → Prop) (x2_2 : List (List (S79))) (x3_2 : List (List (S79))) (x27_2 : Int),v27 = .int .i64 x27_2 ∧ Aside0 (impl_stepsOf.l1 kq x2_2 x3_2 (l0_1.length : Int) x18_1 y234 (y234.length : Int) x27_2 a0_0 l0_1 = some (r1,r2)) ∧ Aside0 (kq ≤ k1) ∧ Aside0 (∀ k_ : Nat,P1 k_ → ¬ P2 k_) ∧ Aside0 (Kd.S (Kd.slice 79 k79) 71 w' w.heap.size (fun k_=>Sep v232 P1 k_ ∧ some k_ ≠ ((.slice Ao15 y234.length co15) : Value).ownBlock) v229 x2_2) ∧ Aside0 (Kd.S (Kd.slice 79 k79) 71 w' w.heap.size (fun k_=>Sep v229 P2 k_ ∧ some k_ ≠ ((.slice Ao15 y234.length co15) : Value).ownBlock) v232 x3_2) ∧ Aside0 (Kd.R k79 79 w' w.heap.size (fun _=>True) (.slice Ao15 y234.length co15) y234) ∧ Aside0 (w'.heap[gb227]? = some (.cells #[.int .i64 a0_0,(.slice A0_1 l0_1.length c0_1)] 30 (0,0))) ∧ Aside0 (Below w.heap.size w w'))
   case atStart=>exact ⟨O1,O2,(x2_1),(x3_1),(0),(by rfl),H',⟨Nat.le_refl _⟩,DJ,⟨by exact HO_2.out⟩,⟨by exact HO_3.out⟩,⟨by exact HO236.out⟩,⟨by exact BK227.out⟩,⟨by exact HB.out⟩⟩
   case round =>
    clear H'
    try clear c1
    try clear c2
    try clear c2b0
    try clear c2b1
    try clear p2
    try clear c3
    try clear c3b0
    try clear c3b1
    try clear c4
    try clear c12
    try clear c12b0
    try clear hcz11_0
    try clear hcz11_1
    try clear hfz11_0
    try clear hfz11_1
    try clear p2
    obtain ⟨O1i,O2i,x2_2,x3_2,x27_2,rfl,HA,HK2,DJi,HO_2,HO_3,HO_25,BK227,HB⟩:=hrel
    clear DJ
    cases gk with
    | zero => exact absurd HA.out (by simp [impl_stepsOf.l1])
    | succ k2 =>
     have H:=HA.out
     clear HA
     simp only [impl_stepsOf.l1] at H
     by_cases c16 : x27_2 < (y234.length : Int)
     rotate_left
     ·rw [if_neg c16] at H
      have c16b0 : decide (x27_2 < (y234.length : Int)) = false:=decide_eq_false c16
      clear c16
      have H':=am_ H
      clear H
      go_wp2
      go_roundg k2
      case measure=>have:=HK1.out;have:=HK2.out;omega
      case rel=>exact ⟨O1i,O2i,(x2_2),(x3_2),(wrap64 (x18_1 + 1)),(by rfl),H',⟨by have:=HK1.out;have:=HK2.out;omega⟩,DJi,⟨by exact Kd.S_mono HO_2.out (fun _ hk=>hk.1)⟩,⟨by exact Kd.S_mono HO_3.out (fun _ hk=>hk.1)⟩,⟨by exact BK227.out⟩,⟨by exact HB.out⟩⟩
     rw [if_pos c16] at H
     have c16b0 : decide (x27_2 < (y234.length : Int)) = true:=decide_eq_true c16
     clear c16
     by_cases c17 : 0 ≤ x27_2
     rotate_left
     ·rw [if_neg c17] at H
      exact absurd H (by simp)
     rw [if_pos c17] at H
     have c17b0 : decide (0 ≤ x27_2) = true:=decide_eq_true c17
     clear c17
     by_cases c18 : x27_2 < (y234.length : Int)
     rotate_left
     ·rw [if_neg c18] at H
      exact absurd H (by simp)
     rw [if_pos c18] at H
     have c18b0 : decide (x27_2 < (y234.length : Int)) = true:=decide_eq_true c18
     clear c18
     replace H:=bs_ H
     obtain ⟨⟨t239,t240⟩,A190,H⟩:=H
     replace H : (if 0 ≤ t239 then (if t239 < (x2_2.length : Int) then (if (rd_L4 x2_2 t239).length < 8796093022208 then (if 0 ≤ t240 then (if t240 < (x3_2.length : Int) then (if (rd_L4 x3_2 t240).length < 8796093022208 then (impl_stepsOf.l1 k2 (x2_2.set (t239 : Int).toNat ((rd_L4 x2_2 t239) ++ [(⟨(rd_T79 y234 x27_2).f0,(rd_T79 y234 x27_2).f1⟩ : S79)])) (x3_2.set (t240 : Int).toNat ((rd_L4 x3_2 t240) ++ [(⟨(rd_T79 y234 x27_2).f0,(rd_T79 y234 x27_2).f1⟩ : S79)])) (l0_1.length : Int) x18_1 y234 (y234.length : Int) (wrap64 (x27_2 + 1)) a0_0 l0_1) else (none)) else (none)) else (none)) else (none)) else (none)) else (none)) = some (r1,r2):=H
     have A19:=am_ A190
     clear A190
     by_cases c20 : 0 ≤ t239
     rotate_left
     ·rw [if_neg c20] at H
      exact absurd H (by simp)
     rw [if_pos c20] at H
     have c20b0 : decide (0 ≤ t239) = true:=decide_eq_true c20
     clear c20
     by_cases c21 : t239 < (x2_2.length : Int)
     rotate_left
     ·rw [if_neg c21] at H
      exact absurd H (by simp)
     rw [if_pos c21] at H
     have c21b0 : decide (t239 < (x2_2.length : Int)) = true:=decide_eq_true c21
     clear c21
     by_cases c22 : (rd_L4 x2_2 t239).length < 8796093022208
     rotate_left
     ·rw [if_neg c22] at H
      exact absurd H (by simp)
     rw [if_pos c22] at H
     have LMc22:=am_ c22
     clear c22
     obtain ⟨y242,hy242⟩ : ∃ y_ : List (S79),y_ = ((rd_L4 x2_2 t239) ++ [(⟨(rd_T79 y234 x27_2).f0,(rd_T79 y234 x27_2).f1⟩ : S79)]):=⟨_,rfl⟩
     replace H : (if 0 ≤ t240 then (if t240 < (x3_2.length : Int) then (if (rd_L4 x3_2 t240).length < 8796093022208 then (impl_stepsOf.l1 k2 (x2_2.set (t239 : Int).toNat y242) (x3_2.set (t240 : Int).toNat ((rd_L4 x3_2 t240) ++ [(⟨(rd_T79 y234 x27_2).f0,(rd_T79 y234 x27_2).f1⟩ : S79)])) (l0_1.length : Int) x18_1 y234 (y234.length : Int) (wrap64 (x27_2 + 1)) a0_0 l0_1) else (none)) else (none)) else (none)) = some (r1,r2):=by (rw [hy242];with_reducible exact H)
     have Ny242:=am_ hy242
     clear hy242
     obtain ⟨y245,hy245⟩ : ∃ y_ : List (List (S79)),y_ = (x2_2.set (t239 : Int).toNat y242):=⟨_,rfl⟩
     replace H : (if 0 ≤ t240 then (if t240 < (x3_2.length : Int) then (if (rd_L4 x3_2 t240).length < 8796093022208 then (impl_stepsOf.l1 k2 y245 (x3_2.set (t240 : Int).toNat ((rd_L4 x3_2 t240) ++ [(⟨(rd_T79 y234 x27_2).f0,(rd_T79 y234 x27_2).f1⟩ : S79)])) (l0_1.length : Int) x18_1 y234 (y234.length : Int) (wrap64 (x27_2 + 1)) a0_0 l0_1) else (none)) else (none)) else (none)) = some (r1,r2):=by (rw [hy245];with_reducible exact H)
     have Ny245:=am_ hy245
     clear hy245
     by_cases c24 : 0 ≤ t240
     rotate_left
     ·rw [if_neg c24] at H
      exact absurd H (by simp)
     rw [if_pos c24] at H
     have c24b0 : decide (0 ≤ t240) = true:=decide_eq_true c24
     clear c24
     by_cases c25 : t240 < (x3_2.length : Int)
     rotate_left
     ·rw [if_neg c25] at H
      exact absurd H (by simp)
     rw [if_pos c25] at H
     have c25b0 : decide (t240 < (x3_2.length : Int)) = true:=decide_eq_true c25
     clear c25
     by_cases c26 : (rd_L4 x3_2 t240).length < 8796093022208
     rotate_left
     ·rw [if_neg c26] at H
      exact absurd H (by simp)
     rw [if_pos c26] at H
     have LMc26:=am_ c26
     clear c26
     obtain ⟨y247,hy247⟩ : ∃ y_ : List (S79),y_ = ((rd_L4 x3_2 t240) ++ [(⟨(rd_T79 y234 x27_2).f0,(rd_T79 y234 x27_2).f1⟩ : S79)]):=⟨_,rfl⟩
     replace H : (impl_stepsOf.l1 k2 y245 (x3_2.set (t240 : Int).toNat y247) (l0_1.length : Int) x18_1 y234 (y234.length : Int) (wrap64 (x27_2 + 1)) a0_0 l0_1) = some (r1,r2):=by (rw [hy247];with_reducible exact H)
     have Ny247:=am_ hy247
     clear hy247
     obtain ⟨y250,hy250⟩ : ∃ y_ : List (List (S79)),y_ = (x3_2.set (t240 : Int).toNat y247):=⟨_,rfl⟩
     replace H : (impl_stepsOf.l1 k2 y245 y250 (l0_1.length : Int) x18_1 y234 (y234.length : Int) (wrap64 (x27_2 + 1)) a0_0 l0_1) = some (r1,r2):=by (rw [hy250];with_reducible exact H)
     have Ny250:=am_ hy250
     clear hy250
     have H':=am_ H
     clear H
     have p237 : 0 ≤ (x27_2 : Int):=od_ (by (with_reducible assumption))
     have q237 : x27_2 < (y234.length : Int):=od_ (by (with_reducible assumption))
     obtain ⟨ad237,e237,hx237_0,hx237_1⟩:=at_T79 (Kd.R_reads' HO_25.out).2.2 x27_2 p237 q237
     cases e237
     replace p237:=eq_true p237
     replace q237:=eq_true q237
     try go_wp2_with (first|((with_reducible refine gate_dst (N:=6) rfl ?_);refine box_event ?hg (N:=6) ?hd (cs:=#[.int .i64 0,.bool false]) (t:=79) ?hr ?_;(case hd=>rfl);(case hg=>rfl);(case hr=>(go_simp;done));intro gb238 hg w28 hbox hb;have n0_:=am_ (Kd.S_below (Kd.S_elderB HO_2.out gb238 (Nat.le_of_eq hg.symm)) hb);have n1_:=am_ (Kd.S_below (Kd.S_elderB HO_3.out gb238 (Nat.le_of_eq hg.symm)) hb);have n2_:=am_ (Kd.R_below (Kd.R_elderB HO_25.out gb238 (Nat.le_of_eq hg.symm)) hb);have n3_:=am_ (blk_below BK227.out hb);have n4_:=am_ (below_step HB.out hb);have n5_:=am_ (hbox);have n6_:=am_ ((by rw [hg];exact (below_size HB.out) : w.heap.size ≤ gb238));have n7_:=n6_;have n8_:=am_ ((by rw [hg];exact Nat.ne_of_lt (blk_lt (g:=gb227) (o:=.cells #[.int .i64 a0_0,.slice A0_1 l0_1.length c0_1] 30 (0,0)) BK227.out) : gb227 ≠ gb238));have n9_:=am_ ((by rw [hg];exact Nat.ne_of_gt (blk_lt (g:=gb227) (o:=.cells #[.int .i64 a0_0,.slice A0_1 l0_1.length c0_1] 30 (0,0)) BK227.out) : gb238 ≠ gb227));clear HO_2 HO_3 HO_25 BK227 HB;have HO_2:=n0_;have HO_3:=n1_;have HO_25:=n2_;have BK227:=n3_;have HB:=n4_;have BK238:=n5_;have GW238:=n6_;have GE238:=n7_;have NB227_238:=n8_;have NB238_227:=n9_;clear n0_ n1_ n2_ n3_ n4_ n5_ n6_ n7_ n8_ n9_ hb hbox hg;have hnb29:=NB238_227.out;have hnc29:=NB227_238.out;have hcz30_0 : w28.cell? ⟨gb238,0,none⟩ = some (.int .i64 0):=bc_ BK238.out 0;have hcz30_1 : w28.cell? ⟨gb238,1,none⟩ = some (.bool false):=bc_ BK238.out 1;have hfz30_0:=blk_frozen BK238.out 0;have hfz30_1:=blk_frozen BK238.out 1;have hcz31_0 : w28.cell? ⟨gb227,0,none⟩ = some (.int .i64 a0_0):=bc_ BK227.out 0;have hcz31_1 : w28.cell? ⟨gb227,1,none⟩ = some (.slice A0_1 l0_1.length c0_1):=bc_ BK227.out 1;have hfz31_0:=blk_frozen BK227.out 0;have hfz31_1:=blk_frozen BK227.out 1)|((with_reducible refine gate_callee (f:=55) rfl ?_);refine goesL_ (some 34) rfl rfl Try.func55 (by kernel_rfl) rfl #[.agg #[.int .i64 ((rd_T79 y234 x27_2).f0),.bool ((rd_T79 y234 x27_2).f1)],.agg #[.int .i64 a0_0,.slice A0_1 l0_1.length c0_1]] rfl (by (try simp only [List.map_toArray,List.map_cons,List.map_nil]);rfl) ?_;(with_reducible refine (impl_step_ends.calls ((rd_T79 y234 x27_2).f0) ((rd_T79 y234 x27_2).f1) a0_0 _ _ l0_1 t239 t240 _ ?side1 ?side2 A19.out).mono ?_);(case side1=>exact Kd.C_below HR0_1.out (by repeat ((with_reducible first|exact HB.out|refine below_set ?_ GE238.out))));(case side2=>exact HC0_1.out);rintro e w32 ⟨rfl,hb⟩;refine ⟨_,rfl,?_⟩;have n0_:=am_ (Kd.S_below (by exact (Kd.S_mono (Kd.S_far (p:=⟨gb238,1,none⟩) (Kd.S_far (p:=⟨gb238,0,none⟩) (Kd.S_mono HO_2.out (fun k_ hk=>(⟨hk,hk.2⟩ : _ ∧ k_ ≠ gb238))) (fun _ hk=>hk.2) (.int .i64 ((rd_T79 y234 x27_2).f0))) (fun _ hk=>hk.2) (.bool ((rd_T79 y234 x27_2).f1))) (fun _ h_=>h_.1))) hb);have n1_:=am_ (Kd.S_below (by exact (Kd.S_mono (Kd.S_far (p:=⟨gb238,1,none⟩) (Kd.S_far (p:=⟨gb238,0,none⟩) (Kd.S_mono HO_3.out (fun k_ hk=>(⟨hk,hk.2⟩ : _ ∧ k_ ≠ gb238))) (fun _ hk=>hk.2) (.int .i64 ((rd_T79 y234 x27_2).f0))) (fun _ hk=>hk.2) (.bool ((rd_T79 y234 x27_2).f1))) (fun _ h_=>h_.1))) hb);have n2_:=am_ (Kd.R_below (by exact (Kd.R_mono (Kd.R_far (p:=⟨gb238,1,none⟩) (Kd.R_far (p:=⟨gb238,0,none⟩) (Kd.R_mono HO_25.out (fun k_ hk=>(⟨hk,hk.2⟩ : _ ∧ k_ ≠ gb238))) (fun _ hk=>hk.2) (.int .i64 ((rd_T79 y234 x27_2).f0))) (fun _ hk=>hk.2) (.bool ((rd_T79 y234 x27_2).f1))) (fun _ h_=>h_.1))) hb);have n3_:=am_ (blk_below (g:=gb227) (o:=.cells #[.int .i64 a0_0,.slice A0_1 l0_1.length c0_1] 30 (0,0)) (by refine blk_far ?_ NB227_238.out _;refine blk_far ?_ NB227_238.out _;exact BK227.out) hb);have n4_:=am_ (blk_below (g:=gb238) (o:=.cells #[.int .i64 ((rd_T79 y234 x27_2).f0),.bool ((rd_T79 y234 x27_2).f1)] 79 (0,0)) (by refine blk_put (cs:=#[.int .i64 ((rd_T79 y234 x27_2).f0),.bool false]) ?_ 1 _ rfl;refine blk_put (cs:=#[.int .i64 0,.bool false]) ?_ 0 _ rfl;exact BK238.out) hb);have n5_:=am_ (below_step (by repeat ((with_reducible first|exact HB.out|refine below_set ?_ GE238.out))) hb);clear HO_2 HO_3 HO_25 BK227 BK238 HB;have HO_2:=n0_;have HO_3:=n1_;have HO_25:=n2_;have BK227:=n3_;have BK238:=n4_;have HB:=n5_;clear n0_ n1_ n2_ n3_ n4_ n5_;(try clear hb)))
     have n0_:=am_ (Kd.S_drew HO_2.out)
     have n1_:=am_ (Kd.S_drew HO_3.out)
     have n2_:=am_ (Kd.R_drew HO_25.out)
     have n3_:=am_ (blk_drew BK227.out)
     have n4_:=am_ (blk_drew BK238.out)
     have n5_:=am_ (below_drew1 HB.out)
     clear HO_2
     clear HO_3
     clear HO_25
     clear BK227
     clear BK238
     clear HB
     have HO_2:=n0_
     have HO_3:=n1_
     have HO_25:=n2_
     have BK227:=n3_
     have BK238:=n4_
     have HB:=n5_
     clear n0_ n1_ n2_ n3_ n4_ n5_
     obtain ⟨P1,P2,DJ_,FR_,hq1_,hq2_⟩:=refresh HO_2.out HO_3.out DJi.out
     clear HO_2 HO_3 DJi
     have HO_2:=am_ hq1_
     have HO_3:=am_ hq2_
     have DJ:=am_ DJ_
     have FR:=am_ FR_
     clear hq1_ hq2_ DJ_ FR_
     obtain ⟨Ao34,co34,eo34⟩:=Kd.S_slice HO_2.out
     (subst eo34)
     have p241 : 0 ≤ (t239 : Int):=od_ (by (with_reducible assumption))
     have q241 : t239 < (x2_2.length : Int):=od_ (by (with_reducible assumption))
     obtain ⟨ad241,A241_0,c241_0,e241,hx241_0,hl241_0,hi241_0⟩:=at_L4 (Kd.S_reads' HO_2.out).2.2 t239 p241 q241
     cases e241
     obtain ⟨ce241,hce241,hMe241,hcc241⟩:=Kd.S_get HO_2.out [] t239 p241 (by exact q241)
     obtain ⟨ve241_0,rfl,ge241_0⟩:=hMe241
     have hv241_0:=hcc241 0 _ rfl
     rw [Nat.add_zero,show ((Kd.slice 79 k79)).sz = 1 from rfl,Nat.mul_one] at hv241_0
     replace hv241_0:=Option.some.inj (hv241_0.symm.trans hx241_0)
     rw [hv241_0] at ge241_0
     have HL241_0:=am_ (show Kd.R k79 79 _ _ _ _ (rd_L4 x2_2 t239) from ge241_0)
     clear hv241_0 ge241_0
     have HX241_0:=am_ hx241_0
     clear hcc241 hce241
     have HR241_0:=am_ hi241_0
     have HC241_0:=am_ hl241_0
     clear hi241_0 hl241_0
     replace p241:=eq_true p241
     replace q241:=eq_true q241
     have n_:=am_ (Kd.S_mono (ok':=(fun k_=>Sep v232 P1 k_ ∧ some k_ ≠ (.slice (some ad237) y234.length co15 : Value).ownBlock ∧ k_ ≠ gb238)) HO_2.out (fun k_ hk=>⟨hk.1.1,⟨hk.1.2,hk.2⟩⟩))
     clear HO_2
     have HO_2:=n_
     clear n_
     obtain ⟨go35,co35,eo35,gb35,gl35,cl35,HG35⟩:=Kd.S_form HO_2.out (by have h_ : (t239 : Int) < ((x2_2.length : Int) : Int):=od_ (by (with_reducible assumption));have h2_ : 0 ≤ (t239 : Int):=(od_ (by (with_reducible assumption)));omega)
     (cases eo35)
     have GB35:=am_ gb35
     have GG35:=am_ HG35
     clear gb35 gl35 HG35
     (simp only [add_plain] at hx241_0)
     obtain ⟨oki35,ce35,hcl35,hM35,hcc35,_,_,hH35⟩:=Kd.S_elem HO_2.out [] (t239 : Int) (od_ (by (with_reducible assumption))) (by have h_ : (t239 : Int) < ((x2_2.length : Int) : Int):=od_ (by (with_reducible assumption));exact h_)
     obtain ⟨ve35_0,rfl,ge35_0⟩:=hM35
     have hv35:=hcc35 0 _ rfl
     have hX35:=HX241_0.out
     (try simp only [add_plain] at hX35)
     (try simp only [Nat.add_zero] at hv35)
     (try rw [show ((Kd.slice 79 k79)).sz = 1 from rfl,Nat.mul_one] at hv35)
     replace hv35:=Option.some.inj (hv35.symm.trans hX35)
     subst hv35
     clear hX35 hcc35 hcl35
     have UU35:=am_ (show Kd.R k79 79 _ w.heap.size oki35 (.slice A241_0 (rd_L4 x2_2 t239).length c241_0) (rd_L4 x2_2 t239) from ge35_0)
     have HH35:=am_ hH35
     have HN35:=am_ (Kd.S_reads' HO_2.out).1
     clear hH35 ge35_0
     refine start_ (n:=11) (S:=fun w'=>w'.cell? ⟨gb238,0,none⟩ = some (.int .i64 ((rd_T79 y234 x27_2).f0)) ∧ w'.cell? ⟨gb238,1,none⟩ = some (.bool ((rd_T79 y234 x27_2).f1)) ∧ w'.cell? ⟨go35,(t239).toNat,none⟩ = some (.slice A241_0 (rd_L4 x2_2 t239).length c241_0)) (ds:=[10]) fl4_1_ (by kernel_rfl) rfl rfl ⟨bc_ BK238.out 0,bc_ BK238.out 1,hx241_0⟩ (fun hHeld=>?_);refine with_tabW impl_stepsOf.tab9 impl_stepsOf.bits9 (fun HT_ HW_=>?_)
     generalize w32.drew = w33 at FR HO_2 HO_3 HO_25 BK227 BK238 HB GG35 HH35 HL241_0 HR241_0 HX241_0 UU35 hx241_0 hHeld ⊢
     refine pure_ (i:=0) (N:=some 37) (v:=?_) (a':=?_) fl4_2_ rfl rfl (any_of HT_.out (by kernel_rfl)) (fun _ _ _ h=>h) (Or.inl ⟨by rfl,?_⟩) ?_ ?_
     rotate_left
     ·intro w'
      go_simp
      with_reducible rfl
     rotate_left
     ·simp only [Act.put,sb_,sz_,ss_,i64_w,i32_w]
      rfl
     refine pure_ (i:=1) (N:=some 38) (v:=?_) (a':=?_) fl4_3_ rfl rfl (any_of HT_.out (by kernel_rfl)) (fun _ _ _ h=>h) (Or.inl ⟨by rfl,?_⟩) ?_ ?_
     rotate_left
     ·intro w'
      go_simp
      with_reducible rfl
     rotate_left
     ·simp only [Act.put,sb_,sz_,ss_,i64_w,i32_w]
      rfl
     refine pure_ (i:=2) (N:=some 39) (v:=?_) (a':=?_) fl4_4_ rfl rfl (any_of HT_.out (by kernel_rfl)) (fun _ _ _ h=>h) (Or.inl ⟨by rfl,?_⟩) ?_ ?_
     rotate_left
     ·intro w'
      go_simp
      with_reducible rfl
     rotate_left
     ·simp only [Act.put,sb_,sz_,ss_,i64_w,i32_w]
      rfl
     refine pure_ (i:=3) (N:=some 40) (v:=?_) (a':=?_) fl4_5_ rfl rfl (any_of HT_.out (by kernel_rfl)) (fun _ _ _ h=>h) (Or.inl ⟨by rfl,?_⟩) ?_ ?_
     rotate_left
     ·intro w'
      go_simp
      with_reducible rfl
     rotate_left
     ·simp only [Act.put,sb_,sz_,ss_,i64_w,i32_w]
      rfl
     refine pure_ (i:=4) (N:=some 41) (v:=?_) (a':=?_) fl4_6_ rfl rfl (any_of HT_.out (by kernel_rfl)) (fun _ _ _ h=>h) (Or.inl ⟨by rfl,?_⟩) ?_ ?_
     rotate_left
     ·intro w'
      go_simp
      with_reducible rfl
     rotate_left
     ·simp only [Act.put,sb_,sz_,ss_,i64_w,i32_w]
      rfl
     refine take_ (i:=5) (N:=some 42) (v:=?_) (a':=?_) fl4_7_ rfl rfl (take_ofW HT_.out HW_.out (by kernel_rfl)) (fun _ _ _ h=>h) (Or.inl ⟨by rfl,?_⟩) hHeld ?_ ?_
     rotate_left
     ·rintro w' ⟨s0,s1,s2⟩
      go_simp
      with_reducible rfl
     rotate_left
     ·simp only [Act.put,sb_,sz_,ss_,i64_w,i32_w]
      rfl
     refine take_ (i:=6) (N:=some 43) (v:=?_) (a':=?_) fl4_8_ rfl rfl (take_ofW HT_.out HW_.out (by kernel_rfl)) (fun _ _ _ h=>h) (Or.inl ⟨by rfl,?_⟩) hHeld ?_ ?_
     rotate_left
     ·rintro w' ⟨s0,s1,s2⟩
      go_simp
      with_reducible rfl
     rotate_left
     ·simp only [Act.put,sb_,sz_,ss_,i64_w,i32_w]
      rfl
     refine one_ (i:=7) (N:=some 44) fl4_9_ rfl rfl (one_of HT_.out (by kernel_rfl)) (by decide) (fun K hK=>?_)
     refine value_ (w1:=?_) (v:=?_) (by rfl) rfl ?_ ?_
     rotate_left 2
     ·go_simp
      constructor
      ·rfl
      ·rfl
     refine hK.out _ _ ⟨(blk_cell (blk_alloc BK238.out _) 0).trans rfl,(blk_cell (blk_alloc BK238.out _) 1).trans rfl,(World.cell?_alloc_lt _ _ _ (World.block_lt_of_cell? _ _ (hHeld.2.2))).trans (hHeld.2.2)⟩ (fun hHeld=>?_)
     clear hK K
     refine norm_ (a':=?_) ?_ ?_
     rotate_left
     ·show Act.put _ (some 44) _ = _
      simp only [Act.put,sb_,sz_,ss_,i64_w,i32_w]
      rfl
     refine one_ (i:=8) (N:=some 45) fl4_10_ rfl rfl (one_of HT_.out (by kernel_rfl)) (by decide) (fun K hK=>?_)
     refine Kd.R_append_step k79 (w0:=w) w.heap.size (by rfl) (.tmp 42) (.tmp 44) 71 79 (.agg #[(.int .i64 0),(.bool false)]) 16 rfl Try.underlying71 info79 rfl (by decide) (by omega) (.slice A241_0 (rd_L4 x2_2 t239).length c241_0) (rd_L4 x2_2 t239) (⟨(rd_T79 y234 x27_2).f0,(rd_T79 y234 x27_2).f1⟩ : S79) [.int .i64 ((rd_T79 y234 x27_2).f0),.bool ((rd_T79 y234 x27_2).f1)] (fun k_=>oki35 k_ ∨ ((fun k_=>Sep v232 P1 k_ ∧ some k_ ≠ (.slice (some ad237) y234.length co15 : Value).ownBlock ∧ k_ ≠ gb238)) k_ ∧ w33.heap.size ≤ k_) (fun _=>False) rfl rfl ?aP (fun _ hk=>hk.elim) ?aF ?aO ?aB ?aS ?aL ?_
     (case aP=>exact k79_mkM _ _ _ (⟨(rd_T79 y234 x27_2).f0,(rd_T79 y234 x27_2).f1⟩ : S79))
     (case aB=>exact HB.out)
     (case aF=>exact (fun k_ hk=>.inr ⟨⟨⟨Kd.fresh' (Kd.S_lt HO_3.out) k_ hk,FR.out k_ hk⟩,Kd.fresh' (Kd.R_lt HO_25.out) k_ hk,Kd.freshB (g:=gb238) (o:=.cells #[.int .i64 ((rd_T79 y234 x27_2).f0),.bool ((rd_T79 y234 x27_2).f1)] 79 (0,0)) BK238.out k_ hk⟩,hk⟩))
     (case aO=>exact (by exact Kd.R_mono UU35.out (fun _ hk=>.inl hk)))
     (case aS=>exact (below_size HB.out))
     (case aL=>have:=LMc22.out;omega)
     intro v243 w36 ho hb hg hat
     (have HS2_:=cell_grown hg (cell_unalloc (hHeld.2.2) (by exact Kd.S_lt HO_2.out _ rfl)) (by exact (fun e_=>((HL241_0.out.1 _ e_.symm).2) rfl)))
     rw [← Ny242.out] at ho
     have n0_:=am_ (Kd.S_grown HO_3.out hg (fun k_ hk e_=>DJ.out k_ (HL241_0.out.1 k_ e_.symm).1.1.1.2 hk.1.1.2))
     have n1_:=am_ (Kd.R_grown2 HO_25.out rfl hg (fun k_ e_=>(HL241_0.out.1 k_ e_).1.1.2))
     have n2_:=am_ (blk_grown (g:=gb227) (o:=.cells #[.int .i64 a0_0,.slice A0_1 l0_1.length c0_1] 30 (0,0)) BK227.out hg (Kd.R_ne HL241_0.out BK227.out (by decide)))
     have n3_:=am_ (blk_grown (g:=gb238) (o:=.cells #[.int .i64 ((rd_T79 y234 x27_2).f0),.bool ((rd_T79 y234 x27_2).f1)] 79 (0,0)) BK238.out hg (Kd.R_away HL241_0.out (fun _ hk=>hk.1.2)))
     have n4_:=am_ (hb)
     have n5_:=am_ (Kd.H_grown (Kd.H_widen (by exact HH35.out)) hg (fun k_ e_=>.inl (UU35.out.1 k_ e_)))
     have n6_:=am_ (ho)
     clear HO_3
     clear HO_25
     clear BK227
     clear BK238
     clear HB
     clear HH35
     clear HO_2
     clear UU35
     clear HL241_0
     have HO_3:=n0_
     have HO_25:=n1_
     have BK227:=n2_
     have BK238:=n3_
     have HB:=n4_
     have HH35:=n5_
     have HO244:=n6_
     clear n0_ n1_ n2_ n3_ n4_ n5_ n6_
     clear ho hb hg hat
     have p23 : 0 ≤ (t239 : Int):=od_ (by (with_reducible assumption))
     have q23 : (t239 : Int) < ((x2_2.length : Int) : Int):=od_ (by (with_reducible assumption))
     replace p23:=eq_true p23
     replace q23:=eq_true q23
     obtain ⟨Ao39,co39,eo39⟩:=Kd.R_slice HO244.out
     (subst eo39)
     obtain ⟨_,_,hraw37,_,_,hcc37,_⟩:=Kd.H_raw HH35.out (od_ (by (with_reducible assumption))) (by have h_ : (t239 : Int) < ((x2_2.length : Int) : Int):=od_ (by (with_reducible assumption));exact h_)
     obtain ⟨_,hfr37⟩:=Kd.H_at HH35.out (od_ (by (with_reducible assumption))) (by have h_ : (t239 : Int) < ((x2_2.length : Int) : Int):=od_ (by (with_reducible assumption));exact h_)
     have hx37_0:=hcc37 0 _ rfl
     have hf37_0:=hfr37 0
     (try simp only [Nat.add_zero] at hx37_0 hf37_0)
     (try rw [show ((Kd.slice 79 k79)).sz = 1 from rfl,Nat.mul_one] at hx37_0)
     (try rw [show ((Kd.slice 79 k79)).sz = 1 from rfl,Nat.mul_one] at hf37_0)
     have HP37:=Kd.S_seg0 HH35.out (od_ (by (with_reducible assumption))) (by have h_ : (t239 : Int) < ((x2_2.length : Int) : Int):=od_ (by (with_reducible assumption));exact h_) (seg:=[.slice Ao39 y242.length co39]) (j:=0) (show 1 ≤ 1 from by decide) (x':=y242) (Kd.M_row HO244.out) (fun _ hk=>hk)
     (try simp only [show ((Kd.slice 79 k79)).sz = 1 from rfl,Nat.mul_one,Nat.add_zero] at HP37)
     clear hcc37 hfr37
     have HNB227_go35:=am_ (show gb227 ≠ go35 from by have h_:=Kd.R_ne hraw37 BK227.out (by decide);intro e_;exact h_ (by rw [e_];rfl))
     have HNB238_go35:=am_ (show gb238 ≠ go35 from by have h_:=Kd.R_ne hraw37 BK238.out (by decide);intro e_;exact h_ (by rw [e_];rfl))
     have HS37:=HP37.1
     rw [← Ny245.out] at HS37
     have HQ37:=am_ HS37
     obtain ⟨_,hgg37⟩:=Kd.R_typed hraw37 go35 rfl
     have GG37_:=am_ hgg37
     clear HP37 HS37 hgg37
     refine hK.out _ _ ⟨bc_ BK238.out 0,bc_ BK238.out 1,HS2_⟩ (fun hHeld=>?_)
     clear hK K
     refine norm_ (a':=?_) ?_ ?_
     rotate_left
     ·show Act.put _ (some 45) _ = _
      simp only [Act.put,sb_,sz_,ss_,i64_w,i32_w]
      rfl
     refine pure_ (i:=9) (N:=some 46) (v:=?_) (a':=?_) fl4_11_ rfl rfl (any_of HT_.out (by kernel_rfl)) (fun _ _ _ h=>h) (Or.inl ⟨by rfl,?_⟩) ?_ ?_
     rotate_left
     ·intro w'
      go_simp
      with_reducible rfl
     rotate_left
     ·simp only [Act.put,sb_,sz_,ss_,i64_w,i32_w]
      rfl
     refine last_ (i:=10) (N:=none) fl4_12_ rfl rfl (one_of HT_.out (by kernel_rfl)) (by decide) (fun K hK=>?_)
     refine skip_ (w1:=?_) (by rfl) rfl ?_ ?_
     rotate_left
     ·go_simp
      rfl
     refine hK.out _ _ ?_
     clear hK K
     refine done_ (done_of HT_.out (by kernel_rfl)) ?_
     try go_wp2
     have n0_ : Aside0 (Kd.S (Kd.slice 79 k79) 71 (w36.setCell ⟨go35,(t239 : Int).toNat,none⟩ (.slice Ao39 y242.length co39)) w.heap.size (fun k_=>some k_ ≠ (.slice (some ad237) y234.length co15 : Value).ownBlock ∧ Sep (.slice (some ⟨go35,0,none⟩) x2_2.length co34) P2 k_ ∧ k_ ≠ gb238) v232 x3_2):=⟨by exact Kd.S_mono (Kd.S_far (p:=⟨go35,(t239 : Int).toNat,none⟩) (Kd.S_mono HO_3.out (fun k_ hk=>(⟨hk,fun e_=>hk.1.1.1 (by rw [e_];rfl)⟩ : _ ∧ k_ ≠ go35))) (fun _ hk=>hk.2) (.slice Ao39 y242.length co39)) (fun _ hk=>⟨hk.1.1.2,⟨hk.1.1.1,hk.1.2⟩⟩)⟩
     have n1_ : Aside0 (Kd.R k79 79 (w36.setCell ⟨go35,(t239 : Int).toNat,none⟩ (.slice Ao39 y242.length co39)) w.heap.size (fun k_=>k_ ≠ gb238) (.slice (some ad237) y234.length co15) y234):=⟨by exact Kd.R_mono (Kd.R_far (p:=⟨go35,(t239 : Int).toNat,none⟩) (Kd.R_types HO_25.out GG37_.out (by decide)) (fun _ hk=>hk.2) (.slice Ao39 y242.length co39)) (fun _ hk=>hk.1.2)⟩
     have n2_ : Aside0 (Kd.S (Kd.slice 79 k79) 71 (w36.setCell ⟨go35,(t239 : Int).toNat,none⟩ (.slice Ao39 y242.length co39)) w.heap.size (fun k_=>Sep v232 P1 k_ ∧ some k_ ≠ (.slice (some ad237) y234.length co15 : Value).ownBlock ∧ k_ ≠ gb238) (.slice (some ⟨go35,0,none⟩) x2_2.length co34) y245):=⟨by exact HQ37.out⟩
     have n3_ : Aside0 ((w36.setCell ⟨go35,(t239 : Int).toNat,none⟩ (.slice Ao39 y242.length co39)).heap[gb227]? = some (.cells #[.int .i64 a0_0,.slice A0_1 l0_1.length c0_1] 30 (0,0))):=⟨by refine blk_far ?_ HNB227_go35.out _;exact BK227.out⟩
     have n4_ : Aside0 ((w36.setCell ⟨go35,(t239 : Int).toNat,none⟩ (.slice Ao39 y242.length co39)).heap[gb238]? = some (.cells #[.int .i64 ((rd_T79 y234 x27_2).f0),.bool ((rd_T79 y234 x27_2).f1)] 79 (0,0))):=⟨by refine blk_far ?_ HNB238_go35.out _;exact BK238.out⟩
     have n5_ : Aside0 (Below w.heap.size w (w36.setCell ⟨go35,(t239 : Int).toNat,none⟩ (.slice Ao39 y242.length co39))):=⟨by repeat ((with_reducible first|exact HB.out|refine below_set ?_ GB35.out))⟩
     (try clear HO_3)
     (try clear HO_25)
     (try clear HO_2)
     (try clear BK227)
     (try clear BK238)
     (try clear HB)
     generalize (w36.setCell ⟨go35,(t239 : Int).toNat,none⟩ (.slice Ao39 y242.length co39)) = w40 at n0_ n1_ n2_ n3_ n4_ n5_ ⊢
     have HO_3:=n0_
     have HO_25:=n1_
     have HO_2:=n2_
     have BK227:=n3_
     have BK238:=n4_
     have HB:=n5_
     clear n0_ n1_ n2_ n3_ n4_ n5_
     have n0_:=am_ (Kd.S_drew HO_3.out)
     have n1_:=am_ (Kd.R_drew HO_25.out)
     have n2_:=am_ (Kd.S_drew HO_2.out)
     have n3_:=am_ (blk_drew BK227.out)
     have n4_:=am_ (blk_drew BK238.out)
     have n5_:=am_ (below_drew1 HB.out)
     clear HO_3
     clear HO_25
     clear HO_2
     clear BK227
     clear BK238
     clear HB
     have HO_3:=n0_
     have HO_25:=n1_
     have HO_2:=n2_
     have BK227:=n3_
     have BK238:=n4_
     have HB:=n5_
     clear n0_ n1_ n2_ n3_ n4_ n5_
     obtain ⟨Q1,Q2,DJ_,FR_,hq1_,hq2_⟩:=refresh2 HO_2.out HO_3.out DJ.out
     clear HO_2 HO_3 DJ FR
     have HO_2:=am_ hq1_
     have HO_3:=am_ hq2_
     have DJ:=am_ DJ_
     have FR:=am_ FR_
     clear hq1_ hq2_ DJ_ FR_
     obtain ⟨Ao42,co42,eo42⟩:=Kd.S_slice HO_3.out
     (subst eo42)
     have p246 : 0 ≤ (t240 : Int):=od_ (by (with_reducible assumption))
     have q246 : t240 < (x3_2.length : Int):=od_ (by (with_reducible assumption))
     obtain ⟨ad246,A246_0,c246_0,e246,hx246_0,hl246_0,hi246_0⟩:=at_L4 (Kd.S_reads' HO_3.out).2.2 t240 p246 q246
     cases e246
     obtain ⟨ce246,hce246,hMe246,hcc246⟩:=Kd.S_get HO_3.out [] t240 p246 (by exact q246)
     obtain ⟨ve246_0,rfl,ge246_0⟩:=hMe246
     have hv246_0:=hcc246 0 _ rfl
     rw [Nat.add_zero,show ((Kd.slice 79 k79)).sz = 1 from rfl,Nat.mul_one] at hv246_0
     replace hv246_0:=Option.some.inj (hv246_0.symm.trans hx246_0)
     rw [hv246_0] at ge246_0
     have HL246_0:=am_ (show Kd.R k79 79 _ _ _ _ (rd_L4 x3_2 t240) from ge246_0)
     clear hv246_0 ge246_0
     have HX246_0:=am_ hx246_0
     clear hcc246 hce246
     have HR246_0:=am_ hi246_0
     have HC246_0:=am_ hl246_0
     clear hi246_0 hl246_0
     replace p246:=eq_true p246
     replace q246:=eq_true q246
     obtain ⟨go43,co43,eo43,gb43,gl43,cl43,HG43⟩:=Kd.S_form HO_3.out (by have h_ : (t240 : Int) < ((x3_2.length : Int) : Int):=od_ (by (with_reducible assumption));have h2_ : 0 ≤ (t240 : Int):=(od_ (by (with_reducible assumption)));omega)
     (cases eo43)
     have GB43:=am_ gb43
     have GG43:=am_ HG43
     clear gb43 gl43 HG43
     (simp only [add_plain] at hx246_0)
     obtain ⟨oki43,ce43,hcl43,hM43,hcc43,_,_,hH43⟩:=Kd.S_elem HO_3.out [] (t240 : Int) (od_ (by (with_reducible assumption))) (by have h_ : (t240 : Int) < ((x3_2.length : Int) : Int):=od_ (by (with_reducible assumption));exact h_)
     obtain ⟨ve43_0,rfl,ge43_0⟩:=hM43
     have hv43:=hcc43 0 _ rfl
     have hX43:=HX246_0.out
     (try simp only [add_plain] at hX43)
     (try simp only [Nat.add_zero] at hv43)
     (try rw [show ((Kd.slice 79 k79)).sz = 1 from rfl,Nat.mul_one] at hv43)
     replace hv43:=Option.some.inj (hv43.symm.trans hX43)
     subst hv43
     clear hX43 hcc43 hcl43
     have UU43:=am_ (show Kd.R k79 79 _ w.heap.size oki43 (.slice A246_0 (rd_L4 x3_2 t240).length c246_0) (rd_L4 x3_2 t240) from ge43_0)
     have HH43:=am_ hH43
     have HN43:=am_ (Kd.S_reads' HO_3.out).1
     clear hH43 ge43_0
     refine start_ (n:=11) (S:=fun w'=>w'.cell? ⟨gb238,0,none⟩ = some (.int .i64 ((rd_T79 y234 x27_2).f0)) ∧ w'.cell? ⟨gb238,1,none⟩ = some (.bool ((rd_T79 y234 x27_2).f1)) ∧ w'.cell? ⟨go43,(t240).toNat,none⟩ = some (.slice A246_0 (rd_L4 x3_2 t240).length c246_0)) (ds:=[10]) fl4_1_ (by kernel_rfl) rfl rfl ⟨bc_ BK238.out 0,bc_ BK238.out 1,hx246_0⟩ (fun hHeld=>?_);refine with_tabW impl_stepsOf.tab10 impl_stepsOf.bits10 (fun HT_ HW_=>?_)
     generalize w40.drew = w41 at FR HO_3 HO_25 HO_2 BK227 BK238 HB GG43 HH43 HL246_0 HQ37 HR246_0 HX246_0 UU43 hx246_0 hHeld ⊢
     refine pure_ (i:=0) (N:=some 47) (v:=?_) (a':=?_) fl4_2_ rfl rfl (any_of HT_.out (by kernel_rfl)) (fun _ _ _ h=>h) (Or.inl ⟨by rfl,?_⟩) ?_ ?_
     rotate_left
     ·intro w'
      go_simp
      with_reducible rfl
     rotate_left
     ·simp only [Act.put,sb_,sz_,ss_,i64_w,i32_w]
      rfl
     refine pure_ (i:=1) (N:=some 48) (v:=?_) (a':=?_) fl4_3_ rfl rfl (any_of HT_.out (by kernel_rfl)) (fun _ _ _ h=>h) (Or.inl ⟨by rfl,?_⟩) ?_ ?_
     rotate_left
     ·intro w'
      go_simp
      with_reducible rfl
     rotate_left
     ·simp only [Act.put,sb_,sz_,ss_,i64_w,i32_w]
      rfl
     refine pure_ (i:=2) (N:=some 49) (v:=?_) (a':=?_) fl4_4_ rfl rfl (any_of HT_.out (by kernel_rfl)) (fun _ _ _ h=>h) (Or.inl ⟨by rfl,?_⟩) ?_ ?_
     rotate_left
     ·intro w'
      go_simp
      with_reducible rfl
     rotate_left
     ·simp only [Act.put,sb_,sz_,ss_,i64_w,i32_w]
      rfl
     refine pure_ (i:=3) (N:=some 50) (v:=?_) (a':=?_) fl4_5_ rfl rfl (any_of HT_.out (by kernel_rfl)) (fun _ _ _ h=>h) (Or.inl ⟨by rfl,?_⟩) ?_ ?_
     rotate_left
     ·intro w'
      go_simp
      with_reducible rfl
     rotate_left
     ·simp only [Act.put,sb_,sz_,ss_,i64_w,i32_w]
      rfl
     refine pure_ (i:=4) (N:=some 51) (v:=?_) (a':=?_) fl4_6_ rfl rfl (any_of HT_.out (by kernel_rfl)) (fun _ _ _ h=>h) (Or.inl ⟨by rfl,?_⟩) ?_ ?_
     rotate_left
     ·intro w'
      go_simp
      with_reducible rfl
     rotate_left
     ·simp only [Act.put,sb_,sz_,ss_,i64_w,i32_w]
      rfl
     refine take_ (i:=5) (N:=some 52) (v:=?_) (a':=?_) fl4_7_ rfl rfl (take_ofW HT_.out HW_.out (by kernel_rfl)) (fun _ _ _ h=>h) (Or.inl ⟨by rfl,?_⟩) hHeld ?_ ?_
     rotate_left
     ·rintro w' ⟨s0,s1,s2⟩
      go_simp
      with_reducible rfl
     rotate_left
     ·simp only [Act.put,sb_,sz_,ss_,i64_w,i32_w]
      rfl
     refine take_ (i:=6) (N:=some 53) (v:=?_) (a':=?_) fl4_8_ rfl rfl (take_ofW HT_.out HW_.out (by kernel_rfl)) (fun _ _ _ h=>h) (Or.inl ⟨by rfl,?_⟩) hHeld ?_ ?_
     rotate_left
     ·rintro w' ⟨s0,s1,s2⟩
      go_simp
      with_reducible rfl
     rotate_left
     ·simp only [Act.put,sb_,sz_,ss_,i64_w,i32_w]
      rfl
     refine one_ (i:=7) (N:=some 54) fl4_9_ rfl rfl (one_of HT_.out (by kernel_rfl)) (by decide) (fun K hK=>?_)
     refine value_ (w1:=?_) (v:=?_) (by rfl) rfl ?_ ?_
     rotate_left 2
     ·go_simp
      constructor
      ·rfl
      ·rfl
     refine hK.out _ _ ⟨(blk_cell (blk_alloc BK238.out _) 0).trans rfl,(blk_cell (blk_alloc BK238.out _) 1).trans rfl,(World.cell?_alloc_lt _ _ _ (World.block_lt_of_cell? _ _ (hHeld.2.2))).trans (hHeld.2.2)⟩ (fun hHeld=>?_)
     clear hK K
     refine norm_ (a':=?_) ?_ ?_
     rotate_left
     ·show Act.put _ (some 54) _ = _
      simp only [Act.put,sb_,sz_,ss_,i64_w,i32_w]
      rfl
     refine one_ (i:=8) (N:=some 55) fl4_10_ rfl rfl (one_of HT_.out (by kernel_rfl)) (by decide) (fun K hK=>?_)
     refine Kd.R_append_step k79 (w0:=w) w.heap.size (by rfl) (.tmp 52) (.tmp 54) 71 79 (.agg #[(.int .i64 0),(.bool false)]) 16 rfl Try.underlying71 info79 rfl (by decide) (by omega) (.slice A246_0 (rd_L4 x3_2 t240).length c246_0) (rd_L4 x3_2 t240) (⟨(rd_T79 y234 x27_2).f0,(rd_T79 y234 x27_2).f1⟩ : S79) [.int .i64 ((rd_T79 y234 x27_2).f0),.bool ((rd_T79 y234 x27_2).f1)] (fun k_=>oki43 k_ ∨ ((fun k_=>some k_ ≠ (.slice (some ad237) y234.length co15 : Value).ownBlock ∧ Sep (.slice (some ⟨go35,0,none⟩) x2_2.length co34) Q2 k_ ∧ k_ ≠ gb238)) k_ ∧ w41.heap.size ≤ k_) (fun _=>False) rfl rfl ?aP (fun _ hk=>hk.elim) ?aF ?aO ?aB ?aS ?aL ?_
     (case aP=>exact k79_mkM _ _ _ (⟨(rd_T79 y234 x27_2).f0,(rd_T79 y234 x27_2).f1⟩ : S79))
     (case aB=>exact HB.out)
     (case aF=>exact (fun k_ hk=>.inr ⟨⟨Kd.fresh' (Kd.R_lt HO_25.out) k_ hk,⟨Kd.fresh' (Kd.S_lt HO_2.out) k_ hk,FR.out k_ hk⟩,Kd.freshB (g:=gb238) (o:=.cells #[.int .i64 ((rd_T79 y234 x27_2).f0),.bool ((rd_T79 y234 x27_2).f1)] 79 (0,0)) BK238.out k_ hk⟩,hk⟩))
     (case aO=>exact (by exact Kd.R_mono UU43.out (fun _ hk=>.inl hk)))
     (case aS=>exact (below_size HB.out))
     (case aL=>have:=LMc26.out;omega)
     intro v248 w44 ho hb hg hat
     (have HS2_:=cell_grown hg (cell_unalloc (hHeld.2.2) (by exact Kd.S_lt HO_3.out _ rfl)) (by exact (fun e_=>((HL246_0.out.1 _ e_.symm).2) rfl)))
     rw [← Ny247.out] at ho
     have n0_:=am_ (Kd.R_grown2 HO_25.out rfl hg (fun k_ e_=>(HL246_0.out.1 k_ e_).1.1))
     have n1_:=am_ (blk_grown (g:=gb227) (o:=.cells #[.int .i64 a0_0,.slice A0_1 l0_1.length c0_1] 30 (0,0)) BK227.out hg (Kd.R_ne HL246_0.out BK227.out (by decide)))
     have n2_:=am_ (blk_grown (g:=gb238) (o:=.cells #[.int .i64 ((rd_T79 y234 x27_2).f0),.bool ((rd_T79 y234 x27_2).f1)] 79 (0,0)) BK238.out hg (Kd.R_away HL246_0.out (fun _ hk=>hk.1.2.2)))
     have n3_:=am_ (Kd.S_grown HO_2.out hg (fun k_ hk e_=>DJ.out k_ hk.1.2 (HL246_0.out.1 k_ e_.symm).1.2.1.2))
     have n4_:=am_ (hb)
     have n5_:=am_ (Kd.H_grown (Kd.H_widen (by exact HH43.out)) hg (fun k_ e_=>.inl (UU43.out.1 k_ e_)))
     have n6_:=am_ (ho)
     clear HO_25
     clear BK227
     clear BK238
     clear HO_2
     clear HB
     clear HH43
     clear HO_3
     clear UU43
     clear HL246_0
     have HO_25:=n0_
     have BK227:=n1_
     have BK238:=n2_
     have HO_2:=n3_
     have HB:=n4_
     have HH43:=n5_
     have HO249:=n6_
     clear n0_ n1_ n2_ n3_ n4_ n5_ n6_
     clear ho hb hg hat
     have p27 : 0 ≤ (t240 : Int):=od_ (by (with_reducible assumption))
     have q27 : (t240 : Int) < ((x3_2.length : Int) : Int):=od_ (by (with_reducible assumption))
     replace p27:=eq_true p27
     replace q27:=eq_true q27
     obtain ⟨Ao47,co47,eo47⟩:=Kd.R_slice HO249.out
     (subst eo47)
     obtain ⟨_,_,hraw45,_,_,hcc45,_⟩:=Kd.H_raw HH43.out (od_ (by (with_reducible assumption))) (by have h_ : (t240 : Int) < ((x3_2.length : Int) : Int):=od_ (by (with_reducible assumption));exact h_)
     obtain ⟨_,hfr45⟩:=Kd.H_at HH43.out (od_ (by (with_reducible assumption))) (by have h_ : (t240 : Int) < ((x3_2.length : Int) : Int):=od_ (by (with_reducible assumption));exact h_)
     have hx45_0:=hcc45 0 _ rfl
     have hf45_0:=hfr45 0
     (try simp only [Nat.add_zero] at hx45_0 hf45_0)
     (try rw [show ((Kd.slice 79 k79)).sz = 1 from rfl,Nat.mul_one] at hx45_0)
     (try rw [show ((Kd.slice 79 k79)).sz = 1 from rfl,Nat.mul_one] at hf45_0)
     have HP45:=Kd.S_seg0 HH43.out (od_ (by (with_reducible assumption))) (by have h_ : (t240 : Int) < ((x3_2.length : Int) : Int):=od_ (by (with_reducible assumption));exact h_) (seg:=[.slice Ao47 y247.length co47]) (j:=0) (show 1 ≤ 1 from by decide) (x':=y247) (Kd.M_row HO249.out) (fun _ hk=>hk)
     (try simp only [show ((Kd.slice 79 k79)).sz = 1 from rfl,Nat.mul_one,Nat.add_zero] at HP45)
     clear hcc45 hfr45
     have HNB227_go43:=am_ (show gb227 ≠ go43 from by have h_:=Kd.R_ne hraw45 BK227.out (by decide);intro e_;exact h_ (by rw [e_];rfl))
     have HNB238_go43:=am_ (show gb238 ≠ go43 from by have h_:=Kd.R_ne hraw45 BK238.out (by decide);intro e_;exact h_ (by rw [e_];rfl))
     have HS45:=HP45.1
     rw [← Ny250.out] at HS45
     have HQ45:=am_ HS45
     obtain ⟨_,hgg45⟩:=Kd.R_typed hraw45 go43 rfl
     have GG45_:=am_ hgg45
     clear HP45 HS45 hgg45
     refine hK.out _ _ ⟨bc_ BK238.out 0,bc_ BK238.out 1,HS2_⟩ (fun hHeld=>?_)
     clear hK K
     refine norm_ (a':=?_) ?_ ?_
     rotate_left
     ·show Act.put _ (some 55) _ = _
      simp only [Act.put,sb_,sz_,ss_,i64_w,i32_w]
      rfl
     refine pure_ (i:=9) (N:=some 56) (v:=?_) (a':=?_) fl4_11_ rfl rfl (any_of HT_.out (by kernel_rfl)) (fun _ _ _ h=>h) (Or.inl ⟨by rfl,?_⟩) ?_ ?_
     rotate_left
     ·intro w'
      go_simp
      with_reducible rfl
     rotate_left
     ·simp only [Act.put,sb_,sz_,ss_,i64_w,i32_w]
      rfl
     refine last_ (i:=10) (N:=none) fl4_12_ rfl rfl (one_of HT_.out (by kernel_rfl)) (by decide) (fun K hK=>?_)
     refine skip_ (w1:=?_) (by rfl) rfl ?_ ?_
     rotate_left
     ·go_simp
      rfl
     refine hK.out _ _ ?_
     clear hK K
     refine done_ (done_of HT_.out (by kernel_rfl)) ?_
     try go_wp2
     go_roundg k2
     case measure=>have:=HK1.out;have:=HK2.out;omega
     case rel=>exact ⟨Q1,Q2,(y245),(y250),(wrap64 (x27_2 + 1)),(by rfl),H',⟨by have:=HK1.out;have:=HK2.out;omega⟩,DJ,⟨by exact Kd.S_mono (Kd.S_far (p:=⟨go43,(t240 : Int).toNat,none⟩) (Kd.S_mono HO_2.out (fun k_ hk=>(⟨hk,fun e_=>hk.1.1 (by rw [e_];rfl)⟩ : _ ∧ k_ ≠ go43))) (fun _ hk=>hk.2) (.slice Ao47 y247.length co47)) (fun _ hk=>⟨hk.1.1,hk.1.2.1⟩)⟩,⟨by exact Kd.S_mono HQ45.out (fun _ hk=>⟨hk.2.1,hk.1⟩)⟩,⟨by exact Kd.R_mono (Kd.R_far (p:=⟨go43,(t240 : Int).toNat,none⟩) (Kd.R_types HO_25.out GG45_.out (by decide)) (fun _ hk=>hk.2) (.slice Ao47 y247.length co47)) (fun _ hk=>trivial)⟩,⟨by refine blk_far ?_ HNB227_go43.out _;exact BK227.out⟩,⟨by repeat ((with_reducible first|exact HB.out|refine below_set ?_ GB43.out))⟩⟩

end Go.Proofs.Ytgkpgigoonhgdaa.PFnMostCut
