-- Made by the session's wip/pp.py, a changed call of the kit's printer; Lean checks it.
import Derived.Test.YtgkpgigoonhgdaaPFnMostCutx0
import Derived.Test.YtgkpgigoonhgdaaPFnMostCutx3
import Derived.Test.YtgkpgigoonhgdaaPFnMostCutx13
import Derived.Test.YtgkpgigoonhgdaaPFnMostCutx14
namespace Go.Proofs.Ytgkpgigoonhgdaa.PFnMostCut
open Go.RowKit Go.Proofs.YtgkpgigoonhgdaaW.PrintWords Go.Proofs.YtgkpgigoonhgdaaW.PrintLast Go.Proofs.YtgkpgigoonhgdaaW.PrintMore
attribute [local go_sem] max2_int min2_int max_two min_two max_three min_three max_four min_four   -- for this text's walks alone
set_option linter.unusedVariables false
set_option linter.unusedSimpArgs false

abbrev fl15_0_ : Array Bool:=#[false,false,false,false,false,false,false,false,false,false,false,false,false,false,false,false,false,false]
abbrev fl15_1_ : Array Bool:=#[false,true,false,false,false,false,false,false,false,false,false,false,false,false,false,false,false,false]
abbrev fl15_2_ : Array Bool:=#[true,true,false,false,false,false,false,false,false,false,false,false,false,false,false,false,false,false]
abbrev fl15_3_ : Array Bool:=#[true,true,true,false,false,false,false,false,false,false,false,false,false,false,false,false,false,false]
abbrev fl15_4_ : Array Bool:=#[true,true,true,true,false,false,false,false,false,false,false,false,false,false,false,false,false,false]
abbrev fl15_5_ : Array Bool:=#[true,true,true,true,false,true,false,false,false,false,false,false,false,false,false,false,false,false]
abbrev fl15_6_ : Array Bool:=#[true,true,true,true,true,true,false,false,false,false,false,false,false,false,false,false,false,false]
abbrev fl15_7_ : Array Bool:=#[true,true,true,true,true,true,true,false,false,false,false,false,false,false,false,false,false,false]
abbrev fl15_8_ : Array Bool:=#[true,true,true,true,true,true,true,true,false,false,false,false,false,false,false,false,false,false]
abbrev fl15_9_ : Array Bool:=#[true,true,true,true,true,true,true,true,true,false,false,false,false,false,false,false,false,false]
abbrev fl15_10_ : Array Bool:=#[true,true,true,true,true,true,true,true,true,true,true,true,true,true,false,false,false,false]
abbrev fl15_11_ : Array Bool:=#[true,true,true,true,true,true,true,true,true,true,true,true,true,true,true,false,false,false]
abbrev fl15_12_ : Array Bool:=#[true,true,true,true,true,true,true,true,true,true,true,true,true,true,true,true,false,false]
abbrev fl15_13_ : Array Bool:=#[true,true,true,true,true,true,true,true,true,true,true,true,true,true,true,true,true,false]
abbrev fl15_14_ : Array Bool:=#[true,true,true,true,true,true,true,true,true,true,true,true,true,true,true,true,true,true]
abbrev fl15_15_ : Array Bool:=#[true,true,true,true,true,true,true,true,true,true,false,false,false,false,false,false,false,false]
abbrev fl15_16_ : Array Bool:=#[true,true,true,true,true,true,true,true,true,true,true,false,false,false,false,false,false,false]
abbrev fl15_17_ : Array Bool:=#[true,true,true,true,true,true,true,true,true,true,true,true,false,false,false,false,false,false]
abbrev fl15_18_ : Array Bool:=#[true,true,true,true,true,true,true,true,true,true,true,true,true,false,false,false,false,false]
/-! ### impl_Stopped: function 40 -/
def impl_Stopped.f (k : Nat) (a0_0 : Int) (l0_1 : List (S67)) (l1 : List Int) (l2 : List Bool) : Option (Bool):=(impl_FlowOk.f k a0_0 l0_1 l1).bind fun t447=>(if t447 = true then ((impl_CutOk.f k a0_0 l0_1 l2).bind fun t448=>(if t448 = true then ((impl_FlowSize.f k a0_0 l0_1 l1).bind fun t449=>((impl_CutRoom.f k a0_0 l0_1 l2).bind fun t450=>(some (t449 == t450)))) else (some false))) else (some false))
theorem impl_Stopped.mono : ∀ a0 a1 a2 a3 k,LeO (impl_Stopped.f k a0 a1 a2 a3) (impl_Stopped.f (k + 1) a0 a1 a2 a3):=by
 intro a0 a1 a2 a3 k
 unfold impl_Stopped.f
 repeat' first
   | (with_reducible exact impl_CutOk.mono _ _ _ _)
   | (with_reducible exact impl_CutRoom.mono _ _ _ _)
   | (with_reducible exact impl_FlowOk.mono _ _ _ _)
   | (with_reducible exact impl_FlowSize.mono _ _ _ _)
   | (with_reducible exact LeO.refl _)
   | (with_reducible refine LeO.ite ?_ ?_)
   | (with_reducible refine LeO.bind ?_ (fun _ => ?_))
def impl_Stopped.T1 : Bool × List (List Nat × List Nat):=(true,[([],[]),([],[]),([0,1],[0,1]),([2,2],[2]),([3],[3]),([3],[3]),([4,5,3,3],[3,4,5]),([3,6],[3,6]),([7,6],[7]),([8],[8]),([8],[8]),([9,10,8,8],[8,9,10]),([8],[8]),([8],[8]),([12,13,11,8],[8,12,13]),([11,14,8],[8,11,14]),([8,15],[8,15]),([16,14,0,1,2,3,4,5,6,7,8,9,10,11,12,13,14,15,16],[16])])
def impl_Stopped.B1 : List Nat:=[0,0,3,7,15,15,63,127,255,511,511,2047,511,511,16383,32767,65535,131071]
theorem impl_Stopped.tab1 : rtab .any (opsOf Try.f40 1) = impl_Stopped.T1:=by kernel_rfl
theorem impl_Stopped.bits1 : waitsOk impl_Stopped.T1.2 impl_Stopped.B1 = true:=by kernel_rfl
set_option maxHeartbeats 8000000 in
set_option maxRecDepth 100000 in
theorem impl_Stopped.calls (k : Nat) (a0_0 : Int) (A0_1 : Option Addr) (c0_1 : Nat) (l0_1 : List (S67)) (A1 : Option Addr) (c1 : Nat) (l1 : List Int) (A2 : Option Addr) (c2 : Nat) (l2 : List Bool) (r : Bool) (w : World) (hr0_1 : Kd.C k67 w A0_1 l0_1.length l0_1) (hc0_1 : l0_1.length ≤ c0_1) (hr1 : Kd.C (Kd.int .i64) w A1 l1.length l1) (hc1 : l1.length ≤ c1) (hr2 : Kd.C Kd.bool w A2 l2.length l2) (hc2 : l2.length ≤ c2) (h : impl_Stopped.f k a0_0 l0_1 l1 l2 = some r) :
  Calls Try.prog 40 #[.agg #[.int .i64 a0_0,.slice A0_1 l0_1.length c0_1],.slice A1 l1.length c1,.slice A2 l2.length c2] w fun e w'=>e = .returned (.bool r) ∧ Below w.heap.size w w':=by
 have hu30:=Try.underlying30
 have HR0_1:=am_ hr0_1
 have HC0_1:=am_ hc0_1
 clear hr0_1 hc0_1
 have HR1:=am_ hr1
 have HC1:=am_ hc1
 clear hr1 hc1
 have HR2:=am_ hr2
 have HC2:=am_ hc2
 clear hr2 hc2
 have HB:=am_ (Below.refl w.heap.size w)
 have H : ((impl_FlowOk.f k a0_0 l0_1 l1).bind fun t447=>(if t447 = true then ((impl_CutOk.f k a0_0 l0_1 l2).bind fun t448=>(if t448 = true then ((impl_FlowSize.f k a0_0 l0_1 l1).bind fun t449=>((impl_CutRoom.f k a0_0 l0_1 l2).bind fun t450=>(some (t449 == t450)))) else (some false))) else (some false))) = some r:=h
 clear h
 replace H:=bs_ H
 obtain ⟨t447,A40,H⟩:=H
 replace H : (if t447 = true then ((impl_CutOk.f k a0_0 l0_1 l2).bind fun t448=>(if t448 = true then ((impl_FlowSize.f k a0_0 l0_1 l1).bind fun t449=>((impl_CutRoom.f k a0_0 l0_1 l2).bind fun t450=>(some (t449 == t450)))) else (some false))) else (some false)) = some r:=H
 have A4:=am_ A40
 clear A40
 by_cases c5 : t447 = true
 rotate_left
 ·replace c5:=Bool.eq_false_iff.mpr c5
  subst c5
  have H1 : (some false) = some r:=by rw [if_neg (show ¬ (false = true) by decide)] at H;exact H
  clear H
  have H:=H1
  clear H1
  obtain rfl:=Option.some.inj H
  go_enter Try.func40,Try.ntmps40
  try go_wp2_with (((with_reducible refine gate_dst (N:=3) rfl ?_);refine box_event ?hg (N:=3) ?hd (cs:=#[.int .i64 a0_0,.slice A0_1 l0_1.length c0_1]) (t:=30) ?hr ?_;(case hd=>rfl);(case hg=>rfl);(case hr=>(go_simp;done));intro gb446 hg w20 hbox hb;have n0_:=am_ (below_step HB.out hb);have n1_:=am_ (hbox);have n2_:=am_ ((by rw [hg];exact (below_size HB.out) : w.heap.size ≤ gb446));have n3_:=n2_;clear HB;have HB:=n0_;have BK446:=n1_;have GW446:=n2_;have GE446:=n3_;clear n0_ n1_ n2_ n3_ hb hbox hg))
  have n0_:=am_ (blk_drew BK446.out)
  have n1_:=am_ (below_drew1 HB.out)
  clear BK446
  clear HB
  have BK446:=n0_
  have HB:=n1_
  clear n0_ n1_
  refine start_ (n:=18) (S:=fun w'=>w'.cell? ⟨gb446,0,none⟩ = some (.int .i64 a0_0) ∧ w'.cell? ⟨gb446,1,none⟩ = some (.slice A0_1 l0_1.length c0_1)) (ds:=[]) fl15_0_ (by kernel_rfl) rfl rfl ⟨bc_ BK446.out 0,bc_ BK446.out 1⟩ (fun hHeld=>?_);refine with_tabW impl_Stopped.tab1 impl_Stopped.bits1 (fun HT_ HW_=>?_)
  generalize w20.drew = w21 at BK446 HB hHeld ⊢
  refine pure_ (i:=1) (N:=some 8) (v:=?_) (a':=?_) fl15_1_ rfl rfl (any_of HT_.out (by kernel_rfl)) (fun _ _ _ h=>h) (Or.inl ⟨by rfl,?_⟩) ?_ ?_
  rotate_left
  ·intro w'
   go_simp
   with_reducible rfl
  rotate_left
  ·simp only [Act.put,sb_,sz_,ss_,i64_w,i32_w]
   rfl
  refine take_ (i:=0) (N:=some 7) (v:=?_) (a':=?_) fl15_2_ rfl rfl (take_ofW HT_.out HW_.out (by kernel_rfl)) (fun _ _ _ h=>h) (Or.inl ⟨by rfl,?_⟩) hHeld ?_ ?_
  rotate_left
  ·rintro w' ⟨s0,s1⟩
   go_simp
   with_reducible rfl
  rotate_left
  ·simp only [Act.put,sb_,sz_,ss_,i64_w,i32_w]
   rfl
  refine one_ (i:=2) (N:=some 9) fl15_3_ rfl rfl (one_of HT_.out (by kernel_rfl)) (by decide) (fun K hK=>?_)
  refine goes_ Try.func31 (by kernel_rfl) rfl #[.agg #[.int .i64 a0_0,.slice A0_1 l0_1.length c0_1],.slice A1 l1.length c1] (by rfl) rfl rfl (by (try simp only [List.map_toArray,List.map_cons,List.map_nil]);rfl) ?_
  with_reducible refine (impl_FlowOk.calls k a0_0 _ _ l0_1 _ _ l1 false _ ?side1 ?side2 ?side3 ?side4 A4.out).mono ?_
  (case side1=>exact (Kd.C_below HR0_1.out HB.out))
  (case side2=>exact HC0_1.out)
  (case side3=>exact (Kd.C_below HR1.out HB.out))
  (case side4=>exact HC1.out)
  rintro e w22 ⟨rfl,hb⟩
  refine ⟨_,rfl,?_⟩
  have n0_:=am_ (blk_below BK446.out hb)
  have n1_:=am_ (below_step HB.out hb)
  clear BK446
  clear HB
  have BK446:=n0_
  have HB:=n1_
  clear n0_ n1_
  (try clear hb)
  (skip)
  (skip)
  (skip)
  refine hK.out _ _ ⟨bc_ BK446.out 0,bc_ BK446.out 1⟩ (fun hHeld=>?_)
  clear hK K
  refine norm_ (a':=?_) ?_ ?_
  rotate_left
  ·show Act.put _ (some 9) _ = _
   simp only [Act.put,sb_,sz_,ss_,i64_w,i32_w]
   rfl
  refine pure_ (i:=3) (N:=some 10) (v:=?_) (a':=?_) fl15_4_ rfl rfl (any_of HT_.out (by kernel_rfl)) (fun _ _ _ h=>h) (Or.inl ⟨by rfl,?_⟩) ?_ ?_
  rotate_left
  ·intro w'
   go_simp
   with_reducible rfl
  rotate_left
  ·simp only [Act.put,sb_,sz_,ss_,i64_w,i32_w]
   rfl
  refine pure_ (i:=4) (N:=some 11) (v:=undef) (a':=?_) #[true,true,true,true,true,false,false,false,false,false,false,false,false,false,false,false,false,false] rfl rfl (any_of HT_.out (by kernel_rfl)) (fun _ _ _ h=>h) (Or.inr ⟨by rfl,rfl⟩) ?_ ?_
  rotate_left
  ·simp only [Act.put,sb_,sz_,ss_,i64_w,i32_w]
   rfl
  refine pure_ (i:=5) (N:=some 12) (v:=undef) (a':=?_) fl15_6_ rfl rfl (any_of HT_.out (by kernel_rfl)) (fun _ _ _ h=>h) (Or.inr ⟨by rfl,rfl⟩) ?_ ?_
  rotate_left
  ·simp only [Act.put,sb_,sz_,ss_,i64_w,i32_w]
   rfl
  refine pure_ (i:=6) (N:=some 13) (v:=undef) (a':=?_) fl15_7_ rfl rfl (any_of HT_.out (by kernel_rfl)) (fun _ _ _ h=>h) (Or.inr ⟨by rfl,rfl⟩) ?_ ?_
  rotate_left
  ·simp only [Act.put,sb_,sz_,ss_,i64_w,i32_w]
   rfl
  refine pure_ (i:=7) (N:=some 14) (v:=?_) (a':=?_) fl15_8_ rfl rfl (any_of HT_.out (by kernel_rfl)) (fun _ _ _ h=>h) (Or.inl ⟨by rfl,?_⟩) ?_ ?_
  rotate_left
  ·intro w'
   go_simp
   with_reducible rfl
  rotate_left
  ·simp only [Act.put,sb_,sz_,ss_,i64_w,i32_w]
   rfl
  refine pure_ (i:=8) (N:=some 15) (v:=?_) (a':=?_) fl15_9_ rfl rfl (any_of HT_.out (by kernel_rfl)) (fun _ _ _ h=>h) (Or.inl ⟨by rfl,?_⟩) ?_ ?_
  rotate_left
  ·intro w'
   go_simp
   with_reducible rfl
  rotate_left
  ·simp only [Act.put,sb_,sz_,ss_,i64_w,i32_w]
   rfl
  refine pure_ (i:=9) (N:=some 16) (v:=undef) (a':=?_) fl15_15_ rfl rfl (any_of HT_.out (by kernel_rfl)) (fun _ _ _ h=>h) (Or.inr ⟨by rfl,rfl⟩) ?_ ?_
  rotate_left
  ·simp only [Act.put,sb_,sz_,ss_,i64_w,i32_w]
   rfl
  refine pure_ (i:=10) (N:=some 17) (v:=undef) (a':=?_) fl15_16_ rfl rfl (any_of HT_.out (by kernel_rfl)) (fun _ _ _ h=>h) (Or.inr ⟨by rfl,rfl⟩) ?_ ?_
  rotate_left
  ·simp only [Act.put,sb_,sz_,ss_,i64_w,i32_w]
   rfl
  refine pure_ (i:=11) (N:=some 18) (v:=undef) (a':=?_) fl15_17_ rfl rfl (any_of HT_.out (by kernel_rfl)) (fun _ _ _ h=>h) (Or.inr ⟨by rfl,rfl⟩) ?_ ?_
  rotate_left
  ·simp only [Act.put,sb_,sz_,ss_,i64_w,i32_w]
   rfl
  refine pure_ (i:=12) (N:=some 19) (v:=undef) (a':=?_) fl15_18_ rfl rfl (any_of HT_.out (by kernel_rfl)) (fun _ _ _ h=>h) (Or.inr ⟨by rfl,rfl⟩) ?_ ?_
  rotate_left
  ·simp only [Act.put,sb_,sz_,ss_,i64_w,i32_w]
   rfl
  refine pure_ (i:=13) (N:=some 20) (v:=undef) (a':=?_) fl15_10_ rfl rfl (any_of HT_.out (by kernel_rfl)) (fun _ _ _ h=>h) (Or.inr ⟨by rfl,rfl⟩) ?_ ?_
  rotate_left
  ·simp only [Act.put,sb_,sz_,ss_,i64_w,i32_w]
   rfl
  refine pure_ (i:=14) (N:=some 21) (v:=undef) (a':=?_) fl15_11_ rfl rfl (any_of HT_.out (by kernel_rfl)) (fun _ _ _ h=>h) (Or.inr ⟨by rfl,rfl⟩) ?_ ?_
  rotate_left
  ·simp only [Act.put,sb_,sz_,ss_,i64_w,i32_w]
   rfl
  refine pure_ (i:=15) (N:=some 22) (v:=undef) (a':=?_) fl15_12_ rfl rfl (any_of HT_.out (by kernel_rfl)) (fun _ _ _ h=>h) (Or.inr ⟨by rfl,rfl⟩) ?_ ?_
  rotate_left
  ·simp only [Act.put,sb_,sz_,ss_,i64_w,i32_w]
   rfl
  refine pure_ (i:=16) (N:=some 23) (v:=?_) (a':=?_) fl15_13_ rfl rfl (any_of HT_.out (by kernel_rfl)) (fun _ _ _ h=>h) (Or.inl ⟨by rfl,?_⟩) ?_ ?_
  rotate_left
  ·intro w'
   go_simp
   with_reducible rfl
  rotate_left
  ·simp only [Act.put,sb_,sz_,ss_,i64_w,i32_w]
   rfl
  refine pure_ (i:=17) (N:=some 6) (v:=?_) (a':=?_) fl15_14_ rfl rfl (any_of HT_.out (by kernel_rfl)) (fun _ _ _ h=>h) (Or.inl ⟨by rfl,?_⟩) ?_ ?_
  rotate_left
  ·intro w'
   go_simp
   with_reducible rfl
  rotate_left
  ·simp only [Act.put,sb_,sz_,ss_,i64_w,i32_w]
   rfl
  refine done_ (done_of HT_.out (by kernel_rfl)) ?_
  try go_wp2
  go_ret
  exact ⟨by rfl,by exact HB.out⟩
 subst c5
 have H1 : ((impl_CutOk.f k a0_0 l0_1 l2).bind fun t448=>(if t448 = true then ((impl_FlowSize.f k a0_0 l0_1 l1).bind fun t449=>((impl_CutRoom.f k a0_0 l0_1 l2).bind fun t450=>(some (t449 == t450)))) else (some false))) = some r:=by rw [if_pos rfl] at H;exact H
 clear H
 have H:=H1
 clear H1
 replace H:=bs_ H
 obtain ⟨t448,A60,H⟩:=H
 replace H : (if t448 = true then ((impl_FlowSize.f k a0_0 l0_1 l1).bind fun t449=>((impl_CutRoom.f k a0_0 l0_1 l2).bind fun t450=>(some (t449 == t450)))) else (some false)) = some r:=H
 have A6:=am_ A60
 clear A60
 by_cases c7 : t448 = true
 rotate_left
 ·replace c7:=Bool.eq_false_iff.mpr c7
  subst c7
  have H1 : (some false) = some r:=by rw [if_neg (show ¬ (false = true) by decide)] at H;exact H
  clear H
  have H:=H1
  clear H1
  obtain rfl:=Option.some.inj H
  go_enter Try.func40,Try.ntmps40
  try go_wp2_with (((with_reducible refine gate_dst (N:=3) rfl ?_);refine box_event ?hg (N:=3) ?hd (cs:=#[.int .i64 a0_0,.slice A0_1 l0_1.length c0_1]) (t:=30) ?hr ?_;(case hd=>rfl);(case hg=>rfl);(case hr=>(go_simp;done));intro gb446 hg w16 hbox hb;have n0_:=am_ (below_step HB.out hb);have n1_:=am_ (hbox);have n2_:=am_ ((by rw [hg];exact (below_size HB.out) : w.heap.size ≤ gb446));have n3_:=n2_;clear HB;have HB:=n0_;have BK446:=n1_;have GW446:=n2_;have GE446:=n3_;clear n0_ n1_ n2_ n3_ hb hbox hg))
  have n0_:=am_ (blk_drew BK446.out)
  have n1_:=am_ (below_drew1 HB.out)
  clear BK446
  clear HB
  have BK446:=n0_
  have HB:=n1_
  clear n0_ n1_
  refine start_ (n:=18) (S:=fun w'=>w'.cell? ⟨gb446,0,none⟩ = some (.int .i64 a0_0) ∧ w'.cell? ⟨gb446,1,none⟩ = some (.slice A0_1 l0_1.length c0_1)) (ds:=[]) fl15_0_ (by kernel_rfl) rfl rfl ⟨bc_ BK446.out 0,bc_ BK446.out 1⟩ (fun hHeld=>?_);refine with_tabW impl_Stopped.tab1 impl_Stopped.bits1 (fun HT_ HW_=>?_)
  generalize w16.drew = w17 at BK446 HB hHeld ⊢
  refine pure_ (i:=1) (N:=some 8) (v:=?_) (a':=?_) fl15_1_ rfl rfl (any_of HT_.out (by kernel_rfl)) (fun _ _ _ h=>h) (Or.inl ⟨by rfl,?_⟩) ?_ ?_
  rotate_left
  ·intro w'
   go_simp
   with_reducible rfl
  rotate_left
  ·simp only [Act.put,sb_,sz_,ss_,i64_w,i32_w]
   rfl
  refine take_ (i:=0) (N:=some 7) (v:=?_) (a':=?_) fl15_2_ rfl rfl (take_ofW HT_.out HW_.out (by kernel_rfl)) (fun _ _ _ h=>h) (Or.inl ⟨by rfl,?_⟩) hHeld ?_ ?_
  rotate_left
  ·rintro w' ⟨s0,s1⟩
   go_simp
   with_reducible rfl
  rotate_left
  ·simp only [Act.put,sb_,sz_,ss_,i64_w,i32_w]
   rfl
  refine one_ (i:=2) (N:=some 9) fl15_3_ rfl rfl (one_of HT_.out (by kernel_rfl)) (by decide) (fun K hK=>?_)
  refine goes_ Try.func31 (by kernel_rfl) rfl #[.agg #[.int .i64 a0_0,.slice A0_1 l0_1.length c0_1],.slice A1 l1.length c1] (by rfl) rfl rfl (by (try simp only [List.map_toArray,List.map_cons,List.map_nil]);rfl) ?_
  with_reducible refine (impl_FlowOk.calls k a0_0 _ _ l0_1 _ _ l1 true _ ?side1 ?side2 ?side3 ?side4 A4.out).mono ?_
  (case side1=>exact (Kd.C_below HR0_1.out HB.out))
  (case side2=>exact HC0_1.out)
  (case side3=>exact (Kd.C_below HR1.out HB.out))
  (case side4=>exact HC1.out)
  rintro e w18 ⟨rfl,hb⟩
  refine ⟨_,rfl,?_⟩
  have n0_:=am_ (blk_below BK446.out hb)
  have n1_:=am_ (below_step HB.out hb)
  clear BK446
  clear HB
  have BK446:=n0_
  have HB:=n1_
  clear n0_ n1_
  (try clear hb)
  (skip)
  (skip)
  (skip)
  refine hK.out _ _ ⟨bc_ BK446.out 0,bc_ BK446.out 1⟩ (fun hHeld=>?_)
  clear hK K
  refine norm_ (a':=?_) ?_ ?_
  rotate_left
  ·show Act.put _ (some 9) _ = _
   simp only [Act.put,sb_,sz_,ss_,i64_w,i32_w]
   rfl
  refine pure_ (i:=3) (N:=some 10) (v:=?_) (a':=?_) fl15_4_ rfl rfl (any_of HT_.out (by kernel_rfl)) (fun _ _ _ h=>h) (Or.inl ⟨by rfl,?_⟩) ?_ ?_
  rotate_left
  ·intro w'
   go_simp
   with_reducible rfl
  rotate_left
  ·simp only [Act.put,sb_,sz_,ss_,i64_w,i32_w]
   rfl
  refine pure_ (i:=5) (N:=some 12) (v:=?_) (a':=?_) fl15_5_ rfl rfl (any_of HT_.out (by kernel_rfl)) (fun _ _ _ h=>h) (Or.inl ⟨by rfl,?_⟩) ?_ ?_
  rotate_left
  ·intro w'
   go_simp
   with_reducible rfl
  rotate_left
  ·simp only [Act.put,sb_,sz_,ss_,i64_w,i32_w]
   rfl
  refine take_ (i:=4) (N:=some 11) (v:=?_) (a':=?_) fl15_6_ rfl rfl (take_ofW HT_.out HW_.out (by kernel_rfl)) (fun _ _ _ h=>h) (Or.inl ⟨by rfl,?_⟩) hHeld ?_ ?_
  rotate_left
  ·rintro w' ⟨s0,s1⟩
   go_simp
   with_reducible rfl
  rotate_left
  ·simp only [Act.put,sb_,sz_,ss_,i64_w,i32_w]
   rfl
  refine one_ (i:=6) (N:=some 13) fl15_7_ rfl rfl (one_of HT_.out (by kernel_rfl)) (by decide) (fun K hK=>?_)
  refine goes_ Try.func38 (by kernel_rfl) rfl #[.agg #[.int .i64 a0_0,.slice A0_1 l0_1.length c0_1],.slice A2 l2.length c2] (by rfl) rfl rfl (by (try simp only [List.map_toArray,List.map_cons,List.map_nil]);rfl) ?_
  with_reducible refine (impl_CutOk.calls k a0_0 _ _ l0_1 _ _ l2 false _ ?side1 ?side2 ?side3 ?side4 A6.out).mono ?_
  (case side1=>exact (Kd.C_below HR0_1.out HB.out))
  (case side2=>exact HC0_1.out)
  (case side3=>exact (Kd.C_below HR2.out HB.out))
  (case side4=>exact HC2.out)
  rintro e w19 ⟨rfl,hb⟩
  refine ⟨_,rfl,?_⟩
  have n0_:=am_ (blk_below BK446.out hb)
  have n1_:=am_ (below_step HB.out hb)
  clear BK446
  clear HB
  have BK446:=n0_
  have HB:=n1_
  clear n0_ n1_
  (try clear hb)
  (skip)
  (skip)
  (skip)
  refine hK.out _ _ ⟨bc_ BK446.out 0,bc_ BK446.out 1⟩ (fun hHeld=>?_)
  clear hK K
  refine norm_ (a':=?_) ?_ ?_
  rotate_left
  ·show Act.put _ (some 13) _ = _
   simp only [Act.put,sb_,sz_,ss_,i64_w,i32_w]
   rfl
  refine pure_ (i:=7) (N:=some 14) (v:=?_) (a':=?_) fl15_8_ rfl rfl (any_of HT_.out (by kernel_rfl)) (fun _ _ _ h=>h) (Or.inl ⟨by rfl,?_⟩) ?_ ?_
  rotate_left
  ·intro w'
   go_simp
   with_reducible rfl
  rotate_left
  ·simp only [Act.put,sb_,sz_,ss_,i64_w,i32_w]
   rfl
  refine pure_ (i:=8) (N:=some 15) (v:=?_) (a':=?_) fl15_9_ rfl rfl (any_of HT_.out (by kernel_rfl)) (fun _ _ _ h=>h) (Or.inl ⟨by rfl,?_⟩) ?_ ?_
  rotate_left
  ·intro w'
   go_simp
   with_reducible rfl
  rotate_left
  ·simp only [Act.put,sb_,sz_,ss_,i64_w,i32_w]
   rfl
  refine pure_ (i:=9) (N:=some 16) (v:=undef) (a':=?_) fl15_15_ rfl rfl (any_of HT_.out (by kernel_rfl)) (fun _ _ _ h=>h) (Or.inr ⟨by rfl,rfl⟩) ?_ ?_
  rotate_left
  ·simp only [Act.put,sb_,sz_,ss_,i64_w,i32_w]
   rfl
  refine pure_ (i:=10) (N:=some 17) (v:=undef) (a':=?_) fl15_16_ rfl rfl (any_of HT_.out (by kernel_rfl)) (fun _ _ _ h=>h) (Or.inr ⟨by rfl,rfl⟩) ?_ ?_
  rotate_left
  ·simp only [Act.put,sb_,sz_,ss_,i64_w,i32_w]
   rfl
  refine pure_ (i:=11) (N:=some 18) (v:=undef) (a':=?_) fl15_17_ rfl rfl (any_of HT_.out (by kernel_rfl)) (fun _ _ _ h=>h) (Or.inr ⟨by rfl,rfl⟩) ?_ ?_
  rotate_left
  ·simp only [Act.put,sb_,sz_,ss_,i64_w,i32_w]
   rfl
  refine pure_ (i:=12) (N:=some 19) (v:=undef) (a':=?_) fl15_18_ rfl rfl (any_of HT_.out (by kernel_rfl)) (fun _ _ _ h=>h) (Or.inr ⟨by rfl,rfl⟩) ?_ ?_
  rotate_left
  ·simp only [Act.put,sb_,sz_,ss_,i64_w,i32_w]
   rfl
  refine pure_ (i:=13) (N:=some 20) (v:=undef) (a':=?_) fl15_10_ rfl rfl (any_of HT_.out (by kernel_rfl)) (fun _ _ _ h=>h) (Or.inr ⟨by rfl,rfl⟩) ?_ ?_
  rotate_left
  ·simp only [Act.put,sb_,sz_,ss_,i64_w,i32_w]
   rfl
  refine pure_ (i:=14) (N:=some 21) (v:=undef) (a':=?_) fl15_11_ rfl rfl (any_of HT_.out (by kernel_rfl)) (fun _ _ _ h=>h) (Or.inr ⟨by rfl,rfl⟩) ?_ ?_
  rotate_left
  ·simp only [Act.put,sb_,sz_,ss_,i64_w,i32_w]
   rfl
  refine pure_ (i:=15) (N:=some 22) (v:=undef) (a':=?_) fl15_12_ rfl rfl (any_of HT_.out (by kernel_rfl)) (fun _ _ _ h=>h) (Or.inr ⟨by rfl,rfl⟩) ?_ ?_
  rotate_left
  ·simp only [Act.put,sb_,sz_,ss_,i64_w,i32_w]
   rfl
  refine pure_ (i:=16) (N:=some 23) (v:=?_) (a':=?_) fl15_13_ rfl rfl (any_of HT_.out (by kernel_rfl)) (fun _ _ _ h=>h) (Or.inl ⟨by rfl,?_⟩) ?_ ?_
  rotate_left
  ·intro w'
   go_simp
   with_reducible rfl
  rotate_left
  ·simp only [Act.put,sb_,sz_,ss_,i64_w,i32_w]
   rfl
  refine pure_ (i:=17) (N:=some 6) (v:=?_) (a':=?_) fl15_14_ rfl rfl (any_of HT_.out (by kernel_rfl)) (fun _ _ _ h=>h) (Or.inl ⟨by rfl,?_⟩) ?_ ?_
  rotate_left
  ·intro w'
   go_simp
   with_reducible rfl
  rotate_left
  ·simp only [Act.put,sb_,sz_,ss_,i64_w,i32_w]
   rfl
  refine done_ (done_of HT_.out (by kernel_rfl)) ?_
  try go_wp2
  go_ret
  exact ⟨by rfl,by exact HB.out⟩
 subst c7
 have H1 : ((impl_FlowSize.f k a0_0 l0_1 l1).bind fun t449=>((impl_CutRoom.f k a0_0 l0_1 l2).bind fun t450=>(some (t449 == t450)))) = some r:=by rw [if_pos rfl] at H;exact H
 clear H
 have H:=H1
 clear H1
 replace H:=bs_ H
 obtain ⟨t449,A80,H⟩:=H
 replace H : ((impl_CutRoom.f k a0_0 l0_1 l2).bind fun t450=>(some (t449 == t450))) = some r:=H
 have A8:=am_ A80
 clear A80
 replace H:=bs_ H
 obtain ⟨t450,A90,H⟩:=H
 replace H : (some (t449 == t450)) = some r:=H
 have A9:=am_ A90
 clear A90
 obtain rfl:=Option.some.inj H
 go_enter Try.func40,Try.ntmps40
 try go_wp2_with (((with_reducible refine gate_dst (N:=3) rfl ?_);refine box_event ?hg (N:=3) ?hd (cs:=#[.int .i64 a0_0,.slice A0_1 l0_1.length c0_1]) (t:=30) ?hr ?_;(case hd=>rfl);(case hg=>rfl);(case hr=>(go_simp;done));intro gb446 hg w10 hbox hb;have n0_:=am_ (below_step HB.out hb);have n1_:=am_ (hbox);have n2_:=am_ ((by rw [hg];exact (below_size HB.out) : w.heap.size ≤ gb446));have n3_:=n2_;clear HB;have HB:=n0_;have BK446:=n1_;have GW446:=n2_;have GE446:=n3_;clear n0_ n1_ n2_ n3_ hb hbox hg))
 have n0_:=am_ (blk_drew BK446.out)
 have n1_:=am_ (below_drew1 HB.out)
 clear BK446
 clear HB
 have BK446:=n0_
 have HB:=n1_
 clear n0_ n1_
 refine start_ (n:=18) (S:=fun w'=>w'.cell? ⟨gb446,0,none⟩ = some (.int .i64 a0_0) ∧ w'.cell? ⟨gb446,1,none⟩ = some (.slice A0_1 l0_1.length c0_1)) (ds:=[]) fl15_0_ (by kernel_rfl) rfl rfl ⟨bc_ BK446.out 0,bc_ BK446.out 1⟩ (fun hHeld=>?_);refine with_tabW impl_Stopped.tab1 impl_Stopped.bits1 (fun HT_ HW_=>?_)
 generalize w10.drew = w11 at BK446 HB hHeld ⊢
 refine pure_ (i:=1) (N:=some 8) (v:=?_) (a':=?_) fl15_1_ rfl rfl (any_of HT_.out (by kernel_rfl)) (fun _ _ _ h=>h) (Or.inl ⟨by rfl,?_⟩) ?_ ?_
 rotate_left
 ·intro w'
  go_simp
  with_reducible rfl
 rotate_left
 ·simp only [Act.put,sb_,sz_,ss_,i64_w,i32_w]
  rfl
 refine take_ (i:=0) (N:=some 7) (v:=?_) (a':=?_) fl15_2_ rfl rfl (take_ofW HT_.out HW_.out (by kernel_rfl)) (fun _ _ _ h=>h) (Or.inl ⟨by rfl,?_⟩) hHeld ?_ ?_
 rotate_left
 ·rintro w' ⟨s0,s1⟩
  go_simp
  with_reducible rfl
 rotate_left
 ·simp only [Act.put,sb_,sz_,ss_,i64_w,i32_w]
  rfl
 refine one_ (i:=2) (N:=some 9) fl15_3_ rfl rfl (one_of HT_.out (by kernel_rfl)) (by decide) (fun K hK=>?_)
 refine goes_ Try.func31 (by kernel_rfl) rfl #[.agg #[.int .i64 a0_0,.slice A0_1 l0_1.length c0_1],.slice A1 l1.length c1] (by rfl) rfl rfl (by (try simp only [List.map_toArray,List.map_cons,List.map_nil]);rfl) ?_
 with_reducible refine (impl_FlowOk.calls k a0_0 _ _ l0_1 _ _ l1 true _ ?side1 ?side2 ?side3 ?side4 A4.out).mono ?_
 (case side1=>exact (Kd.C_below HR0_1.out HB.out))
 (case side2=>exact HC0_1.out)
 (case side3=>exact (Kd.C_below HR1.out HB.out))
 (case side4=>exact HC1.out)
 rintro e w12 ⟨rfl,hb⟩
 refine ⟨_,rfl,?_⟩
 have n0_:=am_ (blk_below BK446.out hb)
 have n1_:=am_ (below_step HB.out hb)
 clear BK446
 clear HB
 have BK446:=n0_
 have HB:=n1_
 clear n0_ n1_
 (try clear hb)
 (skip)
 (skip)
 (skip)
 refine hK.out _ _ ⟨bc_ BK446.out 0,bc_ BK446.out 1⟩ (fun hHeld=>?_)
 clear hK K
 refine norm_ (a':=?_) ?_ ?_
 rotate_left
 ·show Act.put _ (some 9) _ = _
  simp only [Act.put,sb_,sz_,ss_,i64_w,i32_w]
  rfl
 refine pure_ (i:=3) (N:=some 10) (v:=?_) (a':=?_) fl15_4_ rfl rfl (any_of HT_.out (by kernel_rfl)) (fun _ _ _ h=>h) (Or.inl ⟨by rfl,?_⟩) ?_ ?_
 rotate_left
 ·intro w'
  go_simp
  with_reducible rfl
 rotate_left
 ·simp only [Act.put,sb_,sz_,ss_,i64_w,i32_w]
  rfl
 refine pure_ (i:=5) (N:=some 12) (v:=?_) (a':=?_) fl15_5_ rfl rfl (any_of HT_.out (by kernel_rfl)) (fun _ _ _ h=>h) (Or.inl ⟨by rfl,?_⟩) ?_ ?_
 rotate_left
 ·intro w'
  go_simp
  with_reducible rfl
 rotate_left
 ·simp only [Act.put,sb_,sz_,ss_,i64_w,i32_w]
  rfl
 refine take_ (i:=4) (N:=some 11) (v:=?_) (a':=?_) fl15_6_ rfl rfl (take_ofW HT_.out HW_.out (by kernel_rfl)) (fun _ _ _ h=>h) (Or.inl ⟨by rfl,?_⟩) hHeld ?_ ?_
 rotate_left
 ·rintro w' ⟨s0,s1⟩
  go_simp
  with_reducible rfl
 rotate_left
 ·simp only [Act.put,sb_,sz_,ss_,i64_w,i32_w]
  rfl
 refine one_ (i:=6) (N:=some 13) fl15_7_ rfl rfl (one_of HT_.out (by kernel_rfl)) (by decide) (fun K hK=>?_)
 refine goes_ Try.func38 (by kernel_rfl) rfl #[.agg #[.int .i64 a0_0,.slice A0_1 l0_1.length c0_1],.slice A2 l2.length c2] (by rfl) rfl rfl (by (try simp only [List.map_toArray,List.map_cons,List.map_nil]);rfl) ?_
 with_reducible refine (impl_CutOk.calls k a0_0 _ _ l0_1 _ _ l2 true _ ?side1 ?side2 ?side3 ?side4 A6.out).mono ?_
 (case side1=>exact (Kd.C_below HR0_1.out HB.out))
 (case side2=>exact HC0_1.out)
 (case side3=>exact (Kd.C_below HR2.out HB.out))
 (case side4=>exact HC2.out)
 rintro e w13 ⟨rfl,hb⟩
 refine ⟨_,rfl,?_⟩
 have n0_:=am_ (blk_below BK446.out hb)
 have n1_:=am_ (below_step HB.out hb)
 clear BK446
 clear HB
 have BK446:=n0_
 have HB:=n1_
 clear n0_ n1_
 (try clear hb)
 (skip)
 (skip)
 (skip)
 refine hK.out _ _ ⟨bc_ BK446.out 0,bc_ BK446.out 1⟩ (fun hHeld=>?_)
 clear hK K
 refine norm_ (a':=?_) ?_ ?_
 rotate_left
 ·show Act.put _ (some 13) _ = _
  simp only [Act.put,sb_,sz_,ss_,i64_w,i32_w]
  rfl
 refine pure_ (i:=7) (N:=some 14) (v:=?_) (a':=?_) fl15_8_ rfl rfl (any_of HT_.out (by kernel_rfl)) (fun _ _ _ h=>h) (Or.inl ⟨by rfl,?_⟩) ?_ ?_
 rotate_left
 ·intro w'
  go_simp
  with_reducible rfl
 rotate_left
 ·simp only [Act.put,sb_,sz_,ss_,i64_w,i32_w]
  rfl
 refine pure_ (i:=8) (N:=some 15) (v:=?_) (a':=?_) fl15_9_ rfl rfl (any_of HT_.out (by kernel_rfl)) (fun _ _ _ h=>h) (Or.inl ⟨by rfl,?_⟩) ?_ ?_
 rotate_left
 ·intro w'
  go_simp
  with_reducible rfl
 rotate_left
 ·simp only [Act.put,sb_,sz_,ss_,i64_w,i32_w]
  rfl
 refine pure_ (i:=10) (N:=some 17) (v:=?_) (a':=?_) #[true,true,true,true,true,true,true,true,true,false,true,false,false,false,false,false,false,false] rfl rfl (any_of HT_.out (by kernel_rfl)) (fun _ _ _ h=>h) (Or.inl ⟨by rfl,?_⟩) ?_ ?_
 rotate_left
 ·intro w'
  go_simp
  with_reducible rfl
 rotate_left
 ·simp only [Act.put,sb_,sz_,ss_,i64_w,i32_w]
  rfl
 refine pure_ (i:=13) (N:=some 20) (v:=?_) (a':=?_) #[true,true,true,true,true,true,true,true,true,false,true,false,false,true,false,false,false,false] rfl rfl (any_of HT_.out (by kernel_rfl)) (fun _ _ _ h=>h) (Or.inl ⟨by rfl,?_⟩) ?_ ?_
 rotate_left
 ·intro w'
  go_simp
  with_reducible rfl
 rotate_left
 ·simp only [Act.put,sb_,sz_,ss_,i64_w,i32_w]
  rfl
 refine take_ (i:=9) (N:=some 16) (v:=?_) (a':=?_) #[true,true,true,true,true,true,true,true,true,true,true,false,false,true,false,false,false,false] rfl rfl (take_ofW HT_.out HW_.out (by kernel_rfl)) (fun _ _ _ h=>h) (Or.inl ⟨by rfl,?_⟩) hHeld ?_ ?_
 rotate_left
 ·rintro w' ⟨s0,s1⟩
  go_simp
  with_reducible rfl
 rotate_left
 ·simp only [Act.put,sb_,sz_,ss_,i64_w,i32_w]
  rfl
 refine take_ (i:=12) (N:=some 19) (v:=?_) (a':=?_) #[true,true,true,true,true,true,true,true,true,true,true,false,true,true,false,false,false,false] rfl rfl (take_ofW HT_.out HW_.out (by kernel_rfl)) (fun _ _ _ h=>h) (Or.inl ⟨by rfl,?_⟩) hHeld ?_ ?_
 rotate_left
 ·rintro w' ⟨s0,s1⟩
  go_simp
  with_reducible rfl
 rotate_left
 ·simp only [Act.put,sb_,sz_,ss_,i64_w,i32_w]
  rfl
 refine one_ (i:=11) (N:=some 18) fl15_10_ rfl rfl (one_of HT_.out (by kernel_rfl)) (by decide) (fun K hK=>?_)
 refine goes_ Try.func33 (by kernel_rfl) rfl #[.agg #[.int .i64 a0_0,.slice A0_1 l0_1.length c0_1],.slice A1 l1.length c1] (by rfl) rfl rfl (by (try simp only [List.map_toArray,List.map_cons,List.map_nil]);rfl) ?_
 with_reducible refine (impl_FlowSize.calls k a0_0 _ _ l0_1 _ _ l1 t449 _ ?side1 ?side2 ?side3 ?side4 A8.out).mono ?_
 (case side1=>exact (Kd.C_below HR0_1.out HB.out))
 (case side2=>exact HC0_1.out)
 (case side3=>exact (Kd.C_below HR1.out HB.out))
 (case side4=>exact HC1.out)
 rintro e w14 ⟨rfl,hb⟩
 refine ⟨_,rfl,?_⟩
 have n0_:=am_ (blk_below BK446.out hb)
 have n1_:=am_ (below_step HB.out hb)
 clear BK446
 clear HB
 have BK446:=n0_
 have HB:=n1_
 clear n0_ n1_
 (try clear hb)
 (skip)
 (skip)
 (skip)
 refine hK.out _ _ ⟨bc_ BK446.out 0,bc_ BK446.out 1⟩ (fun hHeld=>?_)
 clear hK K
 refine norm_ (a':=?_) ?_ ?_
 rotate_left
 ·show Act.put _ (some 18) _ = _
  simp only [Act.put,sb_,sz_,ss_,i64_w,i32_w]
  rfl
 refine one_ (i:=14) (N:=some 21) fl15_11_ rfl rfl (one_of HT_.out (by kernel_rfl)) (by decide) (fun K hK=>?_)
 refine goes_ Try.func39 (by kernel_rfl) rfl #[.agg #[.int .i64 a0_0,.slice A0_1 l0_1.length c0_1],.slice A2 l2.length c2] (by rfl) rfl rfl (by (try simp only [List.map_toArray,List.map_cons,List.map_nil]);rfl) ?_
 with_reducible refine (impl_CutRoom.calls k a0_0 _ _ l0_1 _ _ l2 t450 _ ?side1 ?side2 ?side3 ?side4 A9.out).mono ?_
 (case side1=>exact (Kd.C_below HR0_1.out HB.out))
 (case side2=>exact HC0_1.out)
 (case side3=>exact (Kd.C_below HR2.out HB.out))
 (case side4=>exact HC2.out)
 rintro e w15 ⟨rfl,hb⟩
 refine ⟨_,rfl,?_⟩
 have n0_:=am_ (blk_below BK446.out hb)
 have n1_:=am_ (below_step HB.out hb)
 clear BK446
 clear HB
 have BK446:=n0_
 have HB:=n1_
 clear n0_ n1_
 (try clear hb)
 (skip)
 (skip)
 (skip)
 refine hK.out _ _ ⟨bc_ BK446.out 0,bc_ BK446.out 1⟩ (fun hHeld=>?_)
 clear hK K
 refine norm_ (a':=?_) ?_ ?_
 rotate_left
 ·show Act.put _ (some 21) _ = _
  simp only [Act.put,sb_,sz_,ss_,i64_w,i32_w]
  rfl
 refine pure_ (i:=15) (N:=some 22) (v:=?_) (a':=?_) fl15_12_ rfl rfl (any_of HT_.out (by kernel_rfl)) (fun _ _ _ h=>h) (Or.inl ⟨by rfl,?_⟩) ?_ ?_
 rotate_left
 ·intro w'
  go_simp
  with_reducible rfl
 rotate_left
 ·simp only [Act.put,sb_,sz_,ss_,i64_w,i32_w]
  rfl
 refine pure_ (i:=16) (N:=some 23) (v:=?_) (a':=?_) fl15_13_ rfl rfl (any_of HT_.out (by kernel_rfl)) (fun _ _ _ h=>h) (Or.inl ⟨by rfl,?_⟩) ?_ ?_
 rotate_left
 ·intro w'
  go_simp
  with_reducible rfl
 rotate_left
 ·simp only [Act.put,sb_,sz_,ss_,i64_w,i32_w]
  rfl
 refine pure_ (i:=17) (N:=some 6) (v:=?_) (a':=?_) fl15_14_ rfl rfl (any_of HT_.out (by kernel_rfl)) (fun _ _ _ h=>h) (Or.inl ⟨by rfl,?_⟩) ?_ ?_
 rotate_left
 ·intro w'
  go_simp
  with_reducible rfl
 rotate_left
 ·simp only [Act.put,sb_,sz_,ss_,i64_w,i32_w]
  rfl
 refine done_ (done_of HT_.out (by kernel_rfl)) ?_
 try go_wp2
 go_ret
 exact ⟨by rfl,by exact HB.out⟩

/-! ### laws_sameBools: function 41 -/
def laws_sameBools.l0 : Nat → List Bool → List Bool → Int → Option (Bool)
 | 0, _, _, _ => none
 | k + 1, x0, x1, x5 => if x5 < (x0.length : Int) then (if 0 ≤ x5 then (if x5 < (x1.length : Int) then (if ((rdOf false x0 x5) != (rdOf false x1 x5)) = true then (some false) else (laws_sameBools.l0 k x0 x1 (wrap64 (x5 + 1)))) else (none)) else (none)) else (some true)
def laws_sameBools.f (k : Nat) (l0 : List Bool) (l1 : List Bool) : Option (Bool):=if (l0.length : Int) = (l1.length : Int) then (laws_sameBools.l0 k l0 l1 0) else (some false)
theorem laws_sameBools.mono_l : ∀ k,(∀ y0 y1 y2,LeO (laws_sameBools.l0 k y0 y1 y2) (laws_sameBools.l0 (k + 1) y0 y1 y2))
 | 0 => fun _ _ _ r h => by simp [laws_sameBools.l0] at h
 | k + 1 => by
  have ih0:=laws_sameBools.mono_l k
  ·intro y0 y1 y2
   unfold laws_sameBools.l0
   repeat' first
   | (with_reducible exact ih0 _ _ _)
   | (with_reducible exact LeO.refl _)
   | (with_reducible refine LeO.ite ?_ ?_)
theorem laws_sameBools.mono : ∀ a0 a1 k,LeO (laws_sameBools.f k a0 a1) (laws_sameBools.f (k + 1) a0 a1):=by
 intro a0 a1 k
 have ih0:=laws_sameBools.mono_l k
 unfold laws_sameBools.f
 repeat' first
   | (with_reducible exact ih0 _ _ _)
   | (with_reducible exact LeO.refl _)
   | (with_reducible refine LeO.ite ?_ ?_)
set_option maxHeartbeats 8000000 in
set_option maxRecDepth 100000 in
theorem laws_sameBools.calls (k : Nat) (A0 : Option Addr) (c0 : Nat) (l0 : List Bool) (A1 : Option Addr) (c1 : Nat) (l1 : List Bool) (r : Bool) (w : World) (hr0 : Kd.C Kd.bool w A0 l0.length l0) (hc0 : l0.length ≤ c0) (hr1 : Kd.C Kd.bool w A1 l1.length l1) (hc1 : l1.length ≤ c1) (h : laws_sameBools.f k l0 l1 = some r) :
  Calls Try.prog 41 #[.slice A0 l0.length c0,.slice A1 l1.length c1] w fun e w'=>e = .returned (.bool r) ∧ Drawn0 w w':=by
 have HR0:=am_ hr0
 have HC0:=am_ hc0
 clear hr0 hc0
 have HR1:=am_ hr1
 have HC1:=am_ hc1
 clear hr1 hc1
 have H : (if (l0.length : Int) = (l1.length : Int) then (laws_sameBools.l0 k l0 l1 0) else (some false)) = some r:=h
 clear h
 by_cases c3 : (l0.length : Int) = (l1.length : Int)
 rotate_left
 ·rw [if_neg c3] at H
  have c3b0 : ((l0.length : Int) == (l1.length : Int)) = false:=beq_eq_false_iff_ne.mpr c3
  have c3b1 : ((l0.length : Int) != (l1.length : Int)) = true:=bne_iff_ne.mpr c3
  have c3b2 : (l0.length == l1.length) = false:=by (simp at c3 ⊢;omega)
  obtain rfl:=Option.some.inj H
  go_enter Try.func41,Try.ntmps41
  go_wp2
  repeat (go_quiet (fail);try go_wp2)
  go_ret
  exact ⟨by rfl,by repeat (exact Drawn0.refl _)⟩
 rw [if_pos c3] at H
 have c3b0 : ((l0.length : Int) == (l1.length : Int)) = true:=beq_iff_eq.mpr c3
 have c3b1 : ((l0.length : Int) != (l1.length : Int)) = false:=bne_eq_false_iff_eq.mpr c3
 have c3b2 : (l0.length == l1.length) = true:=by (simp at c3 ⊢;omega)
 clear c3
 have H':=am_ H
 clear H
 go_enter Try.func41,Try.ntmps41
 go_wp2
 repeat (go_quiet (fail);try go_wp2)
 go_loopg [5] k (fun kq v5 w'=>∃ (x5_1 : Int),v5 = .int .i64 x5_1 ∧ Aside0 (laws_sameBools.l0 kq l0 l1 x5_1 = some r) ∧ Aside0 (kq ≤ k) ∧ Drawn0 w w')
 case atStart=>exact ⟨(0),(by rfl),H',⟨Nat.le_refl _⟩,by repeat (exact Drawn0.refl _)⟩
 case round =>
  clear H'
  try clear c1
  try clear p2
  try clear c3
  try clear c3b0
  try clear c3b1
  try clear c3b2
  obtain ⟨x5_1,rfl,HA,HK1,⟨m1,rfl⟩⟩:=hrel
  cases gk with
  | zero => exact absurd HA.out (by simp [laws_sameBools.l0])
  | succ k1 =>
   have H:=HA.out
   clear HA
   simp only [laws_sameBools.l0] at H
   by_cases c4 : x5_1 < (l0.length : Int)
   rotate_left
   ·rw [if_neg c4] at H
    have c4b0 : decide (x5_1 < (l0.length : Int)) = false:=decide_eq_false c4
    clear c4
    obtain rfl:=Option.some.inj H
    go_wp2
    repeat (go_quiet (fail);try go_wp2)
    go_ret
    exact ⟨by rfl,by repeat (first|exact Drawn0.refl _|apply Drawn0.step)⟩
   rw [if_pos c4] at H
   have c4b0 : decide (x5_1 < (l0.length : Int)) = true:=decide_eq_true c4
   clear c4
   by_cases c5 : 0 ≤ x5_1
   rotate_left
   ·rw [if_neg c5] at H
    exact absurd H (by simp)
   rw [if_pos c5] at H
   have c5b0 : decide (0 ≤ x5_1) = true:=decide_eq_true c5
   clear c5
   by_cases c6 : x5_1 < (l1.length : Int)
   rotate_left
   ·rw [if_neg c6] at H
    exact absurd H (by simp)
   rw [if_pos c6] at H
   have c6b0 : decide (x5_1 < (l1.length : Int)) = true:=decide_eq_true c6
   clear c6
   by_cases c7 : ((rdOf false l0 x5_1) != (rdOf false l1 x5_1)) = true
   ·rw [if_pos c7] at H
    have c7b0 : ((rdOf false l0 x5_1) != (rdOf false l1 x5_1)) = true:=c7
    (try (have c7b1 : decide ((rdOf false l0 x5_1) = (rdOf false l1 x5_1)) = false:=by simpa using c7))
    (try (have c7b2 : ((rdOf false l0 x5_1) == (rdOf false l1 x5_1)) = false:=by simpa using c7))
    (try (have c7b3 : ¬ ((rdOf false l0 x5_1) = (rdOf false l1 x5_1)):=by simpa using c7))
    clear c7
    obtain rfl:=Option.some.inj H
    have p451 : 0 ≤ (x5_1 : Int):=od_ (by (with_reducible assumption))
    have q451 : x5_1 < (l0.length : Int):=od_ (by (with_reducible assumption))
    obtain ⟨ad451,e451,hx451_0⟩:=Kd.at_bool HR0.out x5_1 p451 q451
    cases e451
    replace p451:=eq_true p451
    replace q451:=eq_true q451
    have p452 : 0 ≤ (x5_1 : Int):=od_ (by (with_reducible assumption))
    have q452 : x5_1 < (l1.length : Int):=od_ (by (with_reducible assumption))
    obtain ⟨ad452,e452,hx452_0⟩:=Kd.at_bool HR1.out x5_1 p452 q452
    cases e452
    replace p452:=eq_true p452
    replace q452:=eq_true q452
    go_wp2
    repeat (go_quiet (fail);try go_wp2)
    go_ret
    exact ⟨by rfl,by repeat (first|exact Drawn0.refl _|apply Drawn0.step)⟩
   rw [if_neg c7] at H
   have c7b0 : ((rdOf false l0 x5_1) != (rdOf false l1 x5_1)) = false:=by simpa using c7
   (try (have c7b1 : decide ((rdOf false l0 x5_1) = (rdOf false l1 x5_1)) = true:=by simpa using c7))
   (try (have c7b2 : ((rdOf false l0 x5_1) == (rdOf false l1 x5_1)) = true:=by simpa using c7))
   clear c7
   have H':=am_ H
   clear H
   have p451 : 0 ≤ (x5_1 : Int):=od_ (by (with_reducible assumption))
   have q451 : x5_1 < (l0.length : Int):=od_ (by (with_reducible assumption))
   obtain ⟨ad451,e451,hx451_0⟩:=Kd.at_bool HR0.out x5_1 p451 q451
   cases e451
   replace p451:=eq_true p451
   replace q451:=eq_true q451
   have p452 : 0 ≤ (x5_1 : Int):=od_ (by (with_reducible assumption))
   have q452 : x5_1 < (l1.length : Int):=od_ (by (with_reducible assumption))
   obtain ⟨ad452,e452,hx452_0⟩:=Kd.at_bool HR1.out x5_1 p452 q452
   cases e452
   replace p452:=eq_true p452
   replace q452:=eq_true q452
   go_wp2
   repeat (go_quiet (fail);try go_wp2)
   go_roundg k1
   case measure=>have:=HK1.out;omega
   case rel=>exact ⟨(wrap64 (x5_1 + 1)),(by rfl),H',⟨by have:=HK1.out;omega⟩,by repeat (first|exact Drawn0.refl _|apply Drawn0.step)⟩

end Go.Proofs.Ytgkpgigoonhgdaa.PFnMostCut
