-- Made by the session's wip/pp.py, a changed call of the kit's printer; Lean checks it.
import Derived.Test.YtgkpgigoonhgdaaPFnExactLeastCostx0
namespace Go.Proofs.Ytgkpgigoonhgdaa.PFnExactLeastCost
open Go.RowKit Go.Proofs.YtgkpgigoonhgdaaW.PrintWords Go.Proofs.YtgkpgigoonhgdaaW.PrintLast Go.Proofs.YtgkpgigoonhgdaaW.PrintMore
attribute [local go_sem] max2_int min2_int max_two min_two max_three min_three max_four min_four   -- for this text's walks alone
set_option linter.unusedVariables false
set_option linter.unusedSimpArgs false

abbrev fl1_0_ : Array Bool:=#[false,false,false,false,false,false,false,false,false,false]
abbrev fl1_1_ : Array Bool:=#[true,false,false,false,false,false,false,false,false,false]
abbrev fl1_2_ : Array Bool:=#[true,true,false,false,false,false,false,false,false,false]
abbrev fl1_3_ : Array Bool:=#[true,true,true,false,false,false,false,false,false,false]
abbrev fl1_4_ : Array Bool:=#[true,true,true,false,true,false,false,false,false,false]
abbrev fl1_5_ : Array Bool:=#[true,true,true,false,true,true,false,false,false,false]
abbrev fl1_6_ : Array Bool:=#[true,true,true,false,true,true,true,false,false,false]
abbrev fl1_7_ : Array Bool:=#[true,true,true,true,true,true,true,false,false,false]
abbrev fl1_8_ : Array Bool:=#[true,true,true,true,true,true,true,true,false,false]
abbrev fl1_9_ : Array Bool:=#[true,true,true,true,true,true,true,true,true,false]
abbrev fl1_10_ : Array Bool:=#[true,true,true,true,true,true,true,true,true,true]
/-! ### laws_szArcS: function 44 -/
def laws_szArcS.f (l0 : List (S91)) (a1 : Int) : Option (Int):=if (wrap64 (a1 - (l0.length : Int))) < 0 then (some (-1)) else (some (wrap64 (a1 - (l0.length : Int))))
set_option maxHeartbeats 8000000 in
set_option maxRecDepth 100000 in
theorem laws_szArcS.calls (A0 : Option Addr) (c0 : Nat) (l0 : List (S91)) (a1 : Int) (r : Int) (w : World) (hr0 : Kd.C k91 w A0 l0.length l0) (hc0 : l0.length ≤ c0) (h : laws_szArcS.f l0 a1 = some r) :
  Calls Try.prog 44 #[.slice A0 l0.length c0,.int .i64 a1] w fun e w'=>e = .returned (.int .i64 r) ∧ Drawn0 w w':=by
 have HR0:=am_ hr0
 have HC0:=am_ hc0
 clear hr0 hc0
 have H : (if (wrap64 (a1 - (l0.length : Int))) < 0 then (some (-1)) else (some (wrap64 (a1 - (l0.length : Int))))) = some r:=h
 clear h
 by_cases c3 : (wrap64 (a1 - (l0.length : Int))) < 0
 ·rw [if_pos c3] at H
  have c3b0 : decide ((wrap64 (a1 - (l0.length : Int))) < 0) = true:=decide_eq_true c3
  clear c3
  obtain rfl:=Option.some.inj H
  go_enter Try.func44,Try.ntmps44
  go_wp2
  go_ret
  exact ⟨by rfl,by repeat (exact Drawn0.refl _)⟩
 rw [if_neg c3] at H
 have c3b0 : decide ((wrap64 (a1 - (l0.length : Int))) < 0) = false:=decide_eq_false c3
 clear c3
 obtain rfl:=Option.some.inj H
 go_enter Try.func44,Try.ntmps44
 go_wp2
 go_ret
 exact ⟨by rfl,by repeat (exact Drawn0.refl _)⟩

/-! ### laws_szNet: function 10 -/
def laws_szNet.f (a0_0 : Int) (l0_1 : List (S91)) (a1 : Int) : Option (Int):=(laws_szArcS.f l0_1 a1).bind fun t102=>(if t102 < 0 then (some (-1)) else (some t102))
set_option maxHeartbeats 8000000 in
set_option maxRecDepth 100000 in
theorem laws_szNet.calls (a0_0 : Int) (A0_1 : Option Addr) (c0_1 : Nat) (l0_1 : List (S91)) (a1 : Int) (r : Int) (w : World) (hr0_1 : Kd.C k91 w A0_1 l0_1.length l0_1) (hc0_1 : l0_1.length ≤ c0_1) (h : laws_szNet.f a0_0 l0_1 a1 = some r) :
  Calls Try.prog 10 #[.agg #[.int .i64 a0_0,.slice A0_1 l0_1.length c0_1],.int .i64 a1] w fun e w'=>e = .returned (.int .i64 r) ∧ Below w.heap.size w w':=by
 have hu24:=Try.underlying24
 have HR0_1:=am_ hr0_1
 have HC0_1:=am_ hc0_1
 clear hr0_1 hc0_1
 have HB:=am_ (Below.refl w.heap.size w)
 have H : ((laws_szArcS.f l0_1 a1).bind fun t102=>(if t102 < 0 then (some (-1)) else (some t102))) = some r:=h
 clear h
 replace H:=Option.bind_eq_some_iff.mp H
 obtain ⟨t102,A30,H⟩:=H
 replace H : (if t102 < 0 then (some (-1)) else (some t102)) = some r:=H
 have A3:=am_ A30
 clear A30
 by_cases c4 : t102 < 0
 ·rw [if_pos c4] at H
  have c4b0 : decide (t102 < 0) = true:=decide_eq_true c4
  clear c4
  obtain rfl:=Option.some.inj H
  go_enter Try.func10,Try.ntmps10
  go_wp2_with (first|((with_reducible refine gate_dst (N:=2) rfl ?_);refine box_event ?hg (N:=2) ?hd (cs:=#[.int .i64 a0_0,.slice A0_1 l0_1.length c0_1]) (t:=24) ?hr ?_;(case hd=>rfl);(case hg=>rfl);(case hr=>(go_simp;done));intro gb101 hg w5 hbox hb;have n0_:=am_ (below_step HB.out hb);have n1_:=am_ (hbox);have n2_:=am_ ((by rw [hg];exact (below_size HB.out) : w.heap.size ≤ gb101));have n3_:=n2_;clear HB;have HB:=n0_;have BK101:=n1_;have GW101:=n2_;have GE101:=n3_;clear n0_ n1_ n2_ n3_ hb hbox hg;have hcz6_0 : w5.cell? ⟨gb101,0,none⟩ = some (.int .i64 a0_0):=(blk_cell BK101.out 0).trans rfl;have hcz6_1 : w5.cell? ⟨gb101,1,none⟩ = some (.slice A0_1 l0_1.length c0_1):=(blk_cell BK101.out 1).trans rfl;have hfz6_0:=blk_frozen BK101.out 0;have hfz6_1:=blk_frozen BK101.out 1)|((with_reducible refine gate_callee (f:=44) rfl ?_);refine goesL_ (some 8) rfl rfl Try.func44 (by kernel_rfl) rfl #[.slice A0_1 l0_1.length c0_1,.int .i64 a1] rfl (by (try simp only [List.map_toArray,List.map_cons,List.map_nil]);rfl) ?_;(with_reducible refine (laws_szArcS.calls _ _ l0_1 a1 t102 _ ?side1 ?side2 A3.out).mono ?_);(case side1=>exact (Kd.C_below HR0_1.out HB.out));(case side2=>exact HC0_1.out);rintro e w' ⟨rfl,⟨nd,rfl⟩⟩;refine ⟨_,rfl,?_⟩))
  go_ret
  exact ⟨by rfl,by repeat ((with_reducible first|exact HB.out|apply pw_below_drewN))⟩
 rw [if_neg c4] at H
 have c4b0 : decide (t102 < 0) = false:=decide_eq_false c4
 clear c4
 obtain rfl:=Option.some.inj H
 go_enter Try.func10,Try.ntmps10
 go_wp2_with (first|((with_reducible refine gate_dst (N:=2) rfl ?_);refine box_event ?hg (N:=2) ?hd (cs:=#[.int .i64 a0_0,.slice A0_1 l0_1.length c0_1]) (t:=24) ?hr ?_;(case hd=>rfl);(case hg=>rfl);(case hr=>(go_simp;done));intro gb101 hg w7 hbox hb;have n0_:=am_ (below_step HB.out hb);have n1_:=am_ (hbox);have n2_:=am_ ((by rw [hg];exact (below_size HB.out) : w.heap.size ≤ gb101));have n3_:=n2_;clear HB;have HB:=n0_;have BK101:=n1_;have GW101:=n2_;have GE101:=n3_;clear n0_ n1_ n2_ n3_ hb hbox hg;have hcz8_0 : w7.cell? ⟨gb101,0,none⟩ = some (.int .i64 a0_0):=(blk_cell BK101.out 0).trans rfl;have hcz8_1 : w7.cell? ⟨gb101,1,none⟩ = some (.slice A0_1 l0_1.length c0_1):=(blk_cell BK101.out 1).trans rfl;have hfz8_0:=blk_frozen BK101.out 0;have hfz8_1:=blk_frozen BK101.out 1)|((with_reducible refine gate_callee (f:=44) rfl ?_);refine goesL_ (some 8) rfl rfl Try.func44 (by kernel_rfl) rfl #[.slice A0_1 l0_1.length c0_1,.int .i64 a1] rfl (by (try simp only [List.map_toArray,List.map_cons,List.map_nil]);rfl) ?_;(with_reducible refine (laws_szArcS.calls _ _ l0_1 a1 t102 _ ?side1 ?side2 A3.out).mono ?_);(case side1=>exact (Kd.C_below HR0_1.out HB.out));(case side2=>exact HC0_1.out);rintro e w' ⟨rfl,⟨nd,rfl⟩⟩;refine ⟨_,rfl,?_⟩))
 go_ret
 exact ⟨by rfl,by repeat ((with_reducible first|exact HB.out|apply pw_below_drewN))⟩

/-! ### laws_toArc: function 69 -/
def laws_toArc.f (a0_0 : Int) (a0_1 : Int) (a0_2 : Int) (a0_3 : Int) : Option (Int × Int × Int × Int):=some (a0_0,a0_1,a0_2,a0_3)
set_option maxHeartbeats 8000000 in
set_option maxRecDepth 100000 in
theorem laws_toArc.calls (a0_0 : Int) (a0_1 : Int) (a0_2 : Int) (a0_3 : Int) (r1 : Int) (r2 : Int) (r3 : Int) (r4 : Int) (w : World) (h : laws_toArc.f a0_0 a0_1 a0_2 a0_3 = some (r1,r2,r3,r4)) :
  Calls Try.prog 69 #[.agg #[.int .i64 a0_0,.int .i64 a0_1,.int .i64 a0_2,.int .i64 a0_3]] w fun e w'=>e = .returned (.agg #[.int .i64 r1,.int .i64 r2,.int .i64 r3,.int .i64 r4]) ∧ Below w.heap.size w w':=by
 have hu91:=Try.underlying91
 have hu67:=Try.underlying67
 have HB:=am_ (Below.refl w.heap.size w)
 have H : (some (a0_0,a0_1,a0_2,a0_3)) = some (r1,r2,r3,r4):=h
 clear h
 simp only [Option.some.injEq,Prod.mk.injEq] at H
 obtain ⟨rfl,rfl,rfl,rfl⟩:=H
 go_enter Try.func69,Try.ntmps69
 go_wp2_with (first|((with_reducible refine gate_dst (N:=1) rfl ?_);refine box_event ?hg (N:=1) ?hd (cs:=#[.int .i64 a0_0,.int .i64 a0_1,.int .i64 a0_2,.int .i64 a0_3]) (t:=91) ?hr ?_;(case hd=>rfl);(case hg=>rfl);(case hr=>(go_simp;done));intro gb103 hg w2 hbox hb;have n0_:=am_ (below_step HB.out hb);have n1_:=am_ (hbox);have n2_:=am_ ((by rw [hg];exact (below_size HB.out) : w.heap.size ≤ gb103));have n3_:=n2_;clear HB;have HB:=n0_;have BK103:=n1_;have GW103:=n2_;have GE103:=n3_;clear n0_ n1_ n2_ n3_ hb hbox hg)|((with_reducible refine gate_dst (N:=2) rfl ?_);refine box_event ?hg (N:=2) ?hd (cs:=#[.int .i64 0,.int .i64 0,.int .i64 0,.int .i64 0]) (t:=67) ?hr ?_;(case hd=>rfl);(case hg=>rfl);(case hr=>(go_simp;done));intro gb104 hg w3 hbox hb;have n0_:=am_ (blk_below BK103.out hb);have n1_:=am_ (below_step HB.out hb);have n2_:=am_ (hbox);have n3_:=am_ ((by rw [hg];exact (below_size HB.out) : w.heap.size ≤ gb104));have n4_:=n3_;have n5_:=am_ ((by rw [hg];exact Nat.ne_of_lt (blk_lt (g:=gb103) (o:=.cells #[.int .i64 a0_0,.int .i64 a0_1,.int .i64 a0_2,.int .i64 a0_3] 91 (0,0)) BK103.out) : gb103 ≠ gb104));have n6_:=am_ ((by rw [hg];exact Nat.ne_of_gt (blk_lt (g:=gb103) (o:=.cells #[.int .i64 a0_0,.int .i64 a0_1,.int .i64 a0_2,.int .i64 a0_3] 91 (0,0)) BK103.out) : gb104 ≠ gb103));clear BK103 HB;have BK103:=n0_;have HB:=n1_;have BK104:=n2_;have GW104:=n3_;have GE104:=n4_;have NB103_104:=n5_;have NB104_103:=n6_;clear n0_ n1_ n2_ n3_ n4_ n5_ n6_ hb hbox hg)|((with_reducible refine gate_dst (N:=3) rfl ?_);refine box_event ?hg (N:=3) ?hd (cs:=#[.int .i64 0,.int .i64 0,.int .i64 0,.int .i64 0]) (t:=67) ?hr ?_;(case hd=>rfl);(case hg=>rfl);(case hr=>(go_simp;done));intro gb105 hg w4 hbox hb;have n0_:=am_ (blk_below BK103.out hb);have n1_:=am_ (blk_below BK104.out hb);have n2_:=am_ (below_step HB.out hb);have n3_:=am_ (hbox);have n4_:=am_ ((by rw [hg];exact (below_size HB.out) : w.heap.size ≤ gb105));have n5_:=n4_;have n6_:=am_ ((by rw [hg];exact Nat.ne_of_lt (blk_lt (g:=gb103) (o:=.cells #[.int .i64 a0_0,.int .i64 a0_1,.int .i64 a0_2,.int .i64 a0_3] 91 (0,0)) BK103.out) : gb103 ≠ gb105));have n7_:=am_ ((by rw [hg];exact Nat.ne_of_gt (blk_lt (g:=gb103) (o:=.cells #[.int .i64 a0_0,.int .i64 a0_1,.int .i64 a0_2,.int .i64 a0_3] 91 (0,0)) BK103.out) : gb105 ≠ gb103));have n8_:=am_ ((by rw [hg];exact Nat.ne_of_lt (blk_lt (g:=gb104) (o:=.cells #[.int .i64 0,.int .i64 0,.int .i64 0,.int .i64 0] 67 (0,0)) BK104.out) : gb104 ≠ gb105));have n9_:=am_ ((by rw [hg];exact Nat.ne_of_gt (blk_lt (g:=gb104) (o:=.cells #[.int .i64 0,.int .i64 0,.int .i64 0,.int .i64 0] 67 (0,0)) BK104.out) : gb105 ≠ gb104));clear BK103 BK104 HB;have BK103:=n0_;have BK104:=n1_;have HB:=n2_;have BK105:=n3_;have GW105:=n4_;have GE105:=n5_;have NB103_105:=n6_;have NB105_103:=n7_;have NB104_105:=n8_;have NB105_104:=n9_;clear n0_ n1_ n2_ n3_ n4_ n5_ n6_ n7_ n8_ n9_ hb hbox hg;have hnb5:=NB103_104.out;have hnc5:=NB104_103.out;have hnb6:=NB103_105.out;have hnc6:=NB105_103.out;have hcz7_0 : w4.cell? ⟨gb103,0,none⟩ = some (.int .i64 a0_0):=(blk_cell BK103.out 0).trans rfl;have hcz7_1 : w4.cell? ⟨gb103,1,none⟩ = some (.int .i64 a0_1):=(blk_cell BK103.out 1).trans rfl;have hcz7_2 : w4.cell? ⟨gb103,2,none⟩ = some (.int .i64 a0_2):=(blk_cell BK103.out 2).trans rfl;have hcz7_3 : w4.cell? ⟨gb103,3,none⟩ = some (.int .i64 a0_3):=(blk_cell BK103.out 3).trans rfl;have hfz7_0:=blk_frozen BK103.out 0;have hfz7_1:=blk_frozen BK103.out 1;have hfz7_2:=blk_frozen BK103.out 2;have hfz7_3:=blk_frozen BK103.out 3;have hnb8:=NB105_104.out;have hnc8:=NB104_105.out;have hcz9_0 : w4.cell? ⟨gb105,0,none⟩ = some (.int .i64 0):=(blk_cell BK105.out 0).trans rfl;have hcz9_1 : w4.cell? ⟨gb105,1,none⟩ = some (.int .i64 0):=(blk_cell BK105.out 1).trans rfl;have hcz9_2 : w4.cell? ⟨gb105,2,none⟩ = some (.int .i64 0):=(blk_cell BK105.out 2).trans rfl;have hcz9_3 : w4.cell? ⟨gb105,3,none⟩ = some (.int .i64 0):=(blk_cell BK105.out 3).trans rfl;have hfz9_0:=blk_frozen BK105.out 0;have hfz9_1:=blk_frozen BK105.out 1;have hfz9_2:=blk_frozen BK105.out 2;have hfz9_3:=blk_frozen BK105.out 3;have hcz10_0 : w4.cell? ⟨gb104,0,none⟩ = some (.int .i64 0):=(blk_cell BK104.out 0).trans rfl;have hcz10_1 : w4.cell? ⟨gb104,1,none⟩ = some (.int .i64 0):=(blk_cell BK104.out 1).trans rfl;have hcz10_2 : w4.cell? ⟨gb104,2,none⟩ = some (.int .i64 0):=(blk_cell BK104.out 2).trans rfl;have hcz10_3 : w4.cell? ⟨gb104,3,none⟩ = some (.int .i64 0):=(blk_cell BK104.out 3).trans rfl;have hfz10_0:=blk_frozen BK104.out 0;have hfz10_1:=blk_frozen BK104.out 1;have hfz10_2:=blk_frozen BK104.out 2;have hfz10_3:=blk_frozen BK104.out 3))
 refine bodyPost_ret (results_cell_row rfl _ _ gb104 67 #[.int .i64 a0_0,.int .i64 a0_1,.int .i64 a0_2,.int .i64 a0_3] (0,0) _ rfl (by refine blk_put (cs:=#[.int .i64 a0_0,.int .i64 a0_1,.int .i64 a0_2,.int .i64 0]) ?_ 3 _ rfl;refine blk_put (cs:=#[.int .i64 a0_0,.int .i64 a0_1,.int .i64 0,.int .i64 0]) ?_ 2 _ rfl;refine blk_put (cs:=#[.int .i64 a0_0,.int .i64 0,.int .i64 0,.int .i64 0]) ?_ 1 _ rfl;refine blk_put (cs:=#[.int .i64 0,.int .i64 0,.int .i64 0,.int .i64 0]) ?_ 0 _ rfl;refine blk_far ?_ NB104_105.out _;refine blk_far ?_ NB104_105.out _;refine blk_far ?_ NB104_105.out _;refine blk_far ?_ NB104_105.out _;exact BK104.out) Try.underlying67 rfl (by kernel_rfl)) rfl ?_
 exact ⟨by rfl,by repeat ((with_reducible first|exact HB.out|refine below_set ?_ GE104.out|refine below_set ?_ GE105.out))⟩

/-! ### laws_toArcS: function 46 -/
def laws_toArcS.l0 : Nat → List (S91) → List (S67) → Int → Option ((List (S67)))
 | 0, _, _, _ => none
 | k + 1, x0, x3, x4 => if x4 < (x0.length : Int) then (if 0 ≤ x4 then ((laws_toArc.f ((rd_T91 x0 x4).f0) ((rd_T91 x0 x4).f1) ((rd_T91 x0 x4).f2) ((rd_T91 x0 x4).f3)).bind fun bt110 => (if x4 < (x3.length : Int) then (laws_toArcS.l0 k x0 (x3.set (x4 : Int).toNat (⟨bt110.1, bt110.2.1, bt110.2.2.1, bt110.2.2.2⟩ : S67)) (wrap64 (x4 + 1))) else (none))) else (none)) else (some x3)
def laws_toArcS.f (k : Nat) (l0 : List (S91)) : Option ((List (S67))):=if 0 ≤ (l0.length : Int) then (if ((l0.length : Int) : Int).toNat ≤ 8796093022208 then (laws_toArcS.l0 k l0 (List.replicate ((l0.length : Int) : Int).toNat z67) 0) else (none)) else (none)
theorem laws_toArcS.mono_l : ∀ k,(∀ y0 y1 y2,LeO (laws_toArcS.l0 k y0 y1 y2) (laws_toArcS.l0 (k + 1) y0 y1 y2))
 | 0 => fun _ _ _ r h => by simp [laws_toArcS.l0] at h
 | k + 1 => by
  have ih0:=laws_toArcS.mono_l k
  ·intro y0 y1 y2
   unfold laws_toArcS.l0
   repeat' first
   | (with_reducible exact ih0 _ _ _)
   | (with_reducible exact LeO.refl _)
   | (with_reducible refine LeO.ite ?_ ?_)
   | (with_reducible refine LeO.bind ?_ (fun _ => ?_))
theorem laws_toArcS.mono : ∀ a0 k,LeO (laws_toArcS.f k a0) (laws_toArcS.f (k + 1) a0):=by
 intro a0 k
 have ih0:=laws_toArcS.mono_l k
 unfold laws_toArcS.f
 repeat' first
   | (with_reducible exact ih0 _ _ _)
   | (with_reducible exact LeO.refl _)
   | (with_reducible refine LeO.ite ?_ ?_)
set_option maxHeartbeats 8000000 in
set_option maxRecDepth 100000 in
theorem laws_toArcS.calls (k : Nat) (A0 : Option Addr) (c0 : Nat) (l0 : List (S91)) (r : List (S67)) (w : World) (hr0 : Kd.C k91 w A0 l0.length l0) (hc0 : l0.length ≤ c0) (h : laws_toArcS.f k l0 = some r) :
  Calls Try.prog 46 #[.slice A0 l0.length c0] w fun e w'=>∃ v0_ : Value,e = .returned (v0_) ∧ Kd.R k67 67 w' w.heap.size (fun _=>True) v0_ r ∧ Below w.heap.size w w':=by
 have hu91:=Try.underlying91
 have hu67:=Try.underlying67
 have HR0:=am_ hr0
 have HC0:=am_ hc0
 clear hr0 hc0
 have HB:=am_ (Below.refl w.heap.size w)
 have H : (if 0 ≤ (l0.length : Int) then (if ((l0.length : Int) : Int).toNat ≤ 8796093022208 then (laws_toArcS.l0 k l0 (List.replicate ((l0.length : Int) : Int).toNat z67) 0) else (none)) else (none)) = some r:=h
 clear h
 by_cases c2 : 0 ≤ (l0.length : Int)
 rotate_left
 ·rw [if_neg c2] at H
  exact absurd H (by simp)
 rw [if_pos c2] at H
 have c2b0:=eq_true c2
 have c2b1 : decide (0 ≤ (l0.length : Int)) = true:=decide_eq_true c2
 clear c2
 by_cases c3 : ((l0.length : Int) : Int).toNat ≤ 8796093022208
 rotate_left
 ·rw [if_neg c3] at H
  exact absurd H (by simp)
 rw [if_pos c3] at H
 have c3b0:=eq_true c3
 have c3b1 : decide (((l0.length : Int) : Int).toNat ≤ 8796093022208) = true:=decide_eq_true c3
 clear c3
 obtain ⟨y106,hy106⟩ : ∃ y_ : List (S67),y_ = (List.replicate ((l0.length : Int) : Int).toNat z67):=⟨_,rfl⟩
 replace H : (laws_toArcS.l0 k l0 y106 0) = some r:=by (rw [hy106];with_reducible exact H)
 have Ny106:=am_ hy106
 clear hy106
 have H':=am_ H
 clear H
 go_enter Try.func46,Try.ntmps46
 go_wp2_with (((with_reducible refine gate_dst (N:=7) rfl ?_);refine Kd.R_make k67 _ 67 rfl (N:=7) rfl 28 _ _ rfl (l0.length : Int) rfl rfl Try.underlying28 (.agg #[(.int .i64 0),(.int .i64 0),(.int .i64 0),(.int .i64 0)]) 32 info67 rfl (by decide) (by omega) z67 (ok:=fun _=>True) (okp:=fun _=>True) (k67_mkM _ _ _ z67 ) (fun _ hk=>hk) trivial (of_decide_eq_true (by (with_reducible assumption))) (Nat.le_trans (Nat.mul_le_mul_right _ (of_decide_eq_true (by (with_reducible assumption)) : (l0.length : Int).toNat ≤ 8796093022208)) (by omega)) (Below.refl _ _) (Nat.le_refl _) ?_;intro v107 w4 ho5 hb hg_ hnew_;clear hg_ hnew_;(rw [← Ny106.out] at ho5);have n0_:=am_ (Kd.R_lower ho5 (below_size HB.out));have n1_:=am_ (below_step HB.out hb);clear HB;have HO108:=n0_;have HB:=n1_;clear n0_ n1_ hb ho5))
 go_loopg [4] k (fun kq v4 w'=>∃ (x3_1 : List (S67)) (x4_1 : Int),v4 = .int .i64 x4_1 ∧ Aside0 (laws_toArcS.l0 kq l0 x3_1 x4_1 = some r) ∧ Aside0 (kq ≤ k) ∧ Aside0 (Kd.R k67 67 w' w.heap.size (fun _=>True) v107 x3_1) ∧ Aside0 (Below w.heap.size w w'))
 case atStart=>exact ⟨(y106),(0),(by rfl),H',⟨Nat.le_refl _⟩,⟨by exact HO108.out⟩,⟨by exact HB.out⟩⟩
 case round =>
  clear H'
  try clear c2
  try clear c2b0
  try clear c2b1
  try clear p2
  try clear c3
  try clear c3b0
  try clear c3b1
  try clear c4
  obtain ⟨x3_1,x4_1,rfl,HA,HK1,HO_3,HB⟩:=hrel
  cases gk with
  | zero => exact absurd HA.out (by simp [laws_toArcS.l0])
  | succ k1 =>
   have H:=HA.out
   clear HA
   simp only [laws_toArcS.l0] at H
   by_cases c6 : x4_1 < (l0.length : Int)
   rotate_left
   ·rw [if_neg c6] at H
    have c6b0 : decide (x4_1 < (l0.length : Int)) = false:=decide_eq_false c6
    clear c6
    obtain rfl:=Option.some.inj H
    go_wp2
    go_ret
    exact ⟨_,by rfl,by exact HO_3.out,by exact HB.out⟩
   rw [if_pos c6] at H
   have c6b0 : decide (x4_1 < (l0.length : Int)) = true:=decide_eq_true c6
   clear c6
   by_cases c7 : 0 ≤ x4_1
   rotate_left
   ·rw [if_neg c7] at H
    exact absurd H (by simp)
   rw [if_pos c7] at H
   have c7b0 : decide (0 ≤ x4_1) = true:=decide_eq_true c7
   clear c7
   replace H:=Option.bind_eq_some_iff.mp H
   obtain ⟨⟨t110,t111,t112,t113⟩,A80,H⟩:=H
   replace H : (if x4_1 < (x3_1.length : Int) then (laws_toArcS.l0 k1 l0 (x3_1.set (x4_1 : Int).toNat (⟨t110,t111,t112,t113⟩ : S67)) (wrap64 (x4_1 + 1))) else (none)) = some r:=H
   have A8:=am_ A80
   clear A80
   by_cases c9 : x4_1 < (x3_1.length : Int)
   rotate_left
   ·rw [if_neg c9] at H
    exact absurd H (by simp)
   rw [if_pos c9] at H
   have c9b0 : decide (x4_1 < (x3_1.length : Int)) = true:=decide_eq_true c9
   clear c9
   obtain ⟨y114,hy114⟩ : ∃ y_ : List (S67),y_ = (x3_1.set (x4_1 : Int).toNat (⟨t110,t111,t112,t113⟩ : S67)):=⟨_,rfl⟩
   replace H : (laws_toArcS.l0 k1 l0 y114 (wrap64 (x4_1 + 1))) = some r:=by (rw [hy114];with_reducible exact H)
   have Ny114:=am_ hy114
   clear hy114
   have H':=am_ H
   clear H
   have p109 : 0 ≤ (x4_1 : Int):=of_decide_eq_true (by (with_reducible assumption))
   have q109 : x4_1 < (l0.length : Int):=of_decide_eq_true (by (with_reducible assumption))
   obtain ⟨ad109,e109,hx109_0,hx109_1,hx109_2,hx109_3⟩:=at_T91 HR0.out x4_1 p109 q109
   cases e109
   replace hx109_0:=kc_ HB.out hx109_0
   replace hx109_1:=kc_ HB.out hx109_1
   replace hx109_2:=kc_ HB.out hx109_2
   replace hx109_3:=kc_ HB.out hx109_3
   replace p109:=eq_true p109
   replace q109:=eq_true q109
   go_wp2_with (first|((with_reducible refine gate_callee (f:=69) rfl ?_);refine goesL_ (some 20) rfl rfl Try.func69 (by kernel_rfl) rfl #[.agg #[.int .i64 ((rd_T91 l0 x4_1).f0),.int .i64 ((rd_T91 l0 x4_1).f1),.int .i64 ((rd_T91 l0 x4_1).f2),.int .i64 ((rd_T91 l0 x4_1).f3)]] rfl (by (try simp only [List.map_toArray,List.map_cons,List.map_nil]);rfl) ?_;(with_reducible refine (laws_toArc.calls ((rd_T91 l0 x4_1).f0) ((rd_T91 l0 x4_1).f1) ((rd_T91 l0 x4_1).f2) ((rd_T91 l0 x4_1).f3) t110 t111 t112 t113 _ A8.out).mono ?_);rintro e w11 ⟨rfl,hb⟩;refine ⟨_,rfl,?_⟩;have n0_:=am_ (Kd.R_below HO_3.out hb);have n1_:=am_ (below_step HB.out hb);clear HO_3 HB;have HO_3:=n0_;have HB:=n1_;clear n0_ n1_;(try clear hb);have p10 : 0 ≤ (x4_1 : Int):=of_decide_eq_true (by (with_reducible assumption));have q10 : (x4_1 : Int) < ((x3_1.length : Int) : Int):=of_decide_eq_true (by (with_reducible assumption));obtain ⟨go10,co10,eo10,gb10,gl10,cl10,HG10⟩:=Kd.R_form HO_3.out (by omega);(cases eo10);have GB10:=am_ gb10;have GG10:=am_ HG10;clear gb10 gl10 HG10;obtain ⟨ce10,hcl10,hM10,hcc10,hfr10⟩:=Kd.R_elem HO_3.out z67 (x4_1 : Int) p10 q10;obtain rfl:=k67_openM hM10;have hx10_0 : w11.cell? ⟨go10,(x4_1 : Int).toNat * 4,none⟩ = some (.int .i64 ((rd_T67 x3_1 x4_1).f0)):=hcc10 0 _ rfl;have hx10_1 : w11.cell? ⟨go10,(x4_1 : Int).toNat * 4 + 1,none⟩ = some (.int .i64 ((rd_T67 x3_1 x4_1).f1)):=hcc10 1 _ rfl;have hx10_2 : w11.cell? ⟨go10,(x4_1 : Int).toNat * 4 + 2,none⟩ = some (.int .i64 ((rd_T67 x3_1 x4_1).f2)):=hcc10 2 _ rfl;have hx10_3 : w11.cell? ⟨go10,(x4_1 : Int).toNat * 4 + 3,none⟩ = some (.int .i64 ((rd_T67 x3_1 x4_1).f3)):=hcc10 3 _ rfl;have hf10_0 : w11.frozen? ⟨go10,(x4_1 : Int).toNat * 4,none⟩ = false:=hfr10 0;have hf10_1 : w11.frozen? ⟨go10,(x4_1 : Int).toNat * 4 + 1,none⟩ = false:=hfr10 1;have hf10_2 : w11.frozen? ⟨go10,(x4_1 : Int).toNat * 4 + 2,none⟩ = false:=hfr10 2;have hf10_3 : w11.frozen? ⟨go10,(x4_1 : Int).toNat * 4 + 3,none⟩ = false:=hfr10 3;clear hcl10 hcc10 hfr10 hM10;replace p10:=eq_true p10;replace q10:=eq_true q10;have HX12:=am_ (show Kd.R k67 67 w11 w.heap.size (fun _=>True) (.slice (some ⟨go10,0,none⟩) x3_1.length co10) x3_1 from HO_3.out);obtain ⟨ce12,hcl12,hM12,hcc12,hfr12⟩:=Kd.R_elem HX12.out z67 (x4_1 : Int) (of_decide_eq_true (by (with_reducible assumption))) (by have h_ : (x4_1 : Int) < ((x3_1.length : Int) : Int):=of_decide_eq_true (by (with_reducible assumption));exact h_);obtain rfl:=k67_openM hM12;have HP12:=Kd.R_seg HX12.out (x4_1 : Int) (of_decide_eq_true (by (with_reducible assumption))) (by have h_ : (x4_1 : Int) < ((x3_1.length : Int) : Int):=of_decide_eq_true (by (with_reducible assumption));exact h_) (seg:=[.int .i64 t110,.int .i64 t111,.int .i64 t112,.int .i64 t113]) (j:=0) hcl12 hcc12 (show 4 ≤ 4 from by decide) (x':=(⟨t110,t111,t112,t113⟩ : S67)) (k67_mkM _ _ _ (⟨t110,t111,t112,t113⟩ : S67) ) (fun _ hk=>hk);have hx12_0:=hcc12 0 _ rfl;(try simp only [show (k67).sz = 4 from rfl,Nat.mul_one,Nat.add_zero] at hx12_0);have hf12_0:=hfr12 0;(try simp only [show (k67).sz = 4 from rfl,Nat.mul_one,Nat.add_zero] at hf12_0);have hx12_1:=hcc12 1 _ rfl;(try simp only [show (k67).sz = 4 from rfl,Nat.mul_one,Nat.add_zero] at hx12_1);have hf12_1:=hfr12 1;(try simp only [show (k67).sz = 4 from rfl,Nat.mul_one,Nat.add_zero] at hf12_1);have hx12_2:=hcc12 2 _ rfl;(try simp only [show (k67).sz = 4 from rfl,Nat.mul_one,Nat.add_zero] at hx12_2);have hf12_2:=hfr12 2;(try simp only [show (k67).sz = 4 from rfl,Nat.mul_one,Nat.add_zero] at hf12_2);have hx12_3:=hcc12 3 _ rfl;(try simp only [show (k67).sz = 4 from rfl,Nat.mul_one,Nat.add_zero] at hx12_3);have hf12_3:=hfr12 3;(try simp only [show (k67).sz = 4 from rfl,Nat.mul_one,Nat.add_zero] at hf12_3);clear hcl12 hcc12 hfr12 hM12)|((with_reducible refine gate_store (t:=67) (p:=21) rfl ?_);refine store_event (t:=67) (p:=21) (v:=?vo_w13) (w1:=((((w11.setCell ⟨go10,(x4_1 : Int).toNat * 4,none⟩ (.int .i64 t110)).setCell ⟨go10,(x4_1 : Int).toNat * 4 + 1,none⟩ (.int .i64 t111)).setCell ⟨go10,(x4_1 : Int).toNat * 4 + 2,none⟩ (.int .i64 t112)).setCell ⟨go10,(x4_1 : Int).toNat * 4 + 3,none⟩ (.int .i64 t113))) ?hg ?ho ?hn ?hr ?_;(case ho=>rfl);(case hg=>rfl);(case hn=>rfl);(case hr=>(go_simp;done));intro w13 hw;have hg : w11.grownBy w13 (some go10):=(by rw [hw];exact HP12.2);have hp_ : Kd.R k67 67 w13 w.heap.size (fun _=>True) (.slice (some ⟨go10,0,none⟩) x3_1.length co10) y114:=(by rw [hw,Ny114.out];exact HP12.1);clear HP12;have n0_:=am_ (hp_);have n1_:=am_ ((by rw [hw];exact below_set (below_set (below_set (below_set (HB.out) GB10.out) GB10.out) GB10.out) GB10.out : Below w.heap.size w w13));clear HO_3 HB;have HO_3:=n0_;have HB:=n1_;clear n0_ n1_ hg hw hp_))
   go_roundg k1
   case measure=>have:=HK1.out;omega
   case rel=>exact ⟨(y114),(wrap64 (x4_1 + 1)),(by rfl),H',⟨by have:=HK1.out;omega⟩,⟨by exact HO_3.out⟩,⟨by exact HB.out⟩⟩

/-! ### laws_toNet: function 12 -/
def laws_toNet.f (k : Nat) (a0_0 : Int) (l0_1 : List (S91)) : Option (Int × (List (S67))):=(laws_toArcS.f k l0_1).bind fun t118=>(some (a0_0,t118))
theorem laws_toNet.mono : ∀ a0 a1 k,LeO (laws_toNet.f k a0 a1) (laws_toNet.f (k + 1) a0 a1):=by
 intro a0 a1 k
 unfold laws_toNet.f
 repeat' first
   | (with_reducible exact laws_toArcS.mono _ _)
   | (with_reducible exact LeO.refl _)
   | (with_reducible refine LeO.bind ?_ (fun _ => ?_))
set_option maxHeartbeats 8000000 in
set_option maxRecDepth 100000 in
theorem laws_toNet.calls (k : Nat) (a0_0 : Int) (A0_1 : Option Addr) (c0_1 : Nat) (l0_1 : List (S91)) (r1 : Int) (r2 : List (S67)) (w : World) (hr0_1 : Kd.C k91 w A0_1 l0_1.length l0_1) (hc0_1 : l0_1.length ≤ c0_1) (h : laws_toNet.f k a0_0 l0_1 = some (r1,r2)) :
  Calls Try.prog 12 #[.agg #[.int .i64 a0_0,.slice A0_1 l0_1.length c0_1]] w fun e w'=>∃ v1_ : Value,e = .returned (.agg #[.int .i64 r1,v1_]) ∧ Kd.R k67 67 w' w.heap.size (fun _=>True) v1_ r2 ∧ Below w.heap.size w w':=by
 have hu24:=Try.underlying24
 have hu30:=Try.underlying30
 have HR0_1:=am_ hr0_1
 have HC0_1:=am_ hc0_1
 clear hr0_1 hc0_1
 have HB:=am_ (Below.refl w.heap.size w)
 have H : ((laws_toArcS.f k l0_1).bind fun t118=>(some (a0_0,t118))) = some (r1,r2):=h
 clear h
 replace H:=Option.bind_eq_some_iff.mp H
 obtain ⟨t118,A20,H⟩:=H
 replace H : (some (a0_0,t118)) = some (r1,r2):=H
 have A2:=am_ A20
 clear A20
 simp only [Option.some.injEq,Prod.mk.injEq] at H
 obtain ⟨rfl,rfl⟩:=H
 go_enter Try.func12,Try.ntmps12
 go_wp2_with (first|((with_reducible refine gate_dst (N:=1) rfl ?_);refine box_event ?hg (N:=1) ?hd (cs:=#[.int .i64 a0_0,.slice A0_1 l0_1.length c0_1]) (t:=24) ?hr ?_;(case hd=>rfl);(case hg=>rfl);(case hr=>(go_simp;done));intro gb115 hg w3 hbox hb;have n0_:=am_ (below_step HB.out hb);have n1_:=am_ (hbox);have n2_:=am_ ((by rw [hg];exact (below_size HB.out) : w.heap.size ≤ gb115));have n3_:=n2_;clear HB;have HB:=n0_;have BK115:=n1_;have GW115:=n2_;have GE115:=n3_;clear n0_ n1_ n2_ n3_ hb hbox hg)|((with_reducible refine gate_dst (N:=2) rfl ?_);refine box_event ?hg (N:=2) ?hd (cs:=#[.int .i64 0,.slice none 0 0]) (t:=30) ?hr ?_;(case hd=>rfl);(case hg=>rfl);(case hr=>(go_simp;done));intro gb116 hg w4 hbox hb;have n0_:=am_ (blk_below BK115.out hb);have n1_:=am_ (below_step HB.out hb);have n2_:=am_ (hbox);have n3_:=am_ ((by rw [hg];exact (below_size HB.out) : w.heap.size ≤ gb116));have n4_:=n3_;have n5_:=am_ ((by rw [hg];exact Nat.ne_of_lt (blk_lt (g:=gb115) (o:=.cells #[.int .i64 a0_0,.slice A0_1 l0_1.length c0_1] 24 (0,0)) BK115.out) : gb115 ≠ gb116));have n6_:=am_ ((by rw [hg];exact Nat.ne_of_gt (blk_lt (g:=gb115) (o:=.cells #[.int .i64 a0_0,.slice A0_1 l0_1.length c0_1] 24 (0,0)) BK115.out) : gb116 ≠ gb115));clear BK115 HB;have BK115:=n0_;have HB:=n1_;have BK116:=n2_;have GW116:=n3_;have GE116:=n4_;have NB115_116:=n5_;have NB116_115:=n6_;clear n0_ n1_ n2_ n3_ n4_ n5_ n6_ hb hbox hg)|((with_reducible refine gate_dst (N:=3) rfl ?_);refine box_event ?hg (N:=3) ?hd (cs:=#[.int .i64 0,.slice none 0 0]) (t:=30) ?hr ?_;(case hd=>rfl);(case hg=>rfl);(case hr=>(go_simp;done));intro gb117 hg w5 hbox hb;have n0_:=am_ (blk_below BK115.out hb);have n1_:=am_ (blk_below BK116.out hb);have n2_:=am_ (below_step HB.out hb);have n3_:=am_ (hbox);have n4_:=am_ ((by rw [hg];exact (below_size HB.out) : w.heap.size ≤ gb117));have n5_:=n4_;have n6_:=am_ ((by rw [hg];exact Nat.ne_of_lt (blk_lt (g:=gb115) (o:=.cells #[.int .i64 a0_0,.slice A0_1 l0_1.length c0_1] 24 (0,0)) BK115.out) : gb115 ≠ gb117));have n7_:=am_ ((by rw [hg];exact Nat.ne_of_gt (blk_lt (g:=gb115) (o:=.cells #[.int .i64 a0_0,.slice A0_1 l0_1.length c0_1] 24 (0,0)) BK115.out) : gb117 ≠ gb115));have n8_:=am_ ((by rw [hg];exact Nat.ne_of_lt (blk_lt (g:=gb116) (o:=.cells #[.int .i64 0,.slice none 0 0] 30 (0,0)) BK116.out) : gb116 ≠ gb117));have n9_:=am_ ((by rw [hg];exact Nat.ne_of_gt (blk_lt (g:=gb116) (o:=.cells #[.int .i64 0,.slice none 0 0] 30 (0,0)) BK116.out) : gb117 ≠ gb116));clear BK115 BK116 HB;have BK115:=n0_;have BK116:=n1_;have HB:=n2_;have BK117:=n3_;have GW117:=n4_;have GE117:=n5_;have NB115_117:=n6_;have NB117_115:=n7_;have NB116_117:=n8_;have NB117_116:=n9_;clear n0_ n1_ n2_ n3_ n4_ n5_ n6_ n7_ n8_ n9_ hb hbox hg;have hnb6:=NB115_116.out;have hnc6:=NB116_115.out;have hnb7:=NB115_117.out;have hnc7:=NB117_115.out;have hcz8_0 : w5.cell? ⟨gb115,0,none⟩ = some (.int .i64 a0_0):=(blk_cell BK115.out 0).trans rfl;have hcz8_1 : w5.cell? ⟨gb115,1,none⟩ = some (.slice A0_1 l0_1.length c0_1):=(blk_cell BK115.out 1).trans rfl;have hfz8_0:=blk_frozen BK115.out 0;have hfz8_1:=blk_frozen BK115.out 1;have hnb9:=NB117_116.out;have hnc9:=NB116_117.out;have hcz10_0 : w5.cell? ⟨gb117,0,none⟩ = some (.int .i64 0):=(blk_cell BK117.out 0).trans rfl;have hcz10_1 : w5.cell? ⟨gb117,1,none⟩ = some (.slice none 0 0):=(blk_cell BK117.out 1).trans rfl;have hfz10_0:=blk_frozen BK117.out 0;have hfz10_1:=blk_frozen BK117.out 1)|((with_reducible refine gate_callee (f:=46) rfl ?_);refine goesL_ (some 9) rfl rfl Try.func46 (by kernel_rfl) rfl #[.slice A0_1 l0_1.length c0_1] rfl (by (try simp only [List.map_toArray,List.map_cons,List.map_nil]);rfl) ?_;(with_reducible refine (laws_toArcS.calls k _ _ l0_1 t118 _ ?side1 ?side2 A2.out).mono ?_);(case side1=>exact Kd.C_below HR0_1.out (by repeat ((with_reducible first|exact HB.out|refine below_set ?_ GE117.out))));(case side2=>exact HC0_1.out);rintro e w11 ⟨v119,rfl,ho0,hb⟩;refine ⟨_,rfl,?_⟩;have n0_:=am_ (Kd.R_lower ho0 (below_size (by repeat ((with_reducible first|exact HB.out|refine below_set ?_ GE117.out)))));have n1_:=am_ (blk_below (g:=gb115) (o:=.cells #[.int .i64 a0_0,.slice A0_1 l0_1.length c0_1] 24 (0,0)) (by refine blk_far ?_ NB115_117.out _;exact BK115.out) hb);have n2_:=am_ (blk_below (g:=gb116) (o:=.cells #[.int .i64 0,.slice none 0 0] 30 (0,0)) (by refine blk_far ?_ NB116_117.out _;exact BK116.out) hb);have n3_:=am_ (blk_below (g:=gb117) (o:=.cells #[.int .i64 a0_0,.slice none 0 0] 30 (0,0)) (by refine blk_put (cs:=#[.int .i64 0,.slice none 0 0]) ?_ 0 _ rfl;exact BK117.out) hb);have n4_:=am_ (below_step (by repeat ((with_reducible first|exact HB.out|refine below_set ?_ GE117.out))) hb);clear BK115 BK116 BK117 HB;have HO120:=n0_;have BK115:=n1_;have BK116:=n2_;have BK117:=n3_;have HB:=n4_;clear n0_ n1_ n2_ n3_ n4_;(try clear hb);(try clear ho0);obtain ⟨Ao12,co12,eo12⟩:=Kd.R_slice HO120.out;subst eo12;have hcz13_0 : w11.cell? ⟨gb117,0,none⟩ = some (.int .i64 a0_0):=(blk_cell BK117.out 0).trans rfl;have hcz13_1 : w11.cell? ⟨gb117,1,none⟩ = some (.slice none 0 0):=(blk_cell BK117.out 1).trans rfl;have hfz13_0:=blk_frozen BK117.out 0;have hfz13_1:=blk_frozen BK117.out 1;have hcz14_0 : w11.cell? ⟨gb116,0,none⟩ = some (.int .i64 0):=(blk_cell BK116.out 0).trans rfl;have hcz14_1 : w11.cell? ⟨gb116,1,none⟩ = some (.slice none 0 0):=(blk_cell BK116.out 1).trans rfl;have hfz14_0:=blk_frozen BK116.out 0;have hfz14_1:=blk_frozen BK116.out 1))
 refine bodyPost_ret (results_cell_row rfl _ _ gb116 30 #[.int .i64 a0_0,.slice Ao12 t118.length co12] (0,0) _ rfl (by refine blk_put (cs:=#[.int .i64 a0_0,.slice none 0 0]) ?_ 1 _ rfl;refine blk_put (cs:=#[.int .i64 0,.slice none 0 0]) ?_ 0 _ rfl;refine blk_far ?_ NB116_117.out _;exact BK116.out) Try.underlying30 rfl (by kernel_rfl)) rfl ?_
 exact ⟨_,by rfl,by exact Kd.R_mono (Kd.R_far (p:=⟨gb116,1,none⟩) (Kd.R_far (p:=⟨gb116,0,none⟩) (Kd.R_far (p:=⟨gb117,1,none⟩) (Kd.R_types (Kd.R_types HO120.out BK117.out (by decide)) BK116.out (by decide)) (fun _ hk=>hk.1.2) (.slice Ao12 t118.length co12)) (fun _ hk=>hk.2) (.int .i64 a0_0)) (fun _ hk=>hk.2) (.slice Ao12 t118.length co12)) (fun _ hk=>trivial),by repeat ((with_reducible first|exact HB.out|refine below_set ?_ GE116.out|refine below_set ?_ GE117.out))⟩

/-! ### laws_eqArc: function 70 -/
def laws_eqArc.f (a0_0 : Int) (a0_1 : Int) (a0_2 : Int) (a0_3 : Int) (a1_0 : Int) (a1_1 : Int) (a1_2 : Int) (a1_3 : Int) : Option (Bool):=if a0_0 = a1_0 then (if a0_1 = a1_1 then (if a0_2 = a1_2 then (if a0_3 = a1_3 then (some true) else (some false)) else (some false)) else (some false)) else (some false)
set_option maxHeartbeats 8000000 in
set_option maxRecDepth 100000 in
theorem laws_eqArc.calls (a0_0 : Int) (a0_1 : Int) (a0_2 : Int) (a0_3 : Int) (a1_0 : Int) (a1_1 : Int) (a1_2 : Int) (a1_3 : Int) (r : Bool) (w : World) (h : laws_eqArc.f a0_0 a0_1 a0_2 a0_3 a1_0 a1_1 a1_2 a1_3 = some r) :
  Calls Try.prog 70 #[.agg #[.int .i64 a0_0,.int .i64 a0_1,.int .i64 a0_2,.int .i64 a0_3],.agg #[.int .i64 a1_0,.int .i64 a1_1,.int .i64 a1_2,.int .i64 a1_3]] w fun e w'=>e = .returned (.bool r) ∧ Below w.heap.size w w':=by
 have hu67:=Try.underlying67
 have HB:=am_ (Below.refl w.heap.size w)
 have H : (if a0_0 = a1_0 then (if a0_1 = a1_1 then (if a0_2 = a1_2 then (if a0_3 = a1_3 then (some true) else (some false)) else (some false)) else (some false)) else (some false)) = some r:=h
 clear h
 by_cases c3 : a0_0 = a1_0
 rotate_left
 ·rw [if_neg c3] at H
  have c3b0 : (a0_0 == a1_0) = false:=beq_eq_false_iff_ne.mpr c3
  have c3b1 : (a0_0 != a1_0) = true:=bne_iff_ne.mpr c3
  obtain rfl:=Option.some.inj H
  go_enter Try.func70,Try.ntmps70
  go_wp2_with (first|((with_reducible refine gate_dst (N:=2) rfl ?_);refine box_event ?hg (N:=2) ?hd (cs:=#[.int .i64 a0_0,.int .i64 a0_1,.int .i64 a0_2,.int .i64 a0_3]) (t:=67) ?hr ?_;(case hd=>rfl);(case hg=>rfl);(case hr=>(go_simp;done));intro gb121 hg w27 hbox hb;have n0_:=am_ (below_step HB.out hb);have n1_:=am_ (hbox);have n2_:=am_ ((by rw [hg];exact (below_size HB.out) : w.heap.size ≤ gb121));have n3_:=n2_;clear HB;have HB:=n0_;have BK121:=n1_;have GW121:=n2_;have GE121:=n3_;clear n0_ n1_ n2_ n3_ hb hbox hg)|((with_reducible refine gate_dst (N:=3) rfl ?_);refine box_event ?hg (N:=3) ?hd (cs:=#[.int .i64 a1_0,.int .i64 a1_1,.int .i64 a1_2,.int .i64 a1_3]) (t:=67) ?hr ?_;(case hd=>rfl);(case hg=>rfl);(case hr=>(go_simp;done));intro gb122 hg w28 hbox hb;have n0_:=am_ (blk_below BK121.out hb);have n1_:=am_ (below_step HB.out hb);have n2_:=am_ (hbox);have n3_:=am_ ((by rw [hg];exact (below_size HB.out) : w.heap.size ≤ gb122));have n4_:=n3_;have n5_:=am_ ((by rw [hg];exact Nat.ne_of_lt (blk_lt (g:=gb121) (o:=.cells #[.int .i64 a0_0,.int .i64 a0_1,.int .i64 a0_2,.int .i64 a0_3] 67 (0,0)) BK121.out) : gb121 ≠ gb122));have n6_:=am_ ((by rw [hg];exact Nat.ne_of_gt (blk_lt (g:=gb121) (o:=.cells #[.int .i64 a0_0,.int .i64 a0_1,.int .i64 a0_2,.int .i64 a0_3] 67 (0,0)) BK121.out) : gb122 ≠ gb121));clear BK121 HB;have BK121:=n0_;have HB:=n1_;have BK122:=n2_;have GW122:=n3_;have GE122:=n4_;have NB121_122:=n5_;have NB122_121:=n6_;clear n0_ n1_ n2_ n3_ n4_ n5_ n6_ hb hbox hg;have hnb29:=NB121_122.out;have hnc29:=NB122_121.out;have hcz30_0 : w28.cell? ⟨gb121,0,none⟩ = some (.int .i64 a0_0):=(blk_cell BK121.out 0).trans rfl;have hcz30_1 : w28.cell? ⟨gb121,1,none⟩ = some (.int .i64 a0_1):=(blk_cell BK121.out 1).trans rfl;have hcz30_2 : w28.cell? ⟨gb121,2,none⟩ = some (.int .i64 a0_2):=(blk_cell BK121.out 2).trans rfl;have hcz30_3 : w28.cell? ⟨gb121,3,none⟩ = some (.int .i64 a0_3):=(blk_cell BK121.out 3).trans rfl;have hfz30_0:=blk_frozen BK121.out 0;have hfz30_1:=blk_frozen BK121.out 1;have hfz30_2:=blk_frozen BK121.out 2;have hfz30_3:=blk_frozen BK121.out 3;have hcz31_0 : w28.cell? ⟨gb122,0,none⟩ = some (.int .i64 a1_0):=(blk_cell BK122.out 0).trans rfl;have hcz31_1 : w28.cell? ⟨gb122,1,none⟩ = some (.int .i64 a1_1):=(blk_cell BK122.out 1).trans rfl;have hcz31_2 : w28.cell? ⟨gb122,2,none⟩ = some (.int .i64 a1_2):=(blk_cell BK122.out 2).trans rfl;have hcz31_3 : w28.cell? ⟨gb122,3,none⟩ = some (.int .i64 a1_3):=(blk_cell BK122.out 3).trans rfl;have hfz31_0:=blk_frozen BK122.out 0;have hfz31_1:=blk_frozen BK122.out 1;have hfz31_2:=blk_frozen BK122.out 2;have hfz31_3:=blk_frozen BK122.out 3))
  go_ret
  exact ⟨by rfl,by exact HB.out⟩
 rw [if_pos c3] at H
 have c3b0 : (a0_0 == a1_0) = true:=beq_iff_eq.mpr c3
 have c3b1 : (a0_0 != a1_0) = false:=bne_eq_false_iff_eq.mpr c3
 clear c3
 by_cases c4 : a0_1 = a1_1
 rotate_left
 ·rw [if_neg c4] at H
  have c4b0 : (a0_1 == a1_1) = false:=beq_eq_false_iff_ne.mpr c4
  have c4b1 : (a0_1 != a1_1) = true:=bne_iff_ne.mpr c4
  obtain rfl:=Option.some.inj H
  go_enter Try.func70,Try.ntmps70
  go_wp2_with (first|((with_reducible refine gate_dst (N:=2) rfl ?_);refine box_event ?hg (N:=2) ?hd (cs:=#[.int .i64 a0_0,.int .i64 a0_1,.int .i64 a0_2,.int .i64 a0_3]) (t:=67) ?hr ?_;(case hd=>rfl);(case hg=>rfl);(case hr=>(go_simp;done));intro gb121 hg w22 hbox hb;have n0_:=am_ (below_step HB.out hb);have n1_:=am_ (hbox);have n2_:=am_ ((by rw [hg];exact (below_size HB.out) : w.heap.size ≤ gb121));have n3_:=n2_;clear HB;have HB:=n0_;have BK121:=n1_;have GW121:=n2_;have GE121:=n3_;clear n0_ n1_ n2_ n3_ hb hbox hg)|((with_reducible refine gate_dst (N:=3) rfl ?_);refine box_event ?hg (N:=3) ?hd (cs:=#[.int .i64 a1_0,.int .i64 a1_1,.int .i64 a1_2,.int .i64 a1_3]) (t:=67) ?hr ?_;(case hd=>rfl);(case hg=>rfl);(case hr=>(go_simp;done));intro gb122 hg w23 hbox hb;have n0_:=am_ (blk_below BK121.out hb);have n1_:=am_ (below_step HB.out hb);have n2_:=am_ (hbox);have n3_:=am_ ((by rw [hg];exact (below_size HB.out) : w.heap.size ≤ gb122));have n4_:=n3_;have n5_:=am_ ((by rw [hg];exact Nat.ne_of_lt (blk_lt (g:=gb121) (o:=.cells #[.int .i64 a0_0,.int .i64 a0_1,.int .i64 a0_2,.int .i64 a0_3] 67 (0,0)) BK121.out) : gb121 ≠ gb122));have n6_:=am_ ((by rw [hg];exact Nat.ne_of_gt (blk_lt (g:=gb121) (o:=.cells #[.int .i64 a0_0,.int .i64 a0_1,.int .i64 a0_2,.int .i64 a0_3] 67 (0,0)) BK121.out) : gb122 ≠ gb121));clear BK121 HB;have BK121:=n0_;have HB:=n1_;have BK122:=n2_;have GW122:=n3_;have GE122:=n4_;have NB121_122:=n5_;have NB122_121:=n6_;clear n0_ n1_ n2_ n3_ n4_ n5_ n6_ hb hbox hg;have hnb24:=NB121_122.out;have hnc24:=NB122_121.out;have hcz25_0 : w23.cell? ⟨gb121,0,none⟩ = some (.int .i64 a0_0):=(blk_cell BK121.out 0).trans rfl;have hcz25_1 : w23.cell? ⟨gb121,1,none⟩ = some (.int .i64 a0_1):=(blk_cell BK121.out 1).trans rfl;have hcz25_2 : w23.cell? ⟨gb121,2,none⟩ = some (.int .i64 a0_2):=(blk_cell BK121.out 2).trans rfl;have hcz25_3 : w23.cell? ⟨gb121,3,none⟩ = some (.int .i64 a0_3):=(blk_cell BK121.out 3).trans rfl;have hfz25_0:=blk_frozen BK121.out 0;have hfz25_1:=blk_frozen BK121.out 1;have hfz25_2:=blk_frozen BK121.out 2;have hfz25_3:=blk_frozen BK121.out 3;have hcz26_0 : w23.cell? ⟨gb122,0,none⟩ = some (.int .i64 a1_0):=(blk_cell BK122.out 0).trans rfl;have hcz26_1 : w23.cell? ⟨gb122,1,none⟩ = some (.int .i64 a1_1):=(blk_cell BK122.out 1).trans rfl;have hcz26_2 : w23.cell? ⟨gb122,2,none⟩ = some (.int .i64 a1_2):=(blk_cell BK122.out 2).trans rfl;have hcz26_3 : w23.cell? ⟨gb122,3,none⟩ = some (.int .i64 a1_3):=(blk_cell BK122.out 3).trans rfl;have hfz26_0:=blk_frozen BK122.out 0;have hfz26_1:=blk_frozen BK122.out 1;have hfz26_2:=blk_frozen BK122.out 2;have hfz26_3:=blk_frozen BK122.out 3))
  go_ret
  exact ⟨by rfl,by exact HB.out⟩
 rw [if_pos c4] at H
 have c4b0 : (a0_1 == a1_1) = true:=beq_iff_eq.mpr c4
 have c4b1 : (a0_1 != a1_1) = false:=bne_eq_false_iff_eq.mpr c4
 clear c4
 by_cases c5 : a0_2 = a1_2
 rotate_left
 ·rw [if_neg c5] at H
  have c5b0 : (a0_2 == a1_2) = false:=beq_eq_false_iff_ne.mpr c5
  have c5b1 : (a0_2 != a1_2) = true:=bne_iff_ne.mpr c5
  obtain rfl:=Option.some.inj H
  go_enter Try.func70,Try.ntmps70
  go_wp2_with (first|((with_reducible refine gate_dst (N:=2) rfl ?_);refine box_event ?hg (N:=2) ?hd (cs:=#[.int .i64 a0_0,.int .i64 a0_1,.int .i64 a0_2,.int .i64 a0_3]) (t:=67) ?hr ?_;(case hd=>rfl);(case hg=>rfl);(case hr=>(go_simp;done));intro gb121 hg w17 hbox hb;have n0_:=am_ (below_step HB.out hb);have n1_:=am_ (hbox);have n2_:=am_ ((by rw [hg];exact (below_size HB.out) : w.heap.size ≤ gb121));have n3_:=n2_;clear HB;have HB:=n0_;have BK121:=n1_;have GW121:=n2_;have GE121:=n3_;clear n0_ n1_ n2_ n3_ hb hbox hg)|((with_reducible refine gate_dst (N:=3) rfl ?_);refine box_event ?hg (N:=3) ?hd (cs:=#[.int .i64 a1_0,.int .i64 a1_1,.int .i64 a1_2,.int .i64 a1_3]) (t:=67) ?hr ?_;(case hd=>rfl);(case hg=>rfl);(case hr=>(go_simp;done));intro gb122 hg w18 hbox hb;have n0_:=am_ (blk_below BK121.out hb);have n1_:=am_ (below_step HB.out hb);have n2_:=am_ (hbox);have n3_:=am_ ((by rw [hg];exact (below_size HB.out) : w.heap.size ≤ gb122));have n4_:=n3_;have n5_:=am_ ((by rw [hg];exact Nat.ne_of_lt (blk_lt (g:=gb121) (o:=.cells #[.int .i64 a0_0,.int .i64 a0_1,.int .i64 a0_2,.int .i64 a0_3] 67 (0,0)) BK121.out) : gb121 ≠ gb122));have n6_:=am_ ((by rw [hg];exact Nat.ne_of_gt (blk_lt (g:=gb121) (o:=.cells #[.int .i64 a0_0,.int .i64 a0_1,.int .i64 a0_2,.int .i64 a0_3] 67 (0,0)) BK121.out) : gb122 ≠ gb121));clear BK121 HB;have BK121:=n0_;have HB:=n1_;have BK122:=n2_;have GW122:=n3_;have GE122:=n4_;have NB121_122:=n5_;have NB122_121:=n6_;clear n0_ n1_ n2_ n3_ n4_ n5_ n6_ hb hbox hg;have hnb19:=NB121_122.out;have hnc19:=NB122_121.out;have hcz20_0 : w18.cell? ⟨gb121,0,none⟩ = some (.int .i64 a0_0):=(blk_cell BK121.out 0).trans rfl;have hcz20_1 : w18.cell? ⟨gb121,1,none⟩ = some (.int .i64 a0_1):=(blk_cell BK121.out 1).trans rfl;have hcz20_2 : w18.cell? ⟨gb121,2,none⟩ = some (.int .i64 a0_2):=(blk_cell BK121.out 2).trans rfl;have hcz20_3 : w18.cell? ⟨gb121,3,none⟩ = some (.int .i64 a0_3):=(blk_cell BK121.out 3).trans rfl;have hfz20_0:=blk_frozen BK121.out 0;have hfz20_1:=blk_frozen BK121.out 1;have hfz20_2:=blk_frozen BK121.out 2;have hfz20_3:=blk_frozen BK121.out 3;have hcz21_0 : w18.cell? ⟨gb122,0,none⟩ = some (.int .i64 a1_0):=(blk_cell BK122.out 0).trans rfl;have hcz21_1 : w18.cell? ⟨gb122,1,none⟩ = some (.int .i64 a1_1):=(blk_cell BK122.out 1).trans rfl;have hcz21_2 : w18.cell? ⟨gb122,2,none⟩ = some (.int .i64 a1_2):=(blk_cell BK122.out 2).trans rfl;have hcz21_3 : w18.cell? ⟨gb122,3,none⟩ = some (.int .i64 a1_3):=(blk_cell BK122.out 3).trans rfl;have hfz21_0:=blk_frozen BK122.out 0;have hfz21_1:=blk_frozen BK122.out 1;have hfz21_2:=blk_frozen BK122.out 2;have hfz21_3:=blk_frozen BK122.out 3))
  go_ret
  exact ⟨by rfl,by exact HB.out⟩
 rw [if_pos c5] at H
 have c5b0 : (a0_2 == a1_2) = true:=beq_iff_eq.mpr c5
 have c5b1 : (a0_2 != a1_2) = false:=bne_eq_false_iff_eq.mpr c5
 clear c5
 by_cases c6 : a0_3 = a1_3
 ·rw [if_pos c6] at H
  have c6b0 : (a0_3 == a1_3) = true:=beq_iff_eq.mpr c6
  have c6b1 : (a0_3 != a1_3) = false:=bne_eq_false_iff_eq.mpr c6
  clear c6
  obtain rfl:=Option.some.inj H
  go_enter Try.func70,Try.ntmps70
  go_wp2_with (first|((with_reducible refine gate_dst (N:=2) rfl ?_);refine box_event ?hg (N:=2) ?hd (cs:=#[.int .i64 a0_0,.int .i64 a0_1,.int .i64 a0_2,.int .i64 a0_3]) (t:=67) ?hr ?_;(case hd=>rfl);(case hg=>rfl);(case hr=>(go_simp;done));intro gb121 hg w7 hbox hb;have n0_:=am_ (below_step HB.out hb);have n1_:=am_ (hbox);have n2_:=am_ ((by rw [hg];exact (below_size HB.out) : w.heap.size ≤ gb121));have n3_:=n2_;clear HB;have HB:=n0_;have BK121:=n1_;have GW121:=n2_;have GE121:=n3_;clear n0_ n1_ n2_ n3_ hb hbox hg)|((with_reducible refine gate_dst (N:=3) rfl ?_);refine box_event ?hg (N:=3) ?hd (cs:=#[.int .i64 a1_0,.int .i64 a1_1,.int .i64 a1_2,.int .i64 a1_3]) (t:=67) ?hr ?_;(case hd=>rfl);(case hg=>rfl);(case hr=>(go_simp;done));intro gb122 hg w8 hbox hb;have n0_:=am_ (blk_below BK121.out hb);have n1_:=am_ (below_step HB.out hb);have n2_:=am_ (hbox);have n3_:=am_ ((by rw [hg];exact (below_size HB.out) : w.heap.size ≤ gb122));have n4_:=n3_;have n5_:=am_ ((by rw [hg];exact Nat.ne_of_lt (blk_lt (g:=gb121) (o:=.cells #[.int .i64 a0_0,.int .i64 a0_1,.int .i64 a0_2,.int .i64 a0_3] 67 (0,0)) BK121.out) : gb121 ≠ gb122));have n6_:=am_ ((by rw [hg];exact Nat.ne_of_gt (blk_lt (g:=gb121) (o:=.cells #[.int .i64 a0_0,.int .i64 a0_1,.int .i64 a0_2,.int .i64 a0_3] 67 (0,0)) BK121.out) : gb122 ≠ gb121));clear BK121 HB;have BK121:=n0_;have HB:=n1_;have BK122:=n2_;have GW122:=n3_;have GE122:=n4_;have NB121_122:=n5_;have NB122_121:=n6_;clear n0_ n1_ n2_ n3_ n4_ n5_ n6_ hb hbox hg;have hnb9:=NB121_122.out;have hnc9:=NB122_121.out;have hcz10_0 : w8.cell? ⟨gb121,0,none⟩ = some (.int .i64 a0_0):=(blk_cell BK121.out 0).trans rfl;have hcz10_1 : w8.cell? ⟨gb121,1,none⟩ = some (.int .i64 a0_1):=(blk_cell BK121.out 1).trans rfl;have hcz10_2 : w8.cell? ⟨gb121,2,none⟩ = some (.int .i64 a0_2):=(blk_cell BK121.out 2).trans rfl;have hcz10_3 : w8.cell? ⟨gb121,3,none⟩ = some (.int .i64 a0_3):=(blk_cell BK121.out 3).trans rfl;have hfz10_0:=blk_frozen BK121.out 0;have hfz10_1:=blk_frozen BK121.out 1;have hfz10_2:=blk_frozen BK121.out 2;have hfz10_3:=blk_frozen BK121.out 3;have hcz11_0 : w8.cell? ⟨gb122,0,none⟩ = some (.int .i64 a1_0):=(blk_cell BK122.out 0).trans rfl;have hcz11_1 : w8.cell? ⟨gb122,1,none⟩ = some (.int .i64 a1_1):=(blk_cell BK122.out 1).trans rfl;have hcz11_2 : w8.cell? ⟨gb122,2,none⟩ = some (.int .i64 a1_2):=(blk_cell BK122.out 2).trans rfl;have hcz11_3 : w8.cell? ⟨gb122,3,none⟩ = some (.int .i64 a1_3):=(blk_cell BK122.out 3).trans rfl;have hfz11_0:=blk_frozen BK122.out 0;have hfz11_1:=blk_frozen BK122.out 1;have hfz11_2:=blk_frozen BK122.out 2;have hfz11_3:=blk_frozen BK122.out 3))
  go_ret
  exact ⟨by rfl,by exact HB.out⟩
 rw [if_neg c6] at H
 have c6b0 : (a0_3 == a1_3) = false:=beq_eq_false_iff_ne.mpr c6
 have c6b1 : (a0_3 != a1_3) = true:=bne_iff_ne.mpr c6
 obtain rfl:=Option.some.inj H
 go_enter Try.func70,Try.ntmps70
 go_wp2_with (first|((with_reducible refine gate_dst (N:=2) rfl ?_);refine box_event ?hg (N:=2) ?hd (cs:=#[.int .i64 a0_0,.int .i64 a0_1,.int .i64 a0_2,.int .i64 a0_3]) (t:=67) ?hr ?_;(case hd=>rfl);(case hg=>rfl);(case hr=>(go_simp;done));intro gb121 hg w12 hbox hb;have n0_:=am_ (below_step HB.out hb);have n1_:=am_ (hbox);have n2_:=am_ ((by rw [hg];exact (below_size HB.out) : w.heap.size ≤ gb121));have n3_:=n2_;clear HB;have HB:=n0_;have BK121:=n1_;have GW121:=n2_;have GE121:=n3_;clear n0_ n1_ n2_ n3_ hb hbox hg)|((with_reducible refine gate_dst (N:=3) rfl ?_);refine box_event ?hg (N:=3) ?hd (cs:=#[.int .i64 a1_0,.int .i64 a1_1,.int .i64 a1_2,.int .i64 a1_3]) (t:=67) ?hr ?_;(case hd=>rfl);(case hg=>rfl);(case hr=>(go_simp;done));intro gb122 hg w13 hbox hb;have n0_:=am_ (blk_below BK121.out hb);have n1_:=am_ (below_step HB.out hb);have n2_:=am_ (hbox);have n3_:=am_ ((by rw [hg];exact (below_size HB.out) : w.heap.size ≤ gb122));have n4_:=n3_;have n5_:=am_ ((by rw [hg];exact Nat.ne_of_lt (blk_lt (g:=gb121) (o:=.cells #[.int .i64 a0_0,.int .i64 a0_1,.int .i64 a0_2,.int .i64 a0_3] 67 (0,0)) BK121.out) : gb121 ≠ gb122));have n6_:=am_ ((by rw [hg];exact Nat.ne_of_gt (blk_lt (g:=gb121) (o:=.cells #[.int .i64 a0_0,.int .i64 a0_1,.int .i64 a0_2,.int .i64 a0_3] 67 (0,0)) BK121.out) : gb122 ≠ gb121));clear BK121 HB;have BK121:=n0_;have HB:=n1_;have BK122:=n2_;have GW122:=n3_;have GE122:=n4_;have NB121_122:=n5_;have NB122_121:=n6_;clear n0_ n1_ n2_ n3_ n4_ n5_ n6_ hb hbox hg;have hnb14:=NB121_122.out;have hnc14:=NB122_121.out;have hcz15_0 : w13.cell? ⟨gb121,0,none⟩ = some (.int .i64 a0_0):=(blk_cell BK121.out 0).trans rfl;have hcz15_1 : w13.cell? ⟨gb121,1,none⟩ = some (.int .i64 a0_1):=(blk_cell BK121.out 1).trans rfl;have hcz15_2 : w13.cell? ⟨gb121,2,none⟩ = some (.int .i64 a0_2):=(blk_cell BK121.out 2).trans rfl;have hcz15_3 : w13.cell? ⟨gb121,3,none⟩ = some (.int .i64 a0_3):=(blk_cell BK121.out 3).trans rfl;have hfz15_0:=blk_frozen BK121.out 0;have hfz15_1:=blk_frozen BK121.out 1;have hfz15_2:=blk_frozen BK121.out 2;have hfz15_3:=blk_frozen BK121.out 3;have hcz16_0 : w13.cell? ⟨gb122,0,none⟩ = some (.int .i64 a1_0):=(blk_cell BK122.out 0).trans rfl;have hcz16_1 : w13.cell? ⟨gb122,1,none⟩ = some (.int .i64 a1_1):=(blk_cell BK122.out 1).trans rfl;have hcz16_2 : w13.cell? ⟨gb122,2,none⟩ = some (.int .i64 a1_2):=(blk_cell BK122.out 2).trans rfl;have hcz16_3 : w13.cell? ⟨gb122,3,none⟩ = some (.int .i64 a1_3):=(blk_cell BK122.out 3).trans rfl;have hfz16_0:=blk_frozen BK122.out 0;have hfz16_1:=blk_frozen BK122.out 1;have hfz16_2:=blk_frozen BK122.out 2;have hfz16_3:=blk_frozen BK122.out 3))
 go_ret
 exact ⟨by rfl,by exact HB.out⟩

/-! ### laws_eqArcS: function 47 -/
def laws_eqArcS.l0 : Nat → List (S67) → List (S67) → Int → Option (Bool)
 | 0, _, _, _ => none
 | k + 1, x0, x1, x5 => if x5 < (x0.length : Int) then (if 0 ≤ x5 then (if x5 < (x1.length : Int) then ((laws_eqArc.f ((rd_T67 x0 x5).f0) ((rd_T67 x0 x5).f1) ((rd_T67 x0 x5).f2) ((rd_T67 x0 x5).f3) ((rd_T67 x1 x5).f0) ((rd_T67 x1 x5).f1) ((rd_T67 x1 x5).f2) ((rd_T67 x1 x5).f3)).bind fun t125 => (if t125 = true then (laws_eqArcS.l0 k x0 x1 (wrap64 (x5 + 1))) else (some false))) else (none)) else (none)) else (some true)
def laws_eqArcS.f (k : Nat) (l0 : List (S67)) (l1 : List (S67)) : Option (Bool):=if (l0.length : Int) = (l1.length : Int) then (laws_eqArcS.l0 k l0 l1 0) else (some false)
theorem laws_eqArcS.mono_l : ∀ k,(∀ y0 y1 y2,LeO (laws_eqArcS.l0 k y0 y1 y2) (laws_eqArcS.l0 (k + 1) y0 y1 y2))
 | 0 => fun _ _ _ r h => by simp [laws_eqArcS.l0] at h
 | k + 1 => by
  have ih0:=laws_eqArcS.mono_l k
  ·intro y0 y1 y2
   unfold laws_eqArcS.l0
   repeat' first
   | (with_reducible exact ih0 _ _ _)
   | (with_reducible exact LeO.refl _)
   | (with_reducible refine LeO.ite ?_ ?_)
   | (with_reducible refine LeO.bind ?_ (fun _ => ?_))
theorem laws_eqArcS.mono : ∀ a0 a1 k,LeO (laws_eqArcS.f k a0 a1) (laws_eqArcS.f (k + 1) a0 a1):=by
 intro a0 a1 k
 have ih0:=laws_eqArcS.mono_l k
 unfold laws_eqArcS.f
 repeat' first
   | (with_reducible exact ih0 _ _ _)
   | (with_reducible exact LeO.refl _)
   | (with_reducible refine LeO.ite ?_ ?_)
def laws_eqArcS.T6 : Bool × List (List Nat × List Nat):=(true,[([],[]),([],[]),([0,1],[0,1]),([2],[2]),([],[]),([],[]),([4,5],[4,5]),([6],[6]),([3,7],[3,7]),([8],[8])])
def laws_eqArcS.B6 : List Nat:=[0,0,3,7,0,0,48,112,255,511]
theorem laws_eqArcS.tab6 : rtab .any (opsOf Try.f47 6) = laws_eqArcS.T6:=by kernel_rfl
theorem laws_eqArcS.bits6 : waitsOk laws_eqArcS.T6.2 laws_eqArcS.B6 = true:=by kernel_rfl
set_option maxHeartbeats 8000000 in
set_option maxRecDepth 100000 in
theorem laws_eqArcS.calls (k : Nat) (A0 : Option Addr) (c0 : Nat) (l0 : List (S67)) (A1 : Option Addr) (c1 : Nat) (l1 : List (S67)) (r : Bool) (w : World) (hr0 : Kd.C k67 w A0 l0.length l0) (hc0 : l0.length ≤ c0) (hr1 : Kd.C k67 w A1 l1.length l1) (hc1 : l1.length ≤ c1) (h : laws_eqArcS.f k l0 l1 = some r) :
  Calls Try.prog 47 #[.slice A0 l0.length c0,.slice A1 l1.length c1] w fun e w'=>e = .returned (.bool r) ∧ Below w.heap.size w w':=by
 have hu67:=Try.underlying67
 have HR0:=am_ hr0
 have HC0:=am_ hc0
 clear hr0 hc0
 have HR1:=am_ hr1
 have HC1:=am_ hc1
 clear hr1 hc1
 have HB:=am_ (Below.refl w.heap.size w)
 have H : (if (l0.length : Int) = (l1.length : Int) then (laws_eqArcS.l0 k l0 l1 0) else (some false)) = some r:=h
 clear h
 by_cases c3 : (l0.length : Int) = (l1.length : Int)
 rotate_left
 ·rw [if_neg c3] at H
  have c3b0 : ((l0.length : Int) == (l1.length : Int)) = false:=beq_eq_false_iff_ne.mpr c3
  have c3b1 : ((l0.length : Int) != (l1.length : Int)) = true:=bne_iff_ne.mpr c3
  have c3b2 : (l0.length == l1.length) = false:=by (simp at c3 ⊢;omega)
  obtain rfl:=Option.some.inj H
  go_enter Try.func47,Try.ntmps47
  go_wp2
  go_ret
  exact ⟨by rfl,by exact HB.out⟩
 rw [if_pos c3] at H
 have c3b0 : ((l0.length : Int) == (l1.length : Int)) = true:=beq_iff_eq.mpr c3
 have c3b1 : ((l0.length : Int) != (l1.length : Int)) = false:=bne_eq_false_iff_eq.mpr c3
 have c3b2 : (l0.length == l1.length) = true:=by (simp at c3 ⊢;omega)
 clear c3
 have H':=am_ H
 clear H
 go_enter Try.func47,Try.ntmps47
 go_wp2
 go_loopg [5] k (fun kq v5 w'=>∃ (x5_1 : Int),v5 = .int .i64 x5_1 ∧ Aside0 (laws_eqArcS.l0 kq l0 l1 x5_1 = some r) ∧ Aside0 (kq ≤ k) ∧ Aside0 (Below w.heap.size w w'))
 case atStart=>exact ⟨(0),(by rfl),H',⟨Nat.le_refl _⟩,⟨by exact HB.out⟩⟩
 case round =>
  clear H'
  try clear c1
  try clear p2
  try clear c3
  try clear c3b0
  try clear c3b1
  try clear c3b2
  obtain ⟨x5_1,rfl,HA,HK1,HB⟩:=hrel
  cases gk with
  | zero => exact absurd HA.out (by simp [laws_eqArcS.l0])
  | succ k1 =>
   have H:=HA.out
   clear HA
   simp only [laws_eqArcS.l0] at H
   by_cases c4 : x5_1 < (l0.length : Int)
   rotate_left
   ·rw [if_neg c4] at H
    have c4b0 : decide (x5_1 < (l0.length : Int)) = false:=decide_eq_false c4
    clear c4
    obtain rfl:=Option.some.inj H
    go_wp2
    go_ret
    exact ⟨by rfl,by exact HB.out⟩
   rw [if_pos c4] at H
   have c4b0 : decide (x5_1 < (l0.length : Int)) = true:=decide_eq_true c4
   clear c4
   by_cases c5 : 0 ≤ x5_1
   rotate_left
   ·rw [if_neg c5] at H
    exact absurd H (by simp)
   rw [if_pos c5] at H
   have c5b0 : decide (0 ≤ x5_1) = true:=decide_eq_true c5
   clear c5
   by_cases c6 : x5_1 < (l1.length : Int)
   rotate_left
   ·rw [if_neg c6] at H
    exact absurd H (by simp)
   rw [if_pos c6] at H
   have c6b0 : decide (x5_1 < (l1.length : Int)) = true:=decide_eq_true c6
   clear c6
   replace H:=Option.bind_eq_some_iff.mp H
   obtain ⟨t125,A70,H⟩:=H
   replace H : (if t125 = true then (laws_eqArcS.l0 k1 l0 l1 (wrap64 (x5_1 + 1))) else (some false)) = some r:=H
   have A7:=am_ A70
   clear A70
   by_cases c8 : t125 = true
   ·subst c8
    have H1 : (laws_eqArcS.l0 k1 l0 l1 (wrap64 (x5_1 + 1))) = some r:=by rw [if_pos rfl] at H;exact H
    clear H
    have H:=H1
    clear H1
    have H':=am_ H
    clear H
    try go_wp2
    have n0_:=am_ (below_drew1 HB.out)
    clear HB
    have HB:=n0_
    clear n0_
    have p123 : 0 ≤ (x5_1 : Int):=of_decide_eq_true (by (with_reducible assumption))
    have q123 : x5_1 < (l0.length : Int):=of_decide_eq_true (by (with_reducible assumption))
    obtain ⟨ad123,e123,hx123_0,hx123_1,hx123_2,hx123_3⟩:=at_T67 HR0.out x5_1 p123 q123
    have hw123_3:=hx123_3
    have hw123_2:=hx123_2
    have hw123_1:=hx123_1
    have hw123_0:=hx123_0
    cases e123
    replace hx123_0:=kc_ HB.out hx123_0
    replace hx123_1:=kc_ HB.out hx123_1
    replace hx123_2:=kc_ HB.out hx123_2
    replace hx123_3:=kc_ HB.out hx123_3
    replace p123:=eq_true p123
    replace q123:=eq_true q123
    have p124 : 0 ≤ (x5_1 : Int):=of_decide_eq_true (by (with_reducible assumption))
    have q124 : x5_1 < (l1.length : Int):=of_decide_eq_true (by (with_reducible assumption))
    obtain ⟨ad124,e124,hx124_0,hx124_1,hx124_2,hx124_3⟩:=at_T67 HR1.out x5_1 p124 q124
    have hw124_3:=hx124_3
    have hw124_2:=hx124_2
    have hw124_1:=hx124_1
    have hw124_0:=hx124_0
    cases e124
    replace hx124_0:=kc_ HB.out hx124_0
    replace hx124_1:=kc_ HB.out hx124_1
    replace hx124_2:=kc_ HB.out hx124_2
    replace hx124_3:=kc_ HB.out hx124_3
    replace p124:=eq_true p124
    replace q124:=eq_true q124
    refine start_ (n:=10) (S:=fun w'=>w'.cell? (ad123.add ((x5_1).toNat * 4)) = some (.int .i64 ((rd_T67 l0 x5_1).f0)) ∧ w'.cell? ⟨(ad123.add ((x5_1).toNat * 4)).block,(ad123.add ((x5_1).toNat * 4)).off + 1,none⟩ = some (.int .i64 ((rd_T67 l0 x5_1).f1)) ∧ w'.cell? ⟨(ad123.add ((x5_1).toNat * 4)).block,(ad123.add ((x5_1).toNat * 4)).off + 2,none⟩ = some (.int .i64 ((rd_T67 l0 x5_1).f2)) ∧ w'.cell? ⟨(ad123.add ((x5_1).toNat * 4)).block,(ad123.add ((x5_1).toNat * 4)).off + 3,none⟩ = some (.int .i64 ((rd_T67 l0 x5_1).f3)) ∧ w'.cell? (ad124.add ((x5_1).toNat * 4)) = some (.int .i64 ((rd_T67 l1 x5_1).f0)) ∧ w'.cell? ⟨(ad124.add ((x5_1).toNat * 4)).block,(ad124.add ((x5_1).toNat * 4)).off + 1,none⟩ = some (.int .i64 ((rd_T67 l1 x5_1).f1)) ∧ w'.cell? ⟨(ad124.add ((x5_1).toNat * 4)).block,(ad124.add ((x5_1).toNat * 4)).off + 2,none⟩ = some (.int .i64 ((rd_T67 l1 x5_1).f2)) ∧ w'.cell? ⟨(ad124.add ((x5_1).toNat * 4)).block,(ad124.add ((x5_1).toNat * 4)).off + 3,none⟩ = some (.int .i64 ((rd_T67 l1 x5_1).f3))) (ds:=[]) fl1_0_ (by kernel_rfl) rfl rfl ⟨(kc_ HB.out hw123_0),(kc_ HB.out hw123_1),(kc_ HB.out hw123_2),(kc_ HB.out hw123_3),(kc_ HB.out hw124_0),(kc_ HB.out hw124_1),(kc_ HB.out hw124_2),(kc_ HB.out hw124_3)⟩ (fun hHeld=>?_);refine with_tabW laws_eqArcS.tab6 laws_eqArcS.bits6 (fun HT_ HW_=>?_)
    generalize wr.drew = w9 at HB hx123_0 hx123_1 hx123_2 hx123_3 hx124_0 hx124_1 hx124_2 hx124_3 hHeld ⊢
    refine pure_ (i:=0) (N:=some 17) (v:=?_) (a':=?_) fl1_1_ rfl rfl (any_of HT_.out (by kernel_rfl)) (fun _ _ _ h=>h) (Or.inl ⟨by rfl,?_⟩) ?_ ?_
    rotate_left
    ·intro w'
     go_simp
     with_reducible rfl
    rotate_left
    ·simp only [Act.put,List.setIfInBounds_toArray,List.set_cons_zero,List.set_cons_succ,i64_w,i32_w]
     rfl
    refine pure_ (i:=1) (N:=some 18) (v:=?_) (a':=?_) fl1_2_ rfl rfl (any_of HT_.out (by kernel_rfl)) (fun _ _ _ h=>h) (Or.inl ⟨by rfl,?_⟩) ?_ ?_
    rotate_left
    ·intro w'
     go_simp
     with_reducible rfl
    rotate_left
    ·simp only [Act.put,List.setIfInBounds_toArray,List.set_cons_zero,List.set_cons_succ,i64_w,i32_w]
     rfl
    refine pure_ (i:=2) (N:=some 19) (v:=?_) (a':=?_) fl1_3_ rfl rfl (any_of HT_.out (by kernel_rfl)) (fun _ _ _ h=>h) (Or.inl ⟨by rfl,?_⟩) ?_ ?_
    rotate_left
    ·intro w'
     go_simp
     with_reducible rfl
    rotate_left
    ·simp only [Act.put,List.setIfInBounds_toArray,List.set_cons_zero,List.set_cons_succ,i64_w,i32_w]
     rfl
    refine pure_ (i:=4) (N:=some 21) (v:=?_) (a':=?_) fl1_4_ rfl rfl (any_of HT_.out (by kernel_rfl)) (fun _ _ _ h=>h) (Or.inl ⟨by rfl,?_⟩) ?_ ?_
    rotate_left
    ·intro w'
     go_simp
     with_reducible rfl
    rotate_left
    ·simp only [Act.put,List.setIfInBounds_toArray,List.set_cons_zero,List.set_cons_succ,i64_w,i32_w]
     rfl
    refine pure_ (i:=5) (N:=some 22) (v:=?_) (a':=?_) fl1_5_ rfl rfl (any_of HT_.out (by kernel_rfl)) (fun _ _ _ h=>h) (Or.inl ⟨by rfl,?_⟩) ?_ ?_
    rotate_left
    ·intro w'
     go_simp
     with_reducible rfl
    rotate_left
    ·simp only [Act.put,List.setIfInBounds_toArray,List.set_cons_zero,List.set_cons_succ,i64_w,i32_w]
     rfl
    refine pure_ (i:=6) (N:=some 23) (v:=?_) (a':=?_) fl1_6_ rfl rfl (any_of HT_.out (by kernel_rfl)) (fun _ _ _ h=>h) (Or.inl ⟨by rfl,?_⟩) ?_ ?_
    rotate_left
    ·intro w'
     go_simp
     with_reducible rfl
    rotate_left
    ·simp only [Act.put,List.setIfInBounds_toArray,List.set_cons_zero,List.set_cons_succ,i64_w,i32_w]
     rfl
    refine take_ (i:=3) (N:=some 20) (v:=?_) (a':=?_) fl1_7_ rfl rfl (take_ofW HT_.out HW_.out (by kernel_rfl)) (fun _ _ _ h=>h) (Or.inl ⟨by rfl,?_⟩) hHeld ?_ ?_
    rotate_left
    ·rintro w' ⟨s0,s1,s2,s3,s4,s5,s6,s7⟩
     go_simp
     with_reducible rfl
    rotate_left
    ·simp only [Act.put,List.setIfInBounds_toArray,List.set_cons_zero,List.set_cons_succ,i64_w,i32_w]
     rfl
    refine take_ (i:=7) (N:=some 24) (v:=?_) (a':=?_) fl1_8_ rfl rfl (take_ofW HT_.out HW_.out (by kernel_rfl)) (fun _ _ _ h=>h) (Or.inl ⟨by rfl,?_⟩) hHeld ?_ ?_
    rotate_left
    ·rintro w' ⟨s0,s1,s2,s3,s4,s5,s6,s7⟩
     go_simp
     with_reducible rfl
    rotate_left
    ·simp only [Act.put,List.setIfInBounds_toArray,List.set_cons_zero,List.set_cons_succ,i64_w,i32_w]
     rfl
    refine one_ (i:=8) (N:=some 25) fl1_9_ rfl rfl (one_of HT_.out (by kernel_rfl)) (by decide) (fun K hK=>?_)
    refine goes_ Try.func70 (by kernel_rfl) rfl #[.agg #[.int .i64 ((rd_T67 l0 x5_1).f0),.int .i64 ((rd_T67 l0 x5_1).f1),.int .i64 ((rd_T67 l0 x5_1).f2),.int .i64 ((rd_T67 l0 x5_1).f3)],.agg #[.int .i64 ((rd_T67 l1 x5_1).f0),.int .i64 ((rd_T67 l1 x5_1).f1),.int .i64 ((rd_T67 l1 x5_1).f2),.int .i64 ((rd_T67 l1 x5_1).f3)]] (by rfl) rfl rfl (by (try simp only [List.map_toArray,List.map_cons,List.map_nil]);rfl) ?_
    with_reducible refine (laws_eqArc.calls ((rd_T67 l0 x5_1).f0) ((rd_T67 l0 x5_1).f1) ((rd_T67 l0 x5_1).f2) ((rd_T67 l0 x5_1).f3) ((rd_T67 l1 x5_1).f0) ((rd_T67 l1 x5_1).f1) ((rd_T67 l1 x5_1).f2) ((rd_T67 l1 x5_1).f3) true _ A7.out).mono ?_
    rintro e w10 ⟨rfl,hb⟩
    refine ⟨_,rfl,?_⟩
    have n0_:=am_ (below_step HB.out hb)
    clear HB
    have HB:=n0_
    clear n0_
    (try clear hb)
    (skip)
    (skip)
    (skip)
    refine hK.out _ _ ⟨(kc_ HB.out hw123_0),(kc_ HB.out hw123_1),(kc_ HB.out hw123_2),(kc_ HB.out hw123_3),(kc_ HB.out hw124_0),(kc_ HB.out hw124_1),(kc_ HB.out hw124_2),(kc_ HB.out hw124_3)⟩ (fun hHeld=>?_)
    clear hK K
    refine norm_ (a':=?_) ?_ ?_
    rotate_left
    ·show Act.put _ (some 25) _ = _
     simp only [Act.put,List.setIfInBounds_toArray,List.set_cons_zero,List.set_cons_succ,i64_w,i32_w]
     rfl
    refine pure_ (i:=9) (N:=some 26) (v:=?_) (a':=?_) fl1_10_ rfl rfl (any_of HT_.out (by kernel_rfl)) (fun _ _ _ h=>h) (Or.inl ⟨by rfl,?_⟩) ?_ ?_
    rotate_left
    ·intro w'
     go_simp
     with_reducible rfl
    rotate_left
    ·simp only [Act.put,List.setIfInBounds_toArray,List.set_cons_zero,List.set_cons_succ,i64_w,i32_w]
     rfl
    refine done_ (done_of HT_.out (by kernel_rfl)) ?_
    try go_wp2
    go_roundg k1
    case measure=>have:=HK1.out;omega
    case rel=>exact ⟨(wrap64 (x5_1 + 1)),(by rfl),H',⟨by have:=HK1.out;omega⟩,⟨by exact HB.out⟩⟩
   replace c8:=Bool.eq_false_iff.mpr c8
   subst c8
   have H1 : (some false) = some r:=by rw [if_neg (show ¬ (false = true) by decide)] at H;exact H
   clear H
   have H:=H1
   clear H1
   obtain rfl:=Option.some.inj H
   try go_wp2
   have n0_:=am_ (below_drew1 HB.out)
   clear HB
   have HB:=n0_
   clear n0_
   have p123 : 0 ≤ (x5_1 : Int):=of_decide_eq_true (by (with_reducible assumption))
   have q123 : x5_1 < (l0.length : Int):=of_decide_eq_true (by (with_reducible assumption))
   obtain ⟨ad123,e123,hx123_0,hx123_1,hx123_2,hx123_3⟩:=at_T67 HR0.out x5_1 p123 q123
   have hw123_3:=hx123_3
   have hw123_2:=hx123_2
   have hw123_1:=hx123_1
   have hw123_0:=hx123_0
   cases e123
   replace hx123_0:=kc_ HB.out hx123_0
   replace hx123_1:=kc_ HB.out hx123_1
   replace hx123_2:=kc_ HB.out hx123_2
   replace hx123_3:=kc_ HB.out hx123_3
   replace p123:=eq_true p123
   replace q123:=eq_true q123
   have p124 : 0 ≤ (x5_1 : Int):=of_decide_eq_true (by (with_reducible assumption))
   have q124 : x5_1 < (l1.length : Int):=of_decide_eq_true (by (with_reducible assumption))
   obtain ⟨ad124,e124,hx124_0,hx124_1,hx124_2,hx124_3⟩:=at_T67 HR1.out x5_1 p124 q124
   have hw124_3:=hx124_3
   have hw124_2:=hx124_2
   have hw124_1:=hx124_1
   have hw124_0:=hx124_0
   cases e124
   replace hx124_0:=kc_ HB.out hx124_0
   replace hx124_1:=kc_ HB.out hx124_1
   replace hx124_2:=kc_ HB.out hx124_2
   replace hx124_3:=kc_ HB.out hx124_3
   replace p124:=eq_true p124
   replace q124:=eq_true q124
   refine start_ (n:=10) (S:=fun w'=>w'.cell? (ad123.add ((x5_1).toNat * 4)) = some (.int .i64 ((rd_T67 l0 x5_1).f0)) ∧ w'.cell? ⟨(ad123.add ((x5_1).toNat * 4)).block,(ad123.add ((x5_1).toNat * 4)).off + 1,none⟩ = some (.int .i64 ((rd_T67 l0 x5_1).f1)) ∧ w'.cell? ⟨(ad123.add ((x5_1).toNat * 4)).block,(ad123.add ((x5_1).toNat * 4)).off + 2,none⟩ = some (.int .i64 ((rd_T67 l0 x5_1).f2)) ∧ w'.cell? ⟨(ad123.add ((x5_1).toNat * 4)).block,(ad123.add ((x5_1).toNat * 4)).off + 3,none⟩ = some (.int .i64 ((rd_T67 l0 x5_1).f3)) ∧ w'.cell? (ad124.add ((x5_1).toNat * 4)) = some (.int .i64 ((rd_T67 l1 x5_1).f0)) ∧ w'.cell? ⟨(ad124.add ((x5_1).toNat * 4)).block,(ad124.add ((x5_1).toNat * 4)).off + 1,none⟩ = some (.int .i64 ((rd_T67 l1 x5_1).f1)) ∧ w'.cell? ⟨(ad124.add ((x5_1).toNat * 4)).block,(ad124.add ((x5_1).toNat * 4)).off + 2,none⟩ = some (.int .i64 ((rd_T67 l1 x5_1).f2)) ∧ w'.cell? ⟨(ad124.add ((x5_1).toNat * 4)).block,(ad124.add ((x5_1).toNat * 4)).off + 3,none⟩ = some (.int .i64 ((rd_T67 l1 x5_1).f3))) (ds:=[]) fl1_0_ (by kernel_rfl) rfl rfl ⟨(kc_ HB.out hw123_0),(kc_ HB.out hw123_1),(kc_ HB.out hw123_2),(kc_ HB.out hw123_3),(kc_ HB.out hw124_0),(kc_ HB.out hw124_1),(kc_ HB.out hw124_2),(kc_ HB.out hw124_3)⟩ (fun hHeld=>?_);refine with_tabW laws_eqArcS.tab6 laws_eqArcS.bits6 (fun HT_ HW_=>?_)
   generalize wr.drew = w11 at HB hx123_0 hx123_1 hx123_2 hx123_3 hx124_0 hx124_1 hx124_2 hx124_3 hHeld ⊢
   refine pure_ (i:=0) (N:=some 17) (v:=?_) (a':=?_) fl1_1_ rfl rfl (any_of HT_.out (by kernel_rfl)) (fun _ _ _ h=>h) (Or.inl ⟨by rfl,?_⟩) ?_ ?_
   rotate_left
   ·intro w'
    go_simp
    with_reducible rfl
   rotate_left
   ·simp only [Act.put,List.setIfInBounds_toArray,List.set_cons_zero,List.set_cons_succ,i64_w,i32_w]
    rfl
   refine pure_ (i:=1) (N:=some 18) (v:=?_) (a':=?_) fl1_2_ rfl rfl (any_of HT_.out (by kernel_rfl)) (fun _ _ _ h=>h) (Or.inl ⟨by rfl,?_⟩) ?_ ?_
   rotate_left
   ·intro w'
    go_simp
    with_reducible rfl
   rotate_left
   ·simp only [Act.put,List.setIfInBounds_toArray,List.set_cons_zero,List.set_cons_succ,i64_w,i32_w]
    rfl
   refine pure_ (i:=2) (N:=some 19) (v:=?_) (a':=?_) fl1_3_ rfl rfl (any_of HT_.out (by kernel_rfl)) (fun _ _ _ h=>h) (Or.inl ⟨by rfl,?_⟩) ?_ ?_
   rotate_left
   ·intro w'
    go_simp
    with_reducible rfl
   rotate_left
   ·simp only [Act.put,List.setIfInBounds_toArray,List.set_cons_zero,List.set_cons_succ,i64_w,i32_w]
    rfl
   refine pure_ (i:=4) (N:=some 21) (v:=?_) (a':=?_) fl1_4_ rfl rfl (any_of HT_.out (by kernel_rfl)) (fun _ _ _ h=>h) (Or.inl ⟨by rfl,?_⟩) ?_ ?_
   rotate_left
   ·intro w'
    go_simp
    with_reducible rfl
   rotate_left
   ·simp only [Act.put,List.setIfInBounds_toArray,List.set_cons_zero,List.set_cons_succ,i64_w,i32_w]
    rfl
   refine pure_ (i:=5) (N:=some 22) (v:=?_) (a':=?_) fl1_5_ rfl rfl (any_of HT_.out (by kernel_rfl)) (fun _ _ _ h=>h) (Or.inl ⟨by rfl,?_⟩) ?_ ?_
   rotate_left
   ·intro w'
    go_simp
    with_reducible rfl
   rotate_left
   ·simp only [Act.put,List.setIfInBounds_toArray,List.set_cons_zero,List.set_cons_succ,i64_w,i32_w]
    rfl
   refine pure_ (i:=6) (N:=some 23) (v:=?_) (a':=?_) fl1_6_ rfl rfl (any_of HT_.out (by kernel_rfl)) (fun _ _ _ h=>h) (Or.inl ⟨by rfl,?_⟩) ?_ ?_
   rotate_left
   ·intro w'
    go_simp
    with_reducible rfl
   rotate_left
   ·simp only [Act.put,List.setIfInBounds_toArray,List.set_cons_zero,List.set_cons_succ,i64_w,i32_w]
    rfl
   refine take_ (i:=3) (N:=some 20) (v:=?_) (a':=?_) fl1_7_ rfl rfl (take_ofW HT_.out HW_.out (by kernel_rfl)) (fun _ _ _ h=>h) (Or.inl ⟨by rfl,?_⟩) hHeld ?_ ?_
   rotate_left
   ·rintro w' ⟨s0,s1,s2,s3,s4,s5,s6,s7⟩
    go_simp
    with_reducible rfl
   rotate_left
   ·simp only [Act.put,List.setIfInBounds_toArray,List.set_cons_zero,List.set_cons_succ,i64_w,i32_w]
    rfl
   refine take_ (i:=7) (N:=some 24) (v:=?_) (a':=?_) fl1_8_ rfl rfl (take_ofW HT_.out HW_.out (by kernel_rfl)) (fun _ _ _ h=>h) (Or.inl ⟨by rfl,?_⟩) hHeld ?_ ?_
   rotate_left
   ·rintro w' ⟨s0,s1,s2,s3,s4,s5,s6,s7⟩
    go_simp
    with_reducible rfl
   rotate_left
   ·simp only [Act.put,List.setIfInBounds_toArray,List.set_cons_zero,List.set_cons_succ,i64_w,i32_w]
    rfl
   refine one_ (i:=8) (N:=some 25) fl1_9_ rfl rfl (one_of HT_.out (by kernel_rfl)) (by decide) (fun K hK=>?_)
   refine goes_ Try.func70 (by kernel_rfl) rfl #[.agg #[.int .i64 ((rd_T67 l0 x5_1).f0),.int .i64 ((rd_T67 l0 x5_1).f1),.int .i64 ((rd_T67 l0 x5_1).f2),.int .i64 ((rd_T67 l0 x5_1).f3)],.agg #[.int .i64 ((rd_T67 l1 x5_1).f0),.int .i64 ((rd_T67 l1 x5_1).f1),.int .i64 ((rd_T67 l1 x5_1).f2),.int .i64 ((rd_T67 l1 x5_1).f3)]] (by rfl) rfl rfl (by (try simp only [List.map_toArray,List.map_cons,List.map_nil]);rfl) ?_
   with_reducible refine (laws_eqArc.calls ((rd_T67 l0 x5_1).f0) ((rd_T67 l0 x5_1).f1) ((rd_T67 l0 x5_1).f2) ((rd_T67 l0 x5_1).f3) ((rd_T67 l1 x5_1).f0) ((rd_T67 l1 x5_1).f1) ((rd_T67 l1 x5_1).f2) ((rd_T67 l1 x5_1).f3) false _ A7.out).mono ?_
   rintro e w12 ⟨rfl,hb⟩
   refine ⟨_,rfl,?_⟩
   have n0_:=am_ (below_step HB.out hb)
   clear HB
   have HB:=n0_
   clear n0_
   (try clear hb)
   (skip)
   (skip)
   (skip)
   refine hK.out _ _ ⟨(kc_ HB.out hw123_0),(kc_ HB.out hw123_1),(kc_ HB.out hw123_2),(kc_ HB.out hw123_3),(kc_ HB.out hw124_0),(kc_ HB.out hw124_1),(kc_ HB.out hw124_2),(kc_ HB.out hw124_3)⟩ (fun hHeld=>?_)
   clear hK K
   refine norm_ (a':=?_) ?_ ?_
   rotate_left
   ·show Act.put _ (some 25) _ = _
    simp only [Act.put,List.setIfInBounds_toArray,List.set_cons_zero,List.set_cons_succ,i64_w,i32_w]
    rfl
   refine pure_ (i:=9) (N:=some 26) (v:=?_) (a':=?_) fl1_10_ rfl rfl (any_of HT_.out (by kernel_rfl)) (fun _ _ _ h=>h) (Or.inl ⟨by rfl,?_⟩) ?_ ?_
   rotate_left
   ·intro w'
    go_simp
    with_reducible rfl
   rotate_left
   ·simp only [Act.put,List.setIfInBounds_toArray,List.set_cons_zero,List.set_cons_succ,i64_w,i32_w]
    rfl
   refine done_ (done_of HT_.out (by kernel_rfl)) ?_
   try go_wp2
   go_ret
   exact ⟨by rfl,by exact HB.out⟩

/-! ### laws_eqNet: function 16 -/
def laws_eqNet.f (k : Nat) (a0_0 : Int) (l0_1 : List (S67)) (a1_0 : Int) (l1_1 : List (S67)) : Option (Bool):=if a0_0 = a1_0 then ((laws_eqArcS.f k l0_1 l1_1).bind fun t128=>(if t128 = true then (some true) else (some false))) else (some false)
theorem laws_eqNet.mono : ∀ a0 a1 a2 a3 k,LeO (laws_eqNet.f k a0 a1 a2 a3) (laws_eqNet.f (k + 1) a0 a1 a2 a3):=by
 intro a0 a1 a2 a3 k
 unfold laws_eqNet.f
 repeat' first
   | (with_reducible exact laws_eqArcS.mono _ _ _)
   | (with_reducible exact LeO.refl _)
   | (with_reducible refine LeO.ite ?_ ?_)
   | (with_reducible refine LeO.bind ?_ (fun _ => ?_))
set_option maxHeartbeats 8000000 in
set_option maxRecDepth 100000 in
theorem laws_eqNet.calls (k : Nat) (a0_0 : Int) (A0_1 : Option Addr) (c0_1 : Nat) (l0_1 : List (S67)) (a1_0 : Int) (A1_1 : Option Addr) (c1_1 : Nat) (l1_1 : List (S67)) (r : Bool) (w : World) (hr0_1 : Kd.C k67 w A0_1 l0_1.length l0_1) (hc0_1 : l0_1.length ≤ c0_1) (hr1_1 : Kd.C k67 w A1_1 l1_1.length l1_1) (hc1_1 : l1_1.length ≤ c1_1) (h : laws_eqNet.f k a0_0 l0_1 a1_0 l1_1 = some r) :
  Calls Try.prog 16 #[.agg #[.int .i64 a0_0,.slice A0_1 l0_1.length c0_1],.agg #[.int .i64 a1_0,.slice A1_1 l1_1.length c1_1]] w fun e w'=>e = .returned (.bool r) ∧ Below w.heap.size w w':=by
 have hu30:=Try.underlying30
 have HR0_1:=am_ hr0_1
 have HC0_1:=am_ hc0_1
 clear hr0_1 hc0_1
 have HR1_1:=am_ hr1_1
 have HC1_1:=am_ hc1_1
 clear hr1_1 hc1_1
 have HB:=am_ (Below.refl w.heap.size w)
 have H : (if a0_0 = a1_0 then ((laws_eqArcS.f k l0_1 l1_1).bind fun t128=>(if t128 = true then (some true) else (some false))) else (some false)) = some r:=h
 clear h
 by_cases c3 : a0_0 = a1_0
 rotate_left
 ·rw [if_neg c3] at H
  have c3b0 : (a0_0 == a1_0) = false:=beq_eq_false_iff_ne.mpr c3
  have c3b1 : (a0_0 != a1_0) = true:=bne_iff_ne.mpr c3
  obtain rfl:=Option.some.inj H
  go_enter Try.func16,Try.ntmps16
  go_wp2_with (first|((with_reducible refine gate_dst (N:=2) rfl ?_);refine box_event ?hg (N:=2) ?hd (cs:=#[.int .i64 a0_0,.slice A0_1 l0_1.length c0_1]) (t:=30) ?hr ?_;(case hd=>rfl);(case hg=>rfl);(case hr=>(go_simp;done));intro gb126 hg w18 hbox hb;have n0_:=am_ (below_step HB.out hb);have n1_:=am_ (hbox);have n2_:=am_ ((by rw [hg];exact (below_size HB.out) : w.heap.size ≤ gb126));have n3_:=n2_;clear HB;have HB:=n0_;have BK126:=n1_;have GW126:=n2_;have GE126:=n3_;clear n0_ n1_ n2_ n3_ hb hbox hg)|((with_reducible refine gate_dst (N:=3) rfl ?_);refine box_event ?hg (N:=3) ?hd (cs:=#[.int .i64 a1_0,.slice A1_1 l1_1.length c1_1]) (t:=30) ?hr ?_;(case hd=>rfl);(case hg=>rfl);(case hr=>(go_simp;done));intro gb127 hg w19 hbox hb;have n0_:=am_ (blk_below BK126.out hb);have n1_:=am_ (below_step HB.out hb);have n2_:=am_ (hbox);have n3_:=am_ ((by rw [hg];exact (below_size HB.out) : w.heap.size ≤ gb127));have n4_:=n3_;have n5_:=am_ ((by rw [hg];exact Nat.ne_of_lt (blk_lt (g:=gb126) (o:=.cells #[.int .i64 a0_0,.slice A0_1 l0_1.length c0_1] 30 (0,0)) BK126.out) : gb126 ≠ gb127));have n6_:=am_ ((by rw [hg];exact Nat.ne_of_gt (blk_lt (g:=gb126) (o:=.cells #[.int .i64 a0_0,.slice A0_1 l0_1.length c0_1] 30 (0,0)) BK126.out) : gb127 ≠ gb126));clear BK126 HB;have BK126:=n0_;have HB:=n1_;have BK127:=n2_;have GW127:=n3_;have GE127:=n4_;have NB126_127:=n5_;have NB127_126:=n6_;clear n0_ n1_ n2_ n3_ n4_ n5_ n6_ hb hbox hg;have hnb20:=NB126_127.out;have hnc20:=NB127_126.out;have hcz21_0 : w19.cell? ⟨gb126,0,none⟩ = some (.int .i64 a0_0):=(blk_cell BK126.out 0).trans rfl;have hcz21_1 : w19.cell? ⟨gb126,1,none⟩ = some (.slice A0_1 l0_1.length c0_1):=(blk_cell BK126.out 1).trans rfl;have hfz21_0:=blk_frozen BK126.out 0;have hfz21_1:=blk_frozen BK126.out 1;have hcz22_0 : w19.cell? ⟨gb127,0,none⟩ = some (.int .i64 a1_0):=(blk_cell BK127.out 0).trans rfl;have hcz22_1 : w19.cell? ⟨gb127,1,none⟩ = some (.slice A1_1 l1_1.length c1_1):=(blk_cell BK127.out 1).trans rfl;have hfz22_0:=blk_frozen BK127.out 0;have hfz22_1:=blk_frozen BK127.out 1))
  go_ret
  exact ⟨by rfl,by exact HB.out⟩
 rw [if_pos c3] at H
 have c3b0 : (a0_0 == a1_0) = true:=beq_iff_eq.mpr c3
 have c3b1 : (a0_0 != a1_0) = false:=bne_eq_false_iff_eq.mpr c3
 clear c3
 replace H:=Option.bind_eq_some_iff.mp H
 obtain ⟨t128,A40,H⟩:=H
 replace H : (if t128 = true then (some true) else (some false)) = some r:=H
 have A4:=am_ A40
 clear A40
 by_cases c5 : t128 = true
 ·subst c5
  have H1 : (some true) = some r:=by rw [if_pos rfl] at H;exact H
  clear H
  have H:=H1
  clear H1
  obtain rfl:=Option.some.inj H
  go_enter Try.func16,Try.ntmps16
  go_wp2_with (first|((with_reducible refine gate_dst (N:=2) rfl ?_);refine box_event ?hg (N:=2) ?hd (cs:=#[.int .i64 a0_0,.slice A0_1 l0_1.length c0_1]) (t:=30) ?hr ?_;(case hd=>rfl);(case hg=>rfl);(case hr=>(go_simp;done));intro gb126 hg w6 hbox hb;have n0_:=am_ (below_step HB.out hb);have n1_:=am_ (hbox);have n2_:=am_ ((by rw [hg];exact (below_size HB.out) : w.heap.size ≤ gb126));have n3_:=n2_;clear HB;have HB:=n0_;have BK126:=n1_;have GW126:=n2_;have GE126:=n3_;clear n0_ n1_ n2_ n3_ hb hbox hg)|((with_reducible refine gate_dst (N:=3) rfl ?_);refine box_event ?hg (N:=3) ?hd (cs:=#[.int .i64 a1_0,.slice A1_1 l1_1.length c1_1]) (t:=30) ?hr ?_;(case hd=>rfl);(case hg=>rfl);(case hr=>(go_simp;done));intro gb127 hg w7 hbox hb;have n0_:=am_ (blk_below BK126.out hb);have n1_:=am_ (below_step HB.out hb);have n2_:=am_ (hbox);have n3_:=am_ ((by rw [hg];exact (below_size HB.out) : w.heap.size ≤ gb127));have n4_:=n3_;have n5_:=am_ ((by rw [hg];exact Nat.ne_of_lt (blk_lt (g:=gb126) (o:=.cells #[.int .i64 a0_0,.slice A0_1 l0_1.length c0_1] 30 (0,0)) BK126.out) : gb126 ≠ gb127));have n6_:=am_ ((by rw [hg];exact Nat.ne_of_gt (blk_lt (g:=gb126) (o:=.cells #[.int .i64 a0_0,.slice A0_1 l0_1.length c0_1] 30 (0,0)) BK126.out) : gb127 ≠ gb126));clear BK126 HB;have BK126:=n0_;have HB:=n1_;have BK127:=n2_;have GW127:=n3_;have GE127:=n4_;have NB126_127:=n5_;have NB127_126:=n6_;clear n0_ n1_ n2_ n3_ n4_ n5_ n6_ hb hbox hg;have hnb8:=NB126_127.out;have hnc8:=NB127_126.out;have hcz9_0 : w7.cell? ⟨gb126,0,none⟩ = some (.int .i64 a0_0):=(blk_cell BK126.out 0).trans rfl;have hcz9_1 : w7.cell? ⟨gb126,1,none⟩ = some (.slice A0_1 l0_1.length c0_1):=(blk_cell BK126.out 1).trans rfl;have hfz9_0:=blk_frozen BK126.out 0;have hfz9_1:=blk_frozen BK126.out 1;have hcz10_0 : w7.cell? ⟨gb127,0,none⟩ = some (.int .i64 a1_0):=(blk_cell BK127.out 0).trans rfl;have hcz10_1 : w7.cell? ⟨gb127,1,none⟩ = some (.slice A1_1 l1_1.length c1_1):=(blk_cell BK127.out 1).trans rfl;have hfz10_0:=blk_frozen BK127.out 0;have hfz10_1:=blk_frozen BK127.out 1)|((with_reducible refine gate_callee (f:=47) rfl ?_);refine goesL_ (some 14) rfl rfl Try.func47 (by kernel_rfl) rfl #[.slice A0_1 l0_1.length c0_1,.slice A1_1 l1_1.length c1_1] rfl (by (try simp only [List.map_toArray,List.map_cons,List.map_nil]);rfl) ?_;(with_reducible refine (laws_eqArcS.calls k _ _ l0_1 _ _ l1_1 true _ ?side1 ?side2 ?side3 ?side4 A4.out).mono ?_);(case side1=>exact (Kd.C_below HR0_1.out HB.out));(case side2=>exact HC0_1.out);(case side3=>exact (Kd.C_below HR1_1.out HB.out));(case side4=>exact HC1_1.out);rintro e w11 ⟨rfl,hb⟩;refine ⟨_,rfl,?_⟩;have n0_:=am_ (blk_below BK126.out hb);have n1_:=am_ (blk_below BK127.out hb);have n2_:=am_ (below_step HB.out hb);clear BK126 BK127 HB;have BK126:=n0_;have BK127:=n1_;have HB:=n2_;clear n0_ n1_ n2_;(try clear hb)))
  go_ret
  exact ⟨by rfl,by exact HB.out⟩
 replace c5:=Bool.eq_false_iff.mpr c5
 subst c5
 have H1 : (some false) = some r:=by rw [if_neg (show ¬ (false = true) by decide)] at H;exact H
 clear H
 have H:=H1
 clear H1
 obtain rfl:=Option.some.inj H
 go_enter Try.func16,Try.ntmps16
 go_wp2_with (first|((with_reducible refine gate_dst (N:=2) rfl ?_);refine box_event ?hg (N:=2) ?hd (cs:=#[.int .i64 a0_0,.slice A0_1 l0_1.length c0_1]) (t:=30) ?hr ?_;(case hd=>rfl);(case hg=>rfl);(case hr=>(go_simp;done));intro gb126 hg w12 hbox hb;have n0_:=am_ (below_step HB.out hb);have n1_:=am_ (hbox);have n2_:=am_ ((by rw [hg];exact (below_size HB.out) : w.heap.size ≤ gb126));have n3_:=n2_;clear HB;have HB:=n0_;have BK126:=n1_;have GW126:=n2_;have GE126:=n3_;clear n0_ n1_ n2_ n3_ hb hbox hg)|((with_reducible refine gate_dst (N:=3) rfl ?_);refine box_event ?hg (N:=3) ?hd (cs:=#[.int .i64 a1_0,.slice A1_1 l1_1.length c1_1]) (t:=30) ?hr ?_;(case hd=>rfl);(case hg=>rfl);(case hr=>(go_simp;done));intro gb127 hg w13 hbox hb;have n0_:=am_ (blk_below BK126.out hb);have n1_:=am_ (below_step HB.out hb);have n2_:=am_ (hbox);have n3_:=am_ ((by rw [hg];exact (below_size HB.out) : w.heap.size ≤ gb127));have n4_:=n3_;have n5_:=am_ ((by rw [hg];exact Nat.ne_of_lt (blk_lt (g:=gb126) (o:=.cells #[.int .i64 a0_0,.slice A0_1 l0_1.length c0_1] 30 (0,0)) BK126.out) : gb126 ≠ gb127));have n6_:=am_ ((by rw [hg];exact Nat.ne_of_gt (blk_lt (g:=gb126) (o:=.cells #[.int .i64 a0_0,.slice A0_1 l0_1.length c0_1] 30 (0,0)) BK126.out) : gb127 ≠ gb126));clear BK126 HB;have BK126:=n0_;have HB:=n1_;have BK127:=n2_;have GW127:=n3_;have GE127:=n4_;have NB126_127:=n5_;have NB127_126:=n6_;clear n0_ n1_ n2_ n3_ n4_ n5_ n6_ hb hbox hg;have hnb14:=NB126_127.out;have hnc14:=NB127_126.out;have hcz15_0 : w13.cell? ⟨gb126,0,none⟩ = some (.int .i64 a0_0):=(blk_cell BK126.out 0).trans rfl;have hcz15_1 : w13.cell? ⟨gb126,1,none⟩ = some (.slice A0_1 l0_1.length c0_1):=(blk_cell BK126.out 1).trans rfl;have hfz15_0:=blk_frozen BK126.out 0;have hfz15_1:=blk_frozen BK126.out 1;have hcz16_0 : w13.cell? ⟨gb127,0,none⟩ = some (.int .i64 a1_0):=(blk_cell BK127.out 0).trans rfl;have hcz16_1 : w13.cell? ⟨gb127,1,none⟩ = some (.slice A1_1 l1_1.length c1_1):=(blk_cell BK127.out 1).trans rfl;have hfz16_0:=blk_frozen BK127.out 0;have hfz16_1:=blk_frozen BK127.out 1)|((with_reducible refine gate_callee (f:=47) rfl ?_);refine goesL_ (some 14) rfl rfl Try.func47 (by kernel_rfl) rfl #[.slice A0_1 l0_1.length c0_1,.slice A1_1 l1_1.length c1_1] rfl (by (try simp only [List.map_toArray,List.map_cons,List.map_nil]);rfl) ?_;(with_reducible refine (laws_eqArcS.calls k _ _ l0_1 _ _ l1_1 false _ ?side1 ?side2 ?side3 ?side4 A4.out).mono ?_);(case side1=>exact (Kd.C_below HR0_1.out HB.out));(case side2=>exact HC0_1.out);(case side3=>exact (Kd.C_below HR1_1.out HB.out));(case side4=>exact HC1_1.out);rintro e w17 ⟨rfl,hb⟩;refine ⟨_,rfl,?_⟩;have n0_:=am_ (blk_below BK126.out hb);have n1_:=am_ (blk_below BK127.out hb);have n2_:=am_ (below_step HB.out hb);clear BK126 BK127 HB;have BK126:=n0_;have BK127:=n1_;have HB:=n2_;clear n0_ n1_ n2_;(try clear hb)))
 go_ret
 exact ⟨by rfl,by exact HB.out⟩

/-! ### spec_l01In: function 68 -/
def spec_l01In.f (a0 : Int) (a1 : Int) (a2 : Int) : Option (Bool):=if a0 ≥ a1 then (some (decide (a0 ≤ a2))) else (some false)
set_option maxHeartbeats 8000000 in
set_option maxRecDepth 100000 in
theorem spec_l01In.calls (a0 : Int) (a1 : Int) (a2 : Int) (r : Bool) (w : World) (h : spec_l01In.f a0 a1 a2 = some r) :
  Calls Try.prog 68 #[.int .i64 a0,.int .i64 a1,.int .i64 a2] w fun e w'=>e = .returned (.bool r) ∧ Drawn0 w w':=by
 have H : (if a0 ≥ a1 then (some (decide (a0 ≤ a2))) else (some false)) = some r:=h
 clear h
 by_cases c4 : a0 ≥ a1
 ·rw [if_pos c4] at H
  have c4b0 : decide (a1 ≤ a0) = true:=decide_eq_true c4
  clear c4
  obtain rfl:=Option.some.inj H
  go_enter Try.func68,Try.ntmps68
  go_wp2
  go_ret
  exact ⟨by rfl,by repeat (exact Drawn0.refl _)⟩
 rw [if_neg c4] at H
 have c4b0 : decide (a1 ≤ a0) = false:=decide_eq_false c4
 clear c4
 obtain rfl:=Option.some.inj H
 go_enter Try.func68,Try.ntmps68
 go_wp2
 go_ret
 exact ⟨by rfl,by repeat (exact Drawn0.refl _)⟩

end Go.Proofs.Ytgkpgigoonhgdaa.PFnExactLeastCost
