-- Made by the session's wip/pp.py, a changed call of the kit's printer; Lean checks it.
import Derived.Test.YtgkpgigoonhgdaaPFnCheapestx0
namespace Go.Proofs.Ytgkpgigoonhgdaa.PFnCheapest
open Go.RowKit Go.Proofs.YtgkpgigoonhgdaaW.PrintWords Go.Proofs.YtgkpgigoonhgdaaW.PrintLast Go.Proofs.YtgkpgigoonhgdaaW.PrintMore
attribute [local go_sem] max2_int min2_int max_two min_two max_three min_three max_four min_four   -- for this text's walks alone
set_option linter.unusedVariables false
set_option linter.unusedSimpArgs false


/-! ### impl_step_ends: function 55 -/
def impl_step_ends.f (a0_0 : Int) (a0_1 : Bool) (a1_0 : Int) (l1_1 : List (S67)) : Option (Int × Int):=if 0 ≤ a0_0 then (if a0_0 < (l1_1.length : Int) then (if a0_1 = true then (some ((rd_T67 l1_1 a0_0).f1,(rd_T67 l1_1 a0_0).f0)) else (some ((rd_T67 l1_1 a0_0).f0,(rd_T67 l1_1 a0_0).f1))) else (none)) else (none)
set_option maxHeartbeats 8000000 in
set_option maxRecDepth 100000 in
theorem impl_step_ends.calls (a0_0 : Int) (a0_1 : Bool) (a1_0 : Int) (A1_1 : Option Addr) (c1_1 : Nat) (l1_1 : List (S67)) (r1 : Int) (r2 : Int) (w : World) (hr1_1 : Kd.C k67 w A1_1 l1_1.length l1_1) (hc1_1 : l1_1.length ≤ c1_1) (h : impl_step_ends.f a0_0 a0_1 a1_0 l1_1 = some (r1,r2)) :
  Calls Try.prog 55 #[.agg #[.int .i64 a0_0,.bool a0_1],.agg #[.int .i64 a1_0,.slice A1_1 l1_1.length c1_1]] w fun e w'=>e = .returned (.tuple #[.int .i64 r1,.int .i64 r2]) ∧ Below w.heap.size w w':=by
 have hu79:=Try.underlying79
 have hu30:=Try.underlying30
 have hu67:=Try.underlying67
 have HR1_1:=am_ hr1_1
 have HC1_1:=am_ hc1_1
 clear hr1_1 hc1_1
 have HB:=am_ (Below.refl w.heap.size w)
 have H : (if 0 ≤ a0_0 then (if a0_0 < (l1_1.length : Int) then (if a0_1 = true then (some ((rd_T67 l1_1 a0_0).f1,(rd_T67 l1_1 a0_0).f0)) else (some ((rd_T67 l1_1 a0_0).f0,(rd_T67 l1_1 a0_0).f1))) else (none)) else (none)) = some (r1,r2):=h
 clear h
 by_cases c3 : 0 ≤ a0_0
 rotate_left
 ·rw [if_neg c3] at H
  exact absurd H (by simp)
 rw [if_pos c3] at H
 have c3b0 : decide (0 ≤ a0_0) = true:=decide_eq_true c3
 clear c3
 by_cases c4 : a0_0 < (l1_1.length : Int)
 rotate_left
 ·rw [if_neg c4] at H
  exact absurd H (by simp)
 rw [if_pos c4] at H
 have c4b0 : decide (a0_0 < (l1_1.length : Int)) = true:=decide_eq_true c4
 clear c4
 by_cases c5 : a0_1 = true
 ·subst c5
  have H1 : (some ((rd_T67 l1_1 a0_0).f1,(rd_T67 l1_1 a0_0).f0)) = some (r1,r2):=by rw [if_pos rfl] at H;exact H
  clear H
  have H:=H1
  clear H1
  simp only [Option.some.injEq,Prod.mk.injEq] at H
  obtain ⟨rfl,rfl⟩:=H
  go_enter Try.func55,Try.ntmps55
  go_wp2_with (first|((with_reducible refine gate_dst (N:=2) rfl ?_);refine box_event ?hg (N:=2) ?hd (cs:=#[.int .i64 a0_0,.bool true]) (t:=79) ?hr ?_;(case hd=>rfl);(case hg=>rfl);(case hr=>(go_simp;done));intro gb185 hg w6 hbox hb;have n0_:=am_ (below_step HB.out hb);have n1_:=am_ (hbox);have n2_:=am_ ((by rw [hg];exact (below_size HB.out) : w.heap.size ≤ gb185));have n3_:=n2_;clear HB;have HB:=n0_;have BK185:=n1_;have GW185:=n2_;have GE185:=n3_;clear n0_ n1_ n2_ n3_ hb hbox hg)|((with_reducible refine gate_dst (N:=3) rfl ?_);refine box_event ?hg (N:=3) ?hd (cs:=#[.int .i64 a1_0,.slice A1_1 l1_1.length c1_1]) (t:=30) ?hr ?_;(case hd=>rfl);(case hg=>rfl);(case hr=>(go_simp;done));intro gb186 hg w7 hbox hb;have n0_:=am_ (blk_below BK185.out hb);have n1_:=am_ (below_step HB.out hb);have n2_:=am_ (hbox);have n3_:=am_ ((by rw [hg];exact (below_size HB.out) : w.heap.size ≤ gb186));have n4_:=n3_;have n5_:=am_ ((by rw [hg];exact Nat.ne_of_lt (blk_lt (g:=gb185) (o:=.cells #[.int .i64 a0_0,.bool true] 79 (0,0)) BK185.out) : gb185 ≠ gb186));have n6_:=am_ ((by rw [hg];exact Nat.ne_of_gt (blk_lt (g:=gb185) (o:=.cells #[.int .i64 a0_0,.bool true] 79 (0,0)) BK185.out) : gb186 ≠ gb185));clear BK185 HB;have BK185:=n0_;have HB:=n1_;have BK186:=n2_;have GW186:=n3_;have GE186:=n4_;have NB185_186:=n5_;have NB186_185:=n6_;clear n0_ n1_ n2_ n3_ n4_ n5_ n6_ hb hbox hg;have hnb8:=NB186_185.out;have hnc8:=NB185_186.out;have hcz9_0 : w7.cell? ⟨gb186,0,none⟩ = some (.int .i64 a1_0):=(blk_cell BK186.out 0).trans rfl;have hcz9_1 : w7.cell? ⟨gb186,1,none⟩ = some (.slice A1_1 l1_1.length c1_1):=(blk_cell BK186.out 1).trans rfl;have hfz9_0:=blk_frozen BK186.out 0;have hfz9_1:=blk_frozen BK186.out 1;have hcz10_0 : w7.cell? ⟨gb185,0,none⟩ = some (.int .i64 a0_0):=(blk_cell BK185.out 0).trans rfl;have hcz10_1 : w7.cell? ⟨gb185,1,none⟩ = some (.bool true):=(blk_cell BK185.out 1).trans rfl;have hfz10_0:=blk_frozen BK185.out 0;have hfz10_1:=blk_frozen BK185.out 1;have p187 : 0 ≤ (a0_0 : Int):=of_decide_eq_true (by (with_reducible assumption));have q187 : a0_0 < (l1_1.length : Int):=of_decide_eq_true (by (with_reducible assumption));obtain ⟨ad187,e187,hx187_0,hx187_1,hx187_2,hx187_3⟩:=at_T67 HR1_1.out a0_0 p187 q187;cases e187;replace hx187_0:=kc_ HB.out hx187_0;replace hx187_1:=kc_ HB.out hx187_1;replace hx187_2:=kc_ HB.out hx187_2;replace hx187_3:=kc_ HB.out hx187_3;replace p187:=eq_true p187;replace q187:=eq_true q187)|((with_reducible refine gate_dst (N:=6) rfl ?_);refine box_event ?hg (N:=6) ?hd (cs:=#[.int .i64 0,.int .i64 0,.int .i64 0,.int .i64 0]) (t:=67) ?hr ?_;(case hd=>rfl);(case hg=>rfl);(case hr=>(go_simp;done));intro gb188 hg w11 hbox hb;have n0_:=am_ (blk_below BK185.out hb);have n1_:=am_ (blk_below BK186.out hb);have n2_:=am_ (below_step HB.out hb);have n3_:=am_ (hbox);have n4_:=am_ ((by rw [hg];exact (below_size HB.out) : w.heap.size ≤ gb188));have n5_:=n4_;have n6_:=am_ ((by rw [hg];exact Nat.ne_of_lt (blk_lt (g:=gb185) (o:=.cells #[.int .i64 a0_0,.bool true] 79 (0,0)) BK185.out) : gb185 ≠ gb188));have n7_:=am_ ((by rw [hg];exact Nat.ne_of_gt (blk_lt (g:=gb185) (o:=.cells #[.int .i64 a0_0,.bool true] 79 (0,0)) BK185.out) : gb188 ≠ gb185));have n8_:=am_ ((by rw [hg];exact Nat.ne_of_lt (blk_lt (g:=gb186) (o:=.cells #[.int .i64 a1_0,.slice (some ad187) l1_1.length c1_1] 30 (0,0)) BK186.out) : gb186 ≠ gb188));have n9_:=am_ ((by rw [hg];exact Nat.ne_of_gt (blk_lt (g:=gb186) (o:=.cells #[.int .i64 a1_0,.slice (some ad187) l1_1.length c1_1] 30 (0,0)) BK186.out) : gb188 ≠ gb186));clear BK185 BK186 HB;have BK185:=n0_;have BK186:=n1_;have HB:=n2_;have BK188:=n3_;have GW188:=n4_;have GE188:=n5_;have NB185_188:=n6_;have NB188_185:=n7_;have NB186_188:=n8_;have NB188_186:=n9_;clear n0_ n1_ n2_ n3_ n4_ n5_ n6_ n7_ n8_ n9_ hb hbox hg;have hnb12:=NB188_185.out;have hnc12:=NB185_188.out;have hnb13:=NB188_186.out;have hnc13:=NB186_188.out;have hcz14_0 : w11.cell? ⟨gb188,0,none⟩ = some (.int .i64 0):=(blk_cell BK188.out 0).trans rfl;have hcz14_1 : w11.cell? ⟨gb188,1,none⟩ = some (.int .i64 0):=(blk_cell BK188.out 1).trans rfl;have hcz14_2 : w11.cell? ⟨gb188,2,none⟩ = some (.int .i64 0):=(blk_cell BK188.out 2).trans rfl;have hcz14_3 : w11.cell? ⟨gb188,3,none⟩ = some (.int .i64 0):=(blk_cell BK188.out 3).trans rfl;have hfz14_0:=blk_frozen BK188.out 0;have hfz14_1:=blk_frozen BK188.out 1;have hfz14_2:=blk_frozen BK188.out 2;have hfz14_3:=blk_frozen BK188.out 3;have hcz15_0 : w11.cell? ⟨gb185,0,none⟩ = some (.int .i64 a0_0):=(blk_cell BK185.out 0).trans rfl;have hcz15_1 : w11.cell? ⟨gb185,1,none⟩ = some (.bool true):=(blk_cell BK185.out 1).trans rfl;have hfz15_0:=blk_frozen BK185.out 0;have hfz15_1:=blk_frozen BK185.out 1))
  repeat (go_quiet (fail);try go_wp2_with (fail))
  go_ret2
  exact ⟨by rfl,by repeat ((with_reducible first|exact HB.out|apply pw_below_drewN|refine below_set ?_ GE188.out))⟩
 replace c5:=Bool.eq_false_iff.mpr c5
 subst c5
 have H1 : (some ((rd_T67 l1_1 a0_0).f0,(rd_T67 l1_1 a0_0).f1)) = some (r1,r2):=by rw [if_neg (show ¬ (false = true) by decide)] at H;exact H
 clear H
 have H:=H1
 clear H1
 simp only [Option.some.injEq,Prod.mk.injEq] at H
 obtain ⟨rfl,rfl⟩:=H
 go_enter Try.func55,Try.ntmps55
 go_wp2_with (first|((with_reducible refine gate_dst (N:=2) rfl ?_);refine box_event ?hg (N:=2) ?hd (cs:=#[.int .i64 a0_0,.bool false]) (t:=79) ?hr ?_;(case hd=>rfl);(case hg=>rfl);(case hr=>(go_simp;done));intro gb185 hg w16 hbox hb;have n0_:=am_ (below_step HB.out hb);have n1_:=am_ (hbox);have n2_:=am_ ((by rw [hg];exact (below_size HB.out) : w.heap.size ≤ gb185));have n3_:=n2_;clear HB;have HB:=n0_;have BK185:=n1_;have GW185:=n2_;have GE185:=n3_;clear n0_ n1_ n2_ n3_ hb hbox hg)|((with_reducible refine gate_dst (N:=3) rfl ?_);refine box_event ?hg (N:=3) ?hd (cs:=#[.int .i64 a1_0,.slice A1_1 l1_1.length c1_1]) (t:=30) ?hr ?_;(case hd=>rfl);(case hg=>rfl);(case hr=>(go_simp;done));intro gb186 hg w17 hbox hb;have n0_:=am_ (blk_below BK185.out hb);have n1_:=am_ (below_step HB.out hb);have n2_:=am_ (hbox);have n3_:=am_ ((by rw [hg];exact (below_size HB.out) : w.heap.size ≤ gb186));have n4_:=n3_;have n5_:=am_ ((by rw [hg];exact Nat.ne_of_lt (blk_lt (g:=gb185) (o:=.cells #[.int .i64 a0_0,.bool false] 79 (0,0)) BK185.out) : gb185 ≠ gb186));have n6_:=am_ ((by rw [hg];exact Nat.ne_of_gt (blk_lt (g:=gb185) (o:=.cells #[.int .i64 a0_0,.bool false] 79 (0,0)) BK185.out) : gb186 ≠ gb185));clear BK185 HB;have BK185:=n0_;have HB:=n1_;have BK186:=n2_;have GW186:=n3_;have GE186:=n4_;have NB185_186:=n5_;have NB186_185:=n6_;clear n0_ n1_ n2_ n3_ n4_ n5_ n6_ hb hbox hg;have hnb18:=NB186_185.out;have hnc18:=NB185_186.out;have hcz19_0 : w17.cell? ⟨gb186,0,none⟩ = some (.int .i64 a1_0):=(blk_cell BK186.out 0).trans rfl;have hcz19_1 : w17.cell? ⟨gb186,1,none⟩ = some (.slice A1_1 l1_1.length c1_1):=(blk_cell BK186.out 1).trans rfl;have hfz19_0:=blk_frozen BK186.out 0;have hfz19_1:=blk_frozen BK186.out 1;have hcz20_0 : w17.cell? ⟨gb185,0,none⟩ = some (.int .i64 a0_0):=(blk_cell BK185.out 0).trans rfl;have hcz20_1 : w17.cell? ⟨gb185,1,none⟩ = some (.bool false):=(blk_cell BK185.out 1).trans rfl;have hfz20_0:=blk_frozen BK185.out 0;have hfz20_1:=blk_frozen BK185.out 1;have p187 : 0 ≤ (a0_0 : Int):=of_decide_eq_true (by (with_reducible assumption));have q187 : a0_0 < (l1_1.length : Int):=of_decide_eq_true (by (with_reducible assumption));obtain ⟨ad187,e187,hx187_0,hx187_1,hx187_2,hx187_3⟩:=at_T67 HR1_1.out a0_0 p187 q187;cases e187;replace hx187_0:=kc_ HB.out hx187_0;replace hx187_1:=kc_ HB.out hx187_1;replace hx187_2:=kc_ HB.out hx187_2;replace hx187_3:=kc_ HB.out hx187_3;replace p187:=eq_true p187;replace q187:=eq_true q187)|((with_reducible refine gate_dst (N:=6) rfl ?_);refine box_event ?hg (N:=6) ?hd (cs:=#[.int .i64 0,.int .i64 0,.int .i64 0,.int .i64 0]) (t:=67) ?hr ?_;(case hd=>rfl);(case hg=>rfl);(case hr=>(go_simp;done));intro gb188 hg w21 hbox hb;have n0_:=am_ (blk_below BK185.out hb);have n1_:=am_ (blk_below BK186.out hb);have n2_:=am_ (below_step HB.out hb);have n3_:=am_ (hbox);have n4_:=am_ ((by rw [hg];exact (below_size HB.out) : w.heap.size ≤ gb188));have n5_:=n4_;have n6_:=am_ ((by rw [hg];exact Nat.ne_of_lt (blk_lt (g:=gb185) (o:=.cells #[.int .i64 a0_0,.bool false] 79 (0,0)) BK185.out) : gb185 ≠ gb188));have n7_:=am_ ((by rw [hg];exact Nat.ne_of_gt (blk_lt (g:=gb185) (o:=.cells #[.int .i64 a0_0,.bool false] 79 (0,0)) BK185.out) : gb188 ≠ gb185));have n8_:=am_ ((by rw [hg];exact Nat.ne_of_lt (blk_lt (g:=gb186) (o:=.cells #[.int .i64 a1_0,.slice (some ad187) l1_1.length c1_1] 30 (0,0)) BK186.out) : gb186 ≠ gb188));have n9_:=am_ ((by rw [hg];exact Nat.ne_of_gt (blk_lt (g:=gb186) (o:=.cells #[.int .i64 a1_0,.slice (some ad187) l1_1.length c1_1] 30 (0,0)) BK186.out) : gb188 ≠ gb186));clear BK185 BK186 HB;have BK185:=n0_;have BK186:=n1_;have HB:=n2_;have BK188:=n3_;have GW188:=n4_;have GE188:=n5_;have NB185_188:=n6_;have NB188_185:=n7_;have NB186_188:=n8_;have NB188_186:=n9_;clear n0_ n1_ n2_ n3_ n4_ n5_ n6_ n7_ n8_ n9_ hb hbox hg;have hnb22:=NB188_185.out;have hnc22:=NB185_188.out;have hnb23:=NB188_186.out;have hnc23:=NB186_188.out;have hcz24_0 : w21.cell? ⟨gb188,0,none⟩ = some (.int .i64 0):=(blk_cell BK188.out 0).trans rfl;have hcz24_1 : w21.cell? ⟨gb188,1,none⟩ = some (.int .i64 0):=(blk_cell BK188.out 1).trans rfl;have hcz24_2 : w21.cell? ⟨gb188,2,none⟩ = some (.int .i64 0):=(blk_cell BK188.out 2).trans rfl;have hcz24_3 : w21.cell? ⟨gb188,3,none⟩ = some (.int .i64 0):=(blk_cell BK188.out 3).trans rfl;have hfz24_0:=blk_frozen BK188.out 0;have hfz24_1:=blk_frozen BK188.out 1;have hfz24_2:=blk_frozen BK188.out 2;have hfz24_3:=blk_frozen BK188.out 3;have hcz25_0 : w21.cell? ⟨gb185,0,none⟩ = some (.int .i64 a0_0):=(blk_cell BK185.out 0).trans rfl;have hcz25_1 : w21.cell? ⟨gb185,1,none⟩ = some (.bool false):=(blk_cell BK185.out 1).trans rfl;have hfz25_0:=blk_frozen BK185.out 0;have hfz25_1:=blk_frozen BK185.out 1))
 repeat (go_quiet (fail);try go_wp2_with (fail))
 go_ret2
 exact ⟨by rfl,by repeat ((with_reducible first|exact HB.out|apply pw_below_drewN|refine below_set ?_ GE188.out))⟩

end Go.Proofs.Ytgkpgigoonhgdaa.PFnCheapest
