-- Made by the session's wip/pp.py, a changed call of the kit's printer; Lean checks it.
import Derived.Test.YtgkpgigoonhgdaaPFnFlowsx0
import Derived.Test.YtgkpgigoonhgdaaPFnFlowsx1
import Derived.Test.YtgkpgigoonhgdaaPFnFlowsx3
import Derived.Test.YtgkpgigoonhgdaaPFnFlowsx4
import Derived.Test.YtgkpgigoonhgdaaPFnFlowsx7
import Derived.Test.YtgkpgigoonhgdaaPFnFlowsx8
import Derived.Test.YtgkpgigoonhgdaaPFnFlowsx12
import Derived.Test.YtgkpgigoonhgdaaPFnFlowsx13
import Derived.Test.YtgkpgigoonhgdaaPFnFlowsx14
namespace Go.Proofs.Ytgkpgigoonhgdaa.PFnFlows
open Go.RowKit Go.Proofs.YtgkpgigoonhgdaaW.PrintWords Go.Proofs.YtgkpgigoonhgdaaW.PrintLast Go.Proofs.YtgkpgigoonhgdaaW.PrintMore
attribute [local go_sem] max2_int min2_int max_two min_two max_three min_three max_four min_four   -- for this text's walks alone
set_option linter.unusedVariables false
set_option linter.unusedSimpArgs false

attribute [local go_sem high] eqA67
/-! ### spec_DrawPushed: function 30 -/
def spec_DrawPushed.f (k : Nat) (l0 : List Int) : Option (Int × (List (S67)) × List Int):=(spec_l01New.f k l0).bind fun bt361=>((spec_l06Right.f k bt361.1 bt361.2.1 bt361.2.2).bind fun bt365=>((spec_l01Below.f bt361.1 bt365.2.2.1 bt365.2.2.2 9).bind fun bt372=>((spec_l06Pushed.f k bt365.1 bt365.2.1 bt372.1).bind fun t375=>(some (bt365.1,bt365.2.1,t375)))))
theorem spec_DrawPushed.mono : ∀ a0 k,LeO (spec_DrawPushed.f k a0) (spec_DrawPushed.f (k + 1) a0):=by
 intro a0 k
 unfold spec_DrawPushed.f
 repeat' first
   | (with_reducible exact spec_l01New.mono _ _)
   | (with_reducible exact spec_l06Pushed.mono _ _ _ _)
   | (with_reducible exact spec_l06Right.mono _ _ _ _)
   | (with_reducible exact LeO.refl _)
   | (with_reducible refine LeO.bind ?_ (fun _ => ?_))
set_option maxHeartbeats 8000000 in
set_option maxRecDepth 100000 in
theorem spec_DrawPushed.calls (k : Nat) (A0 : Option Addr) (c0 : Nat) (l0 : List Int) (r1 : Int) (r2 : List (S67)) (r3 : List Int) (w : World) (hr0 : Kd.C (Kd.int .u8) w A0 l0.length l0) (hc0 : l0.length ≤ c0) (h : spec_DrawPushed.f k l0 = some (r1,r2,r3)) :
  Calls Try.prog 30 #[.slice A0 l0.length c0] w fun e w'=>∃ v1_ v2_ : Value,e = .returned (.tuple #[.agg #[.int .i64 r1,v1_],v2_]) ∧ Kd.R k67 67 w' w.heap.size (fun _=>True) v1_ r2 ∧ Kd.R (Kd.int .i64) 3 w' w.heap.size (fun _=>True) v2_ r3 ∧ Below w.heap.size w w':=by
 have hu30:=Try.underlying30
 have HR0:=am_ hr0
 have HC0:=am_ hc0
 clear hr0 hc0
 have HB:=am_ (Below.refl w.heap.size w)
 have H : ((spec_l01New.f k l0).bind fun bt361=>((spec_l06Right.f k bt361.1 bt361.2.1 bt361.2.2).bind fun bt365=>((spec_l01Below.f bt361.1 bt365.2.2.1 bt365.2.2.2 9).bind fun bt372=>((spec_l06Pushed.f k bt365.1 bt365.2.1 bt372.1).bind fun t375=>(some (bt365.1,bt365.2.1,t375)))))) = some (r1,r2,r3):=h
 clear h
 replace H:=Option.bind_eq_some_iff.mp H
 obtain ⟨⟨t361,t362,t363⟩,A20,H⟩:=H
 replace H : ((spec_l06Right.f k t361 t362 t363).bind fun bt365=>((spec_l01Below.f t361 bt365.2.2.1 bt365.2.2.2 9).bind fun bt372=>((spec_l06Pushed.f k bt365.1 bt365.2.1 bt372.1).bind fun t375=>(some (bt365.1,bt365.2.1,t375))))) = some (r1,r2,r3):=H
 have A2:=am_ A20
 clear A20
 replace H:=Option.bind_eq_some_iff.mp H
 obtain ⟨⟨t365,t366,t369,t370⟩,A30,H⟩:=H
 replace H : ((spec_l01Below.f t361 t369 t370 9).bind fun bt372=>((spec_l06Pushed.f k t365 t366 bt372.1).bind fun t375=>(some (t365,t366,t375)))) = some (r1,r2,r3):=H
 have A3:=am_ A30
 clear A30
 replace H:=Option.bind_eq_some_iff.mp H
 obtain ⟨⟨t372,t373,t374⟩,A40,H⟩:=H
 replace H : ((spec_l06Pushed.f k t365 t366 t372).bind fun t375=>(some (t365,t366,t375))) = some (r1,r2,r3):=H
 have A4:=am_ A40
 clear A40
 replace H:=Option.bind_eq_some_iff.mp H
 obtain ⟨t375,A50,H⟩:=H
 replace H : (some (t365,t366,t375)) = some (r1,r2,r3):=H
 have A5:=am_ A50
 clear A50
 simp only [Option.some.injEq,Prod.mk.injEq] at H
 obtain ⟨rfl,rfl,rfl⟩:=H
 go_enter Try.func30,Try.ntmps30
 try go_wp2_with (first|((with_reducible refine gate_dst (N:=2) rfl ?_);refine box_event ?hg (N:=2) ?hd (cs:=#[.int .i64 0,.slice none 0 0]) (t:=30) ?hr ?_;(case hd=>rfl);(case hg=>rfl);(case hr=>(go_simp;done));intro gb360 hg w6 hbox hb;have n0_:=am_ (below_step HB.out hb);have n1_:=am_ (hbox);have n2_:=am_ ((by rw [hg];exact (below_size HB.out) : w.heap.size ≤ gb360));have n3_:=n2_;clear HB;have HB:=n0_;have BK360:=n1_;have GW360:=n2_;have GE360:=n3_;clear n0_ n1_ n2_ n3_ hb hbox hg)|((with_reducible refine gate_callee (f:=59) rfl ?_);refine goesL_ (some 7) rfl rfl Try.func59 (by kernel_rfl) rfl #[.slice A0 l0.length c0] rfl (by (try simp only [List.map_toArray,List.map_cons,List.map_nil]);rfl) ?_;(with_reducible refine (spec_l01New.calls k _ _ l0 t361 t362 t363 w _ ?side1 ?side2 ?side3 A2.out).mono ?_);(case side1=>exact HB.out);(case side2=>exact HR0.out);(case side3=>exact HC0.out);rintro e w7 ⟨g364,rfl,hi,hb,hb2⟩;refine ⟨_,rfl,?_⟩;have n0_:=am_ (blk_below BK360.out hb2);have n1_:=am_ (hb);have n2_:=am_ (hi);have n3_:=am_ (IsS95.ne_blk hi (blk_below BK360.out hb2) (by decide));have n4_:=am_ (Ne.symm (IsS95.ne_blk hi (blk_below BK360.out hb2) (by decide)));clear BK360 HB;have BK360:=n0_;have HB:=n1_;have HI364:=n2_;have NB364_360:=n3_;have NB360_364:=n4_;clear n0_ n1_ n2_ n3_ n4_;(try clear hb);(try clear hb2);(try clear hi))|((with_reducible refine gate_callee (f:=60) rfl ?_);refine goesL_ (some 9) rfl rfl Try.func60 (by kernel_rfl) rfl #[.pointer (some ⟨g364,0,none⟩)] rfl (by (try simp only [List.map_toArray,List.map_cons,List.map_nil]);rfl) ?_;(with_reducible refine (spec_l06Right.calls k g364 t361 t362 t363 t365 t366 t369 t370 w _ ?side1 ?side2 A3.out).mono ?_);(case side1=>exact HI364.out);(case side2=>exact HB.out);rintro e w8 ⟨v367,rfl,ho0,hi,hb,hk⟩;refine ⟨_,rfl,?_⟩;have n0_:=am_ (KeepBut.blk hk (g':=gb360) (o:=.cells #[.int .i64 0,.slice none 0 0] 30 (0,0)) BK360.out NB360_364.out (by simp));have n1_:=am_ (Kd.R_lower ho0 (below_size HB.out));have n2_:=am_ (hb);have n3_:=am_ (hi);clear BK360 HB HI364;have BK360:=n0_;have HO368:=n1_;have HB:=n2_;have HI364:=n3_;clear n0_ n1_ n2_ n3_;(try clear hb);(try clear hk);(try clear hi);(try clear ho0))|((with_reducible refine gate_dst (N:=5) rfl ?_);refine box_event ?hg (N:=5) ?hd (cs:=#[.int .i64 0,.slice none 0 0]) (t:=30) ?hr ?_;(case hd=>rfl);(case hg=>rfl);(case hr=>(go_simp;done));intro gb371 hg w9 hbox hb;have n0_:=am_ (Kd.R_below HO368.out hb);have n1_:=am_ (blk_below BK360.out hb);have n2_:=am_ (IsS95.below (by exact HI364.out) hb);have n3_:=am_ (below_step HB.out hb);have n4_:=am_ (hbox);have n5_:=am_ ((by rw [hg];exact (below_size HB.out) : w.heap.size ≤ gb371));have n6_:=n5_;have n7_:=am_ ((by rw [hg];exact Nat.ne_of_lt (blk_lt (g:=gb360) (o:=.cells #[.int .i64 0,.slice none 0 0] 30 (0,0)) BK360.out) : gb360 ≠ gb371));have n8_:=am_ ((by rw [hg];exact Nat.ne_of_gt (blk_lt (g:=gb360) (o:=.cells #[.int .i64 0,.slice none 0 0] 30 (0,0)) BK360.out) : gb371 ≠ gb360));have n9_:=am_ ((by rw [hg];exact Nat.ne_of_lt (IsS95.lt (show IsS95 w _ g364 t361 t369 t370 from by exact HI364.out)) : g364 ≠ gb371));have n10_:=am_ ((by rw [hg];exact Nat.ne_of_gt (IsS95.lt (show IsS95 w _ g364 t361 t369 t370 from by exact HI364.out)) : gb371 ≠ g364));clear HO368 BK360 HI364 HB;have HO368:=n0_;have BK360:=n1_;have HI364:=n2_;have HB:=n3_;have BK371:=n4_;have GW371:=n5_;have GE371:=n6_;have NB360_371:=n7_;have NB371_360:=n8_;have NB364_371:=n9_;have NB371_364:=n10_;clear n0_ n1_ n2_ n3_ n4_ n5_ n6_ n7_ n8_ n9_ n10_ hb hbox hg;have hnb10:=NB371_360.out;have hnc10:=NB360_371.out;have hnb11:=NB371_364.out;have hnc11:=NB364_371.out;have hcz12_0 : w9.cell? ⟨gb371,0,none⟩ = some (.int .i64 0):=(blk_cell BK371.out 0).trans rfl;have hcz12_1 : w9.cell? ⟨gb371,1,none⟩ = some (.slice none 0 0):=(blk_cell BK371.out 1).trans rfl;have hfz12_0:=blk_frozen BK371.out 0;have hfz12_1:=blk_frozen BK371.out 1;obtain ⟨Ao13,co13,eo13⟩:=Kd.R_slice HO368.out;subst eo13))
 have n0_ : Aside0 (Kd.R k67 67 ((w9.setCell ⟨gb371,0,none⟩ (.int .i64 t365)).setCell ⟨gb371,1,none⟩ (.slice Ao13 t366.length co13)) w.heap.size (fun _=>True) (.slice Ao13 t366.length co13) t366):=⟨by exact Kd.R_mono (Kd.R_far (p:=⟨gb371,1,none⟩) (Kd.R_far (p:=⟨gb371,0,none⟩) (Kd.R_types HO368.out BK371.out (by decide)) (fun _ hk=>hk.2) (.int .i64 t365)) (fun _ hk=>hk.2) (.slice Ao13 t366.length co13)) (fun _ hk=>trivial)⟩
 have n1_ : Aside0 (((w9.setCell ⟨gb371,0,none⟩ (.int .i64 t365)).setCell ⟨gb371,1,none⟩ (.slice Ao13 t366.length co13)).heap[gb360]? = some (.cells #[.int .i64 0,.slice none 0 0] 30 (0,0))):=⟨by refine blk_far ?_ NB360_371.out _;refine blk_far ?_ NB360_371.out _;exact BK360.out⟩
 have n2_ : Aside0 (((w9.setCell ⟨gb371,0,none⟩ (.int .i64 t365)).setCell ⟨gb371,1,none⟩ (.slice Ao13 t366.length co13)).heap[gb371]? = some (.cells #[.int .i64 t365,.slice Ao13 t366.length co13] 30 (0,0))):=⟨by refine blk_put (cs:=#[.int .i64 t365,.slice none 0 0]) ?_ 1 _ rfl;refine blk_put (cs:=#[.int .i64 0,.slice none 0 0]) ?_ 0 _ rfl;exact BK371.out⟩
 have n3_ : Aside0 (IsS95 w ((w9.setCell ⟨gb371,0,none⟩ (.int .i64 t365)).setCell ⟨gb371,1,none⟩ (.slice Ao13 t366.length co13)) g364 t361 t369 t370):=⟨by repeat ((with_reducible first|exact HI364.out|refine IsS95.far ?_ NB364_371.out _))⟩
 have n4_ : Aside0 (Below w.heap.size w ((w9.setCell ⟨gb371,0,none⟩ (.int .i64 t365)).setCell ⟨gb371,1,none⟩ (.slice Ao13 t366.length co13))):=⟨by repeat ((with_reducible first|exact HB.out|refine below_set ?_ GE371.out))⟩
 (try clear HO368)
 (try clear BK360)
 (try clear BK371)
 (try clear HI364)
 (try clear HB)
 generalize ((w9.setCell ⟨gb371,0,none⟩ (.int .i64 t365)).setCell ⟨gb371,1,none⟩ (.slice Ao13 t366.length co13)) = w14 at n0_ n1_ n2_ n3_ n4_ ⊢
 have HO368:=n0_
 have BK360:=n1_
 have BK371:=n2_
 have HI364:=n3_
 have HB:=n4_
 clear n0_ n1_ n2_ n3_ n4_
 have n0_:=am_ (Kd.R_drew HO368.out)
 have n1_:=am_ (blk_drew BK360.out)
 have n2_:=am_ (blk_drew BK371.out)
 have n3_:=am_ (IsS95.drew HI364.out)
 have n4_:=am_ (below_drew1 HB.out)
 clear HO368
 clear BK360
 clear BK371
 clear HI364
 clear HB
 have HO368:=n0_
 have BK360:=n1_
 have BK371:=n2_
 have HI364:=n3_
 have HB:=n4_
 clear n0_ n1_ n2_ n3_ n4_
 refine start_ (n:=7) (S:=fun w'=>w'.cell? ⟨gb371,0,none⟩ = some (.int .i64 t365) ∧ w'.cell? ⟨gb371,1,none⟩ = some (.slice Ao13 t366.length co13)) (ds:=[]) #[false,false,false,false,false,false,false] (by kernel_rfl) rfl rfl ⟨(blk_cell BK371.out 0).trans rfl,(blk_cell BK371.out 1).trans rfl⟩ (fun hHeld=>?_)
 generalize w14.drew = w15 at HO368 BK360 BK371 HI364 HB hHeld ⊢
 refine pure_ (i:=2) (N:=some 12) (v:=?_) (a':=?_) #[false,false,true,false,false,false,false] rfl rfl (by kernel_rfl) (fun _ _ _ h=>h) (Or.inl ⟨by rfl,?_⟩) ?_ ?_
 rotate_left
 ·intro w'
  go_simp
  with_reducible rfl
 rotate_left
 ·simp only [Act.put,List.setIfInBounds_toArray,List.set_cons_zero,List.set_cons_succ,i64_w,i32_w]
  rfl
 refine take_ (i:=0) (N:=some 10) (v:=?_) (a':=?_) #[true,false,true,false,false,false,false] rfl rfl (by kernel_rfl) (fun _ _ _ h=>h) (Or.inl ⟨by rfl,?_⟩) hHeld ?_ ?_
 rotate_left
 ·rintro w' ⟨s0,s1⟩
  go_simp
  with_reducible rfl
 rotate_left
 ·simp only [Act.put,List.setIfInBounds_toArray,List.set_cons_zero,List.set_cons_succ,i64_w,i32_w]
  rfl
 refine take_ (i:=1) (N:=some 11) (v:=?_) (a':=?_) #[true,true,true,false,false,false,false] rfl rfl (by kernel_rfl) (fun _ _ _ h=>h) (Or.inl ⟨by rfl,?_⟩) hHeld ?_ ?_
 rotate_left
 ·rintro w' ⟨s0,s1⟩
  go_simp
  with_reducible rfl
 rotate_left
 ·simp only [Act.put,List.setIfInBounds_toArray,List.set_cons_zero,List.set_cons_succ,i64_w,i32_w]
  rfl
 refine one_ (i:=3) (N:=some 13) #[true,true,true,true,false,false,false] rfl rfl (by kernel_rfl) (by decide) (fun K hK=>?_)
 refine goes_ Try.func61 (by kernel_rfl) rfl #[.pointer (some ⟨g364,0,none⟩),.int .i64 9] (by rfl) rfl rfl (by (try simp only [List.map_toArray,List.map_cons,List.map_nil]);rfl) ?_
 with_reducible refine (spec_l01Below.calls g364 t361 t369 t370 9 t372 t373 t374 w _ ?side1 ?side2 A4.out).mono ?_
 (case side1=>exact HI364.out)
 (case side2=>exact HB.out)
 rintro e w16 ⟨rfl,hi,hb,hk⟩
 refine ⟨_,rfl,?_⟩
 have n0_:=am_ (KeepBut.blk hk (g':=gb360) (o:=.cells #[.int .i64 0,.slice none 0 0] 30 (0,0)) BK360.out NB360_364.out (by simp))
 have n1_:=am_ (Kd.R_mono (Kd.R_keep (IsS95.apart (show IsS95 w _ g364 t361 t369 t370 from by exact HI364.out) HO368.out (by decide)) hk (fun _ h=>h.2)) (fun _ h=>h.1))
 have n2_:=am_ (KeepBut.blk hk (g':=gb371) (o:=.cells #[.int .i64 t365,.slice Ao13 t366.length co13] 30 (0,0)) BK371.out NB371_364.out (by simp))
 have n3_:=am_ (hb)
 have n4_:=am_ (hi)
 clear BK360
 clear HO368
 clear BK371
 clear HB
 clear HI364
 have BK360:=n0_
 have HO368:=n1_
 have BK371:=n2_
 have HB:=n3_
 have HI364:=n4_
 clear n0_ n1_ n2_ n3_ n4_
 (try clear hb)
 (skip)
 (try clear hk)
 (try clear hi)
 refine hK.out _ _ ⟨(blk_cell BK371.out 0).trans rfl,(blk_cell BK371.out 1).trans rfl⟩ (fun hHeld=>?_)
 clear hK K
 refine norm_ (a':=?_) ?_ ?_
 rotate_left
 ·show Act.put _ (some 13) _ = _
  simp only [Act.put,List.setIfInBounds_toArray,List.set_cons_zero,List.set_cons_succ,i64_w,i32_w]
  rfl
 refine one_ (i:=4) (N:=some 14) #[true,true,true,true,true,false,false] rfl rfl (by kernel_rfl) (by decide) (fun K hK=>?_)
 refine goes_ Try.func52 (by kernel_rfl) rfl #[.agg #[.int .i64 t365,.slice Ao13 t366.length co13],.int .i64 t372] (by rfl) rfl rfl (by (try simp only [List.map_toArray,List.map_cons,List.map_nil]);rfl) ?_
 with_reducible refine (spec_l06Pushed.calls k t365 _ _ t366 t372 t375 _ ?side1 ?side2 A5.out).mono ?_
 (case side1=>repeat (exact (Kd.R_reads' HO368.out).2.2))
 (case side2=>exact (Kd.R_reads' HO368.out).2.1)
 rintro e w17 ⟨v376,rfl,ho0,hb⟩
 refine ⟨_,rfl,?_⟩
 have n0_:=am_ (Kd.R_below HO368.out hb)
 have n1_:=am_ (Kd.R_lower ho0 (below_size HB.out))
 have n2_:=am_ (blk_below BK360.out hb)
 have n3_:=am_ (IsS95.below (by exact HI364.out) hb)
 have n4_:=am_ (blk_below BK371.out hb)
 have n5_:=am_ (below_step HB.out hb)
 clear HO368
 clear BK360
 clear HI364
 clear BK371
 clear HB
 have HO368:=n0_
 have HO377:=n1_
 have BK360:=n2_
 have HI364:=n3_
 have BK371:=n4_
 have HB:=n5_
 clear n0_ n1_ n2_ n3_ n4_ n5_
 (try clear hb)
 (skip)
 (skip)
 (skip)
 (try clear ho0)
 refine hK.out _ _ ⟨(blk_cell BK371.out 0).trans rfl,(blk_cell BK371.out 1).trans rfl⟩ (fun hHeld=>?_)
 clear hK K
 refine norm_ (a':=?_) ?_ ?_
 rotate_left
 ·show Act.put _ (some 14) _ = _
  simp only [Act.put,List.setIfInBounds_toArray,List.set_cons_zero,List.set_cons_succ,i64_w,i32_w]
  rfl
 refine one_ (i:=5) (N:=none) #[true,true,true,true,true,true,false] rfl rfl (by kernel_rfl) (by decide) (fun K hK=>?_)
 have hs18 : w17.cell? ⟨gb360,0,none⟩ = some (.int .i64 0):=(blk_cell BK360.out 0).trans rfl
 have hfs18:=blk_frozen BK360.out 0
 have hns18_1:=NB371_360.out
 have hms18_1:=NB360_371.out
 have hs19 : w17.cell? ⟨gb360,1,none⟩ = some (.slice none 0 0):=(blk_cell BK360.out 1).trans rfl
 have hfs19:=blk_frozen BK360.out 1
 have hns19_1:=NB371_360.out
 have hms19_1:=NB360_371.out
 refine skip_ (w1:=?_) (by rfl) rfl ?_ ?_
 rotate_left
 ·go_simp
  rfl
 refine hK.out _ _ ⟨((cell_far (p:=⟨gb360,_,none⟩) NB371_360.out _).trans (((cell_far (p:=⟨gb360,_,none⟩) NB371_360.out _).trans (hHeld.1)))),((cell_far (p:=⟨gb360,_,none⟩) NB371_360.out _).trans (((cell_far (p:=⟨gb360,_,none⟩) NB371_360.out _).trans (hHeld.2))))⟩ (fun hHeld=>?_)
 clear hK K
 refine pure_ (i:=6) (N:=some 3) (v:=?_) (a':=?_) #[true,true,true,true,true,true,true] rfl rfl (by kernel_rfl) (fun _ _ _ h=>h) (Or.inl ⟨by rfl,?_⟩) ?_ ?_
 rotate_left
 ·intro w'
  go_simp
  with_reducible rfl
 rotate_left
 ·simp only [Act.put,List.setIfInBounds_toArray,List.set_cons_zero,List.set_cons_succ,i64_w,i32_w]
  rfl
 refine done_ (by kernel_rfl) ?_
 try go_wp2
 refine bodyPost_ret (results_ct rfl _ _ gb360 30 #[.int .i64 t365,.slice Ao13 t366.length co13] (0,0) _ rfl (by refine blk_put (cs:=#[.int .i64 t365,.slice none 0 0]) ?_ 1 _ rfl;refine blk_put (cs:=#[.int .i64 0,.slice none 0 0]) ?_ 0 _ rfl;exact BK360.out) Try.underlying30 rfl (by kernel_rfl)) rfl ?_
 exact ⟨_,_,by rfl,by exact Kd.R_mono (Kd.R_far (p:=⟨gb360,1,none⟩) (Kd.R_far (p:=⟨gb360,0,none⟩) (Kd.R_types HO368.out BK360.out (by decide)) (fun _ hk=>hk.2) (.int .i64 t365)) (fun _ hk=>hk.2) (.slice Ao13 t366.length co13)) (fun _ hk=>trivial),by exact Kd.R_mono (Kd.R_far (p:=⟨gb360,1,none⟩) (Kd.R_far (p:=⟨gb360,0,none⟩) (Kd.R_types HO377.out BK360.out (by decide)) (fun _ hk=>hk.2) (.int .i64 t365)) (fun _ hk=>hk.2) (.slice Ao13 t366.length co13)) (fun _ hk=>trivial),by repeat ((with_reducible first|exact HB.out|refine below_set ?_ GE360.out))⟩

/-! ### laws_sameArcs: function 62 -/
def laws_sameArcs.l0 : Nat → List (S67) → List (S67) → Int → Option (Bool)
 | 0, _, _, _ => none
 | k + 1, x0, x1, x5 => if x5 < (x0.length : Int) then (if 0 ≤ x5 then (if x5 < (x1.length : Int) then (if (!(((rd_T67 x0 x5).f0) == ((rd_T67 x1 x5).f0)) || (!(((rd_T67 x0 x5).f1) == ((rd_T67 x1 x5).f1)) || (!(((rd_T67 x0 x5).f2) == ((rd_T67 x1 x5).f2)) || (!(((rd_T67 x0 x5).f3) == ((rd_T67 x1 x5).f3)))))) = true then (some false) else (laws_sameArcs.l0 k x0 x1 (wrap64 (x5 + 1)))) else (none)) else (none)) else (some true)
def laws_sameArcs.f (k : Nat) (l0 : List (S67)) (l1 : List (S67)) : Option (Bool):=if (l0.length : Int) = (l1.length : Int) then (laws_sameArcs.l0 k l0 l1 0) else (some false)
theorem laws_sameArcs.mono_l : ∀ k,(∀ y0 y1 y2,LeO (laws_sameArcs.l0 k y0 y1 y2) (laws_sameArcs.l0 (k + 1) y0 y1 y2))
 | 0 => fun _ _ _ r h => by simp [laws_sameArcs.l0] at h
 | k + 1 => by
  have ih0:=laws_sameArcs.mono_l k
  ·intro y0 y1 y2
   unfold laws_sameArcs.l0
   repeat' first
   | (with_reducible exact ih0 _ _ _)
   | (with_reducible exact LeO.refl _)
   | (with_reducible refine LeO.ite ?_ ?_)
theorem laws_sameArcs.mono : ∀ a0 a1 k,LeO (laws_sameArcs.f k a0 a1) (laws_sameArcs.f (k + 1) a0 a1):=by
 intro a0 a1 k
 have ih0:=laws_sameArcs.mono_l k
 unfold laws_sameArcs.f
 repeat' first
   | (with_reducible exact ih0 _ _ _)
   | (with_reducible exact LeO.refl _)
   | (with_reducible refine LeO.ite ?_ ?_)
set_option maxHeartbeats 8000000 in
set_option maxRecDepth 100000 in
theorem laws_sameArcs.calls (k : Nat) (A0 : Option Addr) (c0 : Nat) (l0 : List (S67)) (A1 : Option Addr) (c1 : Nat) (l1 : List (S67)) (r : Bool) (w : World) (hr0 : Kd.C k67 w A0 l0.length l0) (hc0 : l0.length ≤ c0) (hr1 : Kd.C k67 w A1 l1.length l1) (hc1 : l1.length ≤ c1) (h : laws_sameArcs.f k l0 l1 = some r) :
  Calls Try.prog 62 #[.slice A0 l0.length c0,.slice A1 l1.length c1] w fun e w'=>e = .returned (.bool r) ∧ Drawn0 w w':=by
 have hu67:=Try.underlying67
 have HR0:=am_ hr0
 have HC0:=am_ hc0
 clear hr0 hc0
 have HR1:=am_ hr1
 have HC1:=am_ hc1
 clear hr1 hc1
 have H : (if (l0.length : Int) = (l1.length : Int) then (laws_sameArcs.l0 k l0 l1 0) else (some false)) = some r:=h
 clear h
 by_cases c3 : (l0.length : Int) = (l1.length : Int)
 rotate_left
 ·rw [if_neg c3] at H
  have c3b0 : ((l0.length : Int) == (l1.length : Int)) = false:=beq_eq_false_iff_ne.mpr c3
  have c3b1 : ((l0.length : Int) != (l1.length : Int)) = true:=bne_iff_ne.mpr c3
  have c3b2 : (l0.length == l1.length) = false:=by (simp at c3 ⊢;omega)
  obtain rfl:=Option.some.inj H
  go_enter Try.func62,Try.ntmps62
  go_wp2
  repeat (go_quiet (fail);try go_wp2)
  go_ret
  exact ⟨by rfl,by repeat (exact Drawn0.refl _)⟩
 rw [if_pos c3] at H
 have c3b0 : ((l0.length : Int) == (l1.length : Int)) = true:=beq_iff_eq.mpr c3
 have c3b1 : ((l0.length : Int) != (l1.length : Int)) = false:=bne_eq_false_iff_eq.mpr c3
 have c3b2 : (l0.length == l1.length) = true:=by (simp at c3 ⊢;omega)
 clear c3
 have H':=am_ H
 clear H
 go_enter Try.func62,Try.ntmps62
 go_wp2
 repeat (go_quiet (fail);try go_wp2)
 go_loopg [5] k (fun kq v5 w'=>∃ (x5_1 : Int),v5 = .int .i64 x5_1 ∧ Aside0 (laws_sameArcs.l0 kq l0 l1 x5_1 = some r) ∧ Aside0 (kq ≤ k) ∧ Drawn0 w w')
 case atStart=>exact ⟨(0),(by rfl),H',⟨Nat.le_refl _⟩,by repeat (exact Drawn0.refl _)⟩
 case round =>
  clear H'
  try clear c1
  try clear p2
  try clear c3
  try clear c3b0
  try clear c3b1
  try clear c3b2
  obtain ⟨x5_1,rfl,HA,HK1,⟨m1,rfl⟩⟩:=hrel
  cases gk with
  | zero => exact absurd HA.out (by simp [laws_sameArcs.l0])
  | succ k1 =>
   have H:=HA.out
   clear HA
   simp only [laws_sameArcs.l0] at H
   by_cases c4 : x5_1 < (l0.length : Int)
   rotate_left
   ·rw [if_neg c4] at H
    have c4b0 : decide (x5_1 < (l0.length : Int)) = false:=decide_eq_false c4
    clear c4
    obtain rfl:=Option.some.inj H
    go_wp2
    repeat (go_quiet (fail);try go_wp2)
    go_ret
    exact ⟨by rfl,by repeat (first|exact Drawn0.refl _|apply Drawn0.step)⟩
   rw [if_pos c4] at H
   have c4b0 : decide (x5_1 < (l0.length : Int)) = true:=decide_eq_true c4
   clear c4
   by_cases c5 : 0 ≤ x5_1
   rotate_left
   ·rw [if_neg c5] at H
    exact absurd H (by simp)
   rw [if_pos c5] at H
   have c5b0 : decide (0 ≤ x5_1) = true:=decide_eq_true c5
   clear c5
   by_cases c6 : x5_1 < (l1.length : Int)
   rotate_left
   ·rw [if_neg c6] at H
    exact absurd H (by simp)
   rw [if_pos c6] at H
   have c6b0 : decide (x5_1 < (l1.length : Int)) = true:=decide_eq_true c6
   clear c6
   by_cases c7 : (!(((rd_T67 l0 x5_1).f0) == ((rd_T67 l1 x5_1).f0)) || (!(((rd_T67 l0 x5_1).f1) == ((rd_T67 l1 x5_1).f1)) || (!(((rd_T67 l0 x5_1).f2) == ((rd_T67 l1 x5_1).f2)) || (!(((rd_T67 l0 x5_1).f3) == ((rd_T67 l1 x5_1).f3)))))) = true
   ·rw [if_pos c7] at H
    have c7b0 : (!(((rd_T67 l0 x5_1).f0) == ((rd_T67 l1 x5_1).f0)) || (!(((rd_T67 l0 x5_1).f1) == ((rd_T67 l1 x5_1).f1)) || (!(((rd_T67 l0 x5_1).f2) == ((rd_T67 l1 x5_1).f2)) || (!(((rd_T67 l0 x5_1).f3) == ((rd_T67 l1 x5_1).f3)))))) = true:=c7
    clear c7
    obtain rfl:=Option.some.inj H
    have p378 : 0 ≤ (x5_1 : Int):=of_decide_eq_true (by (with_reducible assumption))
    have q378 : x5_1 < (l0.length : Int):=of_decide_eq_true (by (with_reducible assumption))
    obtain ⟨ad378,e378,hx378_0,hx378_1,hx378_2,hx378_3⟩:=at_T67 HR0.out x5_1 p378 q378
    cases e378
    replace p378:=eq_true p378
    replace q378:=eq_true q378
    have p379 : 0 ≤ (x5_1 : Int):=of_decide_eq_true (by (with_reducible assumption))
    have q379 : x5_1 < (l1.length : Int):=of_decide_eq_true (by (with_reducible assumption))
    obtain ⟨ad379,e379,hx379_0,hx379_1,hx379_2,hx379_3⟩:=at_T67 HR1.out x5_1 p379 q379
    cases e379
    replace p379:=eq_true p379
    replace q379:=eq_true q379
    go_wp2
    repeat (go_quiet (fail);try go_wp2)
    go_ret
    exact ⟨by rfl,by repeat (first|exact Drawn0.refl _|apply Drawn0.step)⟩
   rw [if_neg c7] at H
   have c7b0 : (!(((rd_T67 l0 x5_1).f0) == ((rd_T67 l1 x5_1).f0)) || (!(((rd_T67 l0 x5_1).f1) == ((rd_T67 l1 x5_1).f1)) || (!(((rd_T67 l0 x5_1).f2) == ((rd_T67 l1 x5_1).f2)) || (!(((rd_T67 l0 x5_1).f3) == ((rd_T67 l1 x5_1).f3)))))) = false:=by simpa using c7
   clear c7
   have H':=am_ H
   clear H
   have p378 : 0 ≤ (x5_1 : Int):=of_decide_eq_true (by (with_reducible assumption))
   have q378 : x5_1 < (l0.length : Int):=of_decide_eq_true (by (with_reducible assumption))
   obtain ⟨ad378,e378,hx378_0,hx378_1,hx378_2,hx378_3⟩:=at_T67 HR0.out x5_1 p378 q378
   cases e378
   replace p378:=eq_true p378
   replace q378:=eq_true q378
   have p379 : 0 ≤ (x5_1 : Int):=of_decide_eq_true (by (with_reducible assumption))
   have q379 : x5_1 < (l1.length : Int):=of_decide_eq_true (by (with_reducible assumption))
   obtain ⟨ad379,e379,hx379_0,hx379_1,hx379_2,hx379_3⟩:=at_T67 HR1.out x5_1 p379 q379
   cases e379
   replace p379:=eq_true p379
   replace q379:=eq_true q379
   go_wp2
   repeat (go_quiet (fail);try go_wp2)
   go_roundg k1
   case measure=>have:=HK1.out;omega
   case rel=>exact ⟨(wrap64 (x5_1 + 1)),(by rfl),H',⟨by have:=HK1.out;omega⟩,by repeat (first|exact Drawn0.refl _|apply Drawn0.step)⟩

/-! ### laws_sameNet: function 32 -/
def laws_sameNet.f (k : Nat) (a0_0 : Int) (l0_1 : List (S67)) (a1_0 : Int) (l1_1 : List (S67)) : Option (Bool):=if a0_0 = a1_0 then ((laws_sameArcs.f k l0_1 l1_1).bind fun t382=>(some t382)) else (some false)
theorem laws_sameNet.mono : ∀ a0 a1 a2 a3 k,LeO (laws_sameNet.f k a0 a1 a2 a3) (laws_sameNet.f (k + 1) a0 a1 a2 a3):=by
 intro a0 a1 a2 a3 k
 unfold laws_sameNet.f
 repeat' first
   | (with_reducible exact laws_sameArcs.mono _ _ _)
   | (with_reducible exact LeO.refl _)
   | (with_reducible refine LeO.ite ?_ ?_)
   | (with_reducible refine LeO.bind ?_ (fun _ => ?_))
set_option maxHeartbeats 8000000 in
set_option maxRecDepth 100000 in
theorem laws_sameNet.calls (k : Nat) (a0_0 : Int) (A0_1 : Option Addr) (c0_1 : Nat) (l0_1 : List (S67)) (a1_0 : Int) (A1_1 : Option Addr) (c1_1 : Nat) (l1_1 : List (S67)) (r : Bool) (w : World) (hr0_1 : Kd.C k67 w A0_1 l0_1.length l0_1) (hc0_1 : l0_1.length ≤ c0_1) (hr1_1 : Kd.C k67 w A1_1 l1_1.length l1_1) (hc1_1 : l1_1.length ≤ c1_1) (h : laws_sameNet.f k a0_0 l0_1 a1_0 l1_1 = some r) :
  Calls Try.prog 32 #[.agg #[.int .i64 a0_0,.slice A0_1 l0_1.length c0_1],.agg #[.int .i64 a1_0,.slice A1_1 l1_1.length c1_1]] w fun e w'=>e = .returned (.bool r) ∧ Below w.heap.size w w':=by
 have hu30:=Try.underlying30
 have HR0_1:=am_ hr0_1
 have HC0_1:=am_ hc0_1
 clear hr0_1 hc0_1
 have HR1_1:=am_ hr1_1
 have HC1_1:=am_ hc1_1
 clear hr1_1 hc1_1
 have HB:=am_ (Below.refl w.heap.size w)
 have H : (if a0_0 = a1_0 then ((laws_sameArcs.f k l0_1 l1_1).bind fun t382=>(some t382)) else (some false)) = some r:=h
 clear h
 by_cases c3 : a0_0 = a1_0
 ·rw [if_pos c3] at H
  have c3b0 : (a0_0 == a1_0) = true:=beq_iff_eq.mpr c3
  have c3b1 : (a0_0 != a1_0) = false:=bne_eq_false_iff_eq.mpr c3
  clear c3
  replace H:=Option.bind_eq_some_iff.mp H
  obtain ⟨t382,A40,H⟩:=H
  replace H : (some t382) = some r:=H
  have A4:=am_ A40
  clear A40
  obtain rfl:=Option.some.inj H
  go_enter Try.func32,Try.ntmps32
  go_wp2_with (first|((with_reducible refine gate_dst (N:=2) rfl ?_);refine box_event ?hg (N:=2) ?hd (cs:=#[.int .i64 a0_0,.slice A0_1 l0_1.length c0_1]) (t:=30) ?hr ?_;(case hd=>rfl);(case hg=>rfl);(case hr=>(go_simp;done));intro gb380 hg w5 hbox hb;have n0_:=am_ (below_step HB.out hb);have n1_:=am_ (hbox);have n2_:=am_ ((by rw [hg];exact (below_size HB.out) : w.heap.size ≤ gb380));have n3_:=n2_;clear HB;have HB:=n0_;have BK380:=n1_;have GW380:=n2_;have GE380:=n3_;clear n0_ n1_ n2_ n3_ hb hbox hg)|((with_reducible refine gate_dst (N:=3) rfl ?_);refine box_event ?hg (N:=3) ?hd (cs:=#[.int .i64 a1_0,.slice A1_1 l1_1.length c1_1]) (t:=30) ?hr ?_;(case hd=>rfl);(case hg=>rfl);(case hr=>(go_simp;done));intro gb381 hg w6 hbox hb;have n0_:=am_ (blk_below BK380.out hb);have n1_:=am_ (below_step HB.out hb);have n2_:=am_ (hbox);have n3_:=am_ ((by rw [hg];exact (below_size HB.out) : w.heap.size ≤ gb381));have n4_:=n3_;have n5_:=am_ ((by rw [hg];exact Nat.ne_of_lt (blk_lt (g:=gb380) (o:=.cells #[.int .i64 a0_0,.slice A0_1 l0_1.length c0_1] 30 (0,0)) BK380.out) : gb380 ≠ gb381));have n6_:=am_ ((by rw [hg];exact Nat.ne_of_gt (blk_lt (g:=gb380) (o:=.cells #[.int .i64 a0_0,.slice A0_1 l0_1.length c0_1] 30 (0,0)) BK380.out) : gb381 ≠ gb380));clear BK380 HB;have BK380:=n0_;have HB:=n1_;have BK381:=n2_;have GW381:=n3_;have GE381:=n4_;have NB380_381:=n5_;have NB381_380:=n6_;clear n0_ n1_ n2_ n3_ n4_ n5_ n6_ hb hbox hg;have hnb7:=NB380_381.out;have hnc7:=NB381_380.out;have hcz8_0 : w6.cell? ⟨gb380,0,none⟩ = some (.int .i64 a0_0):=(blk_cell BK380.out 0).trans rfl;have hcz8_1 : w6.cell? ⟨gb380,1,none⟩ = some (.slice A0_1 l0_1.length c0_1):=(blk_cell BK380.out 1).trans rfl;have hfz8_0:=blk_frozen BK380.out 0;have hfz8_1:=blk_frozen BK380.out 1;have hcz9_0 : w6.cell? ⟨gb381,0,none⟩ = some (.int .i64 a1_0):=(blk_cell BK381.out 0).trans rfl;have hcz9_1 : w6.cell? ⟨gb381,1,none⟩ = some (.slice A1_1 l1_1.length c1_1):=(blk_cell BK381.out 1).trans rfl;have hfz9_0:=blk_frozen BK381.out 0;have hfz9_1:=blk_frozen BK381.out 1)|(go_at_call 62;(with_reducible refine (laws_sameArcs.calls k _ _ l0_1 _ _ l1_1 t382 _ ?side1 ?side2 ?side3 ?side4 A4.out).mono ?_);(case side1=>exact (Kd.C_below HR0_1.out HB.out));(case side2=>exact HC0_1.out);(case side3=>exact (Kd.C_below HR1_1.out HB.out));(case side4=>exact HC1_1.out);rintro e w' ⟨rfl,⟨nd,rfl⟩⟩))
  go_ret
  exact ⟨by rfl,by repeat ((with_reducible first|exact HB.out|apply pw_below_drewN))⟩
 rw [if_neg c3] at H
 have c3b0 : (a0_0 == a1_0) = false:=beq_eq_false_iff_ne.mpr c3
 have c3b1 : (a0_0 != a1_0) = true:=bne_iff_ne.mpr c3
 obtain rfl:=Option.some.inj H
 go_enter Try.func32,Try.ntmps32
 go_wp2_with (first|((with_reducible refine gate_dst (N:=2) rfl ?_);refine box_event ?hg (N:=2) ?hd (cs:=#[.int .i64 a0_0,.slice A0_1 l0_1.length c0_1]) (t:=30) ?hr ?_;(case hd=>rfl);(case hg=>rfl);(case hr=>(go_simp;done));intro gb380 hg w10 hbox hb;have n0_:=am_ (below_step HB.out hb);have n1_:=am_ (hbox);have n2_:=am_ ((by rw [hg];exact (below_size HB.out) : w.heap.size ≤ gb380));have n3_:=n2_;clear HB;have HB:=n0_;have BK380:=n1_;have GW380:=n2_;have GE380:=n3_;clear n0_ n1_ n2_ n3_ hb hbox hg)|((with_reducible refine gate_dst (N:=3) rfl ?_);refine box_event ?hg (N:=3) ?hd (cs:=#[.int .i64 a1_0,.slice A1_1 l1_1.length c1_1]) (t:=30) ?hr ?_;(case hd=>rfl);(case hg=>rfl);(case hr=>(go_simp;done));intro gb381 hg w11 hbox hb;have n0_:=am_ (blk_below BK380.out hb);have n1_:=am_ (below_step HB.out hb);have n2_:=am_ (hbox);have n3_:=am_ ((by rw [hg];exact (below_size HB.out) : w.heap.size ≤ gb381));have n4_:=n3_;have n5_:=am_ ((by rw [hg];exact Nat.ne_of_lt (blk_lt (g:=gb380) (o:=.cells #[.int .i64 a0_0,.slice A0_1 l0_1.length c0_1] 30 (0,0)) BK380.out) : gb380 ≠ gb381));have n6_:=am_ ((by rw [hg];exact Nat.ne_of_gt (blk_lt (g:=gb380) (o:=.cells #[.int .i64 a0_0,.slice A0_1 l0_1.length c0_1] 30 (0,0)) BK380.out) : gb381 ≠ gb380));clear BK380 HB;have BK380:=n0_;have HB:=n1_;have BK381:=n2_;have GW381:=n3_;have GE381:=n4_;have NB380_381:=n5_;have NB381_380:=n6_;clear n0_ n1_ n2_ n3_ n4_ n5_ n6_ hb hbox hg;have hnb12:=NB380_381.out;have hnc12:=NB381_380.out;have hcz13_0 : w11.cell? ⟨gb380,0,none⟩ = some (.int .i64 a0_0):=(blk_cell BK380.out 0).trans rfl;have hcz13_1 : w11.cell? ⟨gb380,1,none⟩ = some (.slice A0_1 l0_1.length c0_1):=(blk_cell BK380.out 1).trans rfl;have hfz13_0:=blk_frozen BK380.out 0;have hfz13_1:=blk_frozen BK380.out 1;have hcz14_0 : w11.cell? ⟨gb381,0,none⟩ = some (.int .i64 a1_0):=(blk_cell BK381.out 0).trans rfl;have hcz14_1 : w11.cell? ⟨gb381,1,none⟩ = some (.slice A1_1 l1_1.length c1_1):=(blk_cell BK381.out 1).trans rfl;have hfz14_0:=blk_frozen BK381.out 0;have hfz14_1:=blk_frozen BK381.out 1))
 go_ret
 exact ⟨by rfl,by exact HB.out⟩

/-! ### impl_FlowSize: function 33 -/
def impl_FlowSize.f (k : Nat) (a0_0 : Int) (l0_1 : List (S67)) (l1 : List Int) : Option (Int):=(impl_FlowOk.f k a0_0 l0_1 l1).bind fun t384=>(if t384 = true then ((impl_excess.f k a0_0 l0_1 l1).bind fun t385=>(if 0 < (t385.length : Int) then (some (wrap64 (-(rd t385 0)))) else (none))) else (some (-1)))
theorem impl_FlowSize.mono : ∀ a0 a1 a2 k,LeO (impl_FlowSize.f k a0 a1 a2) (impl_FlowSize.f (k + 1) a0 a1 a2):=by
 intro a0 a1 a2 k
 unfold impl_FlowSize.f
 repeat' first
   | (with_reducible exact impl_FlowOk.mono _ _ _ _)
   | (with_reducible exact impl_excess.mono _ _ _ _)
   | (with_reducible exact LeO.refl _)
   | (with_reducible refine LeO.ite ?_ ?_)
   | (with_reducible refine LeO.bind ?_ (fun _ => ?_))
set_option maxHeartbeats 8000000 in
set_option maxRecDepth 100000 in
theorem impl_FlowSize.calls (k : Nat) (a0_0 : Int) (A0_1 : Option Addr) (c0_1 : Nat) (l0_1 : List (S67)) (A1 : Option Addr) (c1 : Nat) (l1 : List Int) (r : Int) (w : World) (hr0_1 : Kd.C k67 w A0_1 l0_1.length l0_1) (hc0_1 : l0_1.length ≤ c0_1) (hr1 : Kd.C (Kd.int .i64) w A1 l1.length l1) (hc1 : l1.length ≤ c1) (h : impl_FlowSize.f k a0_0 l0_1 l1 = some r) :
  Calls Try.prog 33 #[.agg #[.int .i64 a0_0,.slice A0_1 l0_1.length c0_1],.slice A1 l1.length c1] w fun e w'=>e = .returned (.int .i64 r) ∧ Below w.heap.size w w':=by
 have hu30:=Try.underlying30
 have HR0_1:=am_ hr0_1
 have HC0_1:=am_ hc0_1
 clear hr0_1 hc0_1
 have HR1:=am_ hr1
 have HC1:=am_ hc1
 clear hr1 hc1
 have HB:=am_ (Below.refl w.heap.size w)
 have H : ((impl_FlowOk.f k a0_0 l0_1 l1).bind fun t384=>(if t384 = true then ((impl_excess.f k a0_0 l0_1 l1).bind fun t385=>(if 0 < (t385.length : Int) then (some (wrap64 (-(rd t385 0)))) else (none))) else (some (-1)))) = some r:=h
 clear h
 replace H:=Option.bind_eq_some_iff.mp H
 obtain ⟨t384,A30,H⟩:=H
 replace H : (if t384 = true then ((impl_excess.f k a0_0 l0_1 l1).bind fun t385=>(if 0 < (t385.length : Int) then (some (wrap64 (-(rd t385 0)))) else (none))) else (some (-1))) = some r:=H
 have A3:=am_ A30
 clear A30
 by_cases c4 : t384 = true
 ·subst c4
  have H1 : ((impl_excess.f k a0_0 l0_1 l1).bind fun t385=>(if 0 < (t385.length : Int) then (some (wrap64 (-(rd t385 0)))) else (none))) = some r:=by rw [if_pos rfl] at H;exact H
  clear H
  have H:=H1
  clear H1
  replace H:=Option.bind_eq_some_iff.mp H
  obtain ⟨t385,A50,H⟩:=H
  replace H : (if 0 < (t385.length : Int) then (some (wrap64 (-(rd t385 0)))) else (none)) = some r:=H
  have A5:=am_ A50
  clear A50
  by_cases c6 : 0 < (t385.length : Int)
  ·rw [if_pos c6] at H
   have c6b0 : decide (0 < (t385.length : Int)) = true:=decide_eq_true c6
   have c6b1 : decide (0 < t385.length) = true:=decide_eq_true (by omega)
   clear c6
   obtain rfl:=Option.some.inj H
   go_enter Try.func33,Try.ntmps33
   go_wp2_with (first|((with_reducible refine gate_dst (N:=2) rfl ?_);refine box_event ?hg (N:=2) ?hd (cs:=#[.int .i64 a0_0,.slice A0_1 l0_1.length c0_1]) (t:=30) ?hr ?_;(case hd=>rfl);(case hg=>rfl);(case hr=>(go_simp;done));intro gb383 hg w7 hbox hb;have n0_:=am_ (below_step HB.out hb);have n1_:=am_ (hbox);have n2_:=am_ ((by rw [hg];exact (below_size HB.out) : w.heap.size ≤ gb383));have n3_:=n2_;clear HB;have HB:=n0_;have BK383:=n1_;have GW383:=n2_;have GE383:=n3_;clear n0_ n1_ n2_ n3_ hb hbox hg;have hcz8_0 : w7.cell? ⟨gb383,0,none⟩ = some (.int .i64 a0_0):=(blk_cell BK383.out 0).trans rfl;have hcz8_1 : w7.cell? ⟨gb383,1,none⟩ = some (.slice A0_1 l0_1.length c0_1):=(blk_cell BK383.out 1).trans rfl;have hfz8_0:=blk_frozen BK383.out 0;have hfz8_1:=blk_frozen BK383.out 1)|((with_reducible refine gate_callee (f:=31) rfl ?_);refine goesL_ (some 7) rfl rfl Try.func31 (by kernel_rfl) rfl #[.agg #[.int .i64 a0_0,.slice A0_1 l0_1.length c0_1],.slice A1 l1.length c1] rfl (by (try simp only [List.map_toArray,List.map_cons,List.map_nil]);rfl) ?_;(with_reducible refine (impl_FlowOk.calls k a0_0 _ _ l0_1 _ _ l1 true _ ?side1 ?side2 ?side3 ?side4 A3.out).mono ?_);(case side1=>exact (Kd.C_below HR0_1.out HB.out));(case side2=>exact HC0_1.out);(case side3=>exact (Kd.C_below HR1.out HB.out));(case side4=>exact HC1.out);rintro e w9 ⟨rfl,hb⟩;refine ⟨_,rfl,?_⟩;have n0_:=am_ (blk_below BK383.out hb);have n1_:=am_ (below_step HB.out hb);clear BK383 HB;have BK383:=n0_;have HB:=n1_;clear n0_ n1_;(try clear hb);have hcz10_0 : w9.cell? ⟨gb383,0,none⟩ = some (.int .i64 a0_0):=(blk_cell BK383.out 0).trans rfl;have hcz10_1 : w9.cell? ⟨gb383,1,none⟩ = some (.slice A0_1 l0_1.length c0_1):=(blk_cell BK383.out 1).trans rfl;have hfz10_0:=blk_frozen BK383.out 0;have hfz10_1:=blk_frozen BK383.out 1)|((with_reducible refine gate_callee (f:=54) rfl ?_);refine goesL_ (some 11) rfl rfl Try.func54 (by kernel_rfl) rfl #[.agg #[.int .i64 a0_0,.slice A0_1 l0_1.length c0_1],.slice A1 l1.length c1] rfl (by (try simp only [List.map_toArray,List.map_cons,List.map_nil]);rfl) ?_;(with_reducible refine (impl_excess.calls k a0_0 _ _ l0_1 _ _ l1 t385 _ ?side1 ?side2 ?side3 ?side4 A5.out).mono ?_);(case side1=>exact (Kd.C_below HR0_1.out HB.out));(case side2=>exact HC0_1.out);(case side3=>exact (Kd.C_below HR1.out HB.out));(case side4=>exact HC1.out);rintro e w11 ⟨v386,rfl,ho0,hb⟩;refine ⟨_,rfl,?_⟩;have n0_:=am_ (Kd.R_lower ho0 (below_size HB.out));have n1_:=am_ (blk_below BK383.out hb);have n2_:=am_ (below_step HB.out hb);clear BK383 HB;have HO387:=n0_;have BK383:=n1_;have HB:=n2_;clear n0_ n1_ n2_;(try clear hb);(try clear ho0);obtain ⟨Ao12,co12,eo12⟩:=Kd.R_slice HO387.out;subst eo12;have p388 : 0 ≤ (0 : Int):=(by omega);have q388 : 0 < (t385.length : Int):=of_decide_eq_true (by (with_reducible assumption));obtain ⟨ad388,e388,hx388_0⟩:=Kd.at_int (Kd.R_reads' HO387.out).2.2 0 p388 q388;cases e388;have qi388 : (0 < t385.length) = True:=eq_true (by omega);(try rw [show ((0 : Int)).toNat = 0 from rfl] at hx388_0);(try rw [Addr.add_zero'] at hx388_0);replace p388:=eq_true p388;replace q388:=eq_true q388))
   go_ret
   exact ⟨by rfl,by exact HB.out⟩
  rw [if_neg c6] at H
  exact absurd H (by simp)
 replace c4:=Bool.eq_false_iff.mpr c4
 subst c4
 have H1 : (some (-1)) = some r:=by rw [if_neg (show ¬ (false = true) by decide)] at H;exact H
 clear H
 have H:=H1
 clear H1
 obtain rfl:=Option.some.inj H
 go_enter Try.func33,Try.ntmps33
 go_wp2_with (first|((with_reducible refine gate_dst (N:=2) rfl ?_);refine box_event ?hg (N:=2) ?hd (cs:=#[.int .i64 a0_0,.slice A0_1 l0_1.length c0_1]) (t:=30) ?hr ?_;(case hd=>rfl);(case hg=>rfl);(case hr=>(go_simp;done));intro gb383 hg w13 hbox hb;have n0_:=am_ (below_step HB.out hb);have n1_:=am_ (hbox);have n2_:=am_ ((by rw [hg];exact (below_size HB.out) : w.heap.size ≤ gb383));have n3_:=n2_;clear HB;have HB:=n0_;have BK383:=n1_;have GW383:=n2_;have GE383:=n3_;clear n0_ n1_ n2_ n3_ hb hbox hg;have hcz14_0 : w13.cell? ⟨gb383,0,none⟩ = some (.int .i64 a0_0):=(blk_cell BK383.out 0).trans rfl;have hcz14_1 : w13.cell? ⟨gb383,1,none⟩ = some (.slice A0_1 l0_1.length c0_1):=(blk_cell BK383.out 1).trans rfl;have hfz14_0:=blk_frozen BK383.out 0;have hfz14_1:=blk_frozen BK383.out 1)|((with_reducible refine gate_callee (f:=31) rfl ?_);refine goesL_ (some 7) rfl rfl Try.func31 (by kernel_rfl) rfl #[.agg #[.int .i64 a0_0,.slice A0_1 l0_1.length c0_1],.slice A1 l1.length c1] rfl (by (try simp only [List.map_toArray,List.map_cons,List.map_nil]);rfl) ?_;(with_reducible refine (impl_FlowOk.calls k a0_0 _ _ l0_1 _ _ l1 false _ ?side1 ?side2 ?side3 ?side4 A3.out).mono ?_);(case side1=>exact (Kd.C_below HR0_1.out HB.out));(case side2=>exact HC0_1.out);(case side3=>exact (Kd.C_below HR1.out HB.out));(case side4=>exact HC1.out);rintro e w15 ⟨rfl,hb⟩;refine ⟨_,rfl,?_⟩;have n0_:=am_ (blk_below BK383.out hb);have n1_:=am_ (below_step HB.out hb);clear BK383 HB;have BK383:=n0_;have HB:=n1_;clear n0_ n1_;(try clear hb)))
 go_ret
 exact ⟨by rfl,by exact HB.out⟩

/-! ### spec_FlowSize: function 34 -/
def spec_FlowSize.f (k : Nat) (a0_0 : Int) (l0_1 : List (S67)) (l1 : List Int) : Option (Int):=(spec_FlowOk.f k a0_0 l0_1 l1).bind fun t390=>(if t390 = true then ((spec_l06Out.f k a0_0 l0_1 l1).bind fun t391=>(if 0 < (t391.length : Int) then (some (rd t391 0)) else (none))) else (some (-1)))
theorem spec_FlowSize.mono : ∀ a0 a1 a2 k,LeO (spec_FlowSize.f k a0 a1 a2) (spec_FlowSize.f (k + 1) a0 a1 a2):=by
 intro a0 a1 a2 k
 unfold spec_FlowSize.f
 repeat' first
   | (with_reducible exact spec_FlowOk.mono _ _ _ _)
   | (with_reducible exact spec_l06Out.mono _ _ _ _)
   | (with_reducible exact LeO.refl _)
   | (with_reducible refine LeO.ite ?_ ?_)
   | (with_reducible refine LeO.bind ?_ (fun _ => ?_))
set_option maxHeartbeats 8000000 in
set_option maxRecDepth 100000 in
theorem spec_FlowSize.calls (k : Nat) (a0_0 : Int) (A0_1 : Option Addr) (c0_1 : Nat) (l0_1 : List (S67)) (A1 : Option Addr) (c1 : Nat) (l1 : List Int) (r : Int) (w : World) (hr0_1 : Kd.C k67 w A0_1 l0_1.length l0_1) (hc0_1 : l0_1.length ≤ c0_1) (hr1 : Kd.C (Kd.int .i64) w A1 l1.length l1) (hc1 : l1.length ≤ c1) (h : spec_FlowSize.f k a0_0 l0_1 l1 = some r) :
  Calls Try.prog 34 #[.agg #[.int .i64 a0_0,.slice A0_1 l0_1.length c0_1],.slice A1 l1.length c1] w fun e w'=>e = .returned (.int .i64 r) ∧ Below w.heap.size w w':=by
 have hu30:=Try.underlying30
 have HR0_1:=am_ hr0_1
 have HC0_1:=am_ hc0_1
 clear hr0_1 hc0_1
 have HR1:=am_ hr1
 have HC1:=am_ hc1
 clear hr1 hc1
 have HB:=am_ (Below.refl w.heap.size w)
 have H : ((spec_FlowOk.f k a0_0 l0_1 l1).bind fun t390=>(if t390 = true then ((spec_l06Out.f k a0_0 l0_1 l1).bind fun t391=>(if 0 < (t391.length : Int) then (some (rd t391 0)) else (none))) else (some (-1)))) = some r:=h
 clear h
 replace H:=Option.bind_eq_some_iff.mp H
 obtain ⟨t390,A30,H⟩:=H
 replace H : (if t390 = true then ((spec_l06Out.f k a0_0 l0_1 l1).bind fun t391=>(if 0 < (t391.length : Int) then (some (rd t391 0)) else (none))) else (some (-1))) = some r:=H
 have A3:=am_ A30
 clear A30
 by_cases c4 : t390 = true
 ·subst c4
  have H1 : ((spec_l06Out.f k a0_0 l0_1 l1).bind fun t391=>(if 0 < (t391.length : Int) then (some (rd t391 0)) else (none))) = some r:=by rw [if_pos rfl] at H;exact H
  clear H
  have H:=H1
  clear H1
  replace H:=Option.bind_eq_some_iff.mp H
  obtain ⟨t391,A50,H⟩:=H
  replace H : (if 0 < (t391.length : Int) then (some (rd t391 0)) else (none)) = some r:=H
  have A5:=am_ A50
  clear A50
  by_cases c6 : 0 < (t391.length : Int)
  ·rw [if_pos c6] at H
   have c6b0 : decide (0 < (t391.length : Int)) = true:=decide_eq_true c6
   have c6b1 : decide (0 < t391.length) = true:=decide_eq_true (by omega)
   clear c6
   obtain rfl:=Option.some.inj H
   go_enter Try.func34,Try.ntmps34
   go_wp2_with (first|((with_reducible refine gate_dst (N:=2) rfl ?_);refine box_event ?hg (N:=2) ?hd (cs:=#[.int .i64 a0_0,.slice A0_1 l0_1.length c0_1]) (t:=30) ?hr ?_;(case hd=>rfl);(case hg=>rfl);(case hr=>(go_simp;done));intro gb389 hg w7 hbox hb;have n0_:=am_ (below_step HB.out hb);have n1_:=am_ (hbox);have n2_:=am_ ((by rw [hg];exact (below_size HB.out) : w.heap.size ≤ gb389));have n3_:=n2_;clear HB;have HB:=n0_;have BK389:=n1_;have GW389:=n2_;have GE389:=n3_;clear n0_ n1_ n2_ n3_ hb hbox hg;have hcz8_0 : w7.cell? ⟨gb389,0,none⟩ = some (.int .i64 a0_0):=(blk_cell BK389.out 0).trans rfl;have hcz8_1 : w7.cell? ⟨gb389,1,none⟩ = some (.slice A0_1 l0_1.length c0_1):=(blk_cell BK389.out 1).trans rfl;have hfz8_0:=blk_frozen BK389.out 0;have hfz8_1:=blk_frozen BK389.out 1)|((with_reducible refine gate_callee (f:=45) rfl ?_);refine goesL_ (some 7) rfl rfl Try.func45 (by kernel_rfl) rfl #[.agg #[.int .i64 a0_0,.slice A0_1 l0_1.length c0_1],.slice A1 l1.length c1] rfl (by (try simp only [List.map_toArray,List.map_cons,List.map_nil]);rfl) ?_;(with_reducible refine (spec_FlowOk.calls k a0_0 _ _ l0_1 _ _ l1 true _ ?side1 ?side2 ?side3 ?side4 A3.out).mono ?_);(case side1=>exact (Kd.C_below HR0_1.out HB.out));(case side2=>exact HC0_1.out);(case side3=>exact (Kd.C_below HR1.out HB.out));(case side4=>exact HC1.out);rintro e w9 ⟨rfl,hb⟩;refine ⟨_,rfl,?_⟩;have n0_:=am_ (blk_below BK389.out hb);have n1_:=am_ (below_step HB.out hb);clear BK389 HB;have BK389:=n0_;have HB:=n1_;clear n0_ n1_;(try clear hb);have hcz10_0 : w9.cell? ⟨gb389,0,none⟩ = some (.int .i64 a0_0):=(blk_cell BK389.out 0).trans rfl;have hcz10_1 : w9.cell? ⟨gb389,1,none⟩ = some (.slice A0_1 l0_1.length c0_1):=(blk_cell BK389.out 1).trans rfl;have hfz10_0:=blk_frozen BK389.out 0;have hfz10_1:=blk_frozen BK389.out 1)|((with_reducible refine gate_callee (f:=63) rfl ?_);refine goesL_ (some 11) rfl rfl Try.func63 (by kernel_rfl) rfl #[.agg #[.int .i64 a0_0,.slice A0_1 l0_1.length c0_1],.slice A1 l1.length c1] rfl (by (try simp only [List.map_toArray,List.map_cons,List.map_nil]);rfl) ?_;(with_reducible refine (spec_l06Out.calls k a0_0 _ _ l0_1 _ _ l1 t391 _ ?side1 ?side2 ?side3 ?side4 A5.out).mono ?_);(case side1=>exact (Kd.C_below HR0_1.out HB.out));(case side2=>exact HC0_1.out);(case side3=>exact (Kd.C_below HR1.out HB.out));(case side4=>exact HC1.out);rintro e w11 ⟨v392,rfl,ho0,hb⟩;refine ⟨_,rfl,?_⟩;have n0_:=am_ (Kd.R_lower ho0 (below_size HB.out));have n1_:=am_ (blk_below BK389.out hb);have n2_:=am_ (below_step HB.out hb);clear BK389 HB;have HO393:=n0_;have BK389:=n1_;have HB:=n2_;clear n0_ n1_ n2_;(try clear hb);(try clear ho0);obtain ⟨Ao12,co12,eo12⟩:=Kd.R_slice HO393.out;subst eo12;have p394 : 0 ≤ (0 : Int):=(by omega);have q394 : 0 < (t391.length : Int):=of_decide_eq_true (by (with_reducible assumption));obtain ⟨ad394,e394,hx394_0⟩:=Kd.at_int (Kd.R_reads' HO393.out).2.2 0 p394 q394;cases e394;have qi394 : (0 < t391.length) = True:=eq_true (by omega);(try rw [show ((0 : Int)).toNat = 0 from rfl] at hx394_0);(try rw [Addr.add_zero'] at hx394_0);replace p394:=eq_true p394;replace q394:=eq_true q394))
   go_ret
   exact ⟨by rfl,by exact HB.out⟩
  rw [if_neg c6] at H
  exact absurd H (by simp)
 replace c4:=Bool.eq_false_iff.mpr c4
 subst c4
 have H1 : (some (-1)) = some r:=by rw [if_neg (show ¬ (false = true) by decide)] at H;exact H
 clear H
 have H:=H1
 clear H1
 obtain rfl:=Option.some.inj H
 go_enter Try.func34,Try.ntmps34
 go_wp2_with (first|((with_reducible refine gate_dst (N:=2) rfl ?_);refine box_event ?hg (N:=2) ?hd (cs:=#[.int .i64 a0_0,.slice A0_1 l0_1.length c0_1]) (t:=30) ?hr ?_;(case hd=>rfl);(case hg=>rfl);(case hr=>(go_simp;done));intro gb389 hg w13 hbox hb;have n0_:=am_ (below_step HB.out hb);have n1_:=am_ (hbox);have n2_:=am_ ((by rw [hg];exact (below_size HB.out) : w.heap.size ≤ gb389));have n3_:=n2_;clear HB;have HB:=n0_;have BK389:=n1_;have GW389:=n2_;have GE389:=n3_;clear n0_ n1_ n2_ n3_ hb hbox hg;have hcz14_0 : w13.cell? ⟨gb389,0,none⟩ = some (.int .i64 a0_0):=(blk_cell BK389.out 0).trans rfl;have hcz14_1 : w13.cell? ⟨gb389,1,none⟩ = some (.slice A0_1 l0_1.length c0_1):=(blk_cell BK389.out 1).trans rfl;have hfz14_0:=blk_frozen BK389.out 0;have hfz14_1:=blk_frozen BK389.out 1)|((with_reducible refine gate_callee (f:=45) rfl ?_);refine goesL_ (some 7) rfl rfl Try.func45 (by kernel_rfl) rfl #[.agg #[.int .i64 a0_0,.slice A0_1 l0_1.length c0_1],.slice A1 l1.length c1] rfl (by (try simp only [List.map_toArray,List.map_cons,List.map_nil]);rfl) ?_;(with_reducible refine (spec_FlowOk.calls k a0_0 _ _ l0_1 _ _ l1 false _ ?side1 ?side2 ?side3 ?side4 A3.out).mono ?_);(case side1=>exact (Kd.C_below HR0_1.out HB.out));(case side2=>exact HC0_1.out);(case side3=>exact (Kd.C_below HR1.out HB.out));(case side4=>exact HC1.out);rintro e w15 ⟨rfl,hb⟩;refine ⟨_,rfl,?_⟩;have n0_:=am_ (blk_below BK389.out hb);have n1_:=am_ (below_step HB.out hb);clear BK389 HB;have BK389:=n0_;have HB:=n1_;clear n0_ n1_;(try clear hb)))
 go_ret
 exact ⟨by rfl,by exact HB.out⟩

/-! ### impl_costOf: function 64 -/
def impl_costOf.l0 : Nat → List Int → Int → List (S67) → Int → Int → Option (Int)
 | 0, _, _, _, _, _ => none
 | k + 1, x1, x5, x9, x10, x11 => if x11 < x10 then (if 0 ≤ x11 then (if x11 < (x9.length : Int) then (if x11 < (x1.length : Int) then (impl_costOf.l0 k x1 (wrap64 (x5 + (wrap64 ((rd x1 x11) * ((rd_T67 x9 x11).f3))))) x9 x10 (wrap64 (x11 + 1))) else (none)) else (none)) else (none)) else (some x5)
def impl_costOf.f (k : Nat) (a0_0 : Int) (l0_1 : List (S67)) (l1 : List Int) : Option (Int):=impl_costOf.l0 k l1 0 l0_1 (l0_1.length : Int) 0
theorem impl_costOf.mono_l : ∀ k,(∀ y0 y1 y2 y3 y4,LeO (impl_costOf.l0 k y0 y1 y2 y3 y4) (impl_costOf.l0 (k + 1) y0 y1 y2 y3 y4))
 | 0 => fun _ _ _ _ _ r h => by simp [impl_costOf.l0] at h
 | k + 1 => by
  have ih0:=impl_costOf.mono_l k
  ·intro y0 y1 y2 y3 y4
   unfold impl_costOf.l0
   repeat' first
   | (with_reducible exact ih0 _ _ _ _ _)
   | (with_reducible exact LeO.refl _)
   | (with_reducible refine LeO.ite ?_ ?_)
theorem impl_costOf.mono : ∀ a0 a1 a2 k,LeO (impl_costOf.f k a0 a1 a2) (impl_costOf.f (k + 1) a0 a1 a2):=by
 intro a0 a1 a2 k
 have ih0:=impl_costOf.mono_l k
 unfold impl_costOf.f
 repeat' first
   | (with_reducible exact ih0 _ _ _ _ _)
set_option maxHeartbeats 8000000 in
set_option maxRecDepth 100000 in
theorem impl_costOf.calls (k : Nat) (a0_0 : Int) (A0_1 : Option Addr) (c0_1 : Nat) (l0_1 : List (S67)) (A1 : Option Addr) (c1 : Nat) (l1 : List Int) (r : Int) (w : World) (hr0_1 : Kd.C k67 w A0_1 l0_1.length l0_1) (hc0_1 : l0_1.length ≤ c0_1) (hr1 : Kd.C (Kd.int .i64) w A1 l1.length l1) (hc1 : l1.length ≤ c1) (h : impl_costOf.f k a0_0 l0_1 l1 = some r) :
  Calls Try.prog 64 #[.agg #[.int .i64 a0_0,.slice A0_1 l0_1.length c0_1],.slice A1 l1.length c1] w fun e w'=>e = .returned (.int .i64 r) ∧ Below w.heap.size w w':=by
 have hu30:=Try.underlying30
 have hu67:=Try.underlying67
 have HR0_1:=am_ hr0_1
 have HC0_1:=am_ hc0_1
 clear hr0_1 hc0_1
 have HR1:=am_ hr1
 have HC1:=am_ hc1
 clear hr1 hc1
 have HB:=am_ (Below.refl w.heap.size w)
 have H : (impl_costOf.l0 k l1 0 l0_1 (l0_1.length : Int) 0) = some r:=h
 clear h
 have H':=am_ H
 clear H
 go_enter Try.func64,Try.ntmps64
 go_wp2_with (((with_reducible refine gate_dst (N:=2) rfl ?_);refine box_event ?hg (N:=2) ?hd (cs:=#[.int .i64 a0_0,.slice A0_1 l0_1.length c0_1]) (t:=30) ?hr ?_;(case hd=>rfl);(case hg=>rfl);(case hr=>(go_simp;done));intro gb395 hg w3 hbox hb;have n0_:=am_ (below_step HB.out hb);have n1_:=am_ (hbox);have n2_:=am_ ((by rw [hg];exact (below_size HB.out) : w.heap.size ≤ gb395));have n3_:=n2_;clear HB;have HB:=n0_;have BK395:=n1_;have GW395:=n2_;have GE395:=n3_;clear n0_ n1_ n2_ n3_ hb hbox hg;have hcz4_0 : w3.cell? ⟨gb395,0,none⟩ = some (.int .i64 a0_0):=(blk_cell BK395.out 0).trans rfl;have hcz4_1 : w3.cell? ⟨gb395,1,none⟩ = some (.slice A0_1 l0_1.length c0_1):=(blk_cell BK395.out 1).trans rfl;have hfz4_0:=blk_frozen BK395.out 0;have hfz4_1:=blk_frozen BK395.out 1))
 repeat (go_quiet (fail);try go_wp2_with (fail))
 go_loopg [5,11] k (fun kq v5 v11 w'=>∃ (x5_1 : Int) (x11_1 : Int),v5 = .int .i64 x5_1 ∧ v11 = .int .i64 x11_1 ∧ Aside0 (impl_costOf.l0 kq l1 x5_1 l0_1 (l0_1.length : Int) x11_1 = some r) ∧ Aside0 (kq ≤ k) ∧ Aside0 (w'.heap[gb395]? = some (.cells #[.int .i64 a0_0,(.slice A0_1 l0_1.length c0_1)] 30 (0,0))) ∧ Aside0 (Below w.heap.size w w'))
 case atStart=>exact ⟨(0),(0),(by rfl),(by rfl),H',⟨Nat.le_refl _⟩,⟨by exact BK395.out⟩,⟨by exact HB.out⟩⟩
 case round =>
  clear H'
  try clear c1
  try clear p2
  try clear hcz4_0
  try clear hcz4_1
  try clear hfz4_0
  try clear hfz4_1
  obtain ⟨x5_1,x11_1,rfl,rfl,HA,HK1,BK395,HB⟩:=hrel
  cases gk with
  | zero => exact absurd HA.out (by simp [impl_costOf.l0])
  | succ k1 =>
   have H:=HA.out
   clear HA
   simp only [impl_costOf.l0] at H
   by_cases c5 : x11_1 < (l0_1.length : Int)
   rotate_left
   ·rw [if_neg c5] at H
    have c5b0 : decide (x11_1 < (l0_1.length : Int)) = false:=decide_eq_false c5
    clear c5
    obtain rfl:=Option.some.inj H
    go_wp2
    repeat (go_quiet (fail);try go_wp2)
    go_ret
    exact ⟨by rfl,by exact HB.out⟩
   rw [if_pos c5] at H
   have c5b0 : decide (x11_1 < (l0_1.length : Int)) = true:=decide_eq_true c5
   clear c5
   by_cases c6 : 0 ≤ x11_1
   rotate_left
   ·rw [if_neg c6] at H
    exact absurd H (by simp)
   rw [if_pos c6] at H
   have c6b0 : decide (0 ≤ x11_1) = true:=decide_eq_true c6
   clear c6
   by_cases c7 : x11_1 < (l0_1.length : Int)
   rotate_left
   ·rw [if_neg c7] at H
    exact absurd H (by simp)
   rw [if_pos c7] at H
   have c7b0 : decide (x11_1 < (l0_1.length : Int)) = true:=decide_eq_true c7
   clear c7
   by_cases c8 : x11_1 < (l1.length : Int)
   rotate_left
   ·rw [if_neg c8] at H
    exact absurd H (by simp)
   rw [if_pos c8] at H
   have c8b0 : decide (x11_1 < (l1.length : Int)) = true:=decide_eq_true c8
   clear c8
   have H':=am_ H
   clear H
   have p396 : 0 ≤ (x11_1 : Int):=of_decide_eq_true (by (with_reducible assumption))
   have q396 : x11_1 < (l0_1.length : Int):=of_decide_eq_true (by (with_reducible assumption))
   obtain ⟨ad396,e396,hx396_0,hx396_1,hx396_2,hx396_3⟩:=at_T67 HR0_1.out x11_1 p396 q396
   cases e396
   replace hx396_0:=kc_ HB.out hx396_0
   replace hx396_1:=kc_ HB.out hx396_1
   replace hx396_2:=kc_ HB.out hx396_2
   replace hx396_3:=kc_ HB.out hx396_3
   replace p396:=eq_true p396
   replace q396:=eq_true q396
   go_wp2_with (((with_reducible refine gate_dst (N:=7) rfl ?_);refine box_event ?hg (N:=7) ?hd (cs:=#[.int .i64 0,.int .i64 0,.int .i64 0,.int .i64 0]) (t:=67) ?hr ?_;(case hd=>rfl);(case hg=>rfl);(case hr=>(go_simp;done));intro gb397 hg w9 hbox hb;have n0_:=am_ (blk_below BK395.out hb);have n1_:=am_ (below_step HB.out hb);have n2_:=am_ (hbox);have n3_:=am_ ((by rw [hg];exact (below_size HB.out) : w.heap.size ≤ gb397));have n4_:=n3_;have n5_:=am_ ((by rw [hg];exact Nat.ne_of_lt (blk_lt (g:=gb395) (o:=.cells #[.int .i64 a0_0,.slice (some ad396) l0_1.length c0_1] 30 (0,0)) BK395.out) : gb395 ≠ gb397));have n6_:=am_ ((by rw [hg];exact Nat.ne_of_gt (blk_lt (g:=gb395) (o:=.cells #[.int .i64 a0_0,.slice (some ad396) l0_1.length c0_1] 30 (0,0)) BK395.out) : gb397 ≠ gb395));clear BK395 HB;have BK395:=n0_;have HB:=n1_;have BK397:=n2_;have GW397:=n3_;have GE397:=n4_;have NB395_397:=n5_;have NB397_395:=n6_;clear n0_ n1_ n2_ n3_ n4_ n5_ n6_ hb hbox hg;have hnb10:=NB397_395.out;have hnc10:=NB395_397.out;have hcz11_0 : w9.cell? ⟨gb397,0,none⟩ = some (.int .i64 0):=(blk_cell BK397.out 0).trans rfl;have hcz11_1 : w9.cell? ⟨gb397,1,none⟩ = some (.int .i64 0):=(blk_cell BK397.out 1).trans rfl;have hcz11_2 : w9.cell? ⟨gb397,2,none⟩ = some (.int .i64 0):=(blk_cell BK397.out 2).trans rfl;have hcz11_3 : w9.cell? ⟨gb397,3,none⟩ = some (.int .i64 0):=(blk_cell BK397.out 3).trans rfl;have hfz11_0:=blk_frozen BK397.out 0;have hfz11_1:=blk_frozen BK397.out 1;have hfz11_2:=blk_frozen BK397.out 2;have hfz11_3:=blk_frozen BK397.out 3;have p398 : 0 ≤ (x11_1 : Int):=of_decide_eq_true (by (with_reducible assumption));have q398 : x11_1 < (l1.length : Int):=of_decide_eq_true (by (with_reducible assumption));obtain ⟨ad398,e398,hx398_0⟩:=Kd.at_int HR1.out x11_1 p398 q398;cases e398;have hn398_0 : ad398.block ≠ gb397:=Nat.ne_of_lt (Nat.lt_of_lt_of_le (by have:=World.block_lt_of_cell? _ _ hx398_0;rwa [add_block] at this) GW397.out);have hn398_1 : ad398.block ≠ gb397:=Nat.ne_of_lt (Nat.lt_of_lt_of_le (by have:=World.block_lt_of_cell? _ _ hx398_0;rwa [add_block] at this) GW397.out);have hn398_2 : ad398.block ≠ gb397:=Nat.ne_of_lt (Nat.lt_of_lt_of_le (by have:=World.block_lt_of_cell? _ _ hx398_0;rwa [add_block] at this) GW397.out);have hn398_3 : ad398.block ≠ gb397:=Nat.ne_of_lt (Nat.lt_of_lt_of_le (by have:=World.block_lt_of_cell? _ _ hx398_0;rwa [add_block] at this) GW397.out);replace hx398_0:=kc_ HB.out hx398_0;replace hx398_0:=(cell_far (p:=⟨gb397,0,none⟩) (by (rw [add_block];exact hn398_0)) (.int .i64 ((rd_T67 l0_1 x11_1).f0))).trans hx398_0;replace hx398_0:=(cell_far (p:=⟨gb397,1,none⟩) (by (rw [add_block];exact hn398_1)) (.int .i64 ((rd_T67 l0_1 x11_1).f1))).trans hx398_0;replace hx398_0:=(cell_far (p:=⟨gb397,2,none⟩) (by (rw [add_block];exact hn398_2)) (.int .i64 ((rd_T67 l0_1 x11_1).f2))).trans hx398_0;replace hx398_0:=(cell_far (p:=⟨gb397,3,none⟩) (by (rw [add_block];exact hn398_3)) (.int .i64 ((rd_T67 l0_1 x11_1).f3))).trans hx398_0;(try have hy398_0:=fun (n_ : Nat)=>(show ((((((w9.drewN n_).setCell ⟨gb397,0,none⟩ (.int .i64 ((rd_T67 l0_1 x11_1).f0))).setCell ⟨gb397,1,none⟩ (.int .i64 ((rd_T67 l0_1 x11_1).f1))).setCell ⟨gb397,2,none⟩ (.int .i64 ((rd_T67 l0_1 x11_1).f2))).setCell ⟨gb397,3,none⟩ (.int .i64 ((rd_T67 l0_1 x11_1).f3)))).cell? _ = some _ from hx398_0));clear hn398_0 hn398_1 hn398_2 hn398_3;replace p398:=eq_true p398;replace q398:=eq_true q398))
   repeat (go_quiet (fail);try go_wp2_with (fail))
   go_roundg k1
   case measure=>have:=HK1.out;omega
   case rel=>exact ⟨(wrap64 (x5_1 + (wrap64 ((rd l1 x11_1) * ((rd_T67 l0_1 x11_1).f3))))),(wrap64 (x11_1 + 1)),(by rfl),(by rfl),H',⟨by have:=HK1.out;omega⟩,⟨by (with_reducible repeat (refine blk_drewN ?_ _));refine blk_far ?_ NB395_397.out _;refine blk_far ?_ NB395_397.out _;refine blk_far ?_ NB395_397.out _;refine blk_far ?_ NB395_397.out _;exact BK395.out⟩,⟨by repeat ((with_reducible first|exact HB.out|apply pw_below_drewN|refine below_set ?_ GE397.out))⟩⟩

/-! ### impl_FlowCost: function 35 -/
def impl_FlowCost.f (k : Nat) (a0_0 : Int) (l0_1 : List (S67)) (l1 : List Int) : Option (Int):=(impl_FlowOk.f k a0_0 l0_1 l1).bind fun t400=>(if t400 = true then ((impl_costOf.f k a0_0 l0_1 l1).bind fun t401=>(some t401)) else (some (-1)))
theorem impl_FlowCost.mono : ∀ a0 a1 a2 k,LeO (impl_FlowCost.f k a0 a1 a2) (impl_FlowCost.f (k + 1) a0 a1 a2):=by
 intro a0 a1 a2 k
 unfold impl_FlowCost.f
 repeat' first
   | (with_reducible exact impl_FlowOk.mono _ _ _ _)
   | (with_reducible exact impl_costOf.mono _ _ _ _)
   | (with_reducible exact LeO.refl _)
   | (with_reducible refine LeO.ite ?_ ?_)
   | (with_reducible refine LeO.bind ?_ (fun _ => ?_))
set_option maxHeartbeats 8000000 in
set_option maxRecDepth 100000 in
theorem impl_FlowCost.calls (k : Nat) (a0_0 : Int) (A0_1 : Option Addr) (c0_1 : Nat) (l0_1 : List (S67)) (A1 : Option Addr) (c1 : Nat) (l1 : List Int) (r : Int) (w : World) (hr0_1 : Kd.C k67 w A0_1 l0_1.length l0_1) (hc0_1 : l0_1.length ≤ c0_1) (hr1 : Kd.C (Kd.int .i64) w A1 l1.length l1) (hc1 : l1.length ≤ c1) (h : impl_FlowCost.f k a0_0 l0_1 l1 = some r) :
  Calls Try.prog 35 #[.agg #[.int .i64 a0_0,.slice A0_1 l0_1.length c0_1],.slice A1 l1.length c1] w fun e w'=>e = .returned (.int .i64 r) ∧ Below w.heap.size w w':=by
 have hu30:=Try.underlying30
 have HR0_1:=am_ hr0_1
 have HC0_1:=am_ hc0_1
 clear hr0_1 hc0_1
 have HR1:=am_ hr1
 have HC1:=am_ hc1
 clear hr1 hc1
 have HB:=am_ (Below.refl w.heap.size w)
 have H : ((impl_FlowOk.f k a0_0 l0_1 l1).bind fun t400=>(if t400 = true then ((impl_costOf.f k a0_0 l0_1 l1).bind fun t401=>(some t401)) else (some (-1)))) = some r:=h
 clear h
 replace H:=Option.bind_eq_some_iff.mp H
 obtain ⟨t400,A30,H⟩:=H
 replace H : (if t400 = true then ((impl_costOf.f k a0_0 l0_1 l1).bind fun t401=>(some t401)) else (some (-1))) = some r:=H
 have A3:=am_ A30
 clear A30
 by_cases c4 : t400 = true
 ·subst c4
  have H1 : ((impl_costOf.f k a0_0 l0_1 l1).bind fun t401=>(some t401)) = some r:=by rw [if_pos rfl] at H;exact H
  clear H
  have H:=H1
  clear H1
  replace H:=Option.bind_eq_some_iff.mp H
  obtain ⟨t401,A50,H⟩:=H
  replace H : (some t401) = some r:=H
  have A5:=am_ A50
  clear A50
  obtain rfl:=Option.some.inj H
  go_enter Try.func35,Try.ntmps35
  go_wp2_with (first|((with_reducible refine gate_dst (N:=2) rfl ?_);refine box_event ?hg (N:=2) ?hd (cs:=#[.int .i64 a0_0,.slice A0_1 l0_1.length c0_1]) (t:=30) ?hr ?_;(case hd=>rfl);(case hg=>rfl);(case hr=>(go_simp;done));intro gb399 hg w6 hbox hb;have n0_:=am_ (below_step HB.out hb);have n1_:=am_ (hbox);have n2_:=am_ ((by rw [hg];exact (below_size HB.out) : w.heap.size ≤ gb399));have n3_:=n2_;clear HB;have HB:=n0_;have BK399:=n1_;have GW399:=n2_;have GE399:=n3_;clear n0_ n1_ n2_ n3_ hb hbox hg;have hcz7_0 : w6.cell? ⟨gb399,0,none⟩ = some (.int .i64 a0_0):=(blk_cell BK399.out 0).trans rfl;have hcz7_1 : w6.cell? ⟨gb399,1,none⟩ = some (.slice A0_1 l0_1.length c0_1):=(blk_cell BK399.out 1).trans rfl;have hfz7_0:=blk_frozen BK399.out 0;have hfz7_1:=blk_frozen BK399.out 1)|((with_reducible refine gate_callee (f:=31) rfl ?_);refine goesL_ (some 7) rfl rfl Try.func31 (by kernel_rfl) rfl #[.agg #[.int .i64 a0_0,.slice A0_1 l0_1.length c0_1],.slice A1 l1.length c1] rfl (by (try simp only [List.map_toArray,List.map_cons,List.map_nil]);rfl) ?_;(with_reducible refine (impl_FlowOk.calls k a0_0 _ _ l0_1 _ _ l1 true _ ?side1 ?side2 ?side3 ?side4 A3.out).mono ?_);(case side1=>exact (Kd.C_below HR0_1.out HB.out));(case side2=>exact HC0_1.out);(case side3=>exact (Kd.C_below HR1.out HB.out));(case side4=>exact HC1.out);rintro e w8 ⟨rfl,hb⟩;refine ⟨_,rfl,?_⟩;have n0_:=am_ (blk_below BK399.out hb);have n1_:=am_ (below_step HB.out hb);clear BK399 HB;have BK399:=n0_;have HB:=n1_;clear n0_ n1_;(try clear hb);have hcz9_0 : w8.cell? ⟨gb399,0,none⟩ = some (.int .i64 a0_0):=(blk_cell BK399.out 0).trans rfl;have hcz9_1 : w8.cell? ⟨gb399,1,none⟩ = some (.slice A0_1 l0_1.length c0_1):=(blk_cell BK399.out 1).trans rfl;have hfz9_0:=blk_frozen BK399.out 0;have hfz9_1:=blk_frozen BK399.out 1)|((with_reducible refine gate_callee (f:=64) rfl ?_);refine goesL_ (some 11) rfl rfl Try.func64 (by kernel_rfl) rfl #[.agg #[.int .i64 a0_0,.slice A0_1 l0_1.length c0_1],.slice A1 l1.length c1] rfl (by (try simp only [List.map_toArray,List.map_cons,List.map_nil]);rfl) ?_;(with_reducible refine (impl_costOf.calls k a0_0 _ _ l0_1 _ _ l1 t401 _ ?side1 ?side2 ?side3 ?side4 A5.out).mono ?_);(case side1=>exact (Kd.C_below HR0_1.out HB.out));(case side2=>exact HC0_1.out);(case side3=>exact (Kd.C_below HR1.out HB.out));(case side4=>exact HC1.out);rintro e w10 ⟨rfl,hb⟩;refine ⟨_,rfl,?_⟩;have n0_:=am_ (blk_below BK399.out hb);have n1_:=am_ (below_step HB.out hb);clear BK399 HB;have BK399:=n0_;have HB:=n1_;clear n0_ n1_;(try clear hb)))
  go_ret
  exact ⟨by rfl,by exact HB.out⟩
 replace c4:=Bool.eq_false_iff.mpr c4
 subst c4
 have H1 : (some (-1)) = some r:=by rw [if_neg (show ¬ (false = true) by decide)] at H;exact H
 clear H
 have H:=H1
 clear H1
 obtain rfl:=Option.some.inj H
 go_enter Try.func35,Try.ntmps35
 go_wp2_with (first|((with_reducible refine gate_dst (N:=2) rfl ?_);refine box_event ?hg (N:=2) ?hd (cs:=#[.int .i64 a0_0,.slice A0_1 l0_1.length c0_1]) (t:=30) ?hr ?_;(case hd=>rfl);(case hg=>rfl);(case hr=>(go_simp;done));intro gb399 hg w11 hbox hb;have n0_:=am_ (below_step HB.out hb);have n1_:=am_ (hbox);have n2_:=am_ ((by rw [hg];exact (below_size HB.out) : w.heap.size ≤ gb399));have n3_:=n2_;clear HB;have HB:=n0_;have BK399:=n1_;have GW399:=n2_;have GE399:=n3_;clear n0_ n1_ n2_ n3_ hb hbox hg;have hcz12_0 : w11.cell? ⟨gb399,0,none⟩ = some (.int .i64 a0_0):=(blk_cell BK399.out 0).trans rfl;have hcz12_1 : w11.cell? ⟨gb399,1,none⟩ = some (.slice A0_1 l0_1.length c0_1):=(blk_cell BK399.out 1).trans rfl;have hfz12_0:=blk_frozen BK399.out 0;have hfz12_1:=blk_frozen BK399.out 1)|((with_reducible refine gate_callee (f:=31) rfl ?_);refine goesL_ (some 7) rfl rfl Try.func31 (by kernel_rfl) rfl #[.agg #[.int .i64 a0_0,.slice A0_1 l0_1.length c0_1],.slice A1 l1.length c1] rfl (by (try simp only [List.map_toArray,List.map_cons,List.map_nil]);rfl) ?_;(with_reducible refine (impl_FlowOk.calls k a0_0 _ _ l0_1 _ _ l1 false _ ?side1 ?side2 ?side3 ?side4 A3.out).mono ?_);(case side1=>exact (Kd.C_below HR0_1.out HB.out));(case side2=>exact HC0_1.out);(case side3=>exact (Kd.C_below HR1.out HB.out));(case side4=>exact HC1.out);rintro e w13 ⟨rfl,hb⟩;refine ⟨_,rfl,?_⟩;have n0_:=am_ (blk_below BK399.out hb);have n1_:=am_ (below_step HB.out hb);clear BK399 HB;have BK399:=n0_;have HB:=n1_;clear n0_ n1_;(try clear hb)))
 go_ret
 exact ⟨by rfl,by exact HB.out⟩

end Go.Proofs.Ytgkpgigoonhgdaa.PFnFlows
