-- Made by the session's wip/pp.py, a changed call of the kit's printer; Lean checks it.
import Derived.Test.YtgkpgigoonhgdaaPFnMostCutx0
import Derived.Test.YtgkpgigoonhgdaaPFnMostCutx8
import Derived.Test.YtgkpgigoonhgdaaPFnMostCutx9
import Derived.Test.YtgkpgigoonhgdaaPFnMostCutx10
namespace Go.Proofs.Ytgkpgigoonhgdaa.PFnMostCut
open Go.RowKit Go.Proofs.YtgkpgigoonhgdaaW.PrintWords Go.Proofs.YtgkpgigoonhgdaaW.PrintLast Go.Proofs.YtgkpgigoonhgdaaW.PrintMore
attribute [local go_sem] max2_int min2_int max_two min_two max_three min_three max_four min_four   -- for this text's walks alone
set_option linter.unusedVariables false
set_option linter.unusedSimpArgs false


/-! ### spec_DrawPushed: function 30 -/
def spec_DrawPushed.f (k : Nat) (l0 : List Int) : Option (Int × (List (S67)) × List Int):=(spec_l01New.f k l0).bind fun bt361=>((spec_l06Right.f k bt361.1 bt361.2.1 bt361.2.2).bind fun bt365=>((spec_l01Below.f bt361.1 bt365.2.2.1 bt365.2.2.2 9).bind fun bt372=>((spec_l06Pushed.f k bt365.1 bt365.2.1 bt372.1).bind fun t375=>(some (bt365.1,bt365.2.1,t375)))))
theorem spec_DrawPushed.mono : ∀ a0 k,LeO (spec_DrawPushed.f k a0) (spec_DrawPushed.f (k + 1) a0):=by
 intro a0 k
 unfold spec_DrawPushed.f
 repeat' first
   | (with_reducible exact spec_l01New.mono _ _)
   | (with_reducible exact spec_l06Pushed.mono _ _ _ _)
   | (with_reducible exact spec_l06Right.mono _ _ _ _)
   | (with_reducible exact LeO.refl _)
   | (with_reducible refine LeO.bind ?_ (fun _ => ?_))
set_option maxHeartbeats 8000000 in
set_option maxRecDepth 100000 in
theorem spec_DrawPushed.calls (k : Nat) (A0 : Option Addr) (c0 : Nat) (l0 : List Int) (r1 : Int) (r2 : List (S67)) (r3 : List Int) (w : World) (hr0 : Kd.C (Kd.int .u8) w A0 l0.length l0) (hc0 : l0.length ≤ c0) (h : spec_DrawPushed.f k l0 = some (r1,r2,r3)) :
  Calls Try.prog 30 #[.slice A0 l0.length c0] w fun e w'=>∃ v1_ v2_ : Value,e = .returned (.tuple #[.agg #[.int .i64 r1,v1_],v2_]) ∧ Kd.R k67 67 w' w.heap.size (fun _=>True) v1_ r2 ∧ Kd.R (Kd.int .i64) 3 w' w.heap.size (fun _=>True) v2_ r3 ∧ Below w.heap.size w w':=by
 have hu30:=Try.underlying30
 have HR0:=am_ hr0
 have HC0:=am_ hc0
 clear hr0 hc0
 have HB:=am_ (Below.refl w.heap.size w)
 have H : ((spec_l01New.f k l0).bind fun bt361=>((spec_l06Right.f k bt361.1 bt361.2.1 bt361.2.2).bind fun bt365=>((spec_l01Below.f bt361.1 bt365.2.2.1 bt365.2.2.2 9).bind fun bt372=>((spec_l06Pushed.f k bt365.1 bt365.2.1 bt372.1).bind fun t375=>(some (bt365.1,bt365.2.1,t375)))))) = some (r1,r2,r3):=h
 clear h
 replace H:=bs_ H
 obtain ⟨⟨t361,t362,t363⟩,A20,H⟩:=H
 replace H : ((spec_l06Right.f k t361 t362 t363).bind fun bt365=>((spec_l01Below.f t361 bt365.2.2.1 bt365.2.2.2 9).bind fun bt372=>((spec_l06Pushed.f k bt365.1 bt365.2.1 bt372.1).bind fun t375=>(some (bt365.1,bt365.2.1,t375))))) = some (r1,r2,r3):=H
 have A2:=am_ A20
 clear A20
 replace H:=bs_ H
 obtain ⟨⟨t365,t366,t369,t370⟩,A30,H⟩:=H
 replace H : ((spec_l01Below.f t361 t369 t370 9).bind fun bt372=>((spec_l06Pushed.f k t365 t366 bt372.1).bind fun t375=>(some (t365,t366,t375)))) = some (r1,r2,r3):=H
 have A3:=am_ A30
 clear A30
 replace H:=bs_ H
 obtain ⟨⟨t372,t373,t374⟩,A40,H⟩:=H
 replace H : ((spec_l06Pushed.f k t365 t366 t372).bind fun t375=>(some (t365,t366,t375))) = some (r1,r2,r3):=H
 have A4:=am_ A40
 clear A40
 replace H:=bs_ H
 obtain ⟨t375,A50,H⟩:=H
 replace H : (some (t365,t366,t375)) = some (r1,r2,r3):=H
 have A5:=am_ A50
 clear A50
 simp only [Option.some.injEq,Prod.mk.injEq] at H
 obtain ⟨rfl,rfl,rfl⟩:=H
 go_enter Try.func30,Try.ntmps30
 try go_wp2_with (first|((with_reducible refine gate_dst (N:=2) rfl ?_);refine box_event ?hg (N:=2) ?hd (cs:=#[.int .i64 0,.slice none 0 0]) (t:=30) ?hr ?_;(case hd=>rfl);(case hg=>rfl);(case hr=>(go_simp;done));intro gb360 hg w6 hbox hb;have n0_:=am_ (below_step HB.out hb);have n1_:=am_ (hbox);have n2_:=am_ ((by rw [hg];exact (below_size HB.out) : w.heap.size ≤ gb360));have n3_:=n2_;clear HB;have HB:=n0_;have BK360:=n1_;have GW360:=n2_;have GE360:=n3_;clear n0_ n1_ n2_ n3_ hb hbox hg)|((with_reducible refine gate_callee (f:=59) rfl ?_);refine goesL_ (some 7) rfl rfl Try.func59 (by kernel_rfl) rfl #[.slice A0 l0.length c0] rfl (by (try simp only [List.map_toArray,List.map_cons,List.map_nil]);rfl) ?_;(with_reducible refine (spec_l01New.calls k _ _ l0 t361 t362 t363 w _ ?side1 ?side2 ?side3 A2.out).mono ?_);(case side1=>exact HB.out);(case side2=>exact HR0.out);(case side3=>exact HC0.out);rintro e w7 ⟨g364,rfl,hi,hb,hb2⟩;refine ⟨_,rfl,?_⟩;have n0_:=am_ (blk_below BK360.out hb2);have n1_:=am_ (hb);have n2_:=am_ (hi);have n3_:=am_ (IsS95.ne_blk hi (blk_below BK360.out hb2) (by decide));have n4_:=am_ (Ne.symm (IsS95.ne_blk hi (blk_below BK360.out hb2) (by decide)));clear BK360 HB;have BK360:=n0_;have HB:=n1_;have HI364:=n2_;have NB364_360:=n3_;have NB360_364:=n4_;clear n0_ n1_ n2_ n3_ n4_;(try clear hb);(try clear hb2);(try clear hi))|((with_reducible refine gate_callee (f:=60) rfl ?_);refine goesL_ (some 9) rfl rfl Try.func60 (by kernel_rfl) rfl #[.pointer (some ⟨g364,0,none⟩)] rfl (by (try simp only [List.map_toArray,List.map_cons,List.map_nil]);rfl) ?_;(with_reducible refine (spec_l06Right.calls k g364 t361 t362 t363 t365 t366 t369 t370 w _ ?side1 ?side2 A3.out).mono ?_);(case side1=>exact HI364.out);(case side2=>exact HB.out);rintro e w8 ⟨v367,rfl,ho0,hi,hb,hk⟩;refine ⟨_,rfl,?_⟩;have n0_:=am_ (KeepBut.blk hk (g':=gb360) (o:=.cells #[.int .i64 0,.slice none 0 0] 30 (0,0)) BK360.out NB360_364.out (by simp));have n1_:=am_ (Kd.R_lower ho0 (below_size HB.out));have n2_:=am_ (hb);have n3_:=am_ (hi);clear BK360 HB HI364;have BK360:=n0_;have HO368:=n1_;have HB:=n2_;have HI364:=n3_;clear n0_ n1_ n2_ n3_;(try clear hb);(try clear hk);(try clear hi);(try clear ho0))|((with_reducible refine gate_dst (N:=5) rfl ?_);refine box_event ?hg (N:=5) ?hd (cs:=#[.int .i64 0,.slice none 0 0]) (t:=30) ?hr ?_;(case hd=>rfl);(case hg=>rfl);(case hr=>(go_simp;done));intro gb371 hg w9 hbox hb;have n0_:=am_ (Kd.R_below HO368.out hb);have n1_:=am_ (blk_below BK360.out hb);have n2_:=am_ (IsS95.below (by exact HI364.out) hb);have n3_:=am_ (below_step HB.out hb);have n4_:=am_ (hbox);have n5_:=am_ ((by rw [hg];exact (below_size HB.out) : w.heap.size ≤ gb371));have n6_:=n5_;have n7_:=am_ ((by rw [hg];exact Nat.ne_of_lt (blk_lt (g:=gb360) (o:=.cells #[.int .i64 0,.slice none 0 0] 30 (0,0)) BK360.out) : gb360 ≠ gb371));have n8_:=am_ ((by rw [hg];exact Nat.ne_of_gt (blk_lt (g:=gb360) (o:=.cells #[.int .i64 0,.slice none 0 0] 30 (0,0)) BK360.out) : gb371 ≠ gb360));have n9_:=am_ ((by rw [hg];exact Nat.ne_of_lt (IsS95.lt (show IsS95 w _ g364 t361 t369 t370 from by exact HI364.out)) : g364 ≠ gb371));have n10_:=am_ ((by rw [hg];exact Nat.ne_of_gt (IsS95.lt (show IsS95 w _ g364 t361 t369 t370 from by exact HI364.out)) : gb371 ≠ g364));clear HO368 BK360 HI364 HB;have HO368:=n0_;have BK360:=n1_;have HI364:=n2_;have HB:=n3_;have BK371:=n4_;have GW371:=n5_;have GE371:=n6_;have NB360_371:=n7_;have NB371_360:=n8_;have NB364_371:=n9_;have NB371_364:=n10_;clear n0_ n1_ n2_ n3_ n4_ n5_ n6_ n7_ n8_ n9_ n10_ hb hbox hg;have hnb10:=NB371_360.out;have hnc10:=NB360_371.out;have hnb11:=NB371_364.out;have hnc11:=NB364_371.out;have hcz12_0 : w9.cell? ⟨gb371,0,none⟩ = some (.int .i64 0):=bc_ BK371.out 0;have hcz12_1 : w9.cell? ⟨gb371,1,none⟩ = some (.slice none 0 0):=bc_ BK371.out 1;have hfz12_0:=blk_frozen BK371.out 0;have hfz12_1:=blk_frozen BK371.out 1;obtain ⟨Ao13,co13,eo13⟩:=Kd.R_slice HO368.out;subst eo13))
 have n0_ : Aside0 (Kd.R k67 67 ((w9.setCell ⟨gb371,0,none⟩ (.int .i64 t365)).setCell ⟨gb371,1,none⟩ (.slice Ao13 t366.length co13)) w.heap.size (fun _=>True) (.slice Ao13 t366.length co13) t366):=⟨by exact Kd.R_mono (Kd.R_far (p:=⟨gb371,1,none⟩) (Kd.R_far (p:=⟨gb371,0,none⟩) (Kd.R_types HO368.out BK371.out (by decide)) (fun _ hk=>hk.2) (.int .i64 t365)) (fun _ hk=>hk.2) (.slice Ao13 t366.length co13)) (fun _ hk=>trivial)⟩
 have n1_ : Aside0 (((w9.setCell ⟨gb371,0,none⟩ (.int .i64 t365)).setCell ⟨gb371,1,none⟩ (.slice Ao13 t366.length co13)).heap[gb360]? = some (.cells #[.int .i64 0,.slice none 0 0] 30 (0,0))):=⟨by refine blk_far ?_ NB360_371.out _;refine blk_far ?_ NB360_371.out _;exact BK360.out⟩
 have n2_ : Aside0 (((w9.setCell ⟨gb371,0,none⟩ (.int .i64 t365)).setCell ⟨gb371,1,none⟩ (.slice Ao13 t366.length co13)).heap[gb371]? = some (.cells #[.int .i64 t365,.slice Ao13 t366.length co13] 30 (0,0))):=⟨by refine blk_put (cs:=#[.int .i64 t365,.slice none 0 0]) ?_ 1 _ rfl;refine blk_put (cs:=#[.int .i64 0,.slice none 0 0]) ?_ 0 _ rfl;exact BK371.out⟩
 have n3_ : Aside0 (IsS95 w ((w9.setCell ⟨gb371,0,none⟩ (.int .i64 t365)).setCell ⟨gb371,1,none⟩ (.slice Ao13 t366.length co13)) g364 t361 t369 t370):=⟨by repeat ((with_reducible first|exact HI364.out|refine IsS95.far ?_ NB364_371.out _))⟩
 have n4_ : Aside0 (Below w.heap.size w ((w9.setCell ⟨gb371,0,none⟩ (.int .i64 t365)).setCell ⟨gb371,1,none⟩ (.slice Ao13 t366.length co13))):=⟨by repeat ((with_reducible first|exact HB.out|refine below_set ?_ GE371.out))⟩
 (try clear HO368)
 (try clear BK360)
 (try clear BK371)
 (try clear HI364)
 (try clear HB)
 generalize ((w9.setCell ⟨gb371,0,none⟩ (.int .i64 t365)).setCell ⟨gb371,1,none⟩ (.slice Ao13 t366.length co13)) = w14 at n0_ n1_ n2_ n3_ n4_ ⊢
 have HO368:=n0_
 have BK360:=n1_
 have BK371:=n2_
 have HI364:=n3_
 have HB:=n4_
 clear n0_ n1_ n2_ n3_ n4_
 have n0_:=am_ (Kd.R_drew HO368.out)
 have n1_:=am_ (blk_drew BK360.out)
 have n2_:=am_ (blk_drew BK371.out)
 have n3_:=am_ (IsS95.drew HI364.out)
 have n4_:=am_ (below_drew1 HB.out)
 clear HO368
 clear BK360
 clear BK371
 clear HI364
 clear HB
 have HO368:=n0_
 have BK360:=n1_
 have BK371:=n2_
 have HI364:=n3_
 have HB:=n4_
 clear n0_ n1_ n2_ n3_ n4_
 refine start_ (n:=7) (S:=fun w'=>w'.cell? ⟨gb371,0,none⟩ = some (.int .i64 t365) ∧ w'.cell? ⟨gb371,1,none⟩ = some (.slice Ao13 t366.length co13)) (ds:=[]) #[false,false,false,false,false,false,false] (by kernel_rfl) rfl rfl ⟨bc_ BK371.out 0,bc_ BK371.out 1⟩ (fun hHeld=>?_)
 generalize w14.drew = w15 at HO368 BK360 BK371 HI364 HB hHeld ⊢
 refine pure_ (i:=2) (N:=some 12) (v:=?_) (a':=?_) #[false,false,true,false,false,false,false] rfl rfl (by kernel_rfl) (fun _ _ _ h=>h) (Or.inl ⟨by rfl,?_⟩) ?_ ?_
 rotate_left
 ·intro w'
  go_simp
  with_reducible rfl
 rotate_left
 ·simp only [Act.put,sb_,sz_,ss_,i64_w,i32_w]
  rfl
 refine take_ (i:=0) (N:=some 10) (v:=?_) (a':=?_) #[true,false,true,false,false,false,false] rfl rfl (by kernel_rfl) (fun _ _ _ h=>h) (Or.inl ⟨by rfl,?_⟩) hHeld ?_ ?_
 rotate_left
 ·rintro w' ⟨s0,s1⟩
  go_simp
  with_reducible rfl
 rotate_left
 ·simp only [Act.put,sb_,sz_,ss_,i64_w,i32_w]
  rfl
 refine take_ (i:=1) (N:=some 11) (v:=?_) (a':=?_) #[true,true,true,false,false,false,false] rfl rfl (by kernel_rfl) (fun _ _ _ h=>h) (Or.inl ⟨by rfl,?_⟩) hHeld ?_ ?_
 rotate_left
 ·rintro w' ⟨s0,s1⟩
  go_simp
  with_reducible rfl
 rotate_left
 ·simp only [Act.put,sb_,sz_,ss_,i64_w,i32_w]
  rfl
 refine one_ (i:=3) (N:=some 13) #[true,true,true,true,false,false,false] rfl rfl (by kernel_rfl) (by decide) (fun K hK=>?_)
 refine goes_ Try.func61 (by kernel_rfl) rfl #[.pointer (some ⟨g364,0,none⟩),.int .i64 9] (by rfl) rfl rfl (by (try simp only [List.map_toArray,List.map_cons,List.map_nil]);rfl) ?_
 with_reducible refine (spec_l01Below.calls g364 t361 t369 t370 9 t372 t373 t374 w _ ?side1 ?side2 A4.out).mono ?_
 (case side1=>exact HI364.out)
 (case side2=>exact HB.out)
 rintro e w16 ⟨rfl,hi,hb,hk⟩
 refine ⟨_,rfl,?_⟩
 have n0_:=am_ (KeepBut.blk hk (g':=gb360) (o:=.cells #[.int .i64 0,.slice none 0 0] 30 (0,0)) BK360.out NB360_364.out (by simp))
 have n1_:=am_ (Kd.R_mono (Kd.R_keep (IsS95.apart (show IsS95 w _ g364 t361 t369 t370 from by exact HI364.out) HO368.out (by decide)) hk (fun _ h=>h.2)) (fun _ h=>h.1))
 have n2_:=am_ (KeepBut.blk hk (g':=gb371) (o:=.cells #[.int .i64 t365,.slice Ao13 t366.length co13] 30 (0,0)) BK371.out NB371_364.out (by simp))
 have n3_:=am_ (hb)
 have n4_:=am_ (hi)
 clear BK360
 clear HO368
 clear BK371
 clear HB
 clear HI364
 have BK360:=n0_
 have HO368:=n1_
 have BK371:=n2_
 have HB:=n3_
 have HI364:=n4_
 clear n0_ n1_ n2_ n3_ n4_
 (try clear hb)
 (skip)
 (try clear hk)
 (try clear hi)
 refine hK.out _ _ ⟨bc_ BK371.out 0,bc_ BK371.out 1⟩ (fun hHeld=>?_)
 clear hK K
 refine norm_ (a':=?_) ?_ ?_
 rotate_left
 ·show Act.put _ (some 13) _ = _
  simp only [Act.put,sb_,sz_,ss_,i64_w,i32_w]
  rfl
 refine one_ (i:=4) (N:=some 14) #[true,true,true,true,true,false,false] rfl rfl (by kernel_rfl) (by decide) (fun K hK=>?_)
 refine goes_ Try.func52 (by kernel_rfl) rfl #[.agg #[.int .i64 t365,.slice Ao13 t366.length co13],.int .i64 t372] (by rfl) rfl rfl (by (try simp only [List.map_toArray,List.map_cons,List.map_nil]);rfl) ?_
 with_reducible refine (spec_l06Pushed.calls k t365 _ _ t366 t372 t375 _ ?side1 ?side2 A5.out).mono ?_
 (case side1=>repeat (exact (Kd.R_reads' HO368.out).2.2))
 (case side2=>exact (Kd.R_reads' HO368.out).2.1)
 rintro e w17 ⟨v376,rfl,ho0,hb⟩
 refine ⟨_,rfl,?_⟩
 have n0_:=am_ (Kd.R_below HO368.out hb)
 have n1_:=am_ (Kd.R_lower ho0 (below_size HB.out))
 have n2_:=am_ (blk_below BK360.out hb)
 have n3_:=am_ (IsS95.below (by exact HI364.out) hb)
 have n4_:=am_ (blk_below BK371.out hb)
 have n5_:=am_ (below_step HB.out hb)
 clear HO368
 clear BK360
 clear HI364
 clear BK371
 clear HB
 have HO368:=n0_
 have HO377:=n1_
 have BK360:=n2_
 have HI364:=n3_
 have BK371:=n4_
 have HB:=n5_
 clear n0_ n1_ n2_ n3_ n4_ n5_
 (try clear hb)
 (skip)
 (skip)
 (skip)
 (try clear ho0)
 refine hK.out _ _ ⟨bc_ BK371.out 0,bc_ BK371.out 1⟩ (fun hHeld=>?_)
 clear hK K
 refine norm_ (a':=?_) ?_ ?_
 rotate_left
 ·show Act.put _ (some 14) _ = _
  simp only [Act.put,sb_,sz_,ss_,i64_w,i32_w]
  rfl
 refine one_ (i:=5) (N:=none) #[true,true,true,true,true,true,false] rfl rfl (by kernel_rfl) (by decide) (fun K hK=>?_)
 have hs18 : w17.cell? ⟨gb360,0,none⟩ = some (.int .i64 0):=bc_ BK360.out 0
 have hfs18:=blk_frozen BK360.out 0
 have hns18_1:=NB371_360.out
 have hms18_1:=NB360_371.out
 have hs19 : w17.cell? ⟨gb360,1,none⟩ = some (.slice none 0 0):=bc_ BK360.out 1
 have hfs19:=blk_frozen BK360.out 1
 have hns19_1:=NB371_360.out
 have hms19_1:=NB360_371.out
 refine skip_ (w1:=?_) (by rfl) rfl ?_ ?_
 rotate_left
 ·go_simp
  rfl
 refine hK.out _ _ ⟨((cell_far (p:=⟨gb360,_,none⟩) NB371_360.out _).trans (((cell_far (p:=⟨gb360,_,none⟩) NB371_360.out _).trans (hHeld.1)))),((cell_far (p:=⟨gb360,_,none⟩) NB371_360.out _).trans (((cell_far (p:=⟨gb360,_,none⟩) NB371_360.out _).trans (hHeld.2))))⟩ (fun hHeld=>?_)
 clear hK K
 refine pure_ (i:=6) (N:=some 3) (v:=?_) (a':=?_) #[true,true,true,true,true,true,true] rfl rfl (by kernel_rfl) (fun _ _ _ h=>h) (Or.inl ⟨by rfl,?_⟩) ?_ ?_
 rotate_left
 ·intro w'
  go_simp
  with_reducible rfl
 rotate_left
 ·simp only [Act.put,sb_,sz_,ss_,i64_w,i32_w]
  rfl
 refine done_ (by kernel_rfl) ?_
 try go_wp2
 refine bodyPost_ret (results_ct rfl _ _ gb360 30 #[.int .i64 t365,.slice Ao13 t366.length co13] (0,0) _ rfl (by refine blk_put (cs:=#[.int .i64 t365,.slice none 0 0]) ?_ 1 _ rfl;refine blk_put (cs:=#[.int .i64 0,.slice none 0 0]) ?_ 0 _ rfl;exact BK360.out) Try.underlying30 rfl (by kernel_rfl)) rfl ?_
 exact ⟨_,_,by rfl,by exact Kd.R_mono (Kd.R_far (p:=⟨gb360,1,none⟩) (Kd.R_far (p:=⟨gb360,0,none⟩) (Kd.R_types HO368.out BK360.out (by decide)) (fun _ hk=>hk.2) (.int .i64 t365)) (fun _ hk=>hk.2) (.slice Ao13 t366.length co13)) (fun _ hk=>trivial),by exact Kd.R_mono (Kd.R_far (p:=⟨gb360,1,none⟩) (Kd.R_far (p:=⟨gb360,0,none⟩) (Kd.R_types HO377.out BK360.out (by decide)) (fun _ hk=>hk.2) (.int .i64 t365)) (fun _ hk=>hk.2) (.slice Ao13 t366.length co13)) (fun _ hk=>trivial),by repeat ((with_reducible first|exact HB.out|refine below_set ?_ GE360.out))⟩

/-! ### spec_l01In: function 68 -/
def spec_l01In.f (a0 : Int) (a1 : Int) (a2 : Int) : Option (Bool):=if a0 ≥ a1 then (some (decide (a0 ≤ a2))) else (some false)
set_option maxHeartbeats 8000000 in
set_option maxRecDepth 100000 in
theorem spec_l01In.calls (a0 : Int) (a1 : Int) (a2 : Int) (r : Bool) (w : World) (h : spec_l01In.f a0 a1 a2 = some r) :
  Calls Try.prog 68 #[.int .i64 a0,.int .i64 a1,.int .i64 a2] w fun e w'=>e = .returned (.bool r) ∧ Drawn0 w w':=by
 have H : (if a0 ≥ a1 then (some (decide (a0 ≤ a2))) else (some false)) = some r:=h
 clear h
 by_cases c4 : a0 ≥ a1
 ·rw [if_pos c4] at H
  have c4b0 : decide (a1 ≤ a0) = true:=decide_eq_true c4
  clear c4
  obtain rfl:=Option.some.inj H
  go_enter Try.func68,Try.ntmps68
  go_wp2
  go_ret
  exact ⟨by rfl,by repeat (exact Drawn0.refl _)⟩
 rw [if_neg c4] at H
 have c4b0 : decide (a1 ≤ a0) = false:=decide_eq_false c4
 clear c4
 obtain rfl:=Option.some.inj H
 go_enter Try.func68,Try.ntmps68
 go_wp2
 go_ret
 exact ⟨by rfl,by repeat (exact Drawn0.refl _)⟩

/-! ### spec_NetOk: function 51 -/
mutual
def spec_NetOk.j0 : Nat → Bool → Int → List (S67) → Option (Bool)
 | 0, _, _, _ => none
 | k + 1, x14, x102000, x102001 => if x14 = true then (some false) else (spec_NetOk.l0 k 0 x102000 x102001)
def spec_NetOk.l0 : Nat → Int → Int → List (S67) → Option (Bool)
 | 0, _, _, _ => none
 | k + 1, x3, x102000, x102001 => if x3 < (x102001.length : Int) then (if 0 ≤ x3 then ((spec_l01In.f ((rd_T67 x102001 x3).f0) 0 (wrap64 (x102000 - 1))).bind fun t105 => (if t105 = true then ((spec_l01In.f ((rd_T67 x102001 x3).f1) 0 (wrap64 (x102000 - 1))).bind fun t106 => (if t106 = true then (if ((rd_T67 x102001 x3).f0) = ((rd_T67 x102001 x3).f1) then (some false) else ((spec_l01In.f ((rd_T67 x102001 x3).f2) 0 20).bind fun t107 => (if t107 = true then ((spec_l01In.f ((rd_T67 x102001 x3).f3) 0 100).bind fun t108 => (if t108 = true then (spec_NetOk.l0 k (wrap64 (x3 + 1)) x102000 x102001) else (some false))) else (some false)))) else (some false))) else (some false))) else (none)) else (some true)
end
def spec_NetOk.f (k : Nat) (a0_0 : Int) (l0_1 : List (S67)) : Option (Bool):=(spec_l01In.f a0_0 2 1500).bind fun t102=>(if t102 = true then (spec_NetOk.j0 k (decide ((l0_1.length : Int) > 3200)) a0_0 l0_1) else (spec_NetOk.j0 k true a0_0 l0_1))
theorem spec_NetOk.mono_l : ∀ k,(∀ y0 y1 y2,LeO (spec_NetOk.j0 k y0 y1 y2) (spec_NetOk.j0 (k + 1) y0 y1 y2)) ∧ (∀ y0 y1 y2,LeO (spec_NetOk.l0 k y0 y1 y2) (spec_NetOk.l0 (k + 1) y0 y1 y2))
 | 0 => ⟨fun _ _ _ r h => by simp [spec_NetOk.j0] at h, fun _ _ _ r h => by simp [spec_NetOk.l0] at h⟩
 | k + 1 => by
  obtain ⟨ih0,ih1⟩:=spec_NetOk.mono_l k
  refine ⟨?_,?_⟩
  ·intro y0 y1 y2
   unfold spec_NetOk.j0
   repeat' first
   | (with_reducible exact ih1 _ _ _)
   | (with_reducible exact LeO.refl _)
   | (with_reducible refine LeO.ite ?_ ?_)
  ·intro y0 y1 y2
   unfold spec_NetOk.l0
   repeat' first
   | (with_reducible exact ih1 _ _ _)
   | (with_reducible exact LeO.refl _)
   | (with_reducible refine LeO.ite ?_ ?_)
   | (with_reducible refine LeO.bind ?_ (fun _ => ?_))
theorem spec_NetOk.mono : ∀ a0 a1 k,LeO (spec_NetOk.f k a0 a1) (spec_NetOk.f (k + 1) a0 a1):=by
 intro a0 a1 k
 obtain ⟨ih0,ih1⟩:=spec_NetOk.mono_l k
 unfold spec_NetOk.f
 repeat' first
   | (with_reducible exact ih0 _ _ _)
   | (with_reducible exact LeO.refl _)
   | (with_reducible refine LeO.ite ?_ ?_)
   | (with_reducible refine LeO.bind ?_ (fun _ => ?_))
set_option maxHeartbeats 8000000 in
set_option maxRecDepth 100000 in
theorem spec_NetOk.calls (k : Nat) (a0_0 : Int) (A0_1 : Option Addr) (c0_1 : Nat) (l0_1 : List (S67)) (r : Bool) (w : World) (hr0_1 : Kd.C k67 w A0_1 l0_1.length l0_1) (hc0_1 : l0_1.length ≤ c0_1) (h : spec_NetOk.f k a0_0 l0_1 = some r) :
  Calls Try.prog 51 #[.agg #[.int .i64 a0_0,.slice A0_1 l0_1.length c0_1]] w fun e w'=>e = .returned (.bool r) ∧ Below w.heap.size w w':=by
 have hu30:=Try.underlying30
 have hu67:=Try.underlying67
 have HR0_1:=am_ hr0_1
 have HC0_1:=am_ hc0_1
 clear hr0_1 hc0_1
 have HB:=am_ (Below.refl w.heap.size w)
 have H : ((spec_l01In.f a0_0 2 1500).bind fun t102=>(if t102 = true then (spec_NetOk.j0 k (decide ((l0_1.length : Int) > 3200)) a0_0 l0_1) else (spec_NetOk.j0 k true a0_0 l0_1))) = some r:=h
 clear h
 have HC2:=am_ H
 clear H
 go_enter Try.func51,Try.ntmps51
 go_upto_region 1 with (((with_reducible refine gate_dst (N:=1) rfl ?_);(try (refine gate_guard (by rfl) ?_;dsimp only));refine box_event ?hg (N:=1) ?hd (cs:=#[.int .i64 a0_0,.slice A0_1 l0_1.length c0_1]) (t:=30) ?hr ?_;(case hd=>rfl);(case hg=>rfl);(case hr=>(go_simp;done));intro gb101 hg w3 hbox hb;have n0_:=am_ (below_step HB.out hb);have n1_:=am_ (hbox);have n2_:=am_ ((by rw [hg];exact (below_size HB.out) : w.heap.size ≤ gb101));have n3_:=n2_;clear HB;have HB:=n0_;have BK101:=n1_;have GW101:=n2_;have GE101:=n3_;clear n0_ n1_ n2_ n3_ hb hbox hg))
 (skip)
 go_cut [14] (fun v14 wc=>∃ (kq : Nat) (x14_1 : Bool),v14 = .bool x14_1 ∧ Aside0 (spec_NetOk.j0 kq x14_1 a0_0 l0_1 = some r) ∧ Aside0 (kq ≤ k) ∧ Aside0 (wc.heap[gb101]? = some (.cells #[.int .i64 a0_0,(.slice A0_1 l0_1.length c0_1)] 30 (0,0))) ∧ Aside0 (Below w.heap.size w wc))
 case first =>
  have H:=HC2.out
  clear HC2
  replace H:=bs_ H
  obtain ⟨t102,A40,H⟩:=H
  replace H : (if t102 = true then (spec_NetOk.j0 k (decide ((l0_1.length : Int) > 3200)) a0_0 l0_1) else (spec_NetOk.j0 k true a0_0 l0_1)) = some r:=H
  have A4:=am_ A40
  clear A40
  by_cases c5 : t102 = true
  ·subst c5
   have H1 : (spec_NetOk.j0 k (decide ((l0_1.length : Int) > 3200)) a0_0 l0_1) = some r:=by rw [if_pos rfl] at H;exact H
   clear H
   have H:=H1
   clear H1
   have H':=am_ H
   clear H
   have hcz6_0 : w3.cell? ⟨gb101,0,none⟩ = some (.int .i64 a0_0):=bc_ BK101.out 0
   have hcz6_1 : w3.cell? ⟨gb101,1,none⟩ = some (.slice A0_1 l0_1.length c0_1):=bc_ BK101.out 1
   have hfz6_0:=blk_frozen BK101.out 0
   have hfz6_1:=blk_frozen BK101.out 1
   go_wp2_with (((with_reducible refine gate_callee (f:=68) rfl ?_);refine goesL_ (some 7) rfl rfl Try.func68 (by kernel_rfl) rfl #[.int .i64 a0_0,.int .i64 2,.int .i64 1500] rfl (by (try simp only [List.map_toArray,List.map_cons,List.map_nil]);rfl) ?_;(with_reducible refine (spec_l01In.calls a0_0 2 1500 true _ A4.out).mono ?_);rintro e w' ⟨rfl,⟨nd,rfl⟩⟩;refine ⟨_,rfl,?_⟩))
   go_meet
   case rel=>exact ⟨_,(decide ((l0_1.length : Int) > 3200)),(by rfl),H',⟨by omega⟩,⟨by (with_reducible repeat (refine blk_drewN ?_ _));exact BK101.out⟩,⟨by repeat ((with_reducible first|exact HB.out|apply pw_below_drewN))⟩⟩
  replace c5:=Bool.eq_false_iff.mpr c5
  subst c5
  have H1 : (spec_NetOk.j0 k true a0_0 l0_1) = some r:=by rw [if_neg (show ¬ (false = true) by decide)] at H;exact H
  clear H
  have H:=H1
  clear H1
  have H':=am_ H
  clear H
  have hcz7_0 : w3.cell? ⟨gb101,0,none⟩ = some (.int .i64 a0_0):=bc_ BK101.out 0
  have hcz7_1 : w3.cell? ⟨gb101,1,none⟩ = some (.slice A0_1 l0_1.length c0_1):=bc_ BK101.out 1
  have hfz7_0:=blk_frozen BK101.out 0
  have hfz7_1:=blk_frozen BK101.out 1
  go_wp2_with (((with_reducible refine gate_callee (f:=68) rfl ?_);refine goesL_ (some 7) rfl rfl Try.func68 (by kernel_rfl) rfl #[.int .i64 a0_0,.int .i64 2,.int .i64 1500] rfl (by (try simp only [List.map_toArray,List.map_cons,List.map_nil]);rfl) ?_;(with_reducible refine (spec_l01In.calls a0_0 2 1500 false _ A4.out).mono ?_);rintro e w' ⟨rfl,⟨nd,rfl⟩⟩;refine ⟨_,rfl,?_⟩))
  go_meet
  case rel=>exact ⟨_,(true),(by rfl),H',⟨by omega⟩,⟨by (with_reducible repeat (refine blk_drewN ?_ _));exact BK101.out⟩,⟨by repeat ((with_reducible first|exact HB.out|apply pw_below_drewN))⟩⟩
 case rest =>
  clear HC2
  try clear p2
  try clear c5
  try clear c6
  try clear hcz6_0
  try clear hcz6_1
  try clear hcz7_0
  try clear hcz7_1
  try clear hfz6_0
  try clear hfz6_1
  try clear hfz7_0
  try clear hfz7_1
  obtain ⟨kq,x14_1,rfl,HA,HJ1,BK101,HB⟩:=hcut
  cases kq with
  | zero => exact absurd HA.out (by simp [spec_NetOk.j0])
  | succ kj1 =>
   have H:=HA.out
   clear HA
   simp only [spec_NetOk.j0] at H
   by_cases c8 : x14_1 = true
   ·subst c8
    have H1 : (some false) = some r:=by rw [if_pos rfl] at H;exact H
    clear H
    have H:=H1
    clear H1
    obtain rfl:=Option.some.inj H
    go_wp2
    go_ret
    exact ⟨by rfl,by exact HB.out⟩
   replace c8:=Bool.eq_false_iff.mpr c8
   subst c8
   have H1 : (spec_NetOk.l0 kj1 0 a0_0 l0_1) = some r:=by rw [if_neg (show ¬ (false = true) by decide)] at H;exact H
   clear H
   have H:=H1
   clear H1
   have H':=am_ H
   clear H
   go_wp2
   go_loopg [3] kj1 (fun kq v3 w'=>∃ (x3_2 : Int),v3 = .int .i64 x3_2 ∧ Aside0 (spec_NetOk.l0 kq x3_2 a0_0 l0_1 = some r) ∧ Aside0 (kq ≤ kj1) ∧ Aside0 (w'.heap[gb101]? = some (.cells #[.int .i64 a0_0,(.slice A0_1 l0_1.length c0_1)] 30 (0,0))) ∧ Aside0 (Below w.heap.size w w'))
   case atStart=>exact ⟨(0),(by rfl),H',⟨Nat.le_refl _⟩,⟨by exact BK101.out⟩,⟨by exact HB.out⟩⟩
   case round =>
    clear H'
    try clear p2
    try clear c5
    try clear c6
    try clear c8
    try clear hcz6_0
    try clear hcz6_1
    try clear hcz7_0
    try clear hcz7_1
    try clear hfz6_0
    try clear hfz6_1
    try clear hfz7_0
    try clear hfz7_1
    try clear p2
    obtain ⟨x3_2,rfl,HA,HK2,BK101,HB⟩:=hrel
    cases gk with
    | zero => exact absurd HA.out (by simp [spec_NetOk.l0])
    | succ k2 =>
     have H:=HA.out
     clear HA
     simp only [spec_NetOk.l0] at H
     by_cases c9 : x3_2 < (l0_1.length : Int)
     rotate_left
     ·rw [if_neg c9] at H
      have c9b0 : decide (x3_2 < (l0_1.length : Int)) = false:=decide_eq_false c9
      clear c9
      obtain rfl:=Option.some.inj H
      have hcz50_0 : wr.cell? ⟨gb101,0,none⟩ = some (.int .i64 a0_0):=bc_ BK101.out 0
      have hcz50_1 : wr.cell? ⟨gb101,1,none⟩ = some (.slice A0_1 l0_1.length c0_1):=bc_ BK101.out 1
      have hfz50_0:=blk_frozen BK101.out 0
      have hfz50_1:=blk_frozen BK101.out 1
      go_wp2
      go_ret
      exact ⟨by rfl,by exact HB.out⟩
     rw [if_pos c9] at H
     have c9b0 : decide (x3_2 < (l0_1.length : Int)) = true:=decide_eq_true c9
     clear c9
     by_cases c10 : 0 ≤ x3_2
     rotate_left
     ·rw [if_neg c10] at H
      exact absurd H (by simp)
     rw [if_pos c10] at H
     have c10b0 : decide (0 ≤ x3_2) = true:=decide_eq_true c10
     clear c10
     replace H:=bs_ H
     obtain ⟨t105,A110,H⟩:=H
     replace H : (if t105 = true then ((spec_l01In.f ((rd_T67 l0_1 x3_2).f1) 0 (wrap64 (a0_0 - 1))).bind fun t106=>(if t106 = true then (if ((rd_T67 l0_1 x3_2).f0) = ((rd_T67 l0_1 x3_2).f1) then (some false) else ((spec_l01In.f ((rd_T67 l0_1 x3_2).f2) 0 20).bind fun t107=>(if t107 = true then ((spec_l01In.f ((rd_T67 l0_1 x3_2).f3) 0 100).bind fun t108=>(if t108 = true then (spec_NetOk.l0 k2 (wrap64 (x3_2 + 1)) a0_0 l0_1) else (some false))) else (some false)))) else (some false))) else (some false)) = some r:=H
     have A11:=am_ A110
     clear A110
     by_cases c12 : t105 = true
     rotate_left
     ·replace c12:=Bool.eq_false_iff.mpr c12
      subst c12
      have H1 : (some false) = some r:=by rw [if_neg (show ¬ (false = true) by decide)] at H;exact H
      clear H
      have H:=H1
      clear H1
      obtain rfl:=Option.some.inj H
      have hcz45_0 : wr.cell? ⟨gb101,0,none⟩ = some (.int .i64 a0_0):=bc_ BK101.out 0
      have hcz45_1 : wr.cell? ⟨gb101,1,none⟩ = some (.slice A0_1 l0_1.length c0_1):=bc_ BK101.out 1
      have hfz45_0:=blk_frozen BK101.out 0
      have hfz45_1:=blk_frozen BK101.out 1
      have p103 : 0 ≤ (x3_2 : Int):=od_ (by (with_reducible assumption))
      have q103 : x3_2 < (l0_1.length : Int):=od_ (by (with_reducible assumption))
      obtain ⟨ad103,e103,hx103_0,hx103_1,hx103_2,hx103_3⟩:=at_T67 HR0_1.out x3_2 p103 q103
      cases e103
      replace hx103_0:=kc_ HB.out hx103_0
      replace hx103_1:=kc_ HB.out hx103_1
      replace hx103_2:=kc_ HB.out hx103_2
      replace hx103_3:=kc_ HB.out hx103_3
      replace p103:=eq_true p103
      replace q103:=eq_true q103
      go_wp2_with (first|((with_reducible refine gate_dst (N:=4) rfl ?_);(try (refine gate_guard (by rfl) ?_;dsimp only));refine box_event ?hg (N:=4) ?hd (cs:=#[.int .i64 0,.int .i64 0,.int .i64 0,.int .i64 0]) (t:=67) ?hr ?_;(case hd=>rfl);(case hg=>rfl);(case hr=>(go_simp;done));intro gb104 hg w46 hbox hb;have n0_:=am_ (blk_below BK101.out hb);have n1_:=am_ (below_step HB.out hb);have n2_:=am_ (hbox);have n3_:=am_ ((by rw [hg];exact (below_size HB.out) : w.heap.size ≤ gb104));have n4_:=n3_;have n5_:=am_ ((by rw [hg];exact Nat.ne_of_lt (blk_lt (g:=gb101) (o:=.cells #[.int .i64 a0_0,.slice (some ad103) l0_1.length c0_1] 30 (0,0)) BK101.out) : gb101 ≠ gb104));have n6_:=am_ ((by rw [hg];exact Nat.ne_of_gt (blk_lt (g:=gb101) (o:=.cells #[.int .i64 a0_0,.slice (some ad103) l0_1.length c0_1] 30 (0,0)) BK101.out) : gb104 ≠ gb101));clear BK101 HB;have BK101:=n0_;have HB:=n1_;have BK104:=n2_;have GW104:=n3_;have GE104:=n4_;have NB101_104:=n5_;have NB104_101:=n6_;clear n0_ n1_ n2_ n3_ n4_ n5_ n6_ hb hbox hg;have hnb47:=NB104_101.out;have hnc47:=NB101_104.out;have hcz48_0 : w46.cell? ⟨gb104,0,none⟩ = some (.int .i64 0):=bc_ BK104.out 0;have hcz48_1 : w46.cell? ⟨gb104,1,none⟩ = some (.int .i64 0):=bc_ BK104.out 1;have hcz48_2 : w46.cell? ⟨gb104,2,none⟩ = some (.int .i64 0):=bc_ BK104.out 2;have hcz48_3 : w46.cell? ⟨gb104,3,none⟩ = some (.int .i64 0):=bc_ BK104.out 3;have hfz48_0:=blk_frozen BK104.out 0;have hfz48_1:=blk_frozen BK104.out 1;have hfz48_2:=blk_frozen BK104.out 2;have hfz48_3:=blk_frozen BK104.out 3;have hcz49_0 : w46.cell? ⟨gb101,0,none⟩ = some (.int .i64 a0_0):=bc_ BK101.out 0;have hcz49_1 : w46.cell? ⟨gb101,1,none⟩ = some (.slice (some ad103) l0_1.length c0_1):=bc_ BK101.out 1;have hfz49_0:=blk_frozen BK101.out 0;have hfz49_1:=blk_frozen BK101.out 1)|((with_reducible refine gate_callee (f:=68) rfl ?_);refine goesL_ (some 32) rfl rfl Try.func68 (by kernel_rfl) rfl #[.int .i64 ((rd_T67 l0_1 x3_2).f0),.int .i64 0,.int .i64 (wrap64 (a0_0 - 1))] rfl (by (try simp only [List.map_toArray,List.map_cons,List.map_nil]);rfl) ?_;(with_reducible refine (spec_l01In.calls ((rd_T67 l0_1 x3_2).f0) 0 (wrap64 (a0_0 - 1)) false _ A11.out).mono ?_);rintro e w' ⟨rfl,⟨nd,rfl⟩⟩;refine ⟨_,rfl,?_⟩))
      go_ret
      exact ⟨by rfl,by repeat ((with_reducible first|exact HB.out|apply pw_below_drewN|refine below_set ?_ GE104.out))⟩
     subst c12
     have H1 : ((spec_l01In.f ((rd_T67 l0_1 x3_2).f1) 0 (wrap64 (a0_0 - 1))).bind fun t106=>(if t106 = true then (if ((rd_T67 l0_1 x3_2).f0) = ((rd_T67 l0_1 x3_2).f1) then (some false) else ((spec_l01In.f ((rd_T67 l0_1 x3_2).f2) 0 20).bind fun t107=>(if t107 = true then ((spec_l01In.f ((rd_T67 l0_1 x3_2).f3) 0 100).bind fun t108=>(if t108 = true then (spec_NetOk.l0 k2 (wrap64 (x3_2 + 1)) a0_0 l0_1) else (some false))) else (some false)))) else (some false))) = some r:=by rw [if_pos rfl] at H;exact H
     clear H
     have H:=H1
     clear H1
     replace H:=bs_ H
     obtain ⟨t106,A130,H⟩:=H
     replace H : (if t106 = true then (if ((rd_T67 l0_1 x3_2).f0) = ((rd_T67 l0_1 x3_2).f1) then (some false) else ((spec_l01In.f ((rd_T67 l0_1 x3_2).f2) 0 20).bind fun t107=>(if t107 = true then ((spec_l01In.f ((rd_T67 l0_1 x3_2).f3) 0 100).bind fun t108=>(if t108 = true then (spec_NetOk.l0 k2 (wrap64 (x3_2 + 1)) a0_0 l0_1) else (some false))) else (some false)))) else (some false)) = some r:=H
     have A13:=am_ A130
     clear A130
     by_cases c14 : t106 = true
     rotate_left
     ·replace c14:=Bool.eq_false_iff.mpr c14
      subst c14
      have H1 : (some false) = some r:=by rw [if_neg (show ¬ (false = true) by decide)] at H;exact H
      clear H
      have H:=H1
      clear H1
      obtain rfl:=Option.some.inj H
      have hcz40_0 : wr.cell? ⟨gb101,0,none⟩ = some (.int .i64 a0_0):=bc_ BK101.out 0
      have hcz40_1 : wr.cell? ⟨gb101,1,none⟩ = some (.slice A0_1 l0_1.length c0_1):=bc_ BK101.out 1
      have hfz40_0:=blk_frozen BK101.out 0
      have hfz40_1:=blk_frozen BK101.out 1
      have p103 : 0 ≤ (x3_2 : Int):=od_ (by (with_reducible assumption))
      have q103 : x3_2 < (l0_1.length : Int):=od_ (by (with_reducible assumption))
      obtain ⟨ad103,e103,hx103_0,hx103_1,hx103_2,hx103_3⟩:=at_T67 HR0_1.out x3_2 p103 q103
      cases e103
      replace hx103_0:=kc_ HB.out hx103_0
      replace hx103_1:=kc_ HB.out hx103_1
      replace hx103_2:=kc_ HB.out hx103_2
      replace hx103_3:=kc_ HB.out hx103_3
      replace p103:=eq_true p103
      replace q103:=eq_true q103
      go_wp2_with (first|((with_reducible refine gate_dst (N:=4) rfl ?_);(try (refine gate_guard (by rfl) ?_;dsimp only));refine box_event ?hg (N:=4) ?hd (cs:=#[.int .i64 0,.int .i64 0,.int .i64 0,.int .i64 0]) (t:=67) ?hr ?_;(case hd=>rfl);(case hg=>rfl);(case hr=>(go_simp;done));intro gb104 hg w41 hbox hb;have n0_:=am_ (blk_below BK101.out hb);have n1_:=am_ (below_step HB.out hb);have n2_:=am_ (hbox);have n3_:=am_ ((by rw [hg];exact (below_size HB.out) : w.heap.size ≤ gb104));have n4_:=n3_;have n5_:=am_ ((by rw [hg];exact Nat.ne_of_lt (blk_lt (g:=gb101) (o:=.cells #[.int .i64 a0_0,.slice (some ad103) l0_1.length c0_1] 30 (0,0)) BK101.out) : gb101 ≠ gb104));have n6_:=am_ ((by rw [hg];exact Nat.ne_of_gt (blk_lt (g:=gb101) (o:=.cells #[.int .i64 a0_0,.slice (some ad103) l0_1.length c0_1] 30 (0,0)) BK101.out) : gb104 ≠ gb101));clear BK101 HB;have BK101:=n0_;have HB:=n1_;have BK104:=n2_;have GW104:=n3_;have GE104:=n4_;have NB101_104:=n5_;have NB104_101:=n6_;clear n0_ n1_ n2_ n3_ n4_ n5_ n6_ hb hbox hg;have hnb42:=NB104_101.out;have hnc42:=NB101_104.out;have hcz43_0 : w41.cell? ⟨gb104,0,none⟩ = some (.int .i64 0):=bc_ BK104.out 0;have hcz43_1 : w41.cell? ⟨gb104,1,none⟩ = some (.int .i64 0):=bc_ BK104.out 1;have hcz43_2 : w41.cell? ⟨gb104,2,none⟩ = some (.int .i64 0):=bc_ BK104.out 2;have hcz43_3 : w41.cell? ⟨gb104,3,none⟩ = some (.int .i64 0):=bc_ BK104.out 3;have hfz43_0:=blk_frozen BK104.out 0;have hfz43_1:=blk_frozen BK104.out 1;have hfz43_2:=blk_frozen BK104.out 2;have hfz43_3:=blk_frozen BK104.out 3;have hcz44_0 : w41.cell? ⟨gb101,0,none⟩ = some (.int .i64 a0_0):=bc_ BK101.out 0;have hcz44_1 : w41.cell? ⟨gb101,1,none⟩ = some (.slice (some ad103) l0_1.length c0_1):=bc_ BK101.out 1;have hfz44_0:=blk_frozen BK101.out 0;have hfz44_1:=blk_frozen BK101.out 1)|((with_reducible refine gate_callee (f:=68) rfl ?_);refine goesL_ (some 32) rfl rfl Try.func68 (by kernel_rfl) rfl #[.int .i64 ((rd_T67 l0_1 x3_2).f0),.int .i64 0,.int .i64 (wrap64 (a0_0 - 1))] rfl (by (try simp only [List.map_toArray,List.map_cons,List.map_nil]);rfl) ?_;(with_reducible refine (spec_l01In.calls ((rd_T67 l0_1 x3_2).f0) 0 (wrap64 (a0_0 - 1)) true _ A11.out).mono ?_);rintro e w' ⟨rfl,⟨nd,rfl⟩⟩;refine ⟨_,rfl,?_⟩)|(go_at_call 68;(with_reducible refine (spec_l01In.calls ((rd_T67 l0_1 x3_2).f1) 0 (wrap64 (a0_0 - 1)) false _ A13.out).mono ?_);rintro e w' ⟨rfl,⟨nd,rfl⟩⟩))
      go_ret
      exact ⟨by rfl,by repeat ((with_reducible first|exact HB.out|apply pw_below_drewN|refine below_set ?_ GE104.out))⟩
     subst c14
     have H1 : (if ((rd_T67 l0_1 x3_2).f0) = ((rd_T67 l0_1 x3_2).f1) then (some false) else ((spec_l01In.f ((rd_T67 l0_1 x3_2).f2) 0 20).bind fun t107=>(if t107 = true then ((spec_l01In.f ((rd_T67 l0_1 x3_2).f3) 0 100).bind fun t108=>(if t108 = true then (spec_NetOk.l0 k2 (wrap64 (x3_2 + 1)) a0_0 l0_1) else (some false))) else (some false)))) = some r:=by rw [if_pos rfl] at H;exact H
     clear H
     have H:=H1
     clear H1
     by_cases c15 : ((rd_T67 l0_1 x3_2).f0) = ((rd_T67 l0_1 x3_2).f1)
     ·rw [if_pos c15] at H
      have c15b0 : (((rd_T67 l0_1 x3_2).f0) == ((rd_T67 l0_1 x3_2).f1)) = true:=beq_iff_eq.mpr c15
      have c15b1 : (((rd_T67 l0_1 x3_2).f0) != ((rd_T67 l0_1 x3_2).f1)) = false:=bne_eq_false_iff_eq.mpr c15
      clear c15
      obtain rfl:=Option.some.inj H
      have hcz16_0 : wr.cell? ⟨gb101,0,none⟩ = some (.int .i64 a0_0):=bc_ BK101.out 0
      have hcz16_1 : wr.cell? ⟨gb101,1,none⟩ = some (.slice A0_1 l0_1.length c0_1):=bc_ BK101.out 1
      have hfz16_0:=blk_frozen BK101.out 0
      have hfz16_1:=blk_frozen BK101.out 1
      have p103 : 0 ≤ (x3_2 : Int):=od_ (by (with_reducible assumption))
      have q103 : x3_2 < (l0_1.length : Int):=od_ (by (with_reducible assumption))
      obtain ⟨ad103,e103,hx103_0,hx103_1,hx103_2,hx103_3⟩:=at_T67 HR0_1.out x3_2 p103 q103
      cases e103
      replace hx103_0:=kc_ HB.out hx103_0
      replace hx103_1:=kc_ HB.out hx103_1
      replace hx103_2:=kc_ HB.out hx103_2
      replace hx103_3:=kc_ HB.out hx103_3
      replace p103:=eq_true p103
      replace q103:=eq_true q103
      go_wp2_with (first|((with_reducible refine gate_dst (N:=4) rfl ?_);(try (refine gate_guard (by rfl) ?_;dsimp only));refine box_event ?hg (N:=4) ?hd (cs:=#[.int .i64 0,.int .i64 0,.int .i64 0,.int .i64 0]) (t:=67) ?hr ?_;(case hd=>rfl);(case hg=>rfl);(case hr=>(go_simp;done));intro gb104 hg w17 hbox hb;have n0_:=am_ (blk_below BK101.out hb);have n1_:=am_ (below_step HB.out hb);have n2_:=am_ (hbox);have n3_:=am_ ((by rw [hg];exact (below_size HB.out) : w.heap.size ≤ gb104));have n4_:=n3_;have n5_:=am_ ((by rw [hg];exact Nat.ne_of_lt (blk_lt (g:=gb101) (o:=.cells #[.int .i64 a0_0,.slice (some ad103) l0_1.length c0_1] 30 (0,0)) BK101.out) : gb101 ≠ gb104));have n6_:=am_ ((by rw [hg];exact Nat.ne_of_gt (blk_lt (g:=gb101) (o:=.cells #[.int .i64 a0_0,.slice (some ad103) l0_1.length c0_1] 30 (0,0)) BK101.out) : gb104 ≠ gb101));clear BK101 HB;have BK101:=n0_;have HB:=n1_;have BK104:=n2_;have GW104:=n3_;have GE104:=n4_;have NB101_104:=n5_;have NB104_101:=n6_;clear n0_ n1_ n2_ n3_ n4_ n5_ n6_ hb hbox hg;have hnb18:=NB104_101.out;have hnc18:=NB101_104.out;have hcz19_0 : w17.cell? ⟨gb104,0,none⟩ = some (.int .i64 0):=bc_ BK104.out 0;have hcz19_1 : w17.cell? ⟨gb104,1,none⟩ = some (.int .i64 0):=bc_ BK104.out 1;have hcz19_2 : w17.cell? ⟨gb104,2,none⟩ = some (.int .i64 0):=bc_ BK104.out 2;have hcz19_3 : w17.cell? ⟨gb104,3,none⟩ = some (.int .i64 0):=bc_ BK104.out 3;have hfz19_0:=blk_frozen BK104.out 0;have hfz19_1:=blk_frozen BK104.out 1;have hfz19_2:=blk_frozen BK104.out 2;have hfz19_3:=blk_frozen BK104.out 3;have hcz20_0 : w17.cell? ⟨gb101,0,none⟩ = some (.int .i64 a0_0):=bc_ BK101.out 0;have hcz20_1 : w17.cell? ⟨gb101,1,none⟩ = some (.slice (some ad103) l0_1.length c0_1):=bc_ BK101.out 1;have hfz20_0:=blk_frozen BK101.out 0;have hfz20_1:=blk_frozen BK101.out 1)|((with_reducible refine gate_callee (f:=68) rfl ?_);refine goesL_ (some 32) rfl rfl Try.func68 (by kernel_rfl) rfl #[.int .i64 ((rd_T67 l0_1 x3_2).f0),.int .i64 0,.int .i64 (wrap64 (a0_0 - 1))] rfl (by (try simp only [List.map_toArray,List.map_cons,List.map_nil]);rfl) ?_;(with_reducible refine (spec_l01In.calls ((rd_T67 l0_1 x3_2).f0) 0 (wrap64 (a0_0 - 1)) true _ A11.out).mono ?_);rintro e w' ⟨rfl,⟨nd,rfl⟩⟩;refine ⟨_,rfl,?_⟩)|(go_at_call 68;(with_reducible refine (spec_l01In.calls ((rd_T67 l0_1 x3_2).f1) 0 (wrap64 (a0_0 - 1)) true _ A13.out).mono ?_);rintro e w' ⟨rfl,⟨nd,rfl⟩⟩))
      go_ret
      exact ⟨by rfl,by repeat ((with_reducible first|exact HB.out|apply pw_below_drewN|refine below_set ?_ GE104.out))⟩
     rw [if_neg c15] at H
     have c15b0 : (((rd_T67 l0_1 x3_2).f0) == ((rd_T67 l0_1 x3_2).f1)) = false:=beq_eq_false_iff_ne.mpr c15
     have c15b1 : (((rd_T67 l0_1 x3_2).f0) != ((rd_T67 l0_1 x3_2).f1)) = true:=bne_iff_ne.mpr c15
     replace H:=bs_ H
     obtain ⟨t107,A210,H⟩:=H
     replace H : (if t107 = true then ((spec_l01In.f ((rd_T67 l0_1 x3_2).f3) 0 100).bind fun t108=>(if t108 = true then (spec_NetOk.l0 k2 (wrap64 (x3_2 + 1)) a0_0 l0_1) else (some false))) else (some false)) = some r:=H
     have A21:=am_ A210
     clear A210
     by_cases c22 : t107 = true
     rotate_left
     ·replace c22:=Bool.eq_false_iff.mpr c22
      subst c22
      have H1 : (some false) = some r:=by rw [if_neg (show ¬ (false = true) by decide)] at H;exact H
      clear H
      have H:=H1
      clear H1
      obtain rfl:=Option.some.inj H
      have hcz35_0 : wr.cell? ⟨gb101,0,none⟩ = some (.int .i64 a0_0):=bc_ BK101.out 0
      have hcz35_1 : wr.cell? ⟨gb101,1,none⟩ = some (.slice A0_1 l0_1.length c0_1):=bc_ BK101.out 1
      have hfz35_0:=blk_frozen BK101.out 0
      have hfz35_1:=blk_frozen BK101.out 1
      have p103 : 0 ≤ (x3_2 : Int):=od_ (by (with_reducible assumption))
      have q103 : x3_2 < (l0_1.length : Int):=od_ (by (with_reducible assumption))
      obtain ⟨ad103,e103,hx103_0,hx103_1,hx103_2,hx103_3⟩:=at_T67 HR0_1.out x3_2 p103 q103
      cases e103
      replace hx103_0:=kc_ HB.out hx103_0
      replace hx103_1:=kc_ HB.out hx103_1
      replace hx103_2:=kc_ HB.out hx103_2
      replace hx103_3:=kc_ HB.out hx103_3
      replace p103:=eq_true p103
      replace q103:=eq_true q103
      go_wp2_with (first|((with_reducible refine gate_dst (N:=4) rfl ?_);(try (refine gate_guard (by rfl) ?_;dsimp only));refine box_event ?hg (N:=4) ?hd (cs:=#[.int .i64 0,.int .i64 0,.int .i64 0,.int .i64 0]) (t:=67) ?hr ?_;(case hd=>rfl);(case hg=>rfl);(case hr=>(go_simp;done));intro gb104 hg w36 hbox hb;have n0_:=am_ (blk_below BK101.out hb);have n1_:=am_ (below_step HB.out hb);have n2_:=am_ (hbox);have n3_:=am_ ((by rw [hg];exact (below_size HB.out) : w.heap.size ≤ gb104));have n4_:=n3_;have n5_:=am_ ((by rw [hg];exact Nat.ne_of_lt (blk_lt (g:=gb101) (o:=.cells #[.int .i64 a0_0,.slice (some ad103) l0_1.length c0_1] 30 (0,0)) BK101.out) : gb101 ≠ gb104));have n6_:=am_ ((by rw [hg];exact Nat.ne_of_gt (blk_lt (g:=gb101) (o:=.cells #[.int .i64 a0_0,.slice (some ad103) l0_1.length c0_1] 30 (0,0)) BK101.out) : gb104 ≠ gb101));clear BK101 HB;have BK101:=n0_;have HB:=n1_;have BK104:=n2_;have GW104:=n3_;have GE104:=n4_;have NB101_104:=n5_;have NB104_101:=n6_;clear n0_ n1_ n2_ n3_ n4_ n5_ n6_ hb hbox hg;have hnb37:=NB104_101.out;have hnc37:=NB101_104.out;have hcz38_0 : w36.cell? ⟨gb104,0,none⟩ = some (.int .i64 0):=bc_ BK104.out 0;have hcz38_1 : w36.cell? ⟨gb104,1,none⟩ = some (.int .i64 0):=bc_ BK104.out 1;have hcz38_2 : w36.cell? ⟨gb104,2,none⟩ = some (.int .i64 0):=bc_ BK104.out 2;have hcz38_3 : w36.cell? ⟨gb104,3,none⟩ = some (.int .i64 0):=bc_ BK104.out 3;have hfz38_0:=blk_frozen BK104.out 0;have hfz38_1:=blk_frozen BK104.out 1;have hfz38_2:=blk_frozen BK104.out 2;have hfz38_3:=blk_frozen BK104.out 3;have hcz39_0 : w36.cell? ⟨gb101,0,none⟩ = some (.int .i64 a0_0):=bc_ BK101.out 0;have hcz39_1 : w36.cell? ⟨gb101,1,none⟩ = some (.slice (some ad103) l0_1.length c0_1):=bc_ BK101.out 1;have hfz39_0:=blk_frozen BK101.out 0;have hfz39_1:=blk_frozen BK101.out 1)|((with_reducible refine gate_callee (f:=68) rfl ?_);refine goesL_ (some 32) rfl rfl Try.func68 (by kernel_rfl) rfl #[.int .i64 ((rd_T67 l0_1 x3_2).f0),.int .i64 0,.int .i64 (wrap64 (a0_0 - 1))] rfl (by (try simp only [List.map_toArray,List.map_cons,List.map_nil]);rfl) ?_;(with_reducible refine (spec_l01In.calls ((rd_T67 l0_1 x3_2).f0) 0 (wrap64 (a0_0 - 1)) true _ A11.out).mono ?_);rintro e w' ⟨rfl,⟨nd,rfl⟩⟩;refine ⟨_,rfl,?_⟩)|(go_at_call 68;(with_reducible refine (spec_l01In.calls ((rd_T67 l0_1 x3_2).f1) 0 (wrap64 (a0_0 - 1)) true _ A13.out).mono ?_);rintro e w' ⟨rfl,⟨nd,rfl⟩⟩)|(go_at_call 68;(with_reducible refine (spec_l01In.calls ((rd_T67 l0_1 x3_2).f2) 0 20 false _ A21.out).mono ?_);rintro e w' ⟨rfl,⟨nd,rfl⟩⟩))
      go_ret
      exact ⟨by rfl,by repeat ((with_reducible first|exact HB.out|apply pw_below_drewN|refine below_set ?_ GE104.out))⟩
     subst c22
     have H1 : ((spec_l01In.f ((rd_T67 l0_1 x3_2).f3) 0 100).bind fun t108=>(if t108 = true then (spec_NetOk.l0 k2 (wrap64 (x3_2 + 1)) a0_0 l0_1) else (some false))) = some r:=by rw [if_pos rfl] at H;exact H
     clear H
     have H:=H1
     clear H1
     replace H:=bs_ H
     obtain ⟨t108,A230,H⟩:=H
     replace H : (if t108 = true then (spec_NetOk.l0 k2 (wrap64 (x3_2 + 1)) a0_0 l0_1) else (some false)) = some r:=H
     have A23:=am_ A230
     clear A230
     by_cases c24 : t108 = true
     ·subst c24
      have H1 : (spec_NetOk.l0 k2 (wrap64 (x3_2 + 1)) a0_0 l0_1) = some r:=by rw [if_pos rfl] at H;exact H
      clear H
      have H:=H1
      clear H1
      have H':=am_ H
      clear H
      have hcz25_0 : wr.cell? ⟨gb101,0,none⟩ = some (.int .i64 a0_0):=bc_ BK101.out 0
      have hcz25_1 : wr.cell? ⟨gb101,1,none⟩ = some (.slice A0_1 l0_1.length c0_1):=bc_ BK101.out 1
      have hfz25_0:=blk_frozen BK101.out 0
      have hfz25_1:=blk_frozen BK101.out 1
      have p103 : 0 ≤ (x3_2 : Int):=od_ (by (with_reducible assumption))
      have q103 : x3_2 < (l0_1.length : Int):=od_ (by (with_reducible assumption))
      obtain ⟨ad103,e103,hx103_0,hx103_1,hx103_2,hx103_3⟩:=at_T67 HR0_1.out x3_2 p103 q103
      cases e103
      replace hx103_0:=kc_ HB.out hx103_0
      replace hx103_1:=kc_ HB.out hx103_1
      replace hx103_2:=kc_ HB.out hx103_2
      replace hx103_3:=kc_ HB.out hx103_3
      replace p103:=eq_true p103
      replace q103:=eq_true q103
      go_wp2_with (first|((with_reducible refine gate_dst (N:=4) rfl ?_);(try (refine gate_guard (by rfl) ?_;dsimp only));refine box_event ?hg (N:=4) ?hd (cs:=#[.int .i64 0,.int .i64 0,.int .i64 0,.int .i64 0]) (t:=67) ?hr ?_;(case hd=>rfl);(case hg=>rfl);(case hr=>(go_simp;done));intro gb104 hg w26 hbox hb;have n0_:=am_ (blk_below BK101.out hb);have n1_:=am_ (below_step HB.out hb);have n2_:=am_ (hbox);have n3_:=am_ ((by rw [hg];exact (below_size HB.out) : w.heap.size ≤ gb104));have n4_:=n3_;have n5_:=am_ ((by rw [hg];exact Nat.ne_of_lt (blk_lt (g:=gb101) (o:=.cells #[.int .i64 a0_0,.slice (some ad103) l0_1.length c0_1] 30 (0,0)) BK101.out) : gb101 ≠ gb104));have n6_:=am_ ((by rw [hg];exact Nat.ne_of_gt (blk_lt (g:=gb101) (o:=.cells #[.int .i64 a0_0,.slice (some ad103) l0_1.length c0_1] 30 (0,0)) BK101.out) : gb104 ≠ gb101));clear BK101 HB;have BK101:=n0_;have HB:=n1_;have BK104:=n2_;have GW104:=n3_;have GE104:=n4_;have NB101_104:=n5_;have NB104_101:=n6_;clear n0_ n1_ n2_ n3_ n4_ n5_ n6_ hb hbox hg;have hnb27:=NB104_101.out;have hnc27:=NB101_104.out;have hcz28_0 : w26.cell? ⟨gb104,0,none⟩ = some (.int .i64 0):=bc_ BK104.out 0;have hcz28_1 : w26.cell? ⟨gb104,1,none⟩ = some (.int .i64 0):=bc_ BK104.out 1;have hcz28_2 : w26.cell? ⟨gb104,2,none⟩ = some (.int .i64 0):=bc_ BK104.out 2;have hcz28_3 : w26.cell? ⟨gb104,3,none⟩ = some (.int .i64 0):=bc_ BK104.out 3;have hfz28_0:=blk_frozen BK104.out 0;have hfz28_1:=blk_frozen BK104.out 1;have hfz28_2:=blk_frozen BK104.out 2;have hfz28_3:=blk_frozen BK104.out 3;have hcz29_0 : w26.cell? ⟨gb101,0,none⟩ = some (.int .i64 a0_0):=bc_ BK101.out 0;have hcz29_1 : w26.cell? ⟨gb101,1,none⟩ = some (.slice (some ad103) l0_1.length c0_1):=bc_ BK101.out 1;have hfz29_0:=blk_frozen BK101.out 0;have hfz29_1:=blk_frozen BK101.out 1)|((with_reducible refine gate_callee (f:=68) rfl ?_);refine goesL_ (some 32) rfl rfl Try.func68 (by kernel_rfl) rfl #[.int .i64 ((rd_T67 l0_1 x3_2).f0),.int .i64 0,.int .i64 (wrap64 (a0_0 - 1))] rfl (by (try simp only [List.map_toArray,List.map_cons,List.map_nil]);rfl) ?_;(with_reducible refine (spec_l01In.calls ((rd_T67 l0_1 x3_2).f0) 0 (wrap64 (a0_0 - 1)) true _ A11.out).mono ?_);rintro e w' ⟨rfl,⟨nd,rfl⟩⟩;refine ⟨_,rfl,?_⟩)|(go_at_call 68;(with_reducible refine (spec_l01In.calls ((rd_T67 l0_1 x3_2).f1) 0 (wrap64 (a0_0 - 1)) true _ A13.out).mono ?_);rintro e w' ⟨rfl,⟨nd,rfl⟩⟩)|(go_at_call 68;(with_reducible refine (spec_l01In.calls ((rd_T67 l0_1 x3_2).f2) 0 20 true _ A21.out).mono ?_);rintro e w' ⟨rfl,⟨nd,rfl⟩⟩)|(go_at_call 68;(with_reducible refine (spec_l01In.calls ((rd_T67 l0_1 x3_2).f3) 0 100 true _ A23.out).mono ?_);rintro e w' ⟨rfl,⟨nd,rfl⟩⟩))
      go_roundg k2
      case measure=>have:=HJ1.out;have:=HK2.out;omega
      case rel=>exact ⟨(wrap64 (x3_2 + 1)),(by rfl),H',⟨by have:=HJ1.out;have:=HK2.out;omega⟩,⟨by (with_reducible repeat (refine blk_drewN ?_ _));refine blk_far ?_ NB101_104.out _;refine blk_far ?_ NB101_104.out _;refine blk_far ?_ NB101_104.out _;refine blk_far ?_ NB101_104.out _;exact BK101.out⟩,⟨by repeat ((with_reducible first|exact HB.out|apply pw_below_drewN|refine below_set ?_ GE104.out))⟩⟩
     replace c24:=Bool.eq_false_iff.mpr c24
     subst c24
     have H1 : (some false) = some r:=by rw [if_neg (show ¬ (false = true) by decide)] at H;exact H
     clear H
     have H:=H1
     clear H1
     obtain rfl:=Option.some.inj H
     have hcz30_0 : wr.cell? ⟨gb101,0,none⟩ = some (.int .i64 a0_0):=bc_ BK101.out 0
     have hcz30_1 : wr.cell? ⟨gb101,1,none⟩ = some (.slice A0_1 l0_1.length c0_1):=bc_ BK101.out 1
     have hfz30_0:=blk_frozen BK101.out 0
     have hfz30_1:=blk_frozen BK101.out 1
     have p103 : 0 ≤ (x3_2 : Int):=od_ (by (with_reducible assumption))
     have q103 : x3_2 < (l0_1.length : Int):=od_ (by (with_reducible assumption))
     obtain ⟨ad103,e103,hx103_0,hx103_1,hx103_2,hx103_3⟩:=at_T67 HR0_1.out x3_2 p103 q103
     cases e103
     replace hx103_0:=kc_ HB.out hx103_0
     replace hx103_1:=kc_ HB.out hx103_1
     replace hx103_2:=kc_ HB.out hx103_2
     replace hx103_3:=kc_ HB.out hx103_3
     replace p103:=eq_true p103
     replace q103:=eq_true q103
     go_wp2_with (first|((with_reducible refine gate_dst (N:=4) rfl ?_);(try (refine gate_guard (by rfl) ?_;dsimp only));refine box_event ?hg (N:=4) ?hd (cs:=#[.int .i64 0,.int .i64 0,.int .i64 0,.int .i64 0]) (t:=67) ?hr ?_;(case hd=>rfl);(case hg=>rfl);(case hr=>(go_simp;done));intro gb104 hg w31 hbox hb;have n0_:=am_ (blk_below BK101.out hb);have n1_:=am_ (below_step HB.out hb);have n2_:=am_ (hbox);have n3_:=am_ ((by rw [hg];exact (below_size HB.out) : w.heap.size ≤ gb104));have n4_:=n3_;have n5_:=am_ ((by rw [hg];exact Nat.ne_of_lt (blk_lt (g:=gb101) (o:=.cells #[.int .i64 a0_0,.slice (some ad103) l0_1.length c0_1] 30 (0,0)) BK101.out) : gb101 ≠ gb104));have n6_:=am_ ((by rw [hg];exact Nat.ne_of_gt (blk_lt (g:=gb101) (o:=.cells #[.int .i64 a0_0,.slice (some ad103) l0_1.length c0_1] 30 (0,0)) BK101.out) : gb104 ≠ gb101));clear BK101 HB;have BK101:=n0_;have HB:=n1_;have BK104:=n2_;have GW104:=n3_;have GE104:=n4_;have NB101_104:=n5_;have NB104_101:=n6_;clear n0_ n1_ n2_ n3_ n4_ n5_ n6_ hb hbox hg;have hnb32:=NB104_101.out;have hnc32:=NB101_104.out;have hcz33_0 : w31.cell? ⟨gb104,0,none⟩ = some (.int .i64 0):=bc_ BK104.out 0;have hcz33_1 : w31.cell? ⟨gb104,1,none⟩ = some (.int .i64 0):=bc_ BK104.out 1;have hcz33_2 : w31.cell? ⟨gb104,2,none⟩ = some (.int .i64 0):=bc_ BK104.out 2;have hcz33_3 : w31.cell? ⟨gb104,3,none⟩ = some (.int .i64 0):=bc_ BK104.out 3;have hfz33_0:=blk_frozen BK104.out 0;have hfz33_1:=blk_frozen BK104.out 1;have hfz33_2:=blk_frozen BK104.out 2;have hfz33_3:=blk_frozen BK104.out 3;have hcz34_0 : w31.cell? ⟨gb101,0,none⟩ = some (.int .i64 a0_0):=bc_ BK101.out 0;have hcz34_1 : w31.cell? ⟨gb101,1,none⟩ = some (.slice (some ad103) l0_1.length c0_1):=bc_ BK101.out 1;have hfz34_0:=blk_frozen BK101.out 0;have hfz34_1:=blk_frozen BK101.out 1)|((with_reducible refine gate_callee (f:=68) rfl ?_);refine goesL_ (some 32) rfl rfl Try.func68 (by kernel_rfl) rfl #[.int .i64 ((rd_T67 l0_1 x3_2).f0),.int .i64 0,.int .i64 (wrap64 (a0_0 - 1))] rfl (by (try simp only [List.map_toArray,List.map_cons,List.map_nil]);rfl) ?_;(with_reducible refine (spec_l01In.calls ((rd_T67 l0_1 x3_2).f0) 0 (wrap64 (a0_0 - 1)) true _ A11.out).mono ?_);rintro e w' ⟨rfl,⟨nd,rfl⟩⟩;refine ⟨_,rfl,?_⟩)|(go_at_call 68;(with_reducible refine (spec_l01In.calls ((rd_T67 l0_1 x3_2).f1) 0 (wrap64 (a0_0 - 1)) true _ A13.out).mono ?_);rintro e w' ⟨rfl,⟨nd,rfl⟩⟩)|(go_at_call 68;(with_reducible refine (spec_l01In.calls ((rd_T67 l0_1 x3_2).f2) 0 20 true _ A21.out).mono ?_);rintro e w' ⟨rfl,⟨nd,rfl⟩⟩)|(go_at_call 68;(with_reducible refine (spec_l01In.calls ((rd_T67 l0_1 x3_2).f3) 0 100 false _ A23.out).mono ?_);rintro e w' ⟨rfl,⟨nd,rfl⟩⟩))
     go_ret
     exact ⟨by rfl,by repeat ((with_reducible first|exact HB.out|apply pw_below_drewN|refine below_set ?_ GE104.out))⟩

end Go.Proofs.Ytgkpgigoonhgdaa.PFnMostCut
