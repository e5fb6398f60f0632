-- Made by the session's wip/pp.py, a changed call of the kit's printer; Lean checks it.
import Derived.Test.YtgkpgigoonhgdaaPFnCheapestx0
import Derived.Test.YtgkpgigoonhgdaaPFnCheapestx10
namespace Go.Proofs.Ytgkpgigoonhgdaa.PFnCheapest
open Go.RowKit Go.Proofs.YtgkpgigoonhgdaaW.PrintWords Go.Proofs.YtgkpgigoonhgdaaW.PrintLast Go.Proofs.YtgkpgigoonhgdaaW.PrintMore
attribute [local go_sem] max2_int min2_int max_two min_two max_three min_three max_four min_four   -- for this text's walks alone
set_option linter.unusedVariables false
set_option linter.unusedSimpArgs false


/-! ### spec_l01Byte: function 74 -/
def spec_l01Byte.f (s0_0 : List Int) (s0_1 : Int) (s0_2 : Int) : Option (Int × Int × Int):=if s0_1 < (s0_0.length : Int) then (if 0 ≤ s0_1 then (some (Go.bits .and .i64 (wrap64 ((Go.bits .and .i64 (Go.bits .xor .i64 ((wrap64 ((wrap64 (s0_2 * 6364136223846793005)) + 1442695040888963407)) / 8589934592) ((wrap64 ((wrap64 (s0_2 * 6364136223846793005)) + 1442695040888963407)) / 35184372088832)) 255) + (wrap64 (rd s0_0 s0_1)))) 255,wrap64 (s0_1 + 1),wrap64 ((wrap64 (s0_2 * 6364136223846793005)) + 1442695040888963407))) else (none)) else (some (Go.bits .and .i64 (Go.bits .xor .i64 ((wrap64 ((wrap64 (s0_2 * 6364136223846793005)) + 1442695040888963407)) / 8589934592) ((wrap64 ((wrap64 (s0_2 * 6364136223846793005)) + 1442695040888963407)) / 35184372088832)) 255,s0_1,wrap64 ((wrap64 (s0_2 * 6364136223846793005)) + 1442695040888963407)))
set_option maxHeartbeats 8000000 in
set_option maxRecDepth 100000 in
theorem spec_l01Byte.calls (g : Nat) (s0_0 : List Int) (s0_1 : Int) (s0_2 : Int) (r1 : Int) (r2 : Int) (r3 : Int) (w0 w : World) (hI : IsS95 w0 w g s0_0 s0_1 s0_2) (hB : Below w0.heap.size w0 w) (h : spec_l01Byte.f s0_0 s0_1 s0_2 = some (r1,r2,r3)) :
  Calls Try.prog 74 #[.pointer (some ⟨g,0,none⟩)] w fun e w'=>e = .returned (.int .i64 r1) ∧ IsS95 w0 w' g s0_0 r2 r3 ∧ Below w0.heap.size w0 w' ∧ KeepBut w w' g none:=by
 have HI0:=am_ hI
 have HK:=am_ (KeepBut.refl w g none)
 have HL:=am_ hB.size
 clear hI
 have HW0:=am_ hB.size
 have HB:=am_ hB
 clear hB
 have H : (if s0_1 < (s0_0.length : Int) then (if 0 ≤ s0_1 then (some (Go.bits .and .i64 (wrap64 ((Go.bits .and .i64 (Go.bits .xor .i64 ((wrap64 ((wrap64 (s0_2 * 6364136223846793005)) + 1442695040888963407)) / 8589934592) ((wrap64 ((wrap64 (s0_2 * 6364136223846793005)) + 1442695040888963407)) / 35184372088832)) 255) + (wrap64 (rd s0_0 s0_1)))) 255,wrap64 (s0_1 + 1),wrap64 ((wrap64 (s0_2 * 6364136223846793005)) + 1442695040888963407))) else (none)) else (some (Go.bits .and .i64 (Go.bits .xor .i64 ((wrap64 ((wrap64 (s0_2 * 6364136223846793005)) + 1442695040888963407)) / 8589934592) ((wrap64 ((wrap64 (s0_2 * 6364136223846793005)) + 1442695040888963407)) / 35184372088832)) 255,s0_1,wrap64 ((wrap64 (s0_2 * 6364136223846793005)) + 1442695040888963407)))) = some (r1,r2,r3):=h
 clear h
 by_cases c2 : s0_1 < (s0_0.length : Int)
 rotate_left
 ·rw [if_neg c2] at H
  have c2b0 : decide (s0_1 < (s0_0.length : Int)) = false:=decide_eq_false c2
  clear c2
  simp only [Option.some.injEq,Prod.mk.injEq] at H
  obtain ⟨rfl,rfl,rfl⟩:=H
  obtain ⟨ASz5_0,cSz5_0,HGz5,hgz5,HSz5_0⟩:=HI0.out
  have hcz5_0:=cellS95_0 HGz5
  have hcz5_1:=cellS95_1 HGz5
  have hcz5_2:=cellS95_2 HGz5
  have hfz5_1:=blk_frozen HGz5 1
  have hfz5_2:=blk_frozen HGz5 2
  clear HGz5 hgz5
  go_enter Try.func74,Try.ntmps74
  go_wp2
  repeat (go_quiet (fail);try go_wp2)
  go_ret
  exact ⟨by rfl,by repeat ((with_reducible first|exact HI0.out|apply IsS95.drewN|apply IsS95.set_2)),by repeat ((with_reducible first|exact HB.out|apply pw_below_drewN|refine below_set ?_ (IsS95.ge HI0.out))),by repeat ((with_reducible first|exact HK.out|apply KeepBut.set_|apply keep_drewN))⟩
 rw [if_pos c2] at H
 have c2b0 : decide (s0_1 < (s0_0.length : Int)) = true:=decide_eq_true c2
 clear c2
 by_cases c3 : 0 ≤ s0_1
 rotate_left
 ·rw [if_neg c3] at H
  exact absurd H (by simp)
 rw [if_pos c3] at H
 have c3b0 : decide (0 ≤ s0_1) = true:=decide_eq_true c3
 clear c3
 simp only [Option.some.injEq,Prod.mk.injEq] at H
 obtain ⟨rfl,rfl,rfl⟩:=H
 obtain ⟨ASz4_0,cSz4_0,HGz4,hgz4,HSz4_0⟩:=HI0.out
 have hcz4_0:=cellS95_0 HGz4
 have hcz4_1:=cellS95_1 HGz4
 have hcz4_2:=cellS95_2 HGz4
 have hfz4_1:=blk_frozen HGz4 1
 have hfz4_2:=blk_frozen HGz4 2
 clear HGz4 hgz4
 have p311 : 0 ≤ (s0_1 : Int):=of_decide_eq_true (by (with_reducible assumption))
 have q311 : s0_1 < (s0_0.length : Int):=of_decide_eq_true (by (with_reducible assumption))
 obtain ⟨ad311,e311,hx311_0⟩:=Kd.at_int HSz4_0 s0_1 p311 q311
 cases e311
 have hn311_0 : ad311.block ≠ g:=Nat.ne_of_lt (Nat.lt_of_lt_of_le (by have:=World.block_lt_of_cell? _ _ hx311_0;rwa [add_block] at this) (IsS95.ge HI0.out))
 replace hx311_0:=pw_cell_below HB.out hx311_0
 replace hx311_0:=(cell_far (p:=⟨g,2,none⟩) (by (rw [add_block];exact hn311_0)) (.int .i64 (wrap64 ((wrap64 (s0_2 * 6364136223846793005)) + 1442695040888963407)))).trans hx311_0
 (try have hy311_0:=fun (n_ : Nat)=>(show (((w.drewN n_).setCell ⟨g,2,none⟩ (.int .i64 (wrap64 ((wrap64 (s0_2 * 6364136223846793005)) + 1442695040888963407))))).cell? _ = some _ from hx311_0))
 clear hn311_0
 replace p311:=eq_true p311
 replace q311:=eq_true q311
 go_enter Try.func74,Try.ntmps74
 go_wp2
 repeat (go_quiet (fail);try go_wp2)
 go_ret
 exact ⟨by rfl,by repeat ((with_reducible first|exact HI0.out|apply IsS95.drewN|apply IsS95.set_1|apply IsS95.set_2)),by repeat ((with_reducible first|exact HB.out|apply pw_below_drewN|refine below_set ?_ (IsS95.ge HI0.out))),by repeat ((with_reducible first|exact HK.out|apply KeepBut.set_|apply keep_drewN))⟩

/-! ### spec_l01Below: function 61 -/
def spec_l01Below.f (s0_0 : List Int) (s0_1 : Int) (s0_2 : Int) (a1 : Int) : Option (Int × Int × Int):=if a1 ≤ 0 then (some (0,s0_1,s0_2)) else (if a1 ≤ 256 then ((spec_l01Byte.f s0_0 s0_1 s0_2).bind fun bt312=>(if a1 = 0 then (none) else (some (Int.tmod bt312.1 a1,bt312.2.1,bt312.2.2)))) else ((spec_l01Byte.f s0_0 s0_1 s0_2).bind fun bt315=>((spec_l01Byte.f s0_0 bt315.2.1 bt315.2.2).bind fun bt318=>((spec_l01Byte.f s0_0 bt318.2.1 bt318.2.2).bind fun bt321=>((spec_l01Byte.f s0_0 bt321.2.1 bt321.2.2).bind fun bt324=>(if a1 = 0 then (none) else (some (Int.tmod (wrap64 ((wrap64 ((wrap64 ((wrap64 (bt315.1 * 16777216)) + (wrap64 (bt318.1 * 65536)))) + (wrap64 (bt321.1 * 256)))) + bt324.1)) a1,bt324.2.1,bt324.2.2))))))))
set_option maxHeartbeats 8000000 in
set_option maxRecDepth 100000 in
theorem spec_l01Below.calls (g : Nat) (s0_0 : List Int) (s0_1 : Int) (s0_2 : Int) (a1 : Int) (r1 : Int) (r2 : Int) (r3 : Int) (w0 w : World) (hI : IsS95 w0 w g s0_0 s0_1 s0_2) (hB : Below w0.heap.size w0 w) (h : spec_l01Below.f s0_0 s0_1 s0_2 a1 = some (r1,r2,r3)) :
  Calls Try.prog 61 #[.pointer (some ⟨g,0,none⟩),.int .i64 a1] w fun e w'=>e = .returned (.int .i64 r1) ∧ IsS95 w0 w' g s0_0 r2 r3 ∧ Below w0.heap.size w0 w' ∧ KeepBut w w' g none:=by
 have HI0:=am_ hI
 have HK:=am_ (KeepBut.refl w g none)
 have HL:=am_ hB.size
 clear hI
 have HW0:=am_ hB.size
 have HB:=am_ hB
 clear hB
 have H : (if a1 ≤ 0 then (some (0,s0_1,s0_2)) else (if a1 ≤ 256 then ((spec_l01Byte.f s0_0 s0_1 s0_2).bind fun bt312=>(if a1 = 0 then (none) else (some (Int.tmod bt312.1 a1,bt312.2.1,bt312.2.2)))) else ((spec_l01Byte.f s0_0 s0_1 s0_2).bind fun bt315=>((spec_l01Byte.f s0_0 bt315.2.1 bt315.2.2).bind fun bt318=>((spec_l01Byte.f s0_0 bt318.2.1 bt318.2.2).bind fun bt321=>((spec_l01Byte.f s0_0 bt321.2.1 bt321.2.2).bind fun bt324=>(if a1 = 0 then (none) else (some (Int.tmod (wrap64 ((wrap64 ((wrap64 ((wrap64 (bt315.1 * 16777216)) + (wrap64 (bt318.1 * 65536)))) + (wrap64 (bt321.1 * 256)))) + bt324.1)) a1,bt324.2.1,bt324.2.2))))))))) = some (r1,r2,r3):=h
 clear h
 by_cases c3 : a1 ≤ 0
 ·rw [if_pos c3] at H
  have c3b0 : decide (a1 ≤ 0) = true:=decide_eq_true c3
  clear c3
  simp only [Option.some.injEq,Prod.mk.injEq] at H
  obtain ⟨rfl,rfl,rfl⟩:=H
  go_enter Try.func61,Try.ntmps61
  go_wp2
  go_ret
  exact ⟨by rfl,by exact HI0.out,by exact HB.out,by exact HK.out⟩
 rw [if_neg c3] at H
 have c3b0 : decide (a1 ≤ 0) = false:=decide_eq_false c3
 clear c3
 by_cases c4 : a1 ≤ 256
 ·rw [if_pos c4] at H
  have c4b0 : decide (a1 ≤ 256) = true:=decide_eq_true c4
  clear c4
  replace H:=Option.bind_eq_some_iff.mp H
  obtain ⟨⟨t312,t313,t314⟩,A50,H⟩:=H
  replace H : (if a1 = 0 then (none) else (some (Int.tmod t312 a1,t313,t314))) = some (r1,r2,r3):=H
  have A5:=am_ A50
  clear A50
  by_cases c6 : a1 = 0
  ·rw [if_pos c6] at H
   exact absurd H (by simp)
  rw [if_neg c6] at H
  have c6b0 : (a1 == 0) = false:=beq_eq_false_iff_ne.mpr c6
  have c6b1 : (a1 != 0) = true:=bne_iff_ne.mpr c6
  simp only [Option.some.injEq,Prod.mk.injEq] at H
  obtain ⟨rfl,rfl,rfl⟩:=H
  go_enter Try.func61,Try.ntmps61
  go_wp2_with (((with_reducible refine gate_callee (f:=74) rfl ?_);refine goesL_ (some 14) rfl rfl Try.func74 (by kernel_rfl) rfl #[.pointer (some ⟨g,0,none⟩)] rfl (by (try simp only [List.map_toArray,List.map_cons,List.map_nil]);rfl) ?_;(with_reducible refine (spec_l01Byte.calls g s0_0 s0_1 s0_2 t312 t313 t314 w0 _ ?side1 ?side2 A5.out).mono ?_);(case side1=>exact HI0.out);(case side2=>exact HB.out);rintro e w7 ⟨rfl,hi,hb,hk⟩;refine ⟨_,rfl,?_⟩;have n0_:=am_ (KeepBut.trans (by exact HK.out) hk (.inl rfl));have n1_:=am_ (hb);have n2_:=am_ (hi);clear HK HB HI0;have HK:=n0_;have HB:=n1_;have HI0:=n2_;clear n0_ n1_ n2_;(try clear hb);(try clear hk);(try clear hi)))
  go_ret
  exact ⟨by rfl,by exact HI0.out,by exact HB.out,by exact HK.out⟩
 rw [if_neg c4] at H
 have c4b0 : decide (a1 ≤ 256) = false:=decide_eq_false c4
 clear c4
 replace H:=Option.bind_eq_some_iff.mp H
 obtain ⟨⟨t315,t316,t317⟩,A80,H⟩:=H
 replace H : ((spec_l01Byte.f s0_0 t316 t317).bind fun bt318=>((spec_l01Byte.f s0_0 bt318.2.1 bt318.2.2).bind fun bt321=>((spec_l01Byte.f s0_0 bt321.2.1 bt321.2.2).bind fun bt324=>(if a1 = 0 then (none) else (some (Int.tmod (wrap64 ((wrap64 ((wrap64 ((wrap64 (t315 * 16777216)) + (wrap64 (bt318.1 * 65536)))) + (wrap64 (bt321.1 * 256)))) + bt324.1)) a1,bt324.2.1,bt324.2.2)))))) = some (r1,r2,r3):=H
 have A8:=am_ A80
 clear A80
 replace H:=Option.bind_eq_some_iff.mp H
 obtain ⟨⟨t318,t319,t320⟩,A90,H⟩:=H
 replace H : ((spec_l01Byte.f s0_0 t319 t320).bind fun bt321=>((spec_l01Byte.f s0_0 bt321.2.1 bt321.2.2).bind fun bt324=>(if a1 = 0 then (none) else (some (Int.tmod (wrap64 ((wrap64 ((wrap64 ((wrap64 (t315 * 16777216)) + (wrap64 (t318 * 65536)))) + (wrap64 (bt321.1 * 256)))) + bt324.1)) a1,bt324.2.1,bt324.2.2))))) = some (r1,r2,r3):=H
 have A9:=am_ A90
 clear A90
 replace H:=Option.bind_eq_some_iff.mp H
 obtain ⟨⟨t321,t322,t323⟩,A100,H⟩:=H
 replace H : ((spec_l01Byte.f s0_0 t322 t323).bind fun bt324=>(if a1 = 0 then (none) else (some (Int.tmod (wrap64 ((wrap64 ((wrap64 ((wrap64 (t315 * 16777216)) + (wrap64 (t318 * 65536)))) + (wrap64 (t321 * 256)))) + bt324.1)) a1,bt324.2.1,bt324.2.2)))) = some (r1,r2,r3):=H
 have A10:=am_ A100
 clear A100
 replace H:=Option.bind_eq_some_iff.mp H
 obtain ⟨⟨t324,t325,t326⟩,A110,H⟩:=H
 replace H : (if a1 = 0 then (none) else (some (Int.tmod (wrap64 ((wrap64 ((wrap64 ((wrap64 (t315 * 16777216)) + (wrap64 (t318 * 65536)))) + (wrap64 (t321 * 256)))) + t324)) a1,t325,t326))) = some (r1,r2,r3):=H
 have A11:=am_ A110
 clear A110
 by_cases c12 : a1 = 0
 ·rw [if_pos c12] at H
  exact absurd H (by simp)
 rw [if_neg c12] at H
 have c12b0 : (a1 == 0) = false:=beq_eq_false_iff_ne.mpr c12
 have c12b1 : (a1 != 0) = true:=bne_iff_ne.mpr c12
 simp only [Option.some.injEq,Prod.mk.injEq] at H
 obtain ⟨rfl,rfl,rfl⟩:=H
 go_enter Try.func61,Try.ntmps61
 go_wp2_with (first|((with_reducible refine gate_callee (f:=74) rfl ?_);refine goesL_ (some 18) rfl rfl Try.func74 (by kernel_rfl) rfl #[.pointer (some ⟨g,0,none⟩)] rfl (by (try simp only [List.map_toArray,List.map_cons,List.map_nil]);rfl) ?_;(with_reducible refine (spec_l01Byte.calls g s0_0 s0_1 s0_2 t315 t316 t317 w0 _ ?side1 ?side2 A8.out).mono ?_);(case side1=>exact HI0.out);(case side2=>exact HB.out);rintro e w13 ⟨rfl,hi,hb,hk⟩;refine ⟨_,rfl,?_⟩;have n0_:=am_ (KeepBut.trans (by exact HK.out) hk (.inl rfl));have n1_:=am_ (hb);have n2_:=am_ (hi);clear HK HB HI0;have HK:=n0_;have HB:=n1_;have HI0:=n2_;clear n0_ n1_ n2_;(try clear hb);(try clear hk);(try clear hi))|((with_reducible refine gate_callee (f:=74) rfl ?_);refine goesL_ (some 20) rfl rfl Try.func74 (by kernel_rfl) rfl #[.pointer (some ⟨g,0,none⟩)] rfl (by (try simp only [List.map_toArray,List.map_cons,List.map_nil]);rfl) ?_;(with_reducible refine (spec_l01Byte.calls g s0_0 t316 t317 t318 t319 t320 w0 _ ?side1 ?side2 A9.out).mono ?_);(case side1=>exact HI0.out);(case side2=>exact HB.out);rintro e w14 ⟨rfl,hi,hb,hk⟩;refine ⟨_,rfl,?_⟩;have n0_:=am_ (KeepBut.trans (by exact HK.out) hk (.inl rfl));have n1_:=am_ (hb);have n2_:=am_ (hi);clear HK HB HI0;have HK:=n0_;have HB:=n1_;have HI0:=n2_;clear n0_ n1_ n2_;(try clear hb);(try clear hk);(try clear hi))|((with_reducible refine gate_callee (f:=74) rfl ?_);refine goesL_ (some 22) rfl rfl Try.func74 (by kernel_rfl) rfl #[.pointer (some ⟨g,0,none⟩)] rfl (by (try simp only [List.map_toArray,List.map_cons,List.map_nil]);rfl) ?_;(with_reducible refine (spec_l01Byte.calls g s0_0 t319 t320 t321 t322 t323 w0 _ ?side1 ?side2 A10.out).mono ?_);(case side1=>exact HI0.out);(case side2=>exact HB.out);rintro e w15 ⟨rfl,hi,hb,hk⟩;refine ⟨_,rfl,?_⟩;have n0_:=am_ (KeepBut.trans (by exact HK.out) hk (.inl rfl));have n1_:=am_ (hb);have n2_:=am_ (hi);clear HK HB HI0;have HK:=n0_;have HB:=n1_;have HI0:=n2_;clear n0_ n1_ n2_;(try clear hb);(try clear hk);(try clear hi))|((with_reducible refine gate_callee (f:=74) rfl ?_);refine goesL_ (some 24) rfl rfl Try.func74 (by kernel_rfl) rfl #[.pointer (some ⟨g,0,none⟩)] rfl (by (try simp only [List.map_toArray,List.map_cons,List.map_nil]);rfl) ?_;(with_reducible refine (spec_l01Byte.calls g s0_0 t322 t323 t324 t325 t326 w0 _ ?side1 ?side2 A11.out).mono ?_);(case side1=>exact HI0.out);(case side2=>exact HB.out);rintro e w16 ⟨rfl,hi,hb,hk⟩;refine ⟨_,rfl,?_⟩;have n0_:=am_ (KeepBut.trans (by exact HK.out) hk (.inl rfl));have n1_:=am_ (hb);have n2_:=am_ (hi);clear HK HB HI0;have HK:=n0_;have HB:=n1_;have HI0:=n2_;clear n0_ n1_ n2_;(try clear hb);(try clear hk);(try clear hi)))
 go_ret
 exact ⟨by rfl,by exact HI0.out,by exact HB.out,by exact HK.out⟩

end Go.Proofs.Ytgkpgigoonhgdaa.PFnCheapest
