-- Made by the session's wip/pp.py, a changed call of the kit's printer; Lean checks it.
import Derived.Test.YtabepbkolmimlaaPFnHomesx0
import Derived.Deep.RegionLaw
import Derived.Laws.BitsLemmas
import Derived.Laws.CopyOwn
import Derived.Test.YtabepbkolmimlaaPFnHomesx2
namespace Go.Proofs.Ytabepbkolmimlaa.PFnHomes
open Go.RowKit Go.Proofs.YtabepbkolmimlaaW.PrintWords Go.Proofs.YtabepbkolmimlaaW.PrintLast Go.Proofs.YtabepbkolmimlaaW.PrintMore
attribute [local go_sem] max2_int min2_int max_two min_two max_three min_three max_four min_four   -- for this text's walks alone
set_option linter.unusedVariables false
set_option linter.unusedSimpArgs false

/-! ### slices_Repeat_int_int: function 50 -/
def slices_Repeat_int_int.l0 : Nat → Int → Int → List Int → Int → Option (List Int)
 | 0, _, _, _, _ => none
 | k + 1, x1, x9, x10, x11 => if x11 < x1 then (if x10.length < 17592186044416 then (slices_Repeat_int_int.l0 k x1 x9 (x10 ++ [x9]) (wrap64 (x11 + 1))) else (none)) else (some x10)
def slices_Repeat_int_int.f (k : Nat) (l0 : List Int) (a1 : Int) : Option (List Int) := if 0 ≤ (wrap64 ((wrap64 ((l0.length : Int) + (l0.length : Int))) - 2)) then (if (wrap64 ((wrap64 ((l0.length : Int) + (l0.length : Int))) - 2)) < (l0.length : Int) then (slices_Repeat_int_int.l0 k a1 (rd l0 (wrap64 ((wrap64 ((l0.length : Int) + (l0.length : Int))) - 2))) ([] : List Int) 0) else (none)) else (none)
theorem slices_Repeat_int_int.mono_l : ∀ k, (∀ y0 y1 y2 y3, LeO (slices_Repeat_int_int.l0 k y0 y1 y2 y3) (slices_Repeat_int_int.l0 (k + 1) y0 y1 y2 y3))
 | 0 => fun _ _ _ _ r h => by simp [slices_Repeat_int_int.l0] at h
 | k + 1 => by
  have ih0 := slices_Repeat_int_int.mono_l k
  ·intro y0 y1 y2 y3
   unfold slices_Repeat_int_int.l0
   repeat' first
   | (with_reducible exact ih0 _ _ _ _)
   | (with_reducible exact LeO.refl _)
   | (with_reducible exact LeO.none _)
   | (with_reducible refine LeO.ite ?_ ?_)
   | (with_reducible refine LeO.bind ?_ (fun _ => ?_))
   | exact ih0 _ _ _ _
   | exact LeO.none _
   | refine LeO.ite ?_ ?_
   | refine LeO.bind ?_ (fun _ => ?_)
theorem slices_Repeat_int_int.mono : ∀ a0 a1 k, LeO (slices_Repeat_int_int.f k a0 a1) (slices_Repeat_int_int.f (k + 1) a0 a1) := by
 intro a0 a1 k
 have ih0 := slices_Repeat_int_int.mono_l k
 unfold slices_Repeat_int_int.f
 repeat' first
   | (with_reducible exact ih0 _ _ _ _)
   | (with_reducible exact LeO.refl _)
   | (with_reducible exact LeO.none _)
   | (with_reducible refine LeO.ite ?_ ?_)
   | (with_reducible refine LeO.bind ?_ (fun _ => ?_))
   | exact ih0 _ _ _ _
   | exact LeO.none _
   | refine LeO.ite ?_ ?_
   | refine LeO.bind ?_ (fun _ => ?_)
theorem rpt_size3 : (Try.prog.info? 3).map (·.size) = some 1 := by kernel_rfl
theorem rpt_rep_l0 : ∀ (k : Nat) (x1 x9 : Int) (x10 : List Int) (i : Int) (r : List Int), 0 ≤ i → (x10.length : Int) = i → slices_Repeat_int_int.l0 k x1 x9 x10 i = some r → r = x10 ++ List.replicate (x1 - i).toNat x9 ∧ (x1 ≤ i ∨ x1 ≤ 17592186044416) := by
 intro k
 induction k with
 | zero => intro x1 x9 x10 i r _ _ h; simp [slices_Repeat_int_int.l0] at h
 | succ k ih =>
  intro x1 x9 x10 i r h0 hl h
  rw [slices_Repeat_int_int.l0] at h
  by_cases c : i < x1
  ·rw [if_pos c] at h
   by_cases c2 : x10.length < 17592186044416
   ·rw [if_pos c2] at h
    have hw : wrap64 (i + 1) = i + 1 := by unfold wrap64; omega
    rw [hw] at h
    obtain ⟨e1, e2⟩ := ih x1 x9 _ (i + 1) r (by omega) (by rw [List.length_append]; simp; omega) h
    refine ⟨?_, by omega⟩
    rw [e1, show (x1 - i).toNat = (x1 - (i + 1)).toNat + 1 by omega, List.replicate_succ, List.append_assoc]
    rfl
   ·rw [if_neg c2] at h; exact absurd h (by simp)
  ·rw [if_neg c] at h
   refine ⟨?_, .inl (by omega)⟩
   rw [← Option.some.inj h, show (x1 - i).toNat = 0 by omega, List.replicate_zero, List.append_nil]
theorem rpt_u64w (n : Int) (h₀ : 0 ≤ n) (h₁ : n < 9223372036854775808) : IntKind.u64.wrap n = n := by rw [IntKind.wrap_u64]; omega
theorem rpt_mask32 (n : Int) (h₀ : 0 ≤ n) (h₁ : n < 9223372036854775808) : Go.bits .and .u64 n 4294967295 = n % 4294967296 := by
 have h := bits_mask .u64 63 (by decide) (fun n a b => rpt_u64w n a (by simpa using b)) 32 (by decide) n h₀ (by simpa using h₁)
 simpa using h
theorem rpt_mul_one (n : Int) (h₀ : 0 ≤ n) (h₁ : n ≤ 17592186044416) : bits_Mul.f 1 n = some (0, n) := by
 unfold bits_Mul.f bits_Mul64.f
 rw [rpt_mask32 1 (by omega) (by omega), rpt_mask32 n h₀ (by omega), show (1 : Int) / 4294967296 = 0 from rfl, show (1 : Int) % 4294967296 = 1 from rfl]
 have e0 : (n % 4294967296) / 4294967296 = 0 := by omega
 have e1 : (n / 4294967296) / 4294967296 = 0 := by omega
 simp only [Int.zero_mul, Int.one_mul, Int.zero_add, Option.bind_some]
 rw [rpt_u64w 0 (by omega) (by omega), rpt_u64w n h₀ (by omega), rpt_u64w (n % 4294967296) (by omega) (by omega), rpt_u64w (n / 4294967296) (by omega) (by omega)]
 simp only [Int.zero_add, e0]
 have z : IntKind.u64.wrap 0 = 0 := rpt_u64w 0 (by omega) (by omega)
 simp only [z, Int.zero_ediv, rpt_mask32 0 (by omega) (by omega), Int.zero_emod, Int.zero_add, rpt_u64w (n / 4294967296) (by omega) (by omega), e1]
set_option maxHeartbeats 8000000 in
set_option maxRecDepth 100000 in
theorem slices_Repeat_int_int.calls (k : Nat) (A0 : Option Addr) (c0 : Nat) (l0 : List Int) (a1 : Int) (r : List Int) (w : World) (hr0 : Kd.C (Kd.int .i64) w A0 l0.length l0) (hc0 : l0.length ≤ c0) (h : slices_Repeat_int_int.f k l0 a1 = some r)
  (h1 : l0.length = 1) (hp : 0 ≤ a1) :
  Calls Try.prog 50 #[.slice A0 l0.length c0, .int .i64 a1] w fun e w' => ∃ v0_ : Value, e = .returned (v0_) ∧ Kd.R (Kd.int .i64) 3 w' w.heap.size (fun _ => True) v0_ r ∧ Below w.heap.size w w' := by
 obtain ⟨q, rfl⟩ := List.length_eq_one_iff.1 h1
 have hx : wrap64 (wrap64 ((([q] : List Int).length : Int) + (([q] : List Int).length : Int)) - 2) = 0 := by rw [List.length_singleton]; unfold wrap64; omega
 unfold slices_Repeat_int_int.f at h
 rw [hx, if_pos (by omega), if_pos (by simp)] at h
 obtain ⟨hr, hb⟩ := rpt_rep_l0 k a1 _ [] 0 r (by omega) rfl h
 clear h hx
 have e0 : rd [q] 0 = q := rfl
 rw [e0, List.nil_append, Int.sub_zero] at hr
 have hb : a1 ≤ 17592186044416 := by omega
 have HR0 := Aside0.mk hr0
 have HC0 := Aside0.mk hc0
 have MU := Aside0.mk (rpt_mul_one a1 hp hb)
 have c1 : decide (a1 < 0) = false := decide_eq_false (by omega)
 have w1_ : IntKind.u64.wrap a1 = a1 := rpt_u64w a1 hp (by omega)
 have w2_ : IntKind.u64.wrap ((([q] : List Int).length : Int)) = 1 := by rw [List.length_singleton]; exact rpt_u64w 1 (by omega) (by omega)
 clear hr0 hc0
 have HB := Aside0.mk (Below.refl w.heap.size w)
 go_enter Try.func50, Try.ntmps50
 have CB := Aside0.mk (show a1.toNat ≤ 17592186044416 by omega)
 have CP := Aside0.mk hp
 obtain ⟨Z, hZ⟩ : ∃ Z, Z = List.replicate a1.toNat (0 : Int) := ⟨_, rfl⟩
 have NZ := Aside0.mk hZ.symm
 have LZ := Aside0.mk (show Z.length = a1.toNat by rw [hZ, List.length_replicate])
 clear hZ
 obtain ⟨m1, hm1⟩ : ∃ m1, m1 = min 1 Z.length := ⟨_, rfl⟩
 have NM := Aside0.mk hm1.symm
 have hg1 : decide ((0 : Int) > 0) = false := by decide
 have hg2 : decide (a1 > 9223372036854775807) = false := decide_eq_false (by omega)
 have w3_ : IntKind.i64.wrap a1 = a1 := by rw [IntKind.wrap_i64]; omega
 clear hm1
 go_wp2_with (first | (go_at_call 63; (with_reducible refine (bits_Mul.calls 1 a1 0 a1 _ MU.out).mono ?_); rintro e w10 ⟨rfl, ⟨nd, rfl⟩⟩) | ((with_reducible refine gate_dst (N := 30) rfl ?_); refine Kd.R_make (Kd.int .i64) _ 3 rfl (N := 30) rfl 25 _ _ rfl a1 rfl rfl Try.underlying25 (.int .i64 0) 8 info3 rfl (by decide) (by omega) 0 (ok := fun _ => True) (okp := fun _ => True) rfl (fun _ hk => hk) trivial CP.out (Nat.le_trans (Nat.mul_le_mul_right _ CB.out) (by omega)) (Below.refl _ _) (Nat.le_refl _) ?_; intro v165 w4 ho5 hb hg_ hnew_; clear hg_ hnew_; rw [NZ.out] at ho5; have n0_ := Aside0.mk (Kd.R_lower ho5 (below_size (by repeat (first | (with_reducible first | exact HB.out | apply below_alloc | apply pw_below_drewN | apply below_drew1) | exact HB.out)))); have n1_ := Aside0.mk (below_step (by repeat (first | (with_reducible first | exact HB.out | apply below_alloc | apply pw_below_drewN | apply below_drew1) | exact HB.out)) hb); clear HB; have HO166 := n0_; have HB := n1_; clear n0_ n1_; clear hb ho5) | ((with_reducible refine gate_dst (N := 33) rfl ?_); refine Kd.R_copy (0 : Int) w.heap.size rfl (.tmp 31) (.tmp 32) 25 25 3 rfl Try.underlying25 rpt_size3 v165 Z [q] A0 1 c0 (fun _ => True) rfl rfl HO166.out ?side1 HB.out (below_size HB.out) ?_; (case side1 => exact Kd.C_below HR0.out HB.out); intro w5 ho hb hg; rw [NM.out] at ho ⊢; clear hg; clear HO166; clear HB; have HO5 := Aside0.mk ho; have HB := Aside0.mk hb; clear ho hb))
 have hL : (List.take m1 [q] ++ List.drop m1 Z).length = Z.length := by
  have := NM.out
  rw [List.length_append, List.length_take, List.length_drop, List.length_singleton]; omega
 obtain ⟨hl, ho⟩ := Kd.own_of_R HO5.out
 rw [hL] at ho
 clear hl
 clear HO5
 rcases ho with ⟨rfl, hn0⟩ | ⟨g, cap, cur, rfl, hbase, hh, hnc, hcm, hcs, htake⟩
 ·obtain rfl : m1 = 0 := by have := NM.out; omega
  have ha0 : a1.toNat = 0 := by have := LZ.out; omega
  go_loopg [8] 0 (fun kq v8 w' => v8 = .int .i64 0 ∧ Aside0 (Below w.heap.size w w'))
  case atStart => exact ⟨rfl, HB⟩
  case round =>
   clear HB
   obtain ⟨rfl, HB⟩ := hrel
   go_wp2
   go_ret
   exact ⟨_, rfl, by rw [hr, ha0]; exact Kd.R_nil _ _ _ _ _, HB.out⟩
 ·rw [Nat.mul_one] at hcs htake
  have hX : cur.toList.take m1 = List.replicate m1 (.int .i64 q) := by
   have hm := NM.out
   have e1 : cur.toList.take m1 = (cur.toList.take Z.length).take m1 := by rw [List.take_take, Nat.min_eq_left (by omega)]
   rw [e1, htake]
   obtain rfl | rfl : m1 = 0 ∨ m1 = 1 := by omega
   ·rfl
   ·rfl
  have HX := Aside0.mk hX
  have HCS := Aside0.mk (show cur.toList.length = cap by rw [Array.length_toList]; exact hcs)
  have HG := Aside0.mk (show w5.heap[g]? = some (.cells cur.toList.toArray 3 (0, 0)) by rw [Array.toArray_toList]; exact hh)
  have NB := Aside0.mk hbase
  have NC := Aside0.mk hnc
  have CM := Aside0.mk hcm
  clear hX hh hnc hcm hcs htake hbase hL
  generalize cur.toList = X0 at HX HCS HG
  clear cur
  go_loopg [8] (Z.length - m1) (fun kq v8 w' => ∃ (x8 : Nat) (X : List Value), v8 = .int .i64 (x8 : Int) ∧ Aside0 (kq + x8 = Z.length ∧ (x8 = Z.length ∨ 1 ≤ x8)) ∧ Aside0 (X.length = cap ∧ X.take x8 = List.replicate x8 (.int .i64 q)) ∧ Aside0 (w'.heap[g]? = some (.cells X.toArray 3 (0, 0))) ∧ Aside0 (Below w.heap.size w w'))
  case atStart => exact ⟨m1, X0, rfl, ⟨by have := NM.out; omega⟩, ⟨HCS.out, HX.out⟩, HG, HB⟩
  case round =>
   clear HB HG HX HCS
   obtain ⟨x8, X, rfl, HI, HX, HG, HB⟩ := hrel
   by_cases c : x8 < Z.length
   ·have c37 : decide ((x8 : Int) < (Z.length : Int)) = true := decide_eq_true (by omega)
    have hnc := NC.out
    have hcap := CM.out
    have hx1 : x8 ≤ Z.length := by omega
    have hx2 : x8 ≤ cap := by omega
    have hx3 : x8 < cap := by omega
    obtain ⟨m, hm⟩ : ∃ m, m = Nat.min x8 (Z.length - x8) := ⟨_, rfl⟩
    have hmx : m ≤ x8 ∧ m ≤ Z.length - x8 ∧ 1 ≤ m := by have := HI.out; rw [show Nat.min x8 (Z.length - x8) = min x8 (Z.length - x8) from rfl] at hm; omega
    have hcl : (X.take m).length = m := by have := HX.out.1; rw [List.length_take]; omega
    have hXm : X.take m = List.replicate m (.int .i64 q) := by
     have e1 : X.take m = (X.take x8).take m := by rw [List.take_take, Nat.min_eq_left hmx.1]
     rw [e1, HX.out.2, List.take_replicate, Nat.min_eq_left hmx.1]
    have h1c : ∀ v ∈ X.take m, v.oneCell' = true := by
     intro v hv
     rw [hXm, List.mem_replicate] at hv
     rw [hv.2]; rfl
    have hfit : x8 + (X.take m).length ≤ X.length := by rw [hcl, HX.out.1]; omega
    have hsrc : ∀ (j : Nat) (v : Value), (X.take m)[j]? = some v → wr.drew.cell? ((⟨g, 0, none⟩ : Addr).add j) = some v := by
     intro j v hv
     have hc := cell_of_row wr g (0 + j) X.toArray 3 (0, 0) HG.out
     have hj : X[j]? = some v := by
      rw [List.getElem?_take] at hv
      split at hv
      ·exact hv
      ·cases hv
     rw [Nat.zero_add] at hc
     rw [add_plain]
     refine Eq.trans (b := X.toArray[j]?) hc ?_
     rw [List.getElem?_toArray]; exact hj
    have hspl : (splice X x8 (X.take m)).length = cap ∧ (splice X x8 (X.take m)).take (x8 + m) = List.replicate (x8 + m) (.int .i64 q) := by
     refine ⟨by rw [length_splice _ _ _ hfit]; exact HX.out.1, ?_⟩
     unfold splice
     rw [← List.append_assoc, HX.out.2, hXm, List.replicate_append_replicate, List.take_append_of_le_length (by rw [List.length_replicate]; exact Nat.le_refl _), List.take_of_length_le (by rw [List.length_replicate]; exact Nat.le_refl _)]
    have hne : ¬ cap = x8 := by omega
    have hw : IntKind.i64.wrap ((x8 : Int) + (m : Int)) = ((x8 + m : Nat) : Int) := by
     have := LZ.out; have := CB.out; rw [IntKind.wrap_i64]; omega
    generalize X.take m = cs at hcl hXm h1c hfit hsrc hspl
    have HS := Aside0.mk hspl
    have HM := Aside0.mk hmx
    have HW := Aside0.mk hw
    have HCL := Aside0.mk hcl
    have HCM := Aside0.mk hm
    clear hspl hmx hw hXm hm hcl
    go_wp2
    go_region_law (refine step_copy_splice rfl (.tmp 41) (.tmp 44) 25 25 rfl 3 Try.underlying25 rpt_size3 (some ⟨g, x8, none⟩) (some ⟨g, 0, none⟩) (Z.length - x8) (cap - x8) x8 cap (by simp [Act.eval, Act.put, hne]) (by simp [Act.eval, Act.put]) g x8 X 3 HG.out cs (HCL.out.trans HCM.out) (fun _ => ⟨rfl, _, rfl, hsrc⟩) hfit h1c w.heap.size w (by repeat (first | exact HB.out | apply pw_below_drewN | apply below_drew1)) NB.out ?_; intro w6 hg6 hb6)
    go_wp2
    go_roundg (gk - m)
    case measure => have := HM.out; have := HI.out; omega
    case rel => exact ⟨x8 + m, splice X x8 cs, by rw [HCL.out, HW.out], ⟨by have := HM.out; have := HI.out; omega⟩, HS, ⟨hg6⟩, ⟨hb6⟩⟩
   ·have hx : x8 = Z.length := by have := HI.out; omega
    have c37 : decide ((x8 : Int) < (Z.length : Int)) = false := decide_eq_false (by omega)
    go_wp2
    go_ret
    refine ⟨_, rfl, ?_, HB.out⟩
    refine Kd.R_of_own ?_ (fun _ _ => trivial)
    have hlr : r.length = Z.length := by rw [hr, List.length_replicate, LZ.out]
    rw [hlr]
    refine ⟨?_, .inr ⟨g, cap, X.toArray, rfl, NB.out, HG.out, NC.out, CM.out, ?_, ?_⟩⟩
    ·rw [encs_length, hlr, Nat.mul_one]
    ·have := HX.out.1; simpa using this
    ·have := HX.out.2
     rw [hx] at this
     rw [Nat.mul_one, hr, ← LZ.out]
     refine Eq.trans this ?_
     unfold encs
     rw [List.map_replicate]

end Go.Proofs.Ytabepbkolmimlaa.PFnHomes
