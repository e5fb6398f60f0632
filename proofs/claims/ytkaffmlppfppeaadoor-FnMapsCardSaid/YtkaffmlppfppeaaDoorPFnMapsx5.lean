-- Made by the session's wip/pp.py, a changed call of the kit's printer; Lean checks it.
import Derived.Test.YtkaffmlppfppeaaDoorPFnMapsx0
import Derived.Test.YtkaffmlppfppeaaDoorPFnMapsx2
import Derived.Test.YtkaffmlppfppeaaDoorPFnMapsx4
import Derived.Test.YtkaffmlppfppeaaDoorDFnMaps
namespace Go.Proofs.YtkaffmlppfppeaaDoor.PFnMaps
open Go.RowKit Go.Proofs.YtkaffmlppfppeaaDoorW.PrintWords Go.Proofs.YtkaffmlppfppeaaDoorW.PrintLast Go.Proofs.YtkaffmlppfppeaaDoorW.PrintMore Go.Proofs.YtkaffmlppfppeaaDoor.DSpec Go.Proofs.YtkaffmlppfppeaaDoor.MBld Go.Proofs.YtkaffmlppfppeaaDoor.MStr Go.Proofs.YtkaffmlppfppeaaDoor
attribute [local go_sem] max2_int min2_int max_two min_two max_three min_three max_four min_four   -- for this text's walks alone
set_option linter.unusedVariables false
set_option linter.unusedSimpArgs false

/-! ### impl_GridText: function 21 -/
def impl_GridText.l0 : Nat → ByteArray → Int → Int → Int → ByteArray → Option (ByteArray × Bool)
  | 0, _, _, _, _, _ => none
  | k + 1, x4, x5, x143000, x143001, x143002 => if x5 < x143001 then (if 0 ≤ (wrap64 (x5 * x143000)) then (if (wrap64 (x5 * x143000)) ≤ (wrap64 ((wrap64 (x5 + 1)) * x143000)) then (if (wrap64 ((wrap64 (x5 + 1)) * x143000)) ≤ (x143002.size : Int) then (if (x143002.extract ((wrap64 (x5 * x143000)) : Int).toNat ((wrap64 ((wrap64 (x5 + 1)) * x143000)) : Int).toNat).size + 1 ≤ 9223372036854775807 then (if x4.size + ((x143002.extract ((wrap64 (x5 * x143000)) : Int).toNat ((wrap64 ((wrap64 (x5 + 1)) * x143000)) : Int).toNat) ++ (⟨#[10]⟩ : ByteArray)).size ≤ 140737488355328 then (impl_GridText.l0 k (x4 ++ ((x143002.extract ((wrap64 (x5 * x143000)) : Int).toNat ((wrap64 ((wrap64 (x5 + 1)) * x143000)) : Int).toNat) ++ (⟨#[10]⟩ : ByteArray))) (wrap64 (x5 + 1)) x143000 x143001 x143002) else (none)) else (none)) else (none)) else (none)) else (none)) else (some (x4, true))
def impl_GridText.f (k : Nat) (a0_0 : Int) (a0_1 : Int) (a0_2 : ByteArray) : Option (ByteArray × Bool) := (impl_GridOk.f k a0_0 a0_1 a0_2).bind fun t143 => (if t143 = true then ((impl_Decimal.f k a0_1).bind fun t144 => (if 7 + t144.size ≤ 9223372036854775807 then (if ((⟨#[104, 101, 105, 103, 104, 116, 32]⟩ : ByteArray) ++ t144).size + 7 ≤ 9223372036854775807 then ((impl_Decimal.f k a0_0).bind fun t145 => (if (((⟨#[104, 101, 105, 103, 104, 116, 32]⟩ : ByteArray) ++ t144) ++ (⟨#[10, 119, 105, 100, 116, 104, 32]⟩ : ByteArray)).size + t145.size ≤ 9223372036854775807 then (if ((((⟨#[104, 101, 105, 103, 104, 116, 32]⟩ : ByteArray) ++ t144) ++ (⟨#[10, 119, 105, 100, 116, 104, 32]⟩ : ByteArray)) ++ t145).size + 5 ≤ 9223372036854775807 then (if 0 + (((((⟨#[104, 101, 105, 103, 104, 116, 32]⟩ : ByteArray) ++ t144) ++ (⟨#[10, 119, 105, 100, 116, 104, 32]⟩ : ByteArray)) ++ t145) ++ (⟨#[10, 109, 97, 112, 10]⟩ : ByteArray)).size ≤ 140737488355328 then (impl_GridText.l0 k ((⟨#[]⟩ : ByteArray) ++ (((((⟨#[104, 101, 105, 103, 104, 116, 32]⟩ : ByteArray) ++ t144) ++ (⟨#[10, 119, 105, 100, 116, 104, 32]⟩ : ByteArray)) ++ t145) ++ (⟨#[10, 109, 97, 112, 10]⟩ : ByteArray))) 0 a0_0 a0_1 a0_2) else (none)) else (none)) else (none))) else (none)) else (none))) else (some ((⟨#[]⟩ : ByteArray), false)))
theorem impl_GridText.mono_l : ∀ k, (∀ y0 y1 y2 y3 y4, LeO (impl_GridText.l0 k y0 y1 y2 y3 y4) (impl_GridText.l0 (k + 1) y0 y1 y2 y3 y4))
  | 0 => fun _ _ _ _ _ r h => by simp [impl_GridText.l0] at h
  | k + 1 => by
    have ih0 := impl_GridText.mono_l k
    · intro y0 y1 y2 y3 y4
      unfold impl_GridText.l0
      repeat' first
      | (with_reducible exact ih0 _ _ _ _ _)
      | (with_reducible exact impl_Decimal.mono _ _)
      | (with_reducible exact impl_GridOk.mono _ _ _ _)
      | (with_reducible exact LeO.refl _)
      | (with_reducible exact LeO.none _)
      | (with_reducible refine LeO.ite ?_ ?_)
      | (with_reducible refine LeO.bind ?_ (fun _ => ?_))
      | exact ih0 _ _ _ _ _
      | exact impl_Decimal.mono _ _
      | exact impl_GridOk.mono _ _ _ _
      | exact LeO.none _
      | refine LeO.ite ?_ ?_
      | refine LeO.bind ?_ (fun _ => ?_)
theorem impl_GridText.mono : ∀ a0 a1 a2 k, LeO (impl_GridText.f k a0 a1 a2) (impl_GridText.f (k + 1) a0 a1 a2) := by
  intro a0 a1 a2 k
  have ih0 := impl_GridText.mono_l k
  unfold impl_GridText.f
  repeat' first
      | (with_reducible exact ih0 _ _ _ _ _)
      | (with_reducible exact impl_Decimal.mono _ _)
      | (with_reducible exact impl_GridOk.mono _ _ _ _)
      | (with_reducible exact LeO.refl _)
      | (with_reducible exact LeO.none _)
      | (with_reducible refine LeO.ite ?_ ?_)
      | (with_reducible refine LeO.bind ?_ (fun _ => ?_))
      | exact ih0 _ _ _ _ _
      | exact impl_Decimal.mono _ _
      | exact impl_GridOk.mono _ _ _ _
      | exact LeO.none _
      | refine LeO.ite ?_ ?_
      | refine LeO.bind ?_ (fun _ => ?_)
def impl_GridText.T4 : Bool × List (List Nat × List Nat) := (true, [([], []), ([0], [0]), ([1], [1]), ([2], [2]), ([3], [3]), ([], []), ([5], [5]), ([6, 2], [6]), ([4, 7], [4, 7]), ([8], [8]), ([9, 7], [9])])
def impl_GridText.B4 : List Nat := [0, 1, 3, 7, 15, 0, 32, 103, 255, 511, 1023]
theorem impl_GridText.tab4 : rtab .any (opsOf Tryd.f21 4) = impl_GridText.T4 := by kernel_rfl
theorem impl_GridText.bits4 : waitsOk impl_GridText.T4.2 impl_GridText.B4 = true := by kernel_rfl
theorem impl_GridOk.sides {k : Nat} {w h : Int} {c : ByteArray} (hh : impl_GridOk.f k w h c = some true) : 1 ≤ w ∧ w ≤ 8 ∧ 1 ≤ h ∧ h ≤ 8 := by
  have jt : ∀ k, impl_GridOk.j0 k true w h c ≠ some true := fun k => by cases k <;> simp [impl_GridOk.j0]
  unfold impl_GridOk.f at hh
  by_cases h1 : w < 1
  · rw [if_pos h1] at hh; exact absurd hh (jt k)
  by_cases h2 : w > 8
  · rw [if_neg h1, if_pos h2] at hh; exact absurd hh (jt k)
  by_cases h3 : h < 1
  · rw [if_neg h1, if_neg h2, if_pos h3] at hh; exact absurd hh (jt k)
  by_cases h4 : h > 8
  · rw [if_neg h1, if_neg h2, if_neg h3, if_pos h4] at hh; exact absurd hh (jt k)
  omega
set_option maxHeartbeats 8000000 in
set_option maxRecDepth 100000 in
theorem impl_GridText.calls (k : Nat) (a0_0 : Int) (a0_1 : Int) (a0_2 : ByteArray) (r1 : ByteArray) (r2 : Bool) (w0 w : World) (hT : Lib.TabIs Tryd.prog w0 "internal/strconv.uint64pow10" .u64 Lib.pow10Tab) (hB0 : Below w0.heap.size w0 w) (h : impl_GridText.f k a0_0 a0_1 a0_2 = some (r1, r2)) :
    Calls Tryd.prog 21 #[.agg #[.int .i64 a0_0, .int .i64 a0_1, .string a0_2]] w fun e w' => e = .returned (.tuple #[.string r1, .bool r2]) ∧ Below w.heap.size w w' := by
  have hu38 := Tryd.underlying38
  have HB := Aside0.mk (Below.refl w.heap.size w)
  have H : ((impl_GridOk.f k a0_0 a0_1 a0_2).bind fun t143 => (if t143 = true then ((impl_Decimal.f k a0_1).bind fun t144 => (if 7 + t144.size ≤ 9223372036854775807 then (if ((⟨#[104, 101, 105, 103, 104, 116, 32]⟩ : ByteArray) ++ t144).size + 7 ≤ 9223372036854775807 then ((impl_Decimal.f k a0_0).bind fun t145 => (if (((⟨#[104, 101, 105, 103, 104, 116, 32]⟩ : ByteArray) ++ t144) ++ (⟨#[10, 119, 105, 100, 116, 104, 32]⟩ : ByteArray)).size + t145.size ≤ 9223372036854775807 then (if ((((⟨#[104, 101, 105, 103, 104, 116, 32]⟩ : ByteArray) ++ t144) ++ (⟨#[10, 119, 105, 100, 116, 104, 32]⟩ : ByteArray)) ++ t145).size + 5 ≤ 9223372036854775807 then (if 0 + (((((⟨#[104, 101, 105, 103, 104, 116, 32]⟩ : ByteArray) ++ t144) ++ (⟨#[10, 119, 105, 100, 116, 104, 32]⟩ : ByteArray)) ++ t145) ++ (⟨#[10, 109, 97, 112, 10]⟩ : ByteArray)).size ≤ 140737488355328 then (impl_GridText.l0 k ((⟨#[]⟩ : ByteArray) ++ (((((⟨#[104, 101, 105, 103, 104, 116, 32]⟩ : ByteArray) ++ t144) ++ (⟨#[10, 119, 105, 100, 116, 104, 32]⟩ : ByteArray)) ++ t145) ++ (⟨#[10, 109, 97, 112, 10]⟩ : ByteArray))) 0 a0_0 a0_1 a0_2) else (none)) else (none)) else (none))) else (none)) else (none))) else (some ((⟨#[]⟩ : ByteArray), false)))) = some (r1, r2) := h
  clear h
  replace H := Option.bind_eq_some_iff.mp H
  obtain ⟨t143, A20, H⟩ := H
  replace H : (if t143 = true then ((impl_Decimal.f k a0_1).bind fun t144 => (if 7 + t144.size ≤ 9223372036854775807 then (if ((⟨#[104, 101, 105, 103, 104, 116, 32]⟩ : ByteArray) ++ t144).size + 7 ≤ 9223372036854775807 then ((impl_Decimal.f k a0_0).bind fun t145 => (if (((⟨#[104, 101, 105, 103, 104, 116, 32]⟩ : ByteArray) ++ t144) ++ (⟨#[10, 119, 105, 100, 116, 104, 32]⟩ : ByteArray)).size + t145.size ≤ 9223372036854775807 then (if ((((⟨#[104, 101, 105, 103, 104, 116, 32]⟩ : ByteArray) ++ t144) ++ (⟨#[10, 119, 105, 100, 116, 104, 32]⟩ : ByteArray)) ++ t145).size + 5 ≤ 9223372036854775807 then (if 0 + (((((⟨#[104, 101, 105, 103, 104, 116, 32]⟩ : ByteArray) ++ t144) ++ (⟨#[10, 119, 105, 100, 116, 104, 32]⟩ : ByteArray)) ++ t145) ++ (⟨#[10, 109, 97, 112, 10]⟩ : ByteArray)).size ≤ 140737488355328 then (impl_GridText.l0 k ((⟨#[]⟩ : ByteArray) ++ (((((⟨#[104, 101, 105, 103, 104, 116, 32]⟩ : ByteArray) ++ t144) ++ (⟨#[10, 119, 105, 100, 116, 104, 32]⟩ : ByteArray)) ++ t145) ++ (⟨#[10, 109, 97, 112, 10]⟩ : ByteArray))) 0 a0_0 a0_1 a0_2) else (none)) else (none)) else (none))) else (none)) else (none))) else (some ((⟨#[]⟩ : ByteArray), false))) = some (r1, r2) := H
  have A2 := Aside0.mk A20
  clear A20
  by_cases c3 : t143 = true
  · subst c3
    have hsd := impl_GridOk.sides A2.out
    have hr0 : InR a0_0 := by unfold InR; omega
    have hr1 : InR a0_1 := by unfold InR; omega
    clear hsd
    have H1 : ((impl_Decimal.f k a0_1).bind fun t144 => (if 7 + t144.size ≤ 9223372036854775807 then (if ((⟨#[104, 101, 105, 103, 104, 116, 32]⟩ : ByteArray) ++ t144).size + 7 ≤ 9223372036854775807 then ((impl_Decimal.f k a0_0).bind fun t145 => (if (((⟨#[104, 101, 105, 103, 104, 116, 32]⟩ : ByteArray) ++ t144) ++ (⟨#[10, 119, 105, 100, 116, 104, 32]⟩ : ByteArray)).size + t145.size ≤ 9223372036854775807 then (if ((((⟨#[104, 101, 105, 103, 104, 116, 32]⟩ : ByteArray) ++ t144) ++ (⟨#[10, 119, 105, 100, 116, 104, 32]⟩ : ByteArray)) ++ t145).size + 5 ≤ 9223372036854775807 then (if 0 + (((((⟨#[104, 101, 105, 103, 104, 116, 32]⟩ : ByteArray) ++ t144) ++ (⟨#[10, 119, 105, 100, 116, 104, 32]⟩ : ByteArray)) ++ t145) ++ (⟨#[10, 109, 97, 112, 10]⟩ : ByteArray)).size ≤ 140737488355328 then (impl_GridText.l0 k ((⟨#[]⟩ : ByteArray) ++ (((((⟨#[104, 101, 105, 103, 104, 116, 32]⟩ : ByteArray) ++ t144) ++ (⟨#[10, 119, 105, 100, 116, 104, 32]⟩ : ByteArray)) ++ t145) ++ (⟨#[10, 109, 97, 112, 10]⟩ : ByteArray))) 0 a0_0 a0_1 a0_2) else (none)) else (none)) else (none))) else (none)) else (none))) = some (r1, r2) := by rw [if_pos rfl] at H; exact H
    clear H
    have H := H1
    clear H1
    replace H := Option.bind_eq_some_iff.mp H
    obtain ⟨t144, A40, H⟩ := H
    replace H : (if 7 + t144.size ≤ 9223372036854775807 then (if ((⟨#[104, 101, 105, 103, 104, 116, 32]⟩ : ByteArray) ++ t144).size + 7 ≤ 9223372036854775807 then ((impl_Decimal.f k a0_0).bind fun t145 => (if (((⟨#[104, 101, 105, 103, 104, 116, 32]⟩ : ByteArray) ++ t144) ++ (⟨#[10, 119, 105, 100, 116, 104, 32]⟩ : ByteArray)).size + t145.size ≤ 9223372036854775807 then (if ((((⟨#[104, 101, 105, 103, 104, 116, 32]⟩ : ByteArray) ++ t144) ++ (⟨#[10, 119, 105, 100, 116, 104, 32]⟩ : ByteArray)) ++ t145).size + 5 ≤ 9223372036854775807 then (if 0 + (((((⟨#[104, 101, 105, 103, 104, 116, 32]⟩ : ByteArray) ++ t144) ++ (⟨#[10, 119, 105, 100, 116, 104, 32]⟩ : ByteArray)) ++ t145) ++ (⟨#[10, 109, 97, 112, 10]⟩ : ByteArray)).size ≤ 140737488355328 then (impl_GridText.l0 k ((⟨#[]⟩ : ByteArray) ++ (((((⟨#[104, 101, 105, 103, 104, 116, 32]⟩ : ByteArray) ++ t144) ++ (⟨#[10, 119, 105, 100, 116, 104, 32]⟩ : ByteArray)) ++ t145) ++ (⟨#[10, 109, 97, 112, 10]⟩ : ByteArray))) 0 a0_0 a0_1 a0_2) else (none)) else (none)) else (none))) else (none)) else (none)) = some (r1, r2) := H
    have A4 := Aside0.mk A40
    clear A40
    by_cases c5 : 7 + t144.size ≤ 9223372036854775807
    · rw [if_pos c5] at H
      have c5b0 := eq_true c5
      have c5b1 : decide (7 + t144.size ≤ 9223372036854775807) = true := decide_eq_true c5
      try have c5b2 : (9223372036854775807 < 7 + t144.size) = False := eq_false (Nat.not_lt.2 c5)
      by_cases c6 : ((⟨#[104, 101, 105, 103, 104, 116, 32]⟩ : ByteArray) ++ t144).size + 7 ≤ 9223372036854775807
      · rw [if_pos c6] at H
        have c6b0 := eq_true c6
        have c6b1 : decide (((⟨#[104, 101, 105, 103, 104, 116, 32]⟩ : ByteArray) ++ t144).size + 7 ≤ 9223372036854775807) = true := decide_eq_true c6
        try have c6b2 : (9223372036854775807 < ((⟨#[104, 101, 105, 103, 104, 116, 32]⟩ : ByteArray) ++ t144).size + 7) = False := eq_false (Nat.not_lt.2 c6)
        have c6b3 : (9223372036854775807 < 7 + t144.size + 7) = False := eq_false (by have h_ := c6; simp only [ByteArray.size_append] at h_; have e0_ : (⟨#[104, 101, 105, 103, 104, 116, 32]⟩ : ByteArray).size = 7 := rfl; omega)
        replace H := Option.bind_eq_some_iff.mp H
        obtain ⟨t145, A70, H⟩ := H
        replace H : (if (((⟨#[104, 101, 105, 103, 104, 116, 32]⟩ : ByteArray) ++ t144) ++ (⟨#[10, 119, 105, 100, 116, 104, 32]⟩ : ByteArray)).size + t145.size ≤ 9223372036854775807 then (if ((((⟨#[104, 101, 105, 103, 104, 116, 32]⟩ : ByteArray) ++ t144) ++ (⟨#[10, 119, 105, 100, 116, 104, 32]⟩ : ByteArray)) ++ t145).size + 5 ≤ 9223372036854775807 then (if 0 + (((((⟨#[104, 101, 105, 103, 104, 116, 32]⟩ : ByteArray) ++ t144) ++ (⟨#[10, 119, 105, 100, 116, 104, 32]⟩ : ByteArray)) ++ t145) ++ (⟨#[10, 109, 97, 112, 10]⟩ : ByteArray)).size ≤ 140737488355328 then (impl_GridText.l0 k ((⟨#[]⟩ : ByteArray) ++ (((((⟨#[104, 101, 105, 103, 104, 116, 32]⟩ : ByteArray) ++ t144) ++ (⟨#[10, 119, 105, 100, 116, 104, 32]⟩ : ByteArray)) ++ t145) ++ (⟨#[10, 109, 97, 112, 10]⟩ : ByteArray))) 0 a0_0 a0_1 a0_2) else (none)) else (none)) else (none)) = some (r1, r2) := H
        have A7 := Aside0.mk A70
        clear A70
        by_cases c8 : (((⟨#[104, 101, 105, 103, 104, 116, 32]⟩ : ByteArray) ++ t144) ++ (⟨#[10, 119, 105, 100, 116, 104, 32]⟩ : ByteArray)).size + t145.size ≤ 9223372036854775807
        · rw [if_pos c8] at H
          have c8b0 := eq_true c8
          have c8b1 : decide ((((⟨#[104, 101, 105, 103, 104, 116, 32]⟩ : ByteArray) ++ t144) ++ (⟨#[10, 119, 105, 100, 116, 104, 32]⟩ : ByteArray)).size + t145.size ≤ 9223372036854775807) = true := decide_eq_true c8
          try have c8b2 : (9223372036854775807 < (((⟨#[104, 101, 105, 103, 104, 116, 32]⟩ : ByteArray) ++ t144) ++ (⟨#[10, 119, 105, 100, 116, 104, 32]⟩ : ByteArray)).size + t145.size) = False := eq_false (Nat.not_lt.2 c8)
          have c8b3 : (9223372036854775807 < 7 + t144.size + 7 + t145.size) = False := eq_false (by have h_ := c8; simp only [ByteArray.size_append] at h_; have e0_ : (⟨#[10, 119, 105, 100, 116, 104, 32]⟩ : ByteArray).size = 7 := rfl; have e1_ : (⟨#[104, 101, 105, 103, 104, 116, 32]⟩ : ByteArray).size = 7 := rfl; omega)
          by_cases c9 : ((((⟨#[104, 101, 105, 103, 104, 116, 32]⟩ : ByteArray) ++ t144) ++ (⟨#[10, 119, 105, 100, 116, 104, 32]⟩ : ByteArray)) ++ t145).size + 5 ≤ 9223372036854775807
          · rw [if_pos c9] at H
            have c9b0 := eq_true c9
            have c9b1 : decide (((((⟨#[104, 101, 105, 103, 104, 116, 32]⟩ : ByteArray) ++ t144) ++ (⟨#[10, 119, 105, 100, 116, 104, 32]⟩ : ByteArray)) ++ t145).size + 5 ≤ 9223372036854775807) = true := decide_eq_true c9
            try have c9b2 : (9223372036854775807 < ((((⟨#[104, 101, 105, 103, 104, 116, 32]⟩ : ByteArray) ++ t144) ++ (⟨#[10, 119, 105, 100, 116, 104, 32]⟩ : ByteArray)) ++ t145).size + 5) = False := eq_false (Nat.not_lt.2 c9)
            have c9b3 : (9223372036854775807 < 7 + t144.size + 7 + t145.size + 5) = False := eq_false (by have h_ := c9; simp only [ByteArray.size_append] at h_; have e0_ : (⟨#[10, 119, 105, 100, 116, 104, 32]⟩ : ByteArray).size = 7 := rfl; have e1_ : (⟨#[104, 101, 105, 103, 104, 116, 32]⟩ : ByteArray).size = 7 := rfl; omega)
            by_cases c10 : 0 + (((((⟨#[104, 101, 105, 103, 104, 116, 32]⟩ : ByteArray) ++ t144) ++ (⟨#[10, 119, 105, 100, 116, 104, 32]⟩ : ByteArray)) ++ t145) ++ (⟨#[10, 109, 97, 112, 10]⟩ : ByteArray)).size ≤ 140737488355328
            · rw [if_pos c10] at H
              have c10b0 := eq_true c10
              have c10b1 : decide (0 + (((((⟨#[104, 101, 105, 103, 104, 116, 32]⟩ : ByteArray) ++ t144) ++ (⟨#[10, 119, 105, 100, 116, 104, 32]⟩ : ByteArray)) ++ t145) ++ (⟨#[10, 109, 97, 112, 10]⟩ : ByteArray)).size ≤ 140737488355328) = true := decide_eq_true c10
              have H' := Aside0.mk H
              clear H
              go_enter Tryd.func21, Tryd.ntmps21
              go_wp2_with (first | ((with_reducible refine gate_dst (N := 1) rfl ?_); refine box_event ?hg (N := 1) ?hd (cs := #[.int .i64 a0_0, .int .i64 a0_1, .string a0_2]) (t := 38) ?hr ?_; (case hd => rfl); (case hg => rfl); (case hr => first | (go_simp; done) | (go_simp; rfl)); intro gb142 hg w11 hbox hb; have n0_ := Aside0.mk (below_step (by repeat (first | (with_reducible first | exact HB.out | apply below_alloc | apply pw_below_drewN | apply below_drew1) | exact HB.out)) hb); have n1_ := Aside0.mk (hbox); have n2_ := Aside0.mk ((by rw [hg]; exact (below_size (by repeat (first | (with_reducible first | exact HB.out | apply below_alloc | apply pw_below_drewN | apply below_drew1) | exact HB.out))) : w.heap.size ≤ gb142)); have n3_ := Aside0.mk ((by rw [hg]; exact (below_size (by repeat (first | (with_reducible first | exact HB.out | apply below_alloc | apply pw_below_drewN | apply below_drew1) | exact HB.out))) : w.heap.size ≤ gb142)); clear HB; have HB := n0_; have BK142 := n1_; have GW142 := n2_; have GE142 := n3_; clear n0_ n1_ n2_ n3_; clear hb hbox hg; have hcz12_0 : w11.cell? ⟨gb142, 0, none⟩ = some (.int .i64 a0_0) := (blk_cell BK142.out 0).trans rfl; have hcz12_1 : w11.cell? ⟨gb142, 1, none⟩ = some (.int .i64 a0_1) := (blk_cell BK142.out 1).trans rfl; have hcz12_2 : w11.cell? ⟨gb142, 2, none⟩ = some (.string a0_2) := (blk_cell BK142.out 2).trans rfl; have hfz12_0 := blk_frozen BK142.out 0; have hfz12_1 := blk_frozen BK142.out 1; have hfz12_2 := blk_frozen BK142.out 2) | ((with_reducible refine gate_callee (f := 27) rfl ?_); refine goesL_ (some 7) rfl rfl Tryd.func27 (by kernel_rfl) rfl #[.agg #[.int .i64 a0_0, .int .i64 a0_1, .string a0_2]] rfl (by (try simp only [List.map_toArray, List.map_cons, List.map_nil]); first | done | rfl | (simp only [List.length_drop, List.length_take]; rfl)) ?_; (with_reducible refine (impl_GridOk.calls k a0_0 a0_1 a0_2 true _ A2.out).mono ?_); rintro e w13 ⟨rfl, hb⟩; refine ⟨_, rfl, ?_⟩; have n0_ := Aside0.mk (blk_below (g := gb142) (o := .cells #[.int .i64 a0_0, .int .i64 a0_1, .string a0_2] 38 (0, 0)) (by (with_reducible repeat (first | refine blk_drewN ?_ _ | refine blk_drew ?_ | refine blk_alloc ?_ _)); exact BK142.out) hb); have n1_ := Aside0.mk (below_step (by repeat (first | (with_reducible first | exact HB.out | apply below_alloc | apply pw_below_drewN | apply below_drew1 | refine below_set ?_ GE142.out) | exact HB.out)) hb); clear BK142; clear HB; have BK142 := n0_; have HB := n1_; clear n0_ n1_; (try clear hb); (try clear hb2); (try clear hk); (try clear hi)) | ((with_reducible refine gate_dst (N := 4) rfl ?_); refine box_event ?hg (N := 4) ?hd (cs := #[.pointer none, .slice none 0 0]) (t := 60) ?hr ?_; (case hd => rfl); (case hg => rfl); (case hr => first | (go_simp; done) | (go_simp; rfl)); intro gbB hg wa hbox hb; have n0_ := Aside0.mk (blk_below (g := gb142) (o := .cells #[.int .i64 a0_0, .int .i64 a0_1, .string a0_2] 38 (0, 0)) (by (with_reducible repeat (first | refine blk_drewN ?_ _ | refine blk_drew ?_ | refine blk_alloc ?_ _)); exact BK142.out) hb); have n1_ := Aside0.mk (below_step (by repeat (first | (with_reducible first | exact HB.out | apply below_alloc | apply pw_below_drewN | apply below_drew1 | refine below_set ?_ GE142.out) | exact HB.out)) hb); have n2_ := Aside0.mk (bld_new hbox); have n3_ := Aside0.mk ((by rw [hg]; exact (below_size (by repeat (first | (with_reducible first | exact HB.out | apply below_alloc | apply pw_below_drewN | apply below_drew1 | refine below_set ?_ GE142.out) | exact HB.out)))) : w.heap.size ≤ gbB); have n4_ := Aside0.mk ((by rw [hg]; exact blk_lt (g := gb142) (o := .cells #[.int .i64 a0_0, .int .i64 a0_1, .string a0_2] 38 (0, 0)) (by (with_reducible repeat (first | refine blk_drewN ?_ _ | refine blk_drew ?_ | refine blk_alloc ?_ _)); exact BK142.out)) : gb142 < gbB); clear BK142; clear HB; have BK142 := n0_; have HB := n1_; have HBl := n2_; have GEB := n3_; have NLB := n4_; clear n0_ n1_ n2_ n3_ n4_; clear hb hbox hg))
              have n0_ := Aside0.mk (blk_drew BK142.out)
              have n1_ := Aside0.mk (below_drew1 HB.out)
              have n2_ := Aside0.mk (bld_drew HBl.out)
              clear HBl
              have HBl := n2_
              clear n2_
              clear BK142
              clear HB
              have BK142 := n0_
              have HB := n1_
              clear n0_ n1_
              refine start_ (n := 11) (S := fun w' => w'.cell? ⟨gb142, 0, none⟩ = some (.int .i64 a0_0) ∧ w'.cell? ⟨gb142, 1, none⟩ = some (.int .i64 a0_1) ∧ w'.cell? ⟨gb142, 2, none⟩ = some (.string a0_2)) (ds := []) #[false, false, false, false, false, false, false, false, false, false, false] (by kernel_rfl) rfl rfl ⟨(blk_cell BK142.out 0).trans rfl, (blk_cell BK142.out 1).trans rfl, (blk_cell BK142.out 2).trans rfl⟩ (fun hHeld => ?_); refine with_tabW impl_GridText.tab4 impl_GridText.bits4 (fun HT_ HW_ => ?_)
              generalize wa.drew = w14 at BK142 HB HBl hHeld ⊢
              refine pure_ (i := 0) (N := some 9) (v := ?_) (a' := ?_) #[true, false, false, false, false, false, false, false, false, false, false] rfl rfl (any_of HT_.out (by kernel_rfl)) (fun _ _ _ h => h) (Or.inl ⟨by rfl, ?_⟩) ?_ ?_
              rotate_left
              · intro w'
                go_simp
                with_reducible rfl
              rotate_left
              · simp only [Act.put, List.setIfInBounds_toArray, List.set_cons_zero, List.set_cons_succ, i64_w, i32_w]
                rfl
              refine pure_ (i := 5) (N := some 14) (v := ?_) (a' := ?_) #[true, false, false, false, false, true, false, false, false, false, false] rfl rfl (any_of HT_.out (by kernel_rfl)) (fun _ _ _ h => h) (Or.inl ⟨by rfl, ?_⟩) ?_ ?_
              rotate_left
              · intro w'
                go_simp
                with_reducible rfl
              rotate_left
              · simp only [Act.put, List.setIfInBounds_toArray, List.set_cons_zero, List.set_cons_succ, i64_w, i32_w]
                rfl
              refine take_ (i := 1) (N := some 10) (v := ?_) (a' := ?_) #[true, true, false, false, false, true, false, false, false, false, false] rfl rfl (take_ofW HT_.out HW_.out (by kernel_rfl)) (fun _ _ _ h => h) (Or.inl ⟨by rfl, ?_⟩) hHeld ?_ ?_
              rotate_left
              · rintro w' ⟨s0, s1, s2⟩
                go_simp
                with_reducible rfl
              rotate_left
              · simp only [Act.put, List.setIfInBounds_toArray, List.set_cons_zero, List.set_cons_succ, i64_w, i32_w]
                rfl
              refine take_ (i := 6) (N := some 15) (v := ?_) (a' := ?_) #[true, true, false, false, false, true, true, false, false, false, false] rfl rfl (take_ofW HT_.out HW_.out (by kernel_rfl)) (fun _ _ _ h => h) (Or.inl ⟨by rfl, ?_⟩) hHeld ?_ ?_
              rotate_left
              · rintro w' ⟨s0, s1, s2⟩
                go_simp
                with_reducible rfl
              rotate_left
              · simp only [Act.put, List.setIfInBounds_toArray, List.set_cons_zero, List.set_cons_succ, i64_w, i32_w]
                rfl
              refine one_ (i := 2) (N := some 11) #[true, true, true, false, false, true, true, false, false, false, false] rfl rfl (one_of HT_.out (by kernel_rfl)) (by decide) (fun K hK => ?_)
              refine goes_ Tryd.func10 (by kernel_rfl) rfl #[.int .i64 a0_1] (by rfl) rfl rfl (by (try simp only [List.map_toArray, List.map_cons, List.map_nil]); first | done | rfl | (simp only [List.length_drop, List.length_take]; rfl)) ?_
              with_reducible refine (impl_Decimal.calls k a0_1 t144 w0 _ hT hr1 ?sideB A4.out).mono ?_
              (case sideB => exact hB0.trans (Below.mono (by repeat (first | (with_reducible first | exact HB.out | apply below_alloc | apply pw_below_drewN | apply below_drew1 | refine below_set ?_ GE142.out) | exact HB.out)) hB0.size))
              rintro e w15 ⟨rfl, hb⟩
              refine ⟨_, rfl, ?_⟩
              have n0_ := Aside0.mk (blk_below (g := gb142) (o := .cells #[.int .i64 a0_0, .int .i64 a0_1, .string a0_2] 38 (0, 0)) (by (with_reducible repeat (first | refine blk_drewN ?_ _ | refine blk_drew ?_ | refine blk_alloc ?_ _)); exact BK142.out) hb)
              have n1_ := Aside0.mk (below_step (by repeat (first | (with_reducible first | exact HB.out | apply below_alloc | apply pw_below_drewN | apply below_drew1 | refine below_set ?_ GE142.out) | exact HB.out)) hb)
              have n2_ := Aside0.mk (bld_below HBl.out hb)
              clear BK142
              clear HB
              clear HBl
              have BK142 := n0_
              have HB := n1_
              have HBl := n2_
              clear n0_ n1_ n2_
              (try clear hb)
              (try clear hb2)
              (try clear hk)
              (try clear hi)
              refine hK.out _ _ ⟨(blk_cell BK142.out 0).trans rfl, (blk_cell BK142.out 1).trans rfl, (blk_cell BK142.out 2).trans rfl⟩ (fun hHeld => ?_)
              clear hK K
              refine norm_ (a' := ?_) ?_ ?_
              rotate_left
              · show Act.put _ (some 11) _ = _
                simp only [Act.put, List.setIfInBounds_toArray, List.set_cons_zero, List.set_cons_succ, i64_w, i32_w]
                rfl
              refine pure_ (i := 3) (N := some 12) (v := ?_) (a' := ?_) #[true, true, true, true, false, true, true, false, false, false, false] rfl rfl (any_of HT_.out (by kernel_rfl)) (fun _ _ _ h => h) (Or.inl ⟨by rfl, ?_⟩) ?_ ?_
              rotate_left
              · intro w'
                go_simp
                with_reducible rfl
              rotate_left
              · simp only [Act.put, List.setIfInBounds_toArray, List.set_cons_zero, List.set_cons_succ, i64_w, i32_w]
                rfl
              refine pure_ (i := 4) (N := some 13) (v := ?_) (a' := ?_) #[true, true, true, true, true, true, true, false, false, false, false] rfl rfl (any_of HT_.out (by kernel_rfl)) (fun _ _ _ h => h) (Or.inl ⟨by rfl, ?_⟩) ?_ ?_
              rotate_left
              · intro w'
                go_simp
                with_reducible rfl
              rotate_left
              · simp only [Act.put, List.setIfInBounds_toArray, List.set_cons_zero, List.set_cons_succ, i64_w, i32_w]
                rfl
              refine one_ (i := 7) (N := some 16) #[true, true, true, true, true, true, true, true, false, false, false] rfl rfl (one_of HT_.out (by kernel_rfl)) (by decide) (fun K hK => ?_)
              refine goes_ Tryd.func10 (by kernel_rfl) rfl #[.int .i64 a0_0] (by rfl) rfl rfl (by (try simp only [List.map_toArray, List.map_cons, List.map_nil]); first | done | rfl | (simp only [List.length_drop, List.length_take]; rfl)) ?_
              with_reducible refine (impl_Decimal.calls k a0_0 t145 w0 _ hT hr0 ?sideB A7.out).mono ?_
              (case sideB => exact hB0.trans (Below.mono (by repeat (first | (with_reducible first | exact HB.out | apply below_alloc | apply pw_below_drewN | apply below_drew1 | refine below_set ?_ GE142.out) | exact HB.out)) hB0.size))
              rintro e w16 ⟨rfl, hb⟩
              refine ⟨_, rfl, ?_⟩
              have n0_ := Aside0.mk (blk_below (g := gb142) (o := .cells #[.int .i64 a0_0, .int .i64 a0_1, .string a0_2] 38 (0, 0)) (by (with_reducible repeat (first | refine blk_drewN ?_ _ | refine blk_drew ?_ | refine blk_alloc ?_ _)); exact BK142.out) hb)
              have n1_ := Aside0.mk (below_step (by repeat (first | (with_reducible first | exact HB.out | apply below_alloc | apply pw_below_drewN | apply below_drew1 | refine below_set ?_ GE142.out) | exact HB.out)) hb)
              have n2_ := Aside0.mk (bld_below HBl.out hb)
              clear BK142
              clear HB
              clear HBl
              have BK142 := n0_
              have HB := n1_
              have HBl := n2_
              clear n0_ n1_ n2_
              (try clear hb)
              (try clear hb2)
              (try clear hk)
              (try clear hi)
              refine hK.out _ _ ⟨(blk_cell BK142.out 0).trans rfl, (blk_cell BK142.out 1).trans rfl, (blk_cell BK142.out 2).trans rfl⟩ (fun hHeld => ?_)
              clear hK K
              refine norm_ (a' := ?_) ?_ ?_
              rotate_left
              · show Act.put _ (some 16) _ = _
                simp only [Act.put, List.setIfInBounds_toArray, List.set_cons_zero, List.set_cons_succ, i64_w, i32_w]
                rfl
              refine pure_ (i := 8) (N := some 17) (v := ?_) (a' := ?_) #[true, true, true, true, true, true, true, true, true, false, false] rfl rfl (any_of HT_.out (by kernel_rfl)) (fun _ _ _ h => h) (Or.inl ⟨by rfl, ?_⟩) ?_ ?_
              rotate_left
              · intro w'
                go_simp
                with_reducible rfl
              rotate_left
              · simp only [Act.put, List.setIfInBounds_toArray, List.set_cons_zero, List.set_cons_succ, i64_w, i32_w]
                rfl
              refine pure_ (i := 9) (N := some 18) (v := ?_) (a' := ?_) #[true, true, true, true, true, true, true, true, true, true, false] rfl rfl (any_of HT_.out (by kernel_rfl)) (fun _ _ _ h => h) (Or.inl ⟨by rfl, ?_⟩) ?_ ?_
              rotate_left
              · intro w'
                go_simp
                with_reducible rfl
              rotate_left
              · simp only [Act.put, List.setIfInBounds_toArray, List.set_cons_zero, List.set_cons_succ, i64_w, i32_w]
                rfl
              refine one_ (i := 10) (N := some 19) #[true, true, true, true, true, true, true, true, true, true, true] rfl rfl (one_of HT_.out (by kernel_rfl)) (by decide) (fun K hK => ?_)
              refine goes_ Tryd.func38 (by kernel_rfl) rfl #[.pointer (some ⟨gbB, 0, none⟩), .string ((((((⟨#[104, 101, 105, 103, 104, 116, 32]⟩ : ByteArray) ++ t144) ++ (⟨#[10, 119, 105, 100, 116, 104, 32]⟩ : ByteArray)) ++ t145) ++ (⟨#[10, 109, 97, 112, 10]⟩ : ByteArray)))] (by rfl) rfl rfl (by (try simp only [List.map_toArray, List.map_cons, List.map_nil]); first | done | rfl | (simp only [List.length_drop, List.length_take]; rfl)) ?_
              refine (bld_write' (⟨#[]⟩ : ByteArray) ((((((⟨#[104, 101, 105, 103, 104, 116, 32]⟩ : ByteArray) ++ t144) ++ (⟨#[10, 119, 105, 100, 116, 104, 32]⟩ : ByteArray)) ++ t145) ++ (⟨#[10, 109, 97, 112, 10]⟩ : ByteArray))) gbB _ HBl.out c10).mono ?_
              rintro e w17 ⟨⟨nn17, rfl⟩, hbl, hb⟩
              refine ⟨_, rfl, ?_⟩
              have n0_ := Aside0.mk ((hb.block gb142 NLB.out).trans BK142.out)
              have n1_ := Aside0.mk (HB.out.trans (hb.mono GEB.out))
              have n2_ := Aside0.mk hbl
              clear BK142
              clear HB
              clear HBl
              have BK142 := n0_
              have HB := n1_
              have HBl := n2_
              clear n0_ n1_ n2_ hbl hb
              refine hK.out _ _ ⟨(blk_cell BK142.out 0).trans rfl, (blk_cell BK142.out 1).trans rfl, (blk_cell BK142.out 2).trans rfl⟩ (fun hHeld => ?_)
              clear hK K
              refine norm_ (a' := ?_) ?_ ?_
              rotate_left
              · show Act.put _ (some 19) _ = _
                simp only [Act.put, List.setIfInBounds_toArray, List.set_cons_zero, List.set_cons_succ, i64_w, i32_w]
                rfl
              refine done_ (done_of HT_.out (by kernel_rfl)) ?_
              try go_wp2
              go_loopg [5] k (fun kq v5 w' => ∃ (x4_1 : ByteArray) (x5_1 : Int), v5 = .int .i64 x5_1 ∧ Aside0 (Bld w' gbB x4_1) ∧ Aside0 (impl_GridText.l0 kq x4_1 x5_1 a0_0 a0_1 a0_2 = some (r1, r2)) ∧ Aside0 (kq ≤ k) ∧ Aside0 (w'.heap[gb142]? = some (.cells #[.int .i64 a0_0, .int .i64 a0_1, .string a0_2] 38 (0, 0))) ∧ Aside0 (Below w.heap.size w w'))
              case atStart => exact ⟨((⟨#[]⟩ : ByteArray) ++ (((((⟨#[104, 101, 105, 103, 104, 116, 32]⟩ : ByteArray) ++ t144) ++ (⟨#[10, 119, 105, 100, 116, 104, 32]⟩ : ByteArray)) ++ t145) ++ (⟨#[10, 109, 97, 112, 10]⟩ : ByteArray))), (0), (by first | rfl | (simp; done) | (simp [*]; done)), ⟨HBl.out⟩, H', ⟨Nat.le_refl _⟩, ⟨by (with_reducible repeat (first | refine blk_drewN ?_ _ | refine blk_drew ?_ | refine blk_alloc ?_ _)); exact BK142.out⟩, ⟨by repeat (first | (with_reducible first | exact HB.out | apply below_alloc | apply pw_below_drewN | apply below_drew1 | refine below_set ?_ GE142.out) | exact HB.out)⟩⟩
              case round =>
                clear H'
                try clear c1
                try clear c2
                try clear p2
                try clear c3
                try clear c5
                try clear c5b0
                try clear c5b1
                try clear c5b2
                try clear c6
                try clear c6b0
                try clear c6b1
                try clear c6b2
                try clear c8
                try clear c8b0
                try clear c8b1
                try clear c8b2
                try clear c9
                try clear c9b0
                try clear c9b1
                try clear c9b2
                try clear c10
                try clear c10b0
                try clear c10b1
                try clear c10b2
                try clear hcz12_0
                try clear hcz12_1
                try clear hcz12_2
                try clear hfz12_0
                try clear hfz12_1
                try clear hfz12_2
                obtain ⟨x4_1, x5_1, rfl, HBl, HA, HK1, BK142, HB⟩ := hrel
                cases gk with
                | zero => exact absurd HA.out (by simp [impl_GridText.l0])
                | succ k1 =>
                  have H := HA.out
                  clear HA
                  simp only [impl_GridText.l0] at H
                  by_cases c17 : x5_1 < a0_1
                  · rw [if_pos c17] at H
                    have c17b0 : decide (x5_1 < a0_1) = true := decide_eq_true c17
                    clear c17
                    obtain ⟨ji18, hji18⟩ : ∃ j_ : Int, (wrap64 (x5_1 * a0_0)) = j_ := ⟨_, rfl⟩
                    replace H : (if 0 ≤ (ji18) then (if (ji18) ≤ (wrap64 ((wrap64 (x5_1 + 1)) * a0_0)) then (if (wrap64 ((wrap64 (x5_1 + 1)) * a0_0)) ≤ (a0_2.size : Int) then (if (a0_2.extract ((ji18) : Int).toNat ((wrap64 ((wrap64 (x5_1 + 1)) * a0_0)) : Int).toNat).size + 1 ≤ 9223372036854775807 then (if x4_1.size + ((a0_2.extract ((ji18) : Int).toNat ((wrap64 ((wrap64 (x5_1 + 1)) * a0_0)) : Int).toNat) ++ (⟨#[10]⟩ : ByteArray)).size ≤ 140737488355328 then (impl_GridText.l0 k1 (x4_1 ++ ((a0_2.extract ((ji18) : Int).toNat ((wrap64 ((wrap64 (x5_1 + 1)) * a0_0)) : Int).toNat) ++ (⟨#[10]⟩ : ByteArray))) (wrap64 (x5_1 + 1)) a0_0 a0_1 a0_2) else (none)) else (none)) else (none)) else (none)) else (none)) = some (r1, r2) := by first | (rw [hji18] at H; exact H) | (simp only [hji18] at H ⊢; exact H)
                    have hji18w : (IntKind.i64.wrap (x5_1 * a0_0)) = ji18 := (i64_w _).trans hji18
                    by_cases c19 : 0 ≤ (ji18)
                    · rw [if_pos c19] at H
                      have c19b0 := eq_true c19
                      have c19b1 : decide (0 ≤ (ji18)) = true := decide_eq_true c19
                      clear c19
                      by_cases c20 : (ji18) ≤ (wrap64 ((wrap64 (x5_1 + 1)) * a0_0))
                      · rw [if_pos c20] at H
                        have c20b0 := eq_true c20
                        have c20b1 : decide ((ji18) ≤ (wrap64 ((wrap64 (x5_1 + 1)) * a0_0))) = true := decide_eq_true c20
                        by_cases c21 : (wrap64 ((wrap64 (x5_1 + 1)) * a0_0)) ≤ (a0_2.size : Int)
                        · rw [if_pos c21] at H
                          have c21b0 := eq_true c21
                          have c21b1 : decide ((wrap64 ((wrap64 (x5_1 + 1)) * a0_0)) ≤ (a0_2.size : Int)) = true := decide_eq_true c21
                          by_cases c22 : (a0_2.extract ((ji18) : Int).toNat ((wrap64 ((wrap64 (x5_1 + 1)) * a0_0)) : Int).toNat).size + 1 ≤ 9223372036854775807
                          · rw [if_pos c22] at H
                            have c22b0 := eq_true c22
                            have c22b1 : decide ((a0_2.extract ((ji18) : Int).toNat ((wrap64 ((wrap64 (x5_1 + 1)) * a0_0)) : Int).toNat).size + 1 ≤ 9223372036854775807) = true := decide_eq_true c22
                            try have c22b2 : (9223372036854775807 < (a0_2.extract ((ji18) : Int).toNat ((wrap64 ((wrap64 (x5_1 + 1)) * a0_0)) : Int).toNat).size + 1) = False := eq_false (Nat.not_lt.2 c22)
                            have c22b4 : (9223372036854775807 < (((wrap64 ((wrap64 (x5_1 + 1)) * a0_0)) : Int).toNat - ((ji18) : Int).toNat) + 1) = False := eq_false (by have h_ := c22; simp only [ByteArray.size_append, ByteArray.size_extract] at h_; omega)
                            by_cases c23 : x4_1.size + ((a0_2.extract ((ji18) : Int).toNat ((wrap64 ((wrap64 (x5_1 + 1)) * a0_0)) : Int).toNat) ++ (⟨#[10]⟩ : ByteArray)).size ≤ 140737488355328
                            · rw [if_pos c23] at H
                              have c23b0 := eq_true c23
                              have c23b1 : decide (x4_1.size + ((a0_2.extract ((ji18) : Int).toNat ((wrap64 ((wrap64 (x5_1 + 1)) * a0_0)) : Int).toNat) ++ (⟨#[10]⟩ : ByteArray)).size ≤ 140737488355328) = true := decide_eq_true c23
                              have H' := Aside0.mk H
                              clear H
                              have hcz24_0 : wr.cell? ⟨gb142, 0, none⟩ = some (.int .i64 a0_0) := (blk_cell BK142.out 0).trans rfl
                              have hcz24_1 : wr.cell? ⟨gb142, 1, none⟩ = some (.int .i64 a0_1) := (blk_cell BK142.out 1).trans rfl
                              have hcz24_2 : wr.cell? ⟨gb142, 2, none⟩ = some (.string a0_2) := (blk_cell BK142.out 2).trans rfl
                              have hfz24_0 := blk_frozen BK142.out 0
                              have hfz24_1 := blk_frozen BK142.out 1
                              have hfz24_2 := blk_frozen BK142.out 2
                              go_wp2_with (first | ((with_reducible refine gate_callee (f := 38) rfl ?_); refine goesL_ (some 39) rfl rfl Tryd.func38 (by kernel_rfl) rfl #[.pointer (some ⟨gbB, 0, none⟩), .string ((a0_2.extract ((ji18) : Int).toNat ((wrap64 ((wrap64 (x5_1 + 1)) * a0_0)) : Int).toNat) ++ (⟨#[10]⟩ : ByteArray))] rfl (by (try simp only [List.map_toArray, List.map_cons, List.map_nil]); first | done | rfl | (simp only [List.length_drop, List.length_take]; rfl)) ?_; (refine (bld_write' x4_1 ((a0_2.extract ((ji18) : Int).toNat ((wrap64 ((wrap64 (x5_1 + 1)) * a0_0)) : Int).toNat) ++ (⟨#[10]⟩ : ByteArray)) gbB _ HBl.out c23).mono ?_); rintro e w24 ⟨⟨nn24, rfl⟩, hbl, hb⟩; refine ⟨_, rfl, ?_⟩; have n0_ := Aside0.mk ((hb.block gb142 NLB.out).trans BK142.out); have n1_ := Aside0.mk (HB.out.trans (hb.mono GEB.out)); have n2_ := Aside0.mk hbl; clear BK142; clear HB; clear HBl; have BK142 := n0_; have HB := n1_; have HBl := n2_; clear n0_ n1_ n2_ hbl hb))
                              go_roundg k1
                              case measure => have := HK1.out; omega
                              case rel => exact ⟨(x4_1 ++ ((a0_2.extract ((ji18) : Int).toNat ((wrap64 ((wrap64 (x5_1 + 1)) * a0_0)) : Int).toNat) ++ (⟨#[10]⟩ : ByteArray))), (wrap64 (x5_1 + 1)), (by first | rfl | (simp; done) | (simp [*]; done)), ⟨HBl.out⟩, H', ⟨by have := HK1.out; omega⟩, ⟨by (with_reducible repeat (first | refine blk_drewN ?_ _ | refine blk_drew ?_ | refine blk_alloc ?_ _)); exact BK142.out⟩, ⟨by repeat (first | (with_reducible first | exact HB.out | apply below_alloc | apply pw_below_drewN | apply below_drew1 | refine below_set ?_ GE142.out) | exact HB.out)⟩⟩
                            · rw [if_neg c23] at H
                              exact absurd H (by simp)
                          · rw [if_neg c22] at H
                            exact absurd H (by simp)
                        · rw [if_neg c21] at H
                          exact absurd H (by simp)
                      · rw [if_neg c20] at H
                        exact absurd H (by simp)
                    · rw [if_neg c19] at H
                      exact absurd H (by simp)
                  · rw [if_neg c17] at H
                    have c17b0 : decide (x5_1 < a0_1) = false := decide_eq_false c17
                    clear c17
                    simp only [Option.some.injEq, Prod.mk.injEq] at H
                    obtain ⟨rfl, rfl⟩ := H
                    have hcz25_0 : wr.cell? ⟨gb142, 0, none⟩ = some (.int .i64 a0_0) := (blk_cell BK142.out 0).trans rfl
                    have hcz25_1 : wr.cell? ⟨gb142, 1, none⟩ = some (.int .i64 a0_1) := (blk_cell BK142.out 1).trans rfl
                    have hcz25_2 : wr.cell? ⟨gb142, 2, none⟩ = some (.string a0_2) := (blk_cell BK142.out 2).trans rfl
                    have hfz25_0 := blk_frozen BK142.out 0
                    have hfz25_1 := blk_frozen BK142.out 1
                    have hfz25_2 := blk_frozen BK142.out 2
                    go_wp2_with (first | ((with_reducible refine gate_callee (f := 39) rfl ?_); refine goesL_ (some 40) rfl rfl Tryd.func39 (by kernel_rfl) rfl #[.pointer (some ⟨gbB, 0, none⟩)] rfl (by (try simp only [List.map_toArray, List.map_cons, List.map_nil]); first | done | rfl | (simp only [List.length_drop, List.length_take]; rfl)) ?_; (refine (bld_string _ gbB _ HBl.out).mono ?_); rintro e w26 ⟨rfl, hb⟩; refine ⟨_, rfl, ?_⟩; have n1_ := Aside0.mk (HB.out.trans (hb.mono GEB.out)); clear HB; have HB := n1_; clear n1_ hb))
                    go_ret2
                    exact ⟨by first | rfl | (simp [errW_none, errW_some] <;> rfl) | (simp [*, errW_none, errW_some] <;> rfl), by repeat (first | (with_reducible first | exact HB.out | apply below_alloc | apply pw_below_drewN | apply below_drew1 | refine below_set ?_ GE142.out) | exact HB.out)⟩
            · rw [if_neg c10] at H
              exact absurd H (by simp)
          · rw [if_neg c9] at H
            exact absurd H (by simp)
        · rw [if_neg c8] at H
          exact absurd H (by simp)
      · rw [if_neg c6] at H
        exact absurd H (by simp)
    · rw [if_neg c5] at H
      exact absurd H (by simp)
  · replace c3 := Bool.eq_false_iff.mpr c3
    subst c3
    have H1 : (some ((⟨#[]⟩ : ByteArray), false)) = some (r1, r2) := by rw [if_neg (show ¬ (false = true) by decide)] at H; exact H
    clear H
    have H := H1
    clear H1
    simp only [Option.some.injEq, Prod.mk.injEq] at H
    obtain ⟨rfl, rfl⟩ := H
    go_enter Tryd.func21, Tryd.ntmps21
    go_wp2_with (first | ((with_reducible refine gate_dst (N := 1) rfl ?_); refine box_event ?hg (N := 1) ?hd (cs := #[.int .i64 a0_0, .int .i64 a0_1, .string a0_2]) (t := 38) ?hr ?_; (case hd => rfl); (case hg => rfl); (case hr => first | (go_simp; done) | (go_simp; rfl)); intro gb142 hg w26 hbox hb; have n0_ := Aside0.mk (below_step (by repeat (first | (with_reducible first | exact HB.out | apply below_alloc | apply pw_below_drewN | apply below_drew1) | exact HB.out)) hb); have n1_ := Aside0.mk (hbox); have n2_ := Aside0.mk ((by rw [hg]; exact (below_size (by repeat (first | (with_reducible first | exact HB.out | apply below_alloc | apply pw_below_drewN | apply below_drew1) | exact HB.out))) : w.heap.size ≤ gb142)); have n3_ := Aside0.mk ((by rw [hg]; exact (below_size (by repeat (first | (with_reducible first | exact HB.out | apply below_alloc | apply pw_below_drewN | apply below_drew1) | exact HB.out))) : w.heap.size ≤ gb142)); clear HB; have HB := n0_; have BK142 := n1_; have GW142 := n2_; have GE142 := n3_; clear n0_ n1_ n2_ n3_; clear hb hbox hg; have hcz27_0 : w26.cell? ⟨gb142, 0, none⟩ = some (.int .i64 a0_0) := (blk_cell BK142.out 0).trans rfl; have hcz27_1 : w26.cell? ⟨gb142, 1, none⟩ = some (.int .i64 a0_1) := (blk_cell BK142.out 1).trans rfl; have hcz27_2 : w26.cell? ⟨gb142, 2, none⟩ = some (.string a0_2) := (blk_cell BK142.out 2).trans rfl; have hfz27_0 := blk_frozen BK142.out 0; have hfz27_1 := blk_frozen BK142.out 1; have hfz27_2 := blk_frozen BK142.out 2) | ((with_reducible refine gate_callee (f := 27) rfl ?_); refine goesL_ (some 7) rfl rfl Tryd.func27 (by kernel_rfl) rfl #[.agg #[.int .i64 a0_0, .int .i64 a0_1, .string a0_2]] rfl (by (try simp only [List.map_toArray, List.map_cons, List.map_nil]); first | done | rfl | (simp only [List.length_drop, List.length_take]; rfl)) ?_; (with_reducible refine (impl_GridOk.calls k a0_0 a0_1 a0_2 false _ A2.out).mono ?_); rintro e w28 ⟨rfl, hb⟩; refine ⟨_, rfl, ?_⟩; have n0_ := Aside0.mk (blk_below (g := gb142) (o := .cells #[.int .i64 a0_0, .int .i64 a0_1, .string a0_2] 38 (0, 0)) (by (with_reducible repeat (first | refine blk_drewN ?_ _ | refine blk_drew ?_ | refine blk_alloc ?_ _)); exact BK142.out) hb); have n1_ := Aside0.mk (below_step (by repeat (first | (with_reducible first | exact HB.out | apply below_alloc | apply pw_below_drewN | apply below_drew1 | refine below_set ?_ GE142.out) | exact HB.out)) hb); clear BK142; clear HB; have BK142 := n0_; have HB := n1_; clear n0_ n1_; (try clear hb); (try clear hb2); (try clear hk); (try clear hi)))
    go_ret2
    exact ⟨by first | rfl | (simp [errW_none, errW_some] <;> rfl) | (simp [*, errW_none, errW_some] <;> rfl), by repeat (first | (with_reducible first | exact HB.out | apply below_alloc | apply pw_below_drewN | apply below_drew1 | refine below_set ?_ GE142.out) | exact HB.out)⟩
end Go.Proofs.YtkaffmlppfppeaaDoor.PFnMaps
