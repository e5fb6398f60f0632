/- The plain law of FnExactReadDecimal: what a string spells as Decimal writes it, between 0 and 1000000000. -/
import Derived.Test.YtkaffmlppfppeaaDoorDSpecReadDecimal
import Derived.Test.YtkaffmlppfppeaaDoorPureFnExactDecimal
import Derived.Lib.AtoiTie
import Derived.Lib.AtoiAll
import Derived.Laws.Strings
namespace Go.Proofs.YtkaffmlppfppeaaDoor.MReadDecimal
open Go.RowKit Go.Lib Go.Proofs.YtkaffmlppfppeaaDoorW.PrintWords Go.Proofs.YtkaffmlppfppeaaDoor.DSpec Go.Proofs.YtkaffmlppfppeaaDoor.MDecimal

theorem decFrom_append : ∀ (l1 l2 : List UInt8) (acc : Nat), decFrom acc (l1 ++ l2) = (decFrom acc l1).bind fun n => decFrom n l2
  | [], _, _ => rfl
  | b :: r, l2, acc => by
    simp only [List.cons_append, decFrom]
    cases digitVal b with
    | none => rfl
    | some d => exact decFrom_append r l2 _

theorem digitVal_of (d : Nat) (h : d < 10) : digitVal (UInt8.ofNat (48 + d)) = some d := by
  unfold digitVal
  have e : (UInt8.ofNat (48 + d)).toNat = 48 + d := by
    rw [UInt8.toNat_ofNat']
    omega
  rw [e, if_pos ⟨by omega, by omega⟩]
  congr 1
  omega

theorem decFrom_digits (u : Nat) : decFrom 0 (decDigits u) = some u := by
  induction u using Nat.strongRecOn with
  | ind u ih =>
    rw [decDigits]
    by_cases h : u < 10
    · rw [dif_pos h]
      simp only [decFrom, digitVal_of u h]
      simp
    · rw [dif_neg h, decFrom_append, ih (u / 10) (by omega), Option.bind_some]
      simp only [decFrom, digitVal_of (u % 10) (Nat.mod_lt _ (by decide))]
      congr 1
      omega

theorem digits_length : ∀ (k u : Nat), u < 10 ^ (k + 1) → (decDigits u).length ≤ k + 1
  | 0, u, h => by
    rw [decDigits, dif_pos (by simpa using h)]
    simp
  | k + 1, u, h => by
    rw [decDigits]
    by_cases c : u < 10
    · rw [dif_pos c]; simp
    · rw [dif_neg c, List.length_append]
      have := digits_length k (u / 10) (by rw [Nat.pow_succ] at h; omega)
      simp
      omega

theorem atoi_digits (u : Nat) : atoi (decDigits u) = some (u : Int) := by
  have h := decFrom_digits u
  cases hl : decDigits u with
  | nil =>
    rw [decDigits] at hl
    split at hl <;> simp at hl
  | cons b r =>
    rw [hl] at h
    have hb : 48 ≤ b.toNat := by
      simp only [decFrom] at h
      unfold digitVal at h
      by_cases c : 48 ≤ b.toNat ∧ b.toNat ≤ 57
      · exact c.1
      · rw [if_neg c] at h; cases h
    unfold atoi
    have h45 : (b == 45) = false := by
      rw [beq_eq_false_iff_ne]
      rintro rfl
      exact absurd hb (by decide)
    have h43 : (b == 43) = false := by
      rw [beq_eq_false_iff_ne]
      rintro rfl
      exact absurd hb (by decide)
    have hn : decNat (b :: r) = some u := by
      unfold decNat
      rw [if_neg (by simp)]
      exact h
    simp only [h45, h43, hn, Bool.false_eq_true, if_false, Option.map_some]

theorem itoa_nat (n : Nat) : itoa (n : Int) = decDigits n := by
  unfold itoa
  rw [if_neg (by omega)]
  rfl

/-- What both answer. -/
def Is (l : List UInt8) (r : Int × Bool) : Prop :=
  (∃ n : Nat, n ≤ 1000000000 ∧ itoa (n : Int) = l ∧ r = ((n : Int), true)) ∨ ((∀ n : Nat, n ≤ 1000000000 → itoa (n : Int) ≠ l) ∧ r = (0, false))

theorem Is.unique {l : List UInt8} {r r' : Int × Bool} (h : Is l r) (h' : Is l r') : r = r' := by
  rcases h with ⟨n, hn, e, rfl⟩ | ⟨no, rfl⟩ <;> rcases h' with ⟨n', hn', e', rfl⟩ | ⟨no', rfl⟩
  · rw [← e', itoa_nat, itoa_nat] at e
    have h1 := decFrom_digits n
    rw [e, decFrom_digits n'] at h1
    obtain rfl := Option.some.inj h1
    rfl
  · exact absurd e (no' n hn)
  · exact absurd e' (no n' hn')
  · rfl

theorem len10 {n : Nat} (hn : n ≤ 1000000000) {l : List UInt8} (e : itoa (n : Int) = l) : l.length ≤ 10 := by
  rw [itoa_nat] at e
  subst e
  exact digits_length 9 n (by have : (10 : Nat) ^ (9 + 1) = 10000000000 := by decide
                              omega)

/-- The program's answer, by how Atoi ends. -/
theorem is_ok {l : List UInt8} {v : Int} (h : atoiAll l = .ok v) (c : ¬ v < 0) (c2 : ¬ v > 1000000000) (e : itoa v = l) : Is l (v, true) := by
  obtain ⟨n, rfl⟩ : ∃ n : Nat, v = n := ⟨v.toNat, by omega⟩
  exact Or.inl ⟨n, by omega, e, rfl⟩
theorem atoi_of {l : List UInt8} {n : Nat} (hn : n ≤ 1000000000) (e : itoa (n : Int) = l) : atoiAll l = .ok (n : Int) := by
  have hl := len10 hn e
  rw [atoiAll_short l (by omega)]
  rw [itoa_nat] at e
  rw [← e, atoi_digits]
  rfl
theorem is_bad {l : List UInt8} {v : Int} (h : atoiAll l = .ok v) (c : v < 0 ∨ v > 1000000000 ∨ itoa v ≠ l) : Is l (0, false) := by
  refine Or.inr ⟨fun n hn e => ?_, rfl⟩
  have h2 := atoi_of hn e
  rw [h] at h2
  obtain rfl := NumEnd.ok.inj h2
  rcases c with c | c | c
  · omega
  · omega
  · exact c e
theorem is_err {l : List UInt8} (h : ∀ v, atoiAll l ≠ .ok v) : Is l (0, false) :=
  Or.inr ⟨fun _ hn e => h _ (atoi_of hn e), rfl⟩

/-! The reference. -/
theorem len (s : ByteArray) : s.data.toList.length = s.size := Array.length_toList
theorem decimal_k (n : Int) (h0 : -9223372036854775808 ≤ n) (h1 : n ≤ 9223372036854775807) (k : Nat) (hk : 41 ≤ k) : spec_Decimal.f k n = some ⟨(Lib.itoa n).toArray⟩ := by
  induction hk with
  | refl => exact decimal n h0 h1
  | step _ ih => exact spec_Decimal.mono n _ _ ih

noncomputable def res (l : List UInt8) : Option Nat → Int × Bool
  | none => (0, false)
  | some n => if (n : Int) > 1000000000 then (0, false) else if itoa (n : Int) = l then ((n : Int), true) else (0, false)

theorem bt_get (s : ByteArray) (i : Nat) (h : i < s.size) : ∃ b : UInt8, s.data.toList[i]? = some b ∧ bt s (i : Int) = (b.toNat : Int) := by
  refine ⟨s[i], ?_, ?_⟩
  · have : i < s.data.toList.length := by rw [len]; exact h
    rw [List.getElem?_eq_getElem this]
    rfl
  · unfold bt
    rw [dif_pos (by simpa using h)]
    rfl

theorem dig {acc b : Nat} (h : acc < 10000000000) (h1 : 48 ≤ b) (h2 : b ≤ 57) : wrap64 (wrap64 (wrap64 (10 * (acc : Int)) + wrap64 (b : Int)) - 48) = ((acc * 10 + (b - 48) : Nat) : Int) := by
  rw [w64 (x := 10 * (acc : Int)) (by omega) (by omega), w64 (x := (b : Int)) (by omega) (by omega), w64 (x := 10 * (acc : Int) + b) (by omega) (by omega), w64 (by omega) (by omega)]
  omega
theorem nxt {i : Nat} (h : i < 1000) : wrap64 ((i : Int) + 1) = ((i + 1 : Nat) : Int) := by
  rw [w64 (by omega) (by omega)]
  omega

theorem loop (s : ByteArray) (hs : s.size ≤ 10) : ∀ (m k i acc : Nat), m + 41 ≤ k → s.size = i + m → acc < 10 ^ i → spec_ReadDecimal.l0 (k + 1) s (acc : Int) (i : Int) = some (res s.data.toList (decFrom acc (s.data.toList.drop i)))
  | 0, k, i, acc, hk, hm, ha => by
    have hl := len s
    rw [spec_ReadDecimal.l0, if_neg (by omega), List.drop_eq_nil_of_le (by omega)]
    have hb : acc < 10 ^ 10 := Nat.lt_of_lt_of_le ha (Nat.pow_le_pow_right (by decide) (by omega))
    have hb' : (10 : Nat) ^ 10 = 10000000000 := by decide
    simp only [decFrom, res]
    by_cases c : (acc : Int) > 1000000000
    · rw [if_pos c, if_pos c]
    · rw [if_neg c, if_neg c, decimal_k (acc : Int) (by omega) (by omega) k (by omega), Option.bind_some]
      simp only [ByteArray.toList_eq]
      split <;> rfl
  | m + 1, k + 1, i, acc, hk, hm, ha => by
    obtain ⟨b, hb, hbt⟩ := bt_get s i (by omega)
    have hlt : acc < 10 ^ 10 := Nat.lt_of_lt_of_le ha (Nat.pow_le_pow_right (by decide) (by omega))
    have hb' : (10 : Nat) ^ 10 = 10000000000 := by decide
    have hbl := b.toNat_lt
    have hd : s.data.toList.drop i = b :: s.data.toList.drop (i + 1) := by
      have h1 : i < s.data.toList.length := by rw [len]; omega
      rw [List.drop_eq_getElem_cons h1]
      rw [List.getElem?_eq_getElem h1] at hb
      rw [Option.some.inj hb]
    rw [spec_ReadDecimal.l0, if_pos (by omega), if_pos (by omega), hbt, hd]
    simp only [decFrom]
    by_cases c1 : ((b.toNat : Nat) : Int) < 48
    · rw [if_pos c1]
      have : digitVal b = none := by unfold digitVal; rw [if_neg (by omega)]
      rw [this]
      rfl
    · rw [if_neg c1]
      by_cases c2 : ((b.toNat : Nat) : Int) > 57
      · rw [if_pos c2]
        have : digitVal b = none := by unfold digitVal; rw [if_neg (by omega)]
        rw [this]
        rfl
      · rw [if_neg c2]
        have : digitVal b = some (b.toNat - 48) := by unfold digitVal; rw [if_pos (by omega)]
        rw [this]
        rw [dig (by omega) (by omega) (by omega), nxt (by omega)]
        exact loop s hs m k (i + 1) (acc * 10 + (b.toNat - 48)) (by omega) (by omega) (by rw [Nat.pow_succ]; clear hk hd; omega)

theorem spec (s : ByteArray) : ∃ r, spec_ReadDecimal.f 60 s = some r ∧ Is s.data.toList r := by
  have hl := len s
  unfold spec_ReadDecimal.f
  by_cases c : (s.size : Int) > 10
  · rw [if_pos c]
    refine ⟨_, rfl, Or.inr ⟨fun n hn e => ?_, rfl⟩⟩
    have := len10 hn e
    omega
  · rw [if_neg c]
    have h0 := loop s (by omega) s.size 59 0 0 (by omega) (by omega) (by decide)
    refine ⟨_, h0, ?_⟩
    rw [List.drop_zero]
    cases hd : decFrom 0 s.data.toList with
    | none =>
      refine Or.inr ⟨fun n _ e => ?_, rfl⟩
      rw [← e, itoa_nat, decFrom_digits] at hd
      cases hd
    | some n =>
      simp only [res]
      by_cases c1 : (n : Int) > 1000000000
      · rw [if_pos c1]
        refine Or.inr ⟨fun n' hn' e => ?_, rfl⟩
        rw [← e, itoa_nat, decFrom_digits] at hd
        obtain rfl := Option.some.inj hd
        omega
      · rw [if_neg c1]
        by_cases c2 : itoa (n : Int) = s.data.toList
        · rw [if_pos c2]
          exact Or.inl ⟨n, by omega, c2, rfl⟩
        · rw [if_neg c2]
          refine Or.inr ⟨fun n' hn' e => ?_, rfl⟩
          have e2 := e
          rw [← e2, itoa_nat, decFrom_digits] at hd
          obtain rfl := Option.some.inj hd
          exact c2 e
end Go.Proofs.YtkaffmlppfppeaaDoor.MReadDecimal
