/- The plain law of FnFigures: what is written comes back. -/
import Derived.Test.YtkaffmlppfppeaaDoorPFnFiguresx5
import Derived.Test.YtkaffmlppfppeaaDoorMBase
import Derived.Test.YtkaffmlppfppeaaDoorMDraw
namespace Go.Proofs.YtkaffmlppfppeaaDoor.Fig
open Go Go.RowKit Go.Proofs.YtkaffmlppfppeaaDoorW.PrintWords Go.Proofs.YtkaffmlppfppeaaDoorW.PrintMore Go.Proofs.YtkaffmlppfppeaaDoor.MBase Go.Proofs.YtkaffmlppfppeaaDoor.MDraw Go.Proofs.YtkaffmlppfppeaaDoor.PFnFigures Go.Proofs.YtkaffmlppfppeaaDoor.DSpec Go.Proofs.YtkaffmlppfppeaaDoor.MReadDecimal
set_option linter.unusedVariables false
/-! the cursor of a draw: each number that it gives lies below what was asked -/
theorem new_l0 (b : List Int) (m : Nat) : ∀ (j : Nat) (h : Int), j + m = 4000 → ∃ h', Ev (fun k => spec_l01New.l0 k b h j) (b, 0, h') := by
  induction m with
  | zero =>
    intro j h hj
    refine ⟨h, Ev.step (f := fun _ => some (b, 0, h)) (fun k => ?_) (Ev.now _)⟩
    by_cases hl : (j : Int) < b.length
    · rw [spec_l01New.l0, if_pos hl, if_neg (by omega)]
    · rw [spec_l01New.l0, if_neg hl]
  | succ m ih =>
    intro j h hj
    by_cases hl : (j : Int) < b.length
    · obtain ⟨h', e⟩ := ih (j + 1) (bits .and .i64 (wrap64 ((wrap64 ((wrap64 (h * 131)) + (wrap64 (rd b (j : Int))))) + 7)) 1073741823) (by omega)
      have hw3 : wrap64 ((j : Int) + 1) = ((j + 1 : Nat) : Int) := by rw [w64 (by omega) (by omega)]; omega
      exact ⟨h', Ev.step (fun k => by rw [spec_l01New.l0, if_pos hl, if_pos (by omega), if_pos (by omega), hw3]) e⟩
    · exact ⟨h, Ev.step (f := fun _ => some (b, 0, h)) (fun k => by rw [spec_l01New.l0, if_neg hl]) (Ev.now _)⟩

theorem new_ev (b : List Int) : ∃ h, Ev (fun k => spec_l01New.f k b) (b, 0, h) := new_l0 b 4000 0 _ (by omega)

theorem byte_ok (b : List Int) (hb : b.length ≤ maxLen) (i h : Int) (hi : 0 ≤ i) : ∃ x i' h', spec_l01Byte.f b i h = some (x, i', h') ∧ 0 ≤ x ∧ x ≤ 255 ∧ 0 ≤ i' := by
  unfold spec_l01Byte.f
  unfold maxLen at hb
  by_cases hl : i < b.length
  · rw [if_pos hl, if_pos hi]
    exact ⟨_, _, _, rfl, (and255 _).1, (and255 _).2, by rw [w64 (by omega) (by omega)]; omega⟩
  · rw [if_neg hl]
    exact ⟨_, _, _, rfl, (and255 _).1, (and255 _).2, hi⟩

theorem below_ok (b : List Int) (hb : b.length ≤ maxLen) (i h : Int) (hi : 0 ≤ i) (n : Int) : ∃ x i' h', spec_l01Below.f b i h n = some (x, i', h') ∧ 0 ≤ x ∧ (0 < n → x < n) ∧ (n ≤ 0 → x = 0) ∧ 0 ≤ i' := by
  unfold spec_l01Below.f
  by_cases h0 : n ≤ 0
  · rw [if_pos h0]
    exact ⟨0, i, h, rfl, Int.le_refl _, fun hh => by omega, fun _ => rfl, hi⟩
  have hn : ¬ n = 0 := by omega
  by_cases h1 : n ≤ 256
  · obtain ⟨x, i', h', e, x0, x1, hi'⟩ := byte_ok b hb i h hi
    have t := tmod_lt x0 (show 0 < n by omega)
    exact ⟨Int.tmod x n, i', h', by rw [if_neg h0, if_pos h1, e, Option.bind_some, if_neg hn], t.1, fun _ => t.2, fun hh => by omega, hi'⟩
  · obtain ⟨x, i1, h1', e1, x0, x1, hi1⟩ := byte_ok b hb i h hi
    obtain ⟨y, i2, h2', e2, y0, y1, hi2⟩ := byte_ok b hb i1 h1' hi1
    obtain ⟨z, i3, h3', e3, z0, z1, hi3⟩ := byte_ok b hb i2 h2' hi2
    obtain ⟨u, i4, h4', e4, u0, u1, hi4⟩ := byte_ok b hb i3 h3' hi3
    have hv : 0 ≤ wrap64 ((wrap64 ((wrap64 ((wrap64 (x * 16777216)) + (wrap64 (y * 65536)))) + (wrap64 (z * 256)))) + u) := by
      rw [w64 (x := x * 16777216) (by omega) (by omega), w64 (x := y * 65536) (by omega) (by omega), w64 (x := z * 256) (by omega) (by omega), w64 (x := x * 16777216 + y * 65536) (by omega) (by omega), w64 (x := x * 16777216 + y * 65536 + z * 256) (by omega) (by omega), w64 (by omega) (by omega)]
      omega
    have t := tmod_lt hv (show 0 < n by omega)
    exact ⟨_, i4, h4', by rw [if_neg h0, if_neg h1, e1, Option.bind_some, e2, Option.bind_some, e3, Option.bind_some, e4, Option.bind_some, if_neg hn], t.1, fun _ => t.2, fun hh => by omega, hi4⟩

/-! spec.DrawPlaces -/
theorem places_l0 (b : List Int) (hb : b.length ≤ maxLen) (m : Nat) : ∀ (j : Nat) (acc : List Int) (i h : Int), j + m = 12 → acc.length = j → (∀ z, z ∈ acc → 0 ≤ z ∧ z < 10000) → 0 ≤ i → ∃ p : List Int, p.length = 12 ∧ (∀ z, z ∈ p → 0 ≤ z ∧ z < 10000) ∧ Ev (fun k => spec_DrawPlaces.l0 k acc j b i h) p := by
  induction m with
  | zero =>
    intro j acc i h hj ha hz hi
    exact ⟨acc, by omega, hz, Ev.step (f := fun _ => some acc) (fun k => by rw [spec_DrawPlaces.l0, if_neg (by omega)]) (Ev.now _)⟩
  | succ m ih =>
    intro j acc i h hj ha hz hi
    have hw3 : wrap64 ((j : Int) + 1) = ((j + 1 : Nat) : Int) := by rw [w64 (by omega) (by omega)]; omega
    obtain ⟨x, i', h', e, x0, x1, _, hi'⟩ := below_ok b hb i h hi 10000
    obtain ⟨p, p1, p2, p3⟩ := ih (j + 1) (acc ++ [x]) i' h' (by omega) (by simp; omega) (fun z hm => by
      rcases List.mem_append.1 hm with h1 | h1
      · exact hz z h1
      · rw [List.mem_singleton.1 h1]; exact ⟨x0, x1 (by omega)⟩) hi'
    exact ⟨p, p1, p2, Ev.step (fun k => by rw [spec_DrawPlaces.l0, if_pos (by omega), e, Option.bind_some, if_pos (by omega), hw3]) p3⟩

theorem places_ev (b : List Int) (hb : b.length ≤ maxLen) : ∃ p : List Int, p.length = 12 ∧ (∀ j : Nat, j < 12 → 0 ≤ rd p j ∧ rd p j < 10000) ∧ Ev (fun k => spec_DrawPlaces.f k b) p := by
  obtain ⟨h, e0⟩ := new_ev b
  obtain ⟨x, i', h', e, x0, x1, hi'⟩ := byte_ok b hb 0 h (Int.le_refl _)
  obtain ⟨p, p1, p2, p3⟩ := places_l0 b hb 12 0 [] i' h' (by omega) rfl (fun z hz => by cases hz) hi'
  refine ⟨p, p1, fun j hj => ?_, Ev.bind e0 (Ev.congr (fun k => by dsimp only; rw [e, Option.bind_some]; rfl) p3)⟩
  have := p2 _ (getD_mem' (xs := p) (j := j) (by omega))
  unfold rd
  rw [Int.toNat_natCast]
  exact this

def hexT : ByteArray := ⟨#[48, 49, 50, 51, 52, 53, 54, 55, 56, 57, 97, 98, 99, 100, 101, 102]⟩


theorem hex_fin : ∀ n : Fin 256,
    0 ≤ (n.val : Int) / 16 ∧ (n.val : Int) / 16 < 16 ∧ 0 ≤ Go.bits .and .u8 (n.val : Int) 15 ∧ Go.bits .and .u8 (n.val : Int) 15 < 16 := by
  decide +kernel

/-- the digits of the bytes from i on -/
def hexD (s : ByteArray) : Nat → Int → List Int
  | 0, _ => []
  | d + 1, i => [bt hexT (bt s i / 16), bt hexT (Go.bits .and .u8 (bt s i) 15)] ++ hexD s d (i + 1)


theorem hex_impl (s : ByteArray) (d : Nat) : ∀ (acc : List Int) (i : Int), 0 ≤ i → i + d = s.size → s.size ≤ 20000 → acc.length + 2 * d ≤ 40000 →
    Ev (fun k => impl_Hex.l0 k s acc i) (strOfNums (acc ++ hexD s d i), true) := by
  induction d with
  | zero =>
    intro acc i h0 h1 h2 h3
    refine Ev.step (fun k => by rw [impl_Hex.l0, if_neg (by omega)]) ?_
    rw [hexD, List.append_nil]
    exact Ev.now _
  | succ d ih =>
    intro acc i h0 h1 h2 h3
    obtain ⟨n, hn⟩ := bt_fin s i
    obtain ⟨f3, f4, f5, f6⟩ := hex_fin n
    refine Ev.step (f := fun k => impl_Hex.l0 k s (acc ++ [bt hexT (bt s i / 16), bt hexT (Go.bits .and .u8 (bt s i) 15)]) (i + 1)) (fun k => ?_) ?_
    · rw [impl_Hex.l0, if_pos (by omega), if_pos h0, hn, if_pos f3, if_pos f4, if_pos f5, if_pos f6, Option.bind_some, if_pos (by simp; omega), w64 (by omega) (by omega)]
      rfl
    · have := ih (acc ++ [bt hexT (bt s i / 16), bt hexT (Go.bits .and .u8 (bt s i) 15)]) (i + 1) (by omega) (by omega) h2 (by simp; omega)
      rw [hexD, ← List.append_assoc]
      exact this


def uhV (c : Int) : Int := if 48 ≤ c ∧ c ≤ 57 then c - 48 else if 97 ≤ c ∧ c ≤ 102 then c - 87 else -1


theorem uh_fin : ∀ n : Fin 256, impl_digit.f 20 (n.val : Int) = some (uhV n.val) := by
  decide +kernel

theorem uh_digit (s : ByteArray) (i : Int) : Ev (fun k => impl_digit.f k (bt s i)) (uhV (bt s i)) := by
  obtain ⟨n, hn⟩ := bt_fin s i
  rw [hn]
  exact Ev.of (impl_digit.mono _) (uh_fin n)

def uhR (s : ByteArray) : Nat → List Int → Int → ByteArray × Bool
  | 0, acc, _ => (strOfNums acc, true)
  | d + 1, acc, i => if uhV (bt s i) < 0 then ((⟨#[]⟩ : ByteArray), false) else if uhV (bt s (i + 1)) < 0 then ((⟨#[]⟩ : ByteArray), false) else
      uhR s d (acc ++ [(wrap64 ((wrap64 (16 * uhV (bt s i))) + uhV (bt s (i + 1)))) % 256]) (i + 2)


theorem uh_impl (s : ByteArray) (d : Nat) : ∀ (acc : List Int) (i : Int), 0 ≤ i → i + 2 * d = s.size → s.size ≤ 40000 → acc.length + d ≤ 40000 →
    Ev (fun k => impl_Unhex.l0 k s acc i) (uhR s d acc i) := by
  induction d with
  | zero =>
    intro acc i h0 h1 h2 h3
    refine Ev.step (fun k => by rw [impl_Unhex.l0, if_neg (by omega)]) ?_
    exact Ev.now _
  | succ d ih =>
    intro acc i h0 h1 h2 h3
    refine Ev.step (fun k => by rw [impl_Unhex.l0, if_pos (by omega), if_pos h0, w64 (by omega) (by omega)]) ?_
    refine Ev.bind (uh_digit s i) ?_
    refine Ev.congr (fun k => by rw [if_pos (by omega), if_pos (by omega)]) ?_
    refine Ev.bind (uh_digit s (i + 1)) ?_
    rw [uhR]
    by_cases c1 : uhV (bt s i) < 0
    · simp only [c1, if_true]; exact Ev.now _
    · by_cases c2 : uhV (bt s (i + 1)) < 0
      · simp only [c1, c2, if_true, if_false]; exact Ev.now _
      · simp only [c1, c2, if_false]
        refine Ev.congr (fun k => by rw [if_pos (by omega), w64 (x := i + 2) (by omega) (by omega)]) ?_
        exact ih _ _ (by omega) (by omega) h2 (by simp; omega)


theorem both_fin : ∀ n : Fin 256, uhV (bt hexT ((n.val : Int) / 16)) = (n.val : Int) / 16 ∧ uhV (bt hexT (Go.bits .and .u8 (n.val : Int) 15)) = (n.val : Int) % 16 ∧
    0 ≤ bt hexT ((n.val : Int) / 16) ∧ bt hexT ((n.val : Int) / 16) < 256 ∧ 0 ≤ bt hexT (Go.bits .and .u8 (n.val : Int) 15) ∧ bt hexT (Go.bits .and .u8 (n.val : Int) 15) < 256 := by
  decide +kernel

theorem hexD_length (s : ByteArray) : ∀ (d : Nat) (i : Int), (hexD s d i).length = 2 * d
  | 0, _ => rfl
  | d + 1, i => by
    rw [hexD, List.length_append, hexD_length s d (i + 1)]
    simp
    omega

theorem hexD_at (s : ByteArray) : ∀ (d : Nat) (i : Int) (m : Nat), m < d → (hexD s d i).getD (2 * m) 0 = bt hexT (bt s (i + m) / 16) ∧ (hexD s d i).getD (2 * m + 1) 0 = bt hexT (Go.bits .and .u8 (bt s (i + m)) 15)
  | 0, _, m, h => by omega
  | d + 1, i, 0, _ => by
    rw [hexD]
    simp
  | d + 1, i, m + 1, h => by
    have ih := hexD_at s d (i + 1) m (by omega)
    have e : i + 1 + (m : Int) = i + ((m + 1 : Nat) : Int) := by omega
    rw [e] at ih
    rw [hexD, show 2 * (m + 1) = 2 * m + 2 by omega, show 2 * m + 2 + 1 = 2 * m + 1 + 2 by omega]
    simp only [List.cons_append, List.nil_append, List.getD_cons_succ]
    exact ih

/-- the bytes of s from i on, d of them -/
def bts (s : ByteArray) : Nat → Int → List Int
  | 0, _ => []
  | d + 1, i => bt s i :: bts s d (i + 1)

theorem nn1 (v : Nat) : ¬ ((v : Int) / 16 < 0) := by omega
theorem nn2 (v : Nat) : ¬ ((v : Int) % 16 < 0) := by omega
theorem nib {v : Nat} (h : v < 256) : wrap64 (wrap64 (16 * ((v : Int) / 16)) + (v : Int) % 16) % 256 = (v : Int) := by
  rw [w64 (x := 16 * ((v : Int) / 16)) (by omega) (by omega), w64 (by omega) (by omega)]
  omega
theorem two1 (j : Nat) : ((2 * j : Nat) : Int) + 1 = ((2 * j + 1 : Nat) : Int) := by omega
theorem two2 (j : Nat) : ((2 * j : Nat) : Int) + 2 = ((2 * (j + 1) : Nat) : Int) := by omega
theorem jd {j d n : Nat} (h : j + (d + 1) = n) : j + 1 + d = n := by omega
theorem suc (j : Nat) : ((j + 1 : Nat) : Int) = (j : Int) + 1 := by omega

theorem back (s h : ByteArray) (n : Nat) (hh : h = strOfNums (hexD s n 0)) : ∀ (d j : Nat) (acc : List Int), j + d = n → uhR h d acc ((2 * j : Nat) : Int) = (strOfNums (acc ++ bts s d (j : Int)), true)
  | 0, j, acc, _ => by rw [uhR, bts, List.append_nil]
  | d + 1, j, acc, hj => by
    obtain ⟨a1, a2⟩ := hexD_at s n 0 j (by omega)
    rw [Int.zero_add] at a1 a2
    obtain ⟨v, hv⟩ := bt_fin s (j : Int)
    obtain ⟨f1, f2, f3, f4, f5, f6⟩ := both_fin v
    have hl := hexD_length s n 0
    have b1 : bt h ((2 * j : Nat) : Int) = bt hexT (bt s (j : Int) / 16) := by
      rw [hh, strNums_bt _ (2 * j) (by omega) (by rw [a1, hv]; exact f3) (by rw [a1, hv]; exact f4), a1]
    have b2 : bt h (((2 * j : Nat) : Int) + 1) = bt hexT (Go.bits .and .u8 (bt s (j : Int)) 15) := by
      rw [two1, hh, strNums_bt _ (2 * j + 1) (by omega) (by rw [a2, hv]; exact f5) (by rw [a2, hv]; exact f6), a2]
    rw [uhR, b1, b2, hv, f1, f2, if_neg (nn1 _), if_neg (nn2 _), nib v.isLt, two2, back s h n hh d (j + 1) _ (jd hj), bts, hv, List.append_assoc, suc]
    rfl

theorem bts_str (s : ByteArray) : strOfNums (bts s s.size 0) = s := by
  have key : ∀ (d i : Nat), i + d = s.size → (bts s d (i : Int)).map (fun n => UInt8.ofNat n.toNat) = s.data.toList.drop i := by
    intro d
    induction d with
    | zero =>
      intro i hi
      rw [List.drop_eq_nil_of_le (by rw [len]; omega)]
      rfl
    | succ d ih =>
      intro i hi
      obtain ⟨b, hb, hbt⟩ := bt_get s i (by omega)
      have h1 : i < s.data.toList.length := by rw [len]; omega
      rw [List.getElem?_eq_getElem h1] at hb
      rw [bts, List.map_cons, List.drop_eq_getElem_cons h1, Option.some.inj hb, hbt]
      have e3 : (i : Int) + 1 = ((i + 1 : Nat) : Int) := by omega
      rw [e3, ih (i + 1) (by omega), Int.toNat_natCast]
      congr 1
      simp
  have h0 := key s.size 0 (by omega)
  unfold strOfNums
  rw [show ((0 : Int)) = ((0 : Nat) : Int) from rfl, h0]
  simp

theorem hexed (s : ByteArray) (hs : s.size ≤ 20000) : ∃ h : ByteArray, h.size = 2 * s.size ∧ Ev (fun k => impl_Hex.f k s) (h, true) ∧ Ev (fun k => impl_Unhex.f k h) (s, true) := by
  refine ⟨strOfNums (hexD s s.size 0), by rw [strOfNums_size, hexD_length], ?_, ?_⟩
  · refine Ev.congr (fun k => by unfold impl_Hex.f; rw [if_neg (by omega)]) ?_
    exact hex_impl s s.size [] 0 (by omega) (by omega) hs (by simp; omega)
  · have hz : (strOfNums (hexD s s.size 0)).size = 2 * s.size := by rw [strOfNums_size, hexD_length]
    refine Ev.congr (fun k => by unfold impl_Unhex.f; rw [if_pos (by omega)]) (Ev.step (fun k => by rw [impl_Unhex.j0, if_neg (by rw [decide_eq_true_eq]; omega)]) ?_)
    have h1 := uh_impl (strOfNums (hexD s s.size 0)) s.size [] 0 (by omega) (by omega) (by omega) (by simp; omega)
    have h2 := back s _ s.size rfl s.size 0 [] (by omega)
    rw [show ((2 * 0 : Nat) : Int) = 0 from rfl] at h2
    rw [h2] at h1
    rw [List.nil_append] at h1
    have h3 := bts_str s
    rw [h3] at h1
    exact h1

theorem dec_ev (n : Nat) (hn : n ≤ 1000000000) : Ev (fun k => impl_Decimal.f k (n : Int)) ⟨(Lib.itoa (n : Int)).toArray⟩ := by
  refine Ev.of (k := 41) (impl_Decimal.mono _) ?_
  unfold impl_Decimal.f
  rw [MDecimal.decimal (n : Int) (by omega) (by omega)]
  rfl
theorem read_ev (n : Nat) (hn : n ≤ 1000000000) : Ev (fun k => impl_ReadDecimal.f k ⟨(Lib.itoa (n : Int)).toArray⟩) ((n : Int), true) := by
  obtain ⟨r, hf, hr⟩ := MReadDecimal.spec ⟨(Lib.itoa (n : Int)).toArray⟩
  have hr2 : Is (Lib.itoa (n : Int)) ((n : Int), true) := Or.inl ⟨n, hn, rfl, rfl⟩
  rw [show (⟨(Lib.itoa (n : Int)).toArray⟩ : ByteArray).data.toList = Lib.itoa (n : Int) from rfl] at hr
  obtain rfl := Is.unique hr hr2
  refine Ev.of (k := 60) (impl_ReadDecimal.mono _) ?_
  unfold impl_ReadDecimal.f
  rw [hf]
  rfl

theorem brought (a b c : Int) (hb : 0 ≤ b) (hc : 0 ≤ c) : ∃ x, mx (-b) (mn a c) = x ∧ -b ≤ x ∧ x ≤ c ∧ mx (-b) (mn x c) = x := by
  refine ⟨_, rfl, ?_⟩
  unfold mx mn
  repeat' split
  all_goals omega

theorem num {a b : Int} (a0 : 0 ≤ a) (a1 : a < 10000) (b0 : 0 ≤ b) (b1 : b < 10000) : ∃ n : Nat, wrap64 (wrap64 (a * 10000) + b) = (n : Int) ∧ n ≤ 1000000000 := by
  refine ⟨(a * 10000 + b).toNat, ?_, by omega⟩
  rw [w64 (x := a * 10000) (by omega) (by omega), w64 (by omega) (by omega)]
  omega
theorem szz {a b : Nat} (h : a = 2 * b) (hb : b ≤ 20) : (a : Int) = wrap64 (2 * (b : Int)) := by
  rw [w64 (by omega) (by omega)]
  omega
theorem le4 {a b : Nat} (h : a = b + 2) (hb : b ≤ 10) : a ≤ 20 := by omega
theorem le5 {a : Nat} (hb : a ≤ 20) : a ≤ 20000 := by omega
theorem le6 {b : Nat} (hb : b ≤ 10) : b + 2 ≤ 9223372036854775807 := by omega
theorem itoa_small (n : Nat) (hn : n ≤ 1000000000) : (⟨(Lib.itoa (n : Int)).toArray⟩ : ByteArray).size ≤ 10 := by
  have h10 := len10 hn rfl
  rw [← len]
  exact h10
theorem t5 : (5 : Int) < ((12 : Nat) : Int) := by decide
theorem t6 : (6 : Int) < ((12 : Nat) : Int) := by decide
theorem t7 : (7 : Int) < ((12 : Nat) : Int) := by decide
theorem t0 : (0 : Int) < ((12 : Nat) : Int) := by decide
theorem t1 : (1 : Int) < ((12 : Nat) : Int) := by decide
theorem t2 : (2 : Int) < ((12 : Nat) : Int) := by decide
theorem t3 : (3 : Int) < ((12 : Nat) : Int) := by decide
theorem t4 : (4 : Int) < ((12 : Nat) : Int) := by decide

theorem nat5 {a : Int} (a0 : 0 ≤ a) (a1 : a < 10000) : ∃ n : Nat, a = (n : Int) ∧ n ≤ 1000000000 := ⟨a.toNat, by omega, by omega⟩
theorem neg3 {a : Int} (a0 : 0 ≤ a) (a1 : a < 10000) : wrap64 (-a) = -a := w64 (by omega) (by omega)

end Go.Proofs.YtkaffmlppfppeaaDoor.Fig
