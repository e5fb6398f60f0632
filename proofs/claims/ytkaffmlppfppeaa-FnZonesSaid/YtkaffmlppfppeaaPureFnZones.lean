/- Parking cells are free and belong to their zone, and together they are the parking cells of all zones. -/
import Derived.Test.YtkaffmlppfppeaaPFnZonesx
import Derived.Test.YtkaffmlppfppeaaMBase
import Derived.Test.YtkaffmlppfppeaaMDraw
import Derived.Test.YtkaffmlppfppeaaMGrid
import Derived.Test.YtkaffmlppfppeaaMLists
import Derived.Test.YtkaffmlppfppeaaQFnZonesAll0
namespace Go.Proofs.Ytkaffmlppfppeaa.Pure
open Go.RowKit Go.Proofs.Ytkaffmlppfppeaa.PFnZones Go.Proofs.YtkaffmlppfppeaaW.PrintWords Go.Proofs.YtkaffmlppfppeaaW.PrintLast Go.Proofs.YtkaffmlppfppeaaW.PrintMore Go.Proofs.Ytkaffmlppfppeaa.MBase Go.Proofs.Ytkaffmlppfppeaa.MDraw Go.Proofs.Ytkaffmlppfppeaa.MGrid Go.Proofs.Ytkaffmlppfppeaa.MLists Go.Proofs.Ytkaffmlppfppeaa.QFnZones
set_option linter.unusedVariables false
set_option linter.unusedSimpArgs false

theorem isPark_spec {w h : Int} {c : ByteArray} {z i : Int} (hp : isPark w h c z i = true) : freeAt w h c i = true ∧ parkAt w h c i = true ∧ zoneOf w h c i = z := by
  unfold isPark at hp
  rw [Bool.and_eq_true] at hp
  refine ⟨?_, hp.1, of_decide_eq_true hp.2⟩
  have h1 := hp.1
  unfold parkAt at h1
  simp only [Bool.and_eq_true, decide_eq_true_eq] at h1
  rw [freeAt_iff]
  exact ⟨h1.1, h1.2.1.1, h1.2.1.2, by omega⟩

theorem park_zone {w h : Int} {c : ByteArray} {i : Int} (hp : parkAt w h c i = true) : 0 ≤ zoneOf w h c i ∧ zoneOf w h c i < 6 := by
  unfold parkAt at hp
  simp only [Bool.and_eq_true, decide_eq_true_eq] at hp
  unfold zoneOf
  rw [if_pos ⟨hp.1, hp.2.1.1, hp.2.1.2⟩, if_neg (by omega), if_pos hp.2.2]
  omega

theorem mem_parkL (w h : Int) (c : ByteArray) (z : Int) (d : Nat) : ∀ (i x : Int), x ∈ parkL w h c z d i → i ≤ x ∧ isPark w h c z x = true := by
  induction d with
  | zero => intro i x hx; cases hx
  | succ d ih =>
    intro i x hx
    rw [parkL, List.mem_append] at hx
    rcases hx with hx | hx
    · split at hx
      · rename_i hb
        rw [List.mem_singleton] at hx
        subst hx
        exact ⟨by omega, hb⟩
      · cases hx
    · have := ih _ _ hx
      exact ⟨by omega, this.2⟩

theorem parkL_up (w h : Int) (c : ByteArray) (z : Int) (d : Nat) : ∀ i : Int, (parkL w h c z d i).Pairwise (· < ·) := by
  induction d with
  | zero => intro i; exact List.Pairwise.nil
  | succ d ih =>
    intro i
    rw [parkL, List.pairwise_append]
    refine ⟨by split <;> simp, ih _, fun x hx y hy => ?_⟩
    have := (mem_parkL w h c z d _ _ hy).1
    split at hx
    · rw [List.mem_singleton.1 hx]; omega
    · cases hx

/-- how many of d cells from i on are parking cells -/
def parks (w h : Int) (c : ByteArray) : Nat → Int → Int
  | 0, _ => 0
  | d + 1, i => (if parkAt w h c i = true then 1 else 0) + parks w h c d (i + 1)

theorem parks_bound (w h : Int) (c : ByteArray) (d : Nat) : ∀ i, 0 ≤ parks w h c d i ∧ parks w h c d i ≤ d := by
  induction d with
  | zero => intro i; exact ⟨Int.le_refl _, Int.le_refl _⟩
  | succ d ih => intro i; rw [parks]; have := ih (i + 1); split <;> omega

theorem one_zone (w h : Int) (c : ByteArray) (i : Int) : (if isPark w h c 0 i = true then (1 : Int) else 0) + (if isPark w h c 1 i = true then 1 else 0) + (if isPark w h c 2 i = true then 1 else 0) + (if isPark w h c 3 i = true then 1 else 0) + (if isPark w h c 4 i = true then 1 else 0) + (if isPark w h c 5 i = true then 1 else 0) = if parkAt w h c i = true then 1 else 0 := by
  unfold isPark
  cases hp : parkAt w h c i with
  | false => simp
  | true =>
    obtain ⟨h0, h1⟩ := park_zone hp
    simp only [Bool.true_and, decide_eq_true_eq, if_true]
    generalize zoneOf w h c i = v at h0 h1
    obtain h | h | h | h | h | h : v = 0 ∨ v = 1 ∨ v = 2 ∨ v = 3 ∨ v = 4 ∨ v = 5 := by omega
    all_goals subst h; rfl

theorem parkL_succ (w h : Int) (c : ByteArray) (z : Int) (d : Nat) (i : Int) : ((parkL w h c z (d + 1) i).length : Int) = (if isPark w h c z i = true then 1 else 0) + (parkL w h c z d (i + 1)).length := by
  rw [parkL, List.length_append]
  split <;> simp

theorem zones_sum (w h : Int) (c : ByteArray) (d : Nat) : ∀ i, ((parkL w h c 0 d i).length : Int) + (parkL w h c 1 d i).length + (parkL w h c 2 d i).length + (parkL w h c 3 d i).length + (parkL w h c 4 d i).length + (parkL w h c 5 d i).length = parks w h c d i := by
  induction d with
  | zero => intro i; rfl
  | succ d ih =>
    intro i
    have a := one_zone w h c i
    have b := ih (i + 1)
    rw [parks, ← a, ← b, parkL_succ, parkL_succ, parkL_succ, parkL_succ, parkL_succ, parkL_succ]
    omega

theorem rdN' (xs : List Int) (j : Nat) : rd xs (j : Int) = xs.getD j 0 := by unfold rd; rw [Int.toNat_natCast]

theorem zones_l1 (w h : Int) (c : ByteArray) (n z : Int) (L : List Int) (hL : L.length ≤ 64) (hm : ∀ x, x ∈ L → isPark w h c z x = true) (hu : L.Pairwise (· < ·))
    (next : Ev (fun k => laws_FnZones.l0 k (wrap64 (n + (L.length : Int))) (wrap64 (z + 1)) w h c) true) (d : Nat) : ∀ j : Nat, j + d = L.length → Ev (fun k => laws_FnZones.l1 k n z L j w h c) true := by
  induction d with
  | zero =>
    intro j hj
    exact Ev.step (fun k => by rw [laws_FnZones.l1, if_neg (by omega)]) next
  | succ d ih =>
    intro j hj
    have hw : wrap64 ((j : Int) + 1) = ((j + 1 : Nat) : Int) := by rw [w64 (by omega) (by omega)]; omega
    have hjl : j < L.length := by omega
    obtain ⟨h1, h2, h3⟩ := isPark_spec (hm _ (getD_mem' hjl))
    have hr := ih (j + 1) (by omega)
    refine Ev.step (fun k => by rw [laws_FnZones.l1, if_pos (by omega), if_pos (by omega), rdN']) ?_
    have e1 := iFreeAt w h c (L.getD j 0)
    have e2 := iParkAt w h c (L.getD j 0)
    have e3 := iZoneOf w h c (L.getD j 0)
    rw [h1] at e1
    rw [h2] at e2
    rw [h3] at e3
    refine Ev.bind e1 ?_
    refine Ev.congr (fun k => by rw [if_pos rfl]) (Ev.bind e2 ?_)
    refine Ev.congr (fun k => by rw [if_pos rfl]) (Ev.bind e3 ?_)
    by_cases h0 : j = 0
    · subst h0
      exact Ev.congr (fun k => by rw [if_pos rfl, if_neg (by omega), hw]) hr
    · have hw2 : wrap64 ((j : Int) - 1) = ((j - 1 : Nat) : Int) := by rw [w64 (by omega) (by omega)]; omega
      have hlt : L.getD (j - 1) 0 < L.getD j 0 := by
        have := (List.pairwise_iff_getElem.1 hu) (j - 1) j (by omega) hjl (by omega)
        rw [List.getD_eq_getElem?_getD, List.getD_eq_getElem?_getD, List.getElem?_eq_getElem (show j - 1 < L.length by omega), List.getElem?_eq_getElem hjl]
        exact this
      exact Ev.congr (fun k => by rw [if_pos rfl, if_pos (by omega), hw2, if_pos (by omega), if_pos (by omega), rdN', if_neg (by omega), hw]) hr

theorem zones_l2 (w h : Int) (c : ByteArray) (g : gridOk w h c = true) (n : Int) (d : Nat) : ∀ (j : Nat) (m : Int), j + d = c.size → 0 ≤ m → m ≤ j → n = m + parks w h c d j → Ev (fun k => laws_FnZones.l2 k n m j w h c) true := by
  have hg := (gridOk_size g).2
  induction d with
  | zero =>
    intro j m hj m0 m1 hn
    rw [parks] at hn
    have e := iGridOk w h c
    rw [g] at e
    exact Ev.step (fun k => by rw [laws_FnZones.l2, if_neg (by omega), if_pos (by omega)]) (Ev.bind e (Ev.now _))
  | succ d ih =>
    intro j m hj m0 m1 hn
    have hw : wrap64 ((j : Int) + 1) = ((j + 1 : Nat) : Int) := by rw [w64 (by omega) (by omega)]; omega
    have hwm : wrap64 (m + 1) = m + 1 := w64 (by omega) (by omega)
    have hb := parks_bound w h c d ((j + 1 : Nat) : Int)
    rw [parks, show ((j : Int) + 1) = ((j + 1 : Nat) : Int) by omega] at hn
    refine Ev.step (fun k => by rw [laws_FnZones.l2, if_pos (by omega)]) (Ev.bind (iParkAt w h c j) ?_)
    cases hp : parkAt w h c j with
    | true =>
      rw [hp, if_pos rfl] at hn
      exact Ev.congr (fun k => by rw [if_pos rfl, hw, hwm]) (ih (j + 1) (m + 1) (by omega) (by omega) (by omega) (by omega))
    | false =>
      rw [hp, if_neg (by simp)] at hn
      exact Ev.congr (fun k => by rw [if_neg (by simp), hw]) (ih (j + 1) m (by omega) m0 (by omega) (by omega))

theorem FnZones : laws_FnZones.Pure := by
  intro l hl _ _
  by_cases hbig : (l.length : Int) > 1048576
  · exact ⟨0, by unfold laws_FnZones.f laws_big.f; rw [Option.bind_some, if_pos (decide_eq_true hbig)]⟩
  obtain ⟨w, h, c, g, hdraw⟩ := drawMap_ev l hl
  have hg := (gridOk_size g).2
  refine Ev.rounds (Ev.congr (fun k => by unfold laws_FnZones.f laws_big.f; rw [Option.bind_some, if_neg (by rw [decide_eq_false hbig]; simp)]) (Ev.bind hdraw ?_))
  dsimp only
  have hp : ∀ z, parksIn w h c z = parkL w h c z c.size 0 := fun z => by unfold parksIn; rw [if_pos g]
  have hle : ∀ z, (parkL w h c z c.size 0).length ≤ 64 := fun z => by have := parkL_len w h c z c.size 0; omega
  have hsum := zones_sum w h c c.size 0
  have last : Ev (fun k => laws_FnZones.l0 k (parks w h c c.size 0) 6 w h c) true := by
    have := zones_l2 w h c g (parks w h c c.size 0) c.size 0 0 (Nat.zero_add _) (by omega) (by omega) (by rw [show ((0 : Nat) : Int) = 0 from rfl]; omega)
    rw [show ((0 : Nat) : Int) = 0 from rfl] at this
    exact Ev.step (fun k => by rw [laws_FnZones.l0, if_neg (by omega)]) this
  have round : ∀ n z n' z' : Int, 0 ≤ n → n ≤ 400 → 0 ≤ z → z < 6 → n' = n + (parkL w h c z c.size 0).length → z' = z + 1 → Ev (fun k => laws_FnZones.l0 k n' z' w h c) true → Ev (fun k => laws_FnZones.l0 k n z w h c) true := fun n z n' z' n0 n1 z0 z1 en ez hn => by
    have hlz := hle z
    have e := iParksIn w h c z
    rw [hp] at e
    have hw1 : wrap64 (n + ((parkL w h c z c.size 0).length : Int)) = n' := by rw [w64 (by omega) (by omega)]; omega
    have hw2 : wrap64 (z + 1) = z' := by rw [w64 (by omega) (by omega)]; omega
    have := zones_l1 w h c n z (parkL w h c z c.size 0) hlz (fun x hx => (mem_parkL w h c z c.size 0 x hx).2) (parkL_up w h c z c.size 0) (by rw [hw1, hw2]; exact hn) (parkL w h c z c.size 0).length 0 (Nat.zero_add _)
    rw [show ((0 : Nat) : Int) = 0 from rfl] at this
    exact Ev.step (fun k => by rw [laws_FnZones.l0, if_pos z1]) (Ev.bind e this)
  have a0 := hle 0
  have a1 := hle 1
  have a2 := hle 2
  have a3 := hle 3
  have a4 := hle 4
  have a5 := hle 5
  refine round 0 0 _ 1 (by omega) (by omega) (by omega) (by omega) rfl (by omega) ?_
  refine round _ 1 _ 2 (by omega) (by omega) (by omega) (by omega) rfl (by omega) ?_
  refine round _ 2 _ 3 (by omega) (by omega) (by omega) (by omega) rfl (by omega) ?_
  refine round _ 3 _ 4 (by omega) (by omega) (by omega) (by omega) rfl (by omega) ?_
  refine round _ 4 _ 5 (by omega) (by omega) (by omega) (by omega) rfl (by omega) ?_
  refine round _ 5 _ 6 (by omega) (by omega) (by omega) (by omega) rfl (by omega) ?_
  rw [show (0 : Int) + (parkL w h c 0 c.size 0).length + (parkL w h c 1 c.size 0).length + (parkL w h c 2 c.size 0).length + (parkL w h c 3 c.size 0).length + (parkL w h c 4 c.size 0).length + (parkL w h c 5 c.size 0).length = parks w h c c.size 0 by omega]
  exact last

end Go.Proofs.Ytkaffmlppfppeaa.Pure
