/- What the functions that the law FnExactHomes reaches compute: HomesSI, EqIntS, MarkIntS. -/
import Derived.Test.YtpmieegflolflaaPFnExactHomesx
import Derived.Test.YtpmieegflolflaaMBase
import Derived.Test.YtpmieegflolflaaMGrid
import Derived.Test.YtpmieegflolflaaMLists
import Derived.Test.YtpmieegflolflaaMSteps
import Derived.Test.YtpmieegflolflaaMScan
import Derived.Test.YtpmieegflolflaaMMarks
import Derived.Test.YtpmieegflolflaaQFnExactHomesAll0
import Derived.Test.YtpmieegflolflaaQFnExactHomesAll1
namespace Go.Proofs.Ytpmieegflolflaa.QFnExactHomes
open Go.RowKit Go.Proofs.Ytpmieegflolflaa.PFnExactHomes Go.Proofs.YtpmieegflolflaaW.PrintWords Go.Proofs.YtpmieegflolflaaW.PrintLast Go.Proofs.YtpmieegflolflaaW.PrintMore Go.Proofs.Ytpmieegflolflaa.MBase Go.Proofs.Ytpmieegflolflaa.MGrid Go.Proofs.Ytpmieegflolflaa.MLists Go.Proofs.Ytpmieegflolflaa.MSteps Go.Proofs.Ytpmieegflolflaa.MScan Go.Proofs.Ytpmieegflolflaa.MMarks
set_option linter.unusedVariables false
set_option linter.unusedSimpArgs false

/-! spec.Homes and impl.Homes, side by side -/
theorem both_home (w h : Int) (c : ByteArray) (a : Int) : ∃ v, Ev (fun k => spec_HomeOf.f k w h c a) v ∧ Ev (fun k => impl_HomeOf.f k w h c a) v := by
  obtain ⟨v, h1, hv⟩ := sHomeOf w h c a
  obtain ⟨u, h2, hu⟩ := iHomeOf w h c a
  obtain rfl : u = v := hu.unique hv
  exact ⟨u, h1, h2⟩

theorem homes_l0 (w h : Int) (c : ByteArray) (L : List Int) (hL : L.length ≤ 1048576) (m : Nat) : ∀ (i : Nat) (acc : List Int), i + m = L.length → acc.length ≤ i → ∃ r : List Int, r.length ≤ L.length ∧ Ev (fun k => spec_Homes.l0 k acc L i w h c) r ∧ Ev (fun k => impl_Homes.l0 k acc L (L.length : Int) i w h c) r := by
  induction m with
  | zero =>
    intro i acc hi ha
    exact ⟨acc, by omega, Ev.step (f := fun _ => some acc) (fun k => by rw [spec_Homes.l0, if_neg (by omega)]) (Ev.now _), Ev.step (f := fun _ => some acc) (fun k => by rw [impl_Homes.l0, if_neg (by omega)]) (Ev.now _)⟩
  | succ m ih =>
    intro i acc hi ha
    have hw3 : wrap64 ((i : Int) + 1) = ((i + 1 : Nat) : Int) := by rw [w64 (by omega) (by omega)]; omega
    obtain ⟨v, hs, hi2⟩ := both_home w h c (rd L (i : Int))
    by_cases hv : v = rd L (i : Int)
    · obtain ⟨r, hr, r1, r2⟩ := ih (i + 1) (acc ++ [rd L (i : Int)]) (by omega) (by simp; omega)
      exact ⟨r, hr, Ev.step (fun k => by rw [spec_Homes.l0, if_pos (by omega), if_pos (by omega)]) (Ev.bind hs (Ev.congr (fun k => by rw [if_pos hv, if_pos (by omega), hw3]) r1)), Ev.step (fun k => by rw [impl_Homes.l0, if_pos (by omega), if_pos (by omega), if_pos (by omega)]) (Ev.bind hi2 (Ev.congr (fun k => by rw [if_pos hv, if_pos (by omega), hw3]) r2))⟩
    · obtain ⟨r, hr, r1, r2⟩ := ih (i + 1) acc (by omega) (by omega)
      exact ⟨r, hr, Ev.step (fun k => by rw [spec_Homes.l0, if_pos (by omega), if_pos (by omega)]) (Ev.bind hs (Ev.congr (fun k => by rw [if_neg hv, hw3]) r1)), Ev.step (fun k => by rw [impl_Homes.l0, if_pos (by omega), if_pos (by omega), if_pos (by omega)]) (Ev.bind hi2 (Ev.congr (fun k => by rw [if_neg hv, hw3]) r2))⟩

/-! eqIntS: a list equals itself -/
theorem eqIntS_l0 (xs : List Int) (hx : xs.length < 1099511627776) (d : Nat) : ∀ i : Int, 0 ≤ i → i + d = xs.length → Ev (fun k => laws_eqIntS.l0 k xs xs i) true := by
  induction d with
  | zero => intro i h0 h; exact Ev.step (fun k => by rw [laws_eqIntS.l0, if_neg (by omega)]) (Ev.now _)
  | succ d ih =>
    intro i h0 h
    refine Ev.step (fun k => by rw [laws_eqIntS.l0, if_pos (by omega), if_pos h0, if_pos (by omega), if_pos rfl, w64 (by omega) (by omega)]) (ih (i + 1) (by omega) (by omega))

theorem eqIntS_same (xs : List Int) (hx : xs.length < 1099511627776) : Ev (fun k => laws_eqIntS.f k xs xs) true := by
  refine Ev.congr (fun k => by unfold laws_eqIntS.f; rw [if_pos rfl]) ?_
  exact eqIntS_l0 xs hx xs.length 0 (by omega) (by omega)

/-! markIntS and heldIntS: marks that were set are found; lists of fewer than 2^40 elements -/
theorem markIntS_l0 (d : Nat) : ∀ (xs : List Int) (m i : Int), xs.length < 1099511627776 → 0 ≤ i → 0 ≤ m → m + d ≤ 4000000000000 → i + d = xs.length → Ev (fun k => laws_markIntS.l0 k xs m i) (m + d, markL (fun x => x) d xs m i) := by
  induction d with
  | zero =>
    intro xs m i hx h0 h1 h2 h
    refine Ev.step (fun k => by rw [laws_markIntS.l0, if_neg (by omega)]) ?_
    simp only [markL]
    have : m + ((0 : Nat) : Int) = m := by omega
    rw [this]
    exact Ev.now _
  | succ d ih =>
    intro xs m i hx h0 h1 h2 h
    refine Ev.step (fun k => by rw [laws_markIntS.l0, if_pos (by omega), if_pos h0, w64 (by omega) (by omega), w64 (by omega) (by omega)]) ?_
    have := ih (xs.set i.toNat m) (m + 1) (i + 1) (by simpa using hx) (by omega) (by omega) (by omega) (by simp; omega)
    rw [show m + 1 + (d : Int) = m + ((d + 1 : Nat) : Int) by omega] at this
    exact this

theorem heldIntS_l0 (ys : List Int) (d : Nat) : ∀ (m i : Int), ys.length < 1099511627776 → 0 ≤ i → 0 ≤ m → m + d ≤ 4000000000000 → i + d = ys.length → Marked (fun x => x) 0 ys m i d → Ev (fun k => laws_heldIntS.l0 k ys m i) (m + d) := by
  induction d with
  | zero =>
    intro m i hx h0 h1 h2 h _
    refine Ev.step (fun k => by rw [laws_heldIntS.l0, if_neg (by omega)]) ?_
    have : m + ((0 : Nat) : Int) = m := by omega
    rw [this]
    exact Ev.now _
  | succ d ih =>
    intro m i hx h0 h1 h2 h hm
    refine Ev.step (fun k => by rw [laws_heldIntS.l0, if_pos (by omega), if_pos h0, if_pos (show rd ys i = m from hm.head), w64 (by omega) (by omega), w64 (by omega) (by omega)]) ?_
    have := ih (m + 1) (i + 1) hx (by omega) (by omega) (by omega) (by omega) (hm.tail h0)
    rw [show m + 1 + (d : Int) = m + ((d + 1 : Nat) : Int) by omega] at this
    exact this

/-- A list is marked from 1 on, and the marks are found. -/
theorem marks_int (xs : List Int) (hx : xs.length < 1099511627776) (m : Int) (hm0 : 0 ≤ m) (hm : m ≤ 1000000000000) :
    ∃ ys : List Int, ys.length = xs.length ∧ Ev (fun k => laws_markIntS.f k xs m) (m + xs.length, ys) ∧ Ev (fun k => laws_heldIntS.f k ys m) (m + xs.length) := by
  refine ⟨markL (fun x => x) xs.length xs m 0, markL_length _ _ _ _ _, ?_, ?_⟩
  · exact markIntS_l0 xs.length xs m 0 hx (by omega) hm0 (by omega) (by omega)
  · have hl := markL_length (fun x : Int => x) xs.length xs m 0
    exact heldIntS_l0 _ xs.length m 0 (by omega) (by omega) hm0 (by omega) (by omega) (markL_marked _ _ _ _ _ _ (by omega) (by omega))

end Go.Proofs.Ytpmieegflolflaa.QFnExactHomes
