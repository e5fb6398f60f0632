/- What the functions that the law FnExactPartsOf reaches compute: StringS. -/
import Derived.Test.YtkmbefadmoidbaaPFnExactPartsOfx
import Derived.Test.YtkmbefadmoidbaaMBase
import Derived.Test.YtkmbefadmoidbaaMMarks
namespace Go.Proofs.Ytkmbefadmoidbaa.QFnExactPartsOf
open Go.RowKit Go.Proofs.Ytkmbefadmoidbaa.PFnExactPartsOf Go.Proofs.YtkmbefadmoidbaaW.PrintWords Go.Proofs.YtkmbefadmoidbaaW.PrintLast Go.Proofs.YtkmbefadmoidbaaW.PrintMore Go.Proofs.Ytkmbefadmoidbaa.MBase Go.Proofs.Ytkmbefadmoidbaa.MMarks
set_option linter.unusedVariables false
set_option linter.unusedSimpArgs false

/-! eqStringS, markStringS and heldStringS: equal lists are found equal, and marks that were set are found; lists of fewer than 2^40 elements. -/

theorem eqStringS_l0 (xs : List ByteArray) (hx : xs.length < 1099511627776) (d : Nat) : ∀ i : Int, 0 ≤ i → i + d = xs.length → Ev (fun k => laws_eqStringS.l0 k xs xs i) true := by
  induction d with
  | zero => intro i h0 h; exact Ev.step (fun k => by rw [laws_eqStringS.l0, if_neg (by omega)]) (Ev.now _)
  | succ d ih =>
    intro i h0 h
    refine Ev.step (fun k => by rw [laws_eqStringS.l0, if_pos (by omega), if_pos h0, if_pos (by omega), if_pos rfl, w64 (by omega) (by omega)]) (ih (i + 1) (by omega) (by omega))

theorem eqStringS_same (xs : List ByteArray) (hx : xs.length < 1099511627776) : Ev (fun k => laws_eqStringS.f k xs xs) true := by
  refine Ev.congr (fun k => by unfold laws_eqStringS.f; rw [if_pos rfl]) ?_
  exact eqStringS_l0 xs hx xs.length 0 (by omega) (by omega)

theorem markText_l0 (j : Nat) : ∀ (m : Int) (acc : ByteArray), 0 ≤ m → m < 10 ^ j → m ≤ 1000000000000000000 → acc.size + j ≤ 1000 → ∃ r, Ev (fun k => laws_markText.l0 k m acc) r := by
  induction j with
  | zero =>
    intro m acc h0 h1 h3 h2
    have : m = 0 := by simp at h1; omega
    subst this
    exact ⟨_, Ev.step (fun k => by rw [laws_markText.l0, if_neg (by omega), if_pos (by omega)]) (Ev.now _)⟩
  | succ j ih =>
    intro m acc h0 h1 h3 h2
    by_cases hm : m > 0
    · have hd : Int.tdiv m 10 = m / 10 := by rw [Int.tdiv_eq_ediv_of_nonneg h0]
      have hlt : m / 10 < 10 ^ j := by
        rw [Int.pow_succ] at h1
        omega
      have hsz : ∀ x : Int, (strOfNums [x]).size = 1 := fun x => rfl
      obtain ⟨r, hr⟩ := ih (m / 10) (strOfNums [(wrap64 (48 + (Int.tmod m 10))) % 256] ++ acc) (by omega) hlt (by omega) (by rw [ByteArray.size_append, hsz]; omega)
      exact ⟨r, Ev.step (fun k => by rw [laws_markText.l0, if_pos hm, Option.bind_some, if_pos (by rw [hsz]; omega), hd, w64 (x := m / 10) (by omega) (by omega)]) hr⟩
    · exact ⟨_, Ev.step (fun k => by rw [laws_markText.l0, if_neg hm, if_pos (by omega)]) (Ev.now _)⟩

theorem markText_any (m : Int) (h0 : 0 ≤ m) (h1 : m ≤ 4000000000000) : ∃ r, Ev (fun k => laws_markText.f k m) r := by
  by_cases h : m ≤ 0
  · exact ⟨_, Ev.congr (fun k => by unfold laws_markText.f; rw [if_pos h]) (Ev.now _)⟩
  · obtain ⟨r, hr⟩ := markText_l0 19 m (⟨#[]⟩ : ByteArray) h0 (by omega) (by omega) (by decide)
    exact ⟨r, Ev.congr (fun k => by unfold laws_markText.f; rw [if_neg h]) hr⟩

noncomputable def mtext (m : Int) : ByteArray := @dite _ (∃ r, Ev (fun k => laws_markText.f k m) r) (Classical.propDecidable _) (fun h => Classical.choose h) (fun _ => ByteArray.empty)
theorem mtext_ev (m : Int) (h0 : 0 ≤ m) (h1 : m ≤ 4000000000000) : Ev (fun k => laws_markText.f k m) (mtext m) := by
  have h := markText_any m h0 h1
  unfold mtext
  rw [dif_pos h]
  exact Classical.choose_spec h

theorem markStringS_l0 (d : Nat) : ∀ (xs : List ByteArray) (m i : Int), xs.length < 1099511627776 → 0 ≤ i → 0 ≤ m → m + d ≤ 4000000000000 → i + d = xs.length → Ev (fun k => laws_markStringS.l0 k xs m i) (m + d, markL mtext d xs m i) := by
  induction d with
  | zero =>
    intro xs m i hx h0 h1 h2 h
    refine Ev.step (fun k => by rw [laws_markStringS.l0, if_neg (by omega)]) ?_
    simp only [markL]
    have : m + ((0 : Nat) : Int) = m := by omega
    rw [this]
    exact Ev.now _
  | succ d ih =>
    intro xs m i hx h0 h1 h2 h
    refine Ev.step (fun k => by rw [laws_markStringS.l0, if_pos (by omega)]) (Ev.bind (mtext_ev m h1 (by omega)) (Ev.congr (fun k => by rw [if_pos h0, w64 (by omega) (by omega), w64 (by omega) (by omega)]) ?_))
    have := ih (xs.set i.toNat (mtext m)) (m + 1) (i + 1) (by simpa using hx) (by omega) (by omega) (by omega) (by simp; omega)
    rw [show m + 1 + (d : Int) = m + ((d + 1 : Nat) : Int) by omega] at this
    exact this

theorem heldStringS_l0 (ys : List ByteArray) (d : Nat) : ∀ (m i : Int), ys.length < 1099511627776 → 0 ≤ i → 0 ≤ m → m + d ≤ 4000000000000 → i + d = ys.length → Marked mtext ByteArray.empty ys m i d → Ev (fun k => laws_heldStringS.l0 k ys m i) (m + d) := by
  induction d with
  | zero =>
    intro m i hx h0 h1 h2 h _
    refine Ev.step (fun k => by rw [laws_heldStringS.l0, if_neg (by omega)]) ?_
    have : m + ((0 : Nat) : Int) = m := by omega
    rw [this]
    exact Ev.now _
  | succ d ih =>
    intro m i hx h0 h1 h2 h hm
    refine Ev.step (fun k => by rw [laws_heldStringS.l0, if_pos (by omega), if_pos h0]) (Ev.bind (mtext_ev m h1 (by omega)) (Ev.congr (fun k => by rw [if_pos (show (rdOf ByteArray.empty ys i).toList = (mtext m).toList from by rw [show rdOf ByteArray.empty ys i = mtext m from hm.head]), w64 (by omega) (by omega), w64 (by omega) (by omega)]) ?_))
    have := ih (m + 1) (i + 1) hx (by omega) (by omega) (by omega) (by omega) (hm.tail h0)
    rw [show m + 1 + (d : Int) = m + ((d + 1 : Nat) : Int) by omega] at this
    exact this

/-- A list is marked from 1 on, and the marks are found. -/
theorem marks_string (xs : List ByteArray) (hx : xs.length < 1099511627776) (m : Int) (hm0 : 0 ≤ m) (hm : m ≤ 1000000000000) :
    ∃ ys : List ByteArray, ys.length = xs.length ∧ Ev (fun k => laws_markStringS.f k xs m) (m + xs.length, ys) ∧ Ev (fun k => laws_heldStringS.f k ys m) (m + xs.length) := by
  refine ⟨markL mtext xs.length xs m 0, markL_length _ _ _ _ _, ?_, ?_⟩
  · exact markStringS_l0 xs.length xs m 0 hx (by omega) hm0 (by omega) (by omega)
  · have hl := markL_length mtext xs.length xs m 0
    exact heldStringS_l0 _ xs.length m 0 (by omega) (by omega) hm0 (by omega) (by omega) (markL_marked _ _ _ _ _ _ (by omega) (by omega))

end Go.Proofs.Ytkmbefadmoidbaa.QFnExactPartsOf
