/- The program's PartsOf returns what the reference's returns, for all arguments. -/
import Derived.Test.YtkmbefadmoidbaaPFnExactPartsOfx
import Derived.Test.YtkmbefadmoidbaaMBase
import Derived.Test.YtkmbefadmoidbaaMMarks
import Derived.Test.YtkmbefadmoidbaaQFnExactPartsOfAll0
namespace Go.Proofs.Ytkmbefadmoidbaa.Pure
open Go.RowKit Go.Proofs.Ytkmbefadmoidbaa.PFnExactPartsOf Go.Proofs.YtkmbefadmoidbaaW.PrintWords Go.Proofs.YtkmbefadmoidbaaW.PrintLast Go.Proofs.YtkmbefadmoidbaaW.PrintMore Go.Proofs.Ytkmbefadmoidbaa.MBase Go.Proofs.Ytkmbefadmoidbaa.MMarks Go.Proofs.Ytkmbefadmoidbaa.QFnExactPartsOf
set_option linter.unusedVariables false
set_option linter.unusedSimpArgs false

theorem parts_same (k : Nat) :
    (∀ s acc f i, spec_PartsOf.l0 k s acc f i = impl_PartsOf.l0 k s acc f i) ∧
    (∀ s acc f i b, spec_PartsOf.j1 k s acc f i b = impl_PartsOf.j1 k s acc f i b) ∧
    (∀ s acc f i b, spec_PartsOf.j2 k s acc f i b = impl_PartsOf.j2 k s acc f i b) := by
  induction k with
  | zero => exact ⟨fun _ _ _ _ => by rw [spec_PartsOf.l0, impl_PartsOf.l0], fun _ _ _ _ _ => by rw [spec_PartsOf.j1, impl_PartsOf.j1], fun _ _ _ _ _ => by rw [spec_PartsOf.j2, impl_PartsOf.j2]⟩
  | succ k ih =>
    obtain ⟨ih0, ih1, ih2⟩ := ih
    refine ⟨fun s acc f i => ?_, fun s acc f i b => ?_, fun s acc f i b => ?_⟩
    · rw [spec_PartsOf.l0, impl_PartsOf.l0]
      simp only [ih1]
    · rw [spec_PartsOf.j1, impl_PartsOf.j1]
      simp only [ih2]
    · rw [spec_PartsOf.j2, impl_PartsOf.j2]
      simp only [ih0, gt_iff_lt]

theorem parts_f_same (k : Nat) (s : ByteArray) : spec_PartsOf.f k s = impl_PartsOf.f k s := by
  unfold spec_PartsOf.f impl_PartsOf.f
  simp only [Option.bind_some, (parts_same k).1]

theorem parts_ends (s : ByteArray) (hs : s.size ≤ 600) (d : Nat) : ∀ (acc : List ByteArray) (f i : Int), 0 ≤ f → f ≤ i → i + d = (s.size : Int) + 1 → acc.length + d ≤ 601 →
    ∃ r : List ByteArray × Bool, Ev (fun k => impl_PartsOf.l0 k s acc f i) r ∧ r.1.length ≤ 601 := by
  induction d with
  | zero =>
    intro acc f i h0 h1 h2 h3
    by_cases c : (acc.length : Int) > 12
    · exact ⟨([], false), Ev.step (fun k => by rw [impl_PartsOf.l0, if_neg (by omega), if_pos c]) (Ev.now _), by simp⟩
    · exact ⟨(acc, true), Ev.step (fun k => by rw [impl_PartsOf.l0, if_neg (by omega), if_neg c]) (Ev.now _), by simp; omega⟩
  | succ d ih =>
    intro acc f i h0 h1 h2 h3
    -- the second half of a round
    have half2 : ∀ b : Bool, ∃ r : List ByteArray × Bool, Ev (fun k => impl_PartsOf.j2 k s acc f i b) r ∧ r.1.length ≤ 601 := by
      intro b
      cases b with
      | true =>
        obtain ⟨r, hr, hl⟩ := ih acc f (i + 1) h0 (by omega) (by omega) (by omega)
        exact ⟨r, Ev.step (fun k => by rw [impl_PartsOf.j2, if_pos rfl, w64 (by omega) (by omega)]) hr, hl⟩
      | false =>
        by_cases c : i > f
        · obtain ⟨r, hr, hl⟩ := ih (acc ++ [s.extract f.toNat i.toNat]) (i + 1) (i + 1) (by omega) (by omega) (by omega) (by simp; omega)
          exact ⟨r, Ev.step (fun k => by rw [impl_PartsOf.j2, if_neg (by simp), if_pos c, if_pos h0, if_pos h1, if_pos (by omega), if_pos (by omega), w64 (by omega) (by omega)]) hr, hl⟩
        · obtain ⟨r, hr, hl⟩ := ih acc (i + 1) (i + 1) (by omega) (by omega) (by omega) (by omega)
          exact ⟨r, Ev.step (fun k => by rw [impl_PartsOf.j2, if_neg (by simp), if_neg c, w64 (by omega) (by omega)]) hr, hl⟩
    have half1 : ∀ b : Bool, ∃ r : List ByteArray × Bool, Ev (fun k => impl_PartsOf.j1 k s acc f i b) r ∧ r.1.length ≤ 601 := by
      intro b
      cases b with
      | true => exact ⟨([], false), Ev.step (fun k => by rw [impl_PartsOf.j1, if_pos rfl]) (Ev.now _), by simp⟩
      | false =>
        by_cases c : i < (s.size : Int)
        · obtain ⟨r, hr, hl⟩ := half2 ((bt s i) != 32)
          exact ⟨r, Ev.step (fun k => by rw [impl_PartsOf.j1, if_neg (by simp), if_pos c, if_pos (by omega)]) hr, hl⟩
        · obtain ⟨r, hr, hl⟩ := half2 false
          exact ⟨r, Ev.step (fun k => by rw [impl_PartsOf.j1, if_neg (by simp), if_neg c]) hr, hl⟩
    by_cases c : i < (s.size : Int)
    · by_cases c2 : bt s i < 32
      · obtain ⟨r, hr, hl⟩ := half1 true
        exact ⟨r, Ev.step (fun k => by rw [impl_PartsOf.l0, if_pos (by omega), if_pos c, if_pos (by omega), if_pos c2]) hr, hl⟩
      · obtain ⟨r, hr, hl⟩ := half1 (decide ((bt s i) > 126))
        exact ⟨r, Ev.step (fun k => by rw [impl_PartsOf.l0, if_pos (by omega), if_pos c, if_pos (by omega), if_neg c2]) hr, hl⟩
    · obtain ⟨r, hr, hl⟩ := half1 false
      exact ⟨r, Ev.step (fun k => by rw [impl_PartsOf.l0, if_pos (by omega), if_neg c]) hr, hl⟩

theorem parts_f (s : ByteArray) : ∃ r : List ByteArray × Bool, Ev (fun k => impl_PartsOf.f k s) r ∧ r.1.length ≤ 601 := by
  by_cases c : (s.size : Int) > 600
  · exact ⟨([], false), Ev.congr (fun k => by unfold impl_PartsOf.f; rw [if_pos c]) (Ev.now _), by simp⟩
  · obtain ⟨r, hr, hl⟩ := parts_ends s (by omega) (s.size + 1) [] 0 0 (by omega) (by omega) (by omega) (by simp; omega)
    exact ⟨r, Ev.congr (fun k => by unfold impl_PartsOf.f; rw [if_neg c]) hr, hl⟩

theorem FnExactPartsOf : laws_FnExactPartsOf.Pure := by
  intro s _
  by_cases hb : (s.size : Int) > 1048576
  · exact ⟨0, by unfold laws_FnExactPartsOf.f; rw [if_pos hb]⟩
  refine Ev.rounds (Ev.congr (fun k => by unfold laws_FnExactPartsOf.f; rw [if_neg hb]) ?_)
  obtain ⟨⟨xs, b⟩, hr, hl⟩ := parts_f s
  have hl : xs.length ≤ 601 := hl
  have hs : Ev (fun k => spec_PartsOf.f k s) (xs, b) := Ev.congr (fun k => parts_f_same k s) hr
  refine Ev.bind hs (Ev.bind hr (Ev.bind (eqStringS_same xs (by omega)) ?_))
  refine Ev.congr (fun k => by rw [if_pos rfl, bne_self_eq_false]) ?_
  obtain ⟨ys, hy, hmark, hheld⟩ := marks_string xs (by omega) 1 (by omega) (by omega)
  have hq : ¬ ((1 : Int) + xs.length < 0) := by omega
  refine Ev.step (fun k => by rw [laws_FnExactPartsOf.j0, if_neg (by simp)]) (Ev.bind hmark (Ev.bind hheld ?_))
  refine Ev.congr (fun k => by rw [if_neg hq, if_pos rfl]) (Ev.bind hr (Ev.bind (eqStringS_same xs (by omega)) ?_))
  refine Ev.congr (fun k => by rw [if_pos rfl, bne_self_eq_false]) ?_
  refine Ev.step (fun k => by rw [laws_FnExactPartsOf.j1, if_neg (by simp)]) (Ev.bind hheld ?_)
  exact Ev.congr (fun k => by rw [if_neg hq, if_pos rfl]) (Ev.now _)

end Go.Proofs.Ytkmbefadmoidbaa.Pure
