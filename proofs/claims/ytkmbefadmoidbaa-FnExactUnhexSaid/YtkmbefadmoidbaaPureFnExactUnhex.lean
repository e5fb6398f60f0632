/- The program's Unhex returns what the reference's returns, for all arguments. -/
import Derived.Test.YtkmbefadmoidbaaPFnExactUnhexx
import Derived.Test.YtkmbefadmoidbaaMBase
namespace Go.Proofs.Ytkmbefadmoidbaa.Pure
open Go.RowKit Go.Proofs.Ytkmbefadmoidbaa.PFnExactUnhex Go.Proofs.YtkmbefadmoidbaaW.PrintWords Go.Proofs.YtkmbefadmoidbaaW.PrintLast Go.Proofs.YtkmbefadmoidbaaW.PrintMore Go.Proofs.Ytkmbefadmoidbaa.MBase

def uhV (c : Int) : Int := if 48 ≤ c ∧ c ≤ 57 then c - 48 else if 97 ≤ c ∧ c ≤ 102 then c - 87 else -1

theorem uh_fin : ∀ n : Fin 256, spec_l01Value.f 2 (n.val : Int) = some (uhV n.val) ∧ impl_digit.f 20 (n.val : Int) = some (uhV n.val) := by
  decide +kernel

theorem uh_value (s : ByteArray) (i : Int) : Ev (fun k => spec_l01Value.f k (bt s i)) (uhV (bt s i)) := by
  obtain ⟨n, hn⟩ := bt_fin s i
  rw [hn]
  exact Ev.of (spec_l01Value.mono _) (uh_fin n).1

theorem uh_digit (s : ByteArray) (i : Int) : Ev (fun k => impl_digit.f k (bt s i)) (uhV (bt s i)) := by
  obtain ⟨n, hn⟩ := bt_fin s i
  rw [hn]
  exact Ev.of (impl_digit.mono _) (uh_fin n).2

def uhR (s : ByteArray) : Nat → List Int → Int → ByteArray × Bool
  | 0, acc, _ => (strOfNums acc, true)
  | d + 1, acc, i => if uhV (bt s i) < 0 then ((⟨#[]⟩ : ByteArray), false) else if uhV (bt s (i + 1)) < 0 then ((⟨#[]⟩ : ByteArray), false) else
      uhR s d (acc ++ [(wrap64 ((wrap64 (16 * uhV (bt s i))) + uhV (bt s (i + 1)))) % 256]) (i + 2)

theorem uh_spec (s : ByteArray) (d : Nat) : ∀ (acc : List Int) (i : Int), 0 ≤ i → i + 2 * d = s.size → s.size ≤ 40000 → acc.length + d ≤ 40000 →
    Ev (fun k => spec_Unhex.l0 k s acc i) (uhR s d acc i) := by
  induction d with
  | zero =>
    intro acc i h0 h1 h2 h3
    refine Ev.step (fun k => by rw [spec_Unhex.l0, if_neg (by omega)]) ?_
    exact Ev.now _
  | succ d ih =>
    intro acc i h0 h1 h2 h3
    refine Ev.step (fun k => by rw [spec_Unhex.l0, if_pos (by omega), if_pos h0, w64 (by omega) (by omega)]) ?_
    refine Ev.bind (uh_value s i) ?_
    refine Ev.congr (fun k => by rw [if_pos (by omega), if_pos (by omega)]) ?_
    refine Ev.bind (uh_value s (i + 1)) ?_
    rw [uhR]
    by_cases c1 : uhV (bt s i) < 0
    · simp only [c1, if_true]; exact Ev.now _
    · by_cases c2 : uhV (bt s (i + 1)) < 0
      · simp only [c1, c2, if_true, if_false]; exact Ev.now _
      · simp only [c1, c2, if_false]
        refine Ev.congr (fun k => by rw [if_pos (by omega), w64 (x := i + 2) (by omega) (by omega)]) ?_
        exact ih _ _ (by omega) (by omega) h2 (by simp; omega)

theorem uh_impl (s : ByteArray) (d : Nat) : ∀ (acc : List Int) (i : Int), 0 ≤ i → i + 2 * d = s.size → s.size ≤ 40000 → acc.length + d ≤ 40000 →
    Ev (fun k => impl_Unhex.l0 k s acc i) (uhR s d acc i) := by
  induction d with
  | zero =>
    intro acc i h0 h1 h2 h3
    refine Ev.step (fun k => by rw [impl_Unhex.l0, if_neg (by omega)]) ?_
    exact Ev.now _
  | succ d ih =>
    intro acc i h0 h1 h2 h3
    refine Ev.step (fun k => by rw [impl_Unhex.l0, if_pos (by omega), if_pos h0, w64 (by omega) (by omega)]) ?_
    refine Ev.bind (uh_digit s i) ?_
    refine Ev.congr (fun k => by rw [if_pos (by omega), if_pos (by omega)]) ?_
    refine Ev.bind (uh_digit s (i + 1)) ?_
    rw [uhR]
    by_cases c1 : uhV (bt s i) < 0
    · simp only [c1, if_true]; exact Ev.now _
    · by_cases c2 : uhV (bt s (i + 1)) < 0
      · simp only [c1, c2, if_true, if_false]; exact Ev.now _
      · simp only [c1, c2, if_false]
        refine Ev.congr (fun k => by rw [if_pos (by omega), w64 (x := i + 2) (by omega) (by omega)]) ?_
        exact ih _ _ (by omega) (by omega) h2 (by simp; omega)

theorem FnExactUnhex : laws_FnExactUnhex.Pure := by
  intro s _
  by_cases hb : (s.size : Int) > 1048576
  · exact ⟨0, by unfold laws_FnExactUnhex.f; rw [if_pos hb]⟩
  refine Ev.rounds (Ev.congr (fun k => by unfold laws_FnExactUnhex.f; rw [if_neg hb]) ?_)
  obtain ⟨r, h1, h2⟩ : ∃ r, Ev (fun k => spec_Unhex.f k s) r ∧ Ev (fun k => impl_Unhex.f k s) r := by
    by_cases hm : (s.size : Int) > 40000
    · refine ⟨((⟨#[]⟩ : ByteArray), false), Ev.congr (fun k => by unfold spec_Unhex.f; rw [if_pos hm]) (Ev.step (fun k => by rw [spec_Unhex.j0, if_pos rfl]) (Ev.now _)), ?_⟩
      by_cases hp : (s.size : Int) % 2 = 0
      · exact Ev.congr (fun k => by unfold impl_Unhex.f; rw [if_pos hp]) (Ev.step (fun k => by rw [impl_Unhex.j0, if_pos (decide_eq_true hm)]) (Ev.now _))
      · exact Ev.congr (fun k => by unfold impl_Unhex.f; rw [if_neg hp]) (Ev.step (fun k => by rw [impl_Unhex.j0, if_pos rfl]) (Ev.now _))
    · by_cases hp : (s.size : Int) % 2 = 0
      · obtain ⟨d, hd⟩ : ∃ d : Nat, (2 * d : Int) = s.size := ⟨s.size / 2, by omega⟩
        refine ⟨uhR s d [] 0, ?_, ?_⟩
        · refine Ev.congr (fun k => by unfold spec_Unhex.f; rw [if_neg hm]) (Ev.step (fun k => by rw [spec_Unhex.j0, if_neg (by simpa using hp)]) ?_)
          exact uh_spec s d [] 0 (by omega) (by omega) (by omega) (by simp; omega)
        · refine Ev.congr (fun k => by unfold impl_Unhex.f; rw [if_pos hp]) (Ev.step (fun k => by rw [impl_Unhex.j0, if_neg (by simpa using hm)]) ?_)
          exact uh_impl s d [] 0 (by omega) (by omega) (by omega) (by simp; omega)
      · refine ⟨((⟨#[]⟩ : ByteArray), false), ?_, ?_⟩
        · exact Ev.congr (fun k => by unfold spec_Unhex.f; rw [if_neg hm]) (Ev.step (fun k => by rw [spec_Unhex.j0, if_pos (by simpa using hp)]) (Ev.now _))
        · exact Ev.congr (fun k => by unfold impl_Unhex.f; rw [if_neg hp]) (Ev.step (fun k => by rw [impl_Unhex.j0, if_pos rfl]) (Ev.now _))
  refine Ev.bind h1 (Ev.bind h2 ?_)
  simp only [if_true, bne_self_eq_false, Bool.false_eq_true, if_false]
  exact Ev.now _
end Go.Proofs.Ytkmbefadmoidbaa.Pure
