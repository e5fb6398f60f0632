/- The program's Hex returns what the reference's returns, for all arguments. -/
import Derived.Test.YtkmbefadmoidbaaPFnExactHexx
import Derived.Test.YtkmbefadmoidbaaMBase
namespace Go.Proofs.Ytkmbefadmoidbaa.Pure
open Go.RowKit Go.Proofs.Ytkmbefadmoidbaa.PFnExactHex Go.Proofs.YtkmbefadmoidbaaW.PrintWords Go.Proofs.YtkmbefadmoidbaaW.PrintLast Go.Proofs.YtkmbefadmoidbaaW.PrintMore Go.Proofs.Ytkmbefadmoidbaa.MBase

def hexT : ByteArray := ⟨#[48, 49, 50, 51, 52, 53, 54, 55, 56, 57, 97, 98, 99, 100, 101, 102]⟩

theorem hex_fin : ∀ n : Fin 256,
    spec_l01Figure.f (wrap64 (Int.tdiv (wrap64 (n.val : Int)) 16)) = some (bt hexT ((n.val : Int) / 16)) ∧
    spec_l01Figure.f (Int.tmod (wrap64 (n.val : Int)) 16) = some (bt hexT (Go.bits .and .u8 (n.val : Int) 15)) ∧
    0 ≤ (n.val : Int) / 16 ∧ (n.val : Int) / 16 < 16 ∧ 0 ≤ Go.bits .and .u8 (n.val : Int) 15 ∧ Go.bits .and .u8 (n.val : Int) 15 < 16 := by
  decide +kernel

/-- the digits of the bytes from i on -/
def hexD (s : ByteArray) : Nat → Int → List Int
  | 0, _ => []
  | d + 1, i => [bt hexT (bt s i / 16), bt hexT (Go.bits .and .u8 (bt s i) 15)] ++ hexD s d (i + 1)

theorem hex_spec (s : ByteArray) (d : Nat) : ∀ (acc : List Int) (i : Int), 0 ≤ i → i + d = s.size → s.size ≤ 20000 → acc.length + 2 * d ≤ 40000 →
    Ev (fun k => spec_Hex.l0 k s acc i) (strOfNums (acc ++ hexD s d i), true) := by
  induction d with
  | zero =>
    intro acc i h0 h1 h2 h3
    refine Ev.step (fun k => by rw [spec_Hex.l0, if_neg (by omega)]) ?_
    rw [hexD, List.append_nil]
    exact Ev.now _
  | succ d ih =>
    intro acc i h0 h1 h2 h3
    obtain ⟨n, hn⟩ := bt_fin s i
    obtain ⟨f1, f2, f3, f4, f5, f6⟩ := hex_fin n
    refine Ev.step (f := fun k => spec_Hex.l0 k s (acc ++ [bt hexT (bt s i / 16), bt hexT (Go.bits .and .u8 (bt s i) 15)]) (i + 1)) (fun k => ?_) ?_
    · rw [spec_Hex.l0, if_pos (by omega), if_pos h0, hn, f1, Option.bind_some, f2, Option.bind_some, Option.bind_some, if_pos (by simp; omega), w64 (by omega) (by omega)]
    · have := ih (acc ++ [bt hexT (bt s i / 16), bt hexT (Go.bits .and .u8 (bt s i) 15)]) (i + 1) (by omega) (by omega) h2 (by simp; omega)
      rw [hexD, ← List.append_assoc]
      exact this

theorem hex_impl (s : ByteArray) (d : Nat) : ∀ (acc : List Int) (i : Int), 0 ≤ i → i + d = s.size → s.size ≤ 20000 → acc.length + 2 * d ≤ 40000 →
    Ev (fun k => impl_Hex.l0 k s acc i) (strOfNums (acc ++ hexD s d i), true) := by
  induction d with
  | zero =>
    intro acc i h0 h1 h2 h3
    refine Ev.step (fun k => by rw [impl_Hex.l0, if_neg (by omega)]) ?_
    rw [hexD, List.append_nil]
    exact Ev.now _
  | succ d ih =>
    intro acc i h0 h1 h2 h3
    obtain ⟨n, hn⟩ := bt_fin s i
    obtain ⟨f1, f2, f3, f4, f5, f6⟩ := hex_fin n
    refine Ev.step (f := fun k => impl_Hex.l0 k s (acc ++ [bt hexT (bt s i / 16), bt hexT (Go.bits .and .u8 (bt s i) 15)]) (i + 1)) (fun k => ?_) ?_
    · rw [impl_Hex.l0, if_pos (by omega), if_pos h0, hn, if_pos f3, if_pos f4, if_pos f5, if_pos f6, Option.bind_some, if_pos (by simp; omega), w64 (by omega) (by omega)]
      rfl
    · have := ih (acc ++ [bt hexT (bt s i / 16), bt hexT (Go.bits .and .u8 (bt s i) 15)]) (i + 1) (by omega) (by omega) h2 (by simp; omega)
      rw [hexD, ← List.append_assoc]
      exact this

theorem FnExactHex : laws_FnExactHex.Pure := by
  intro s _
  by_cases hb : (s.size : Int) > 1048576
  · exact ⟨0, by unfold laws_FnExactHex.f; rw [if_pos hb]⟩
  refine Ev.rounds (Ev.congr (fun k => by unfold laws_FnExactHex.f; rw [if_neg hb]) ?_)
  obtain ⟨r, h1, h2⟩ : ∃ r, Ev (fun k => spec_Hex.f k s) r ∧ Ev (fun k => impl_Hex.f k s) r := by
    by_cases hm : (s.size : Int) > 20000
    · exact ⟨_, Ev.of_eq fun k => by unfold spec_Hex.f; rw [if_pos hm], Ev.of_eq fun k => by unfold impl_Hex.f; rw [if_pos hm]⟩
    · refine ⟨_, Ev.congr (fun k => by unfold spec_Hex.f; rw [if_neg hm]) (hex_spec s s.size [] 0 (by omega) (by omega) (by omega) (by simp; omega)), Ev.congr (fun k => by unfold impl_Hex.f; rw [if_neg hm]) (hex_impl s s.size [] 0 (by omega) (by omega) (by omega) (by simp; omega))⟩
  refine Ev.bind h1 (Ev.bind h2 ?_)
  simp only [if_true, bne_self_eq_false, Bool.false_eq_true, if_false]
  exact Ev.now _
end Go.Proofs.Ytkmbefadmoidbaa.Pure
