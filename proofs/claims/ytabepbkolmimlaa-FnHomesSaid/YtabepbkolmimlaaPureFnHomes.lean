/- Two free cells belong to the same component exactly if one can be reached from the other, and each cell is counted in one component. -/
import Derived.Test.YtabepbkolmimlaaPFnHomesx
import Derived.Test.YtabepbkolmimlaaMBase
import Derived.Test.YtabepbkolmimlaaMDraw
import Derived.Test.YtabepbkolmimlaaMGrid
import Derived.Test.YtabepbkolmimlaaMLists
import Derived.Test.YtabepbkolmimlaaMSteps
import Derived.Test.YtabepbkolmimlaaMScan
import Derived.Test.YtabepbkolmimlaaQFnHomesAll0
import Derived.Test.YtabepbkolmimlaaQFnHomesAll1
namespace Go.Proofs.Ytabepbkolmimlaa.Pure
open Go.RowKit Go.Proofs.Ytabepbkolmimlaa.PFnHomes Go.Proofs.YtabepbkolmimlaaW.PrintWords Go.Proofs.YtabepbkolmimlaaW.PrintLast Go.Proofs.YtabepbkolmimlaaW.PrintMore Go.Proofs.Ytabepbkolmimlaa.MBase Go.Proofs.Ytabepbkolmimlaa.MDraw Go.Proofs.Ytabepbkolmimlaa.MGrid Go.Proofs.Ytabepbkolmimlaa.MLists Go.Proofs.Ytabepbkolmimlaa.MSteps Go.Proofs.Ytabepbkolmimlaa.MScan Go.Proofs.Ytabepbkolmimlaa.QFnHomes
set_option linter.unusedVariables false
set_option linter.unusedSimpArgs false

theorem mem_homesL {w h : Int} {c : ByteArray} {v : Int} : v ∈ homesL w h c ↔ freeAt w h c v = true ∧ hm w h c v = v := by
  unfold homesL
  rw [List.mem_filter, mem_freeCells, decide_eq_true_iff]

theorem homesL_nodup (w h : Int) (c : ByteArray) : (homesL w h c).Nodup := by
  unfold homesL
  exact (List.Pairwise.imp (fun h => Int.ne_of_lt h) (freeCells_up w h c)).filter _

theorem homes_tot {w h : Int} {c : ByteArray} {l : List Int} (hf : ∀ z, z ∈ l → freeAt w h c z = true) : tot w h c l (homesL w h c) = l.length := by
  rw [tot_eq w h c l _ (homesL_nodup w h c), List.countP_eq_length.2]
  intro z hz
  have fz := hf z hz
  have h0 := hm_nonneg fz
  have hi := hm_is w h c z
  have fv := (home_free hi h0).2.1
  exact decide_eq_true (mem_homesL.2 ⟨fv, (hm_is w h c _).unique (home_home hi h0)⟩)

theorem homes_l2 (w h : Int) (c : ByteArray) (l : List Int) (hl : l.length ≤ 64) (hf : ∀ z, z ∈ l → freeAt w h c z = true) (n : Int) (i : Nat) (hi : i < l.length) (next : Ev (fun k => laws_FnHomes.l1 k l n (wrap64 ((i : Int) + 1)) w h c) true) (m : Nat) : ∀ j : Nat, j + m = l.length → Ev (fun k => laws_FnHomes.l2 k l n i j w h c) true := by
  induction m with
  | zero =>
    intro j hj
    exact Ev.step (fun k => by rw [laws_FnHomes.l2, if_neg (by omega)]) next
  | succ m ih =>
    intro j hj
    have hw : wrap64 ((j : Int) + 1) = ((j + 1 : Nat) : Int) := by rw [w64 (by omega) (by omega)]; omega
    have ei : rd l (i : Int) = l.getD i 0 := by unfold rd; rw [Int.toNat_natCast]
    have ej : rd l (j : Int) = l.getD j 0 := by unfold rd; rw [Int.toNat_natCast]
    have fa := hf _ (getD_mem' hi)
    have fb := hf _ (getD_mem' (xs := l) (j := j) (by omega))
    generalize l.getD i 0 = a at *
    generalize l.getD j 0 = b at *
    obtain ⟨s, hs, hS⟩ := iStepsTo w h c a b
    refine Ev.step (fun k => by rw [laws_FnHomes.l2, if_pos (by omega), if_pos (by omega), if_pos (by omega), ei, ej]) (Ev.bind (iHome_ev w h c a) ?_)
    refine Ev.congr (fun k => by rw [if_pos (by omega)]) (Ev.bind (iHome_ev w h c b) ?_)
    refine Ev.bind hs ?_
    obtain ⟨r, hr, er⟩ : ∃ r, Answer w h c [a] r ∧ s = rd r b := by
      rcases hS with ⟨e, _⟩ | ⟨_, _, hr⟩
      · exact absurd ⟨fa, fb⟩ e
      · exact hr
    have hsame := home_same fa fb hr
    rw [← er] at hsame
    have eb : ((hm w h c a == hm w h c b) != (decide (s ≥ 0))) = false := by
      by_cases q : hm w h c a = hm w h c b
      · rw [beq_iff_eq.2 q, decide_eq_true (hsame.1 q)]; rfl
      · rw [beq_eq_false_iff_ne.2 q, decide_eq_false (fun hh => q (hsame.2 hh))]; rfl
    exact Ev.congr (fun k => by rw [eb, if_neg (by simp), hw]) (ih (j + 1) (by omega))

theorem homes_l1 (w h : Int) (c : ByteArray) (g : gridOk w h c = true) (l : List Int) (hl : l.length ≤ 64) (hf : ∀ z, z ∈ l → freeAt w h c z = true) (m : Nat) : ∀ i : Nat, i + m = l.length → Ev (fun k => laws_FnHomes.l1 k l (l.length : Int) i w h c) true := by
  have cap : ([] : List Int).length + l.length < 17592186044416 := by rw [List.length_nil]; omega
  induction m with
  | zero =>
    intro i hi
    have e1 := iEnough_true w h c g l l (by omega) (by omega) hf hf (enough_same w h c l (by omega))
    have e2 := iEnough_true w h c g l [] (by omega) (by simp) hf (fun z hz => by cases hz) (enough_nil w h c l (by omega))
    refine Ev.step (fun k => by rw [laws_FnHomes.l1, if_neg (by omega), if_pos rfl, Option.bind_some, if_pos cap, Option.bind_some, if_pos cap, List.nil_append]) (Ev.bind e1 ?_)
    refine Ev.congr (fun k => by rw [if_pos rfl, Option.bind_some, if_pos cap, List.nil_append]) (Ev.bind e2 (Ev.now _))
  | succ m ih =>
    intro i hi
    have hw : wrap64 ((i : Int) + 1) = ((i + 1 : Nat) : Int) := by rw [w64 (by omega) (by omega)]; omega
    have h2 := homes_l2 w h c l hl hf (l.length : Int) i (by omega) (by rw [hw]; exact ih (i + 1) (by omega)) l.length 0 (Nat.zero_add _)
    rw [show ((0 : Nat) : Int) = 0 from rfl] at h2
    exact Ev.step (fun k => by rw [laws_FnHomes.l1, if_pos (by omega)]) h2

theorem homes_l0 (w h : Int) (c : ByteArray) (l H : List Int) (hl : l.length ≤ 64) (hH : H.length ≤ 64) (hf : ∀ z, z ∈ l → freeAt w h c z = true) (hh : ∀ v, v ∈ H → freeAt w h c v = true ∧ hm w h c v = v) (T : Int) (next : Ev (fun k => laws_FnHomes.l1 k l T 0 w h c) true) (m : Nat) : ∀ (j : Nat) (n : Int), j + m = H.length → 0 ≤ n → n ≤ 64 * j → n + tot w h c l (H.drop j) = T → Ev (fun k => laws_FnHomes.l0 k l H n j w h c) true := by
  have cap : ([] : List Int).length + l.length < 17592186044416 := by rw [List.length_nil]; omega
  induction m with
  | zero =>
    intro j n hj n0 n1 hT
    rw [List.drop_eq_nil_of_le (by omega), tot, Int.add_zero] at hT
    rw [hT]
    exact Ev.step (fun k => by rw [laws_FnHomes.l0, if_neg (by omega)]) next
  | succ m ih =>
    intro j n hj n0 n1 hT
    have hw : wrap64 ((j : Int) + 1) = ((j + 1 : Nat) : Int) := by rw [w64 (by omega) (by omega)]; omega
    have ej : rd H (j : Int) = H.getD j 0 := by unfold rd; rw [Int.toNat_natCast]
    obtain ⟨fv, ev⟩ := hh _ (getD_mem' (xs := H) (j := j) (by omega))
    rw [drop_cons H j 0 (by omega), tot] at hT
    generalize H.getD j 0 = v at *
    have h0 : 0 ≤ v := by have := hm_nonneg fv; omega
    have hc := iCount_ev w h c v l (by omega) hf ev h0
    have hcl := List.countP_le_length (p := fun z => decide (hm w h c z = v)) (l := l)
    generalize l.countP (fun z => decide (hm w h c z = v)) = q at *
    have hw2 : wrap64 (n + (q : Int)) = n + q := by clear hw; exact w64 (by omega) (by omega)
    refine Ev.step (fun k => by rw [laws_FnHomes.l0, if_pos (by omega), if_pos (by omega), ej]) (Ev.bind (iHome_ev w h c v) ?_)
    refine Ev.congr (fun k => by rw [if_pos ev, Option.bind_some, if_pos cap, List.nil_append]) (Ev.bind hc ?_)
    exact Ev.congr (fun k => by rw [hw2, hw]) (ih (j + 1) (n + q) (by clear hw hw2; omega) (by clear hw hw2; omega) (by clear hw hw2; omega) (by clear hw hw2; omega))

theorem FnHomes : laws_FnHomes.Pure := by
  intro b hb _ _
  by_cases hbig : (b.length : Int) > 1048576
  · exact ⟨0, by unfold laws_FnHomes.f laws_big.f; rw [Option.bind_some, if_pos (decide_eq_true hbig)]⟩
  obtain ⟨w, h, c, l, g, hl, hf, _, hdraw⟩ := drawSome_ev b hb
  refine Ev.rounds (Ev.congr (fun k => by unfold laws_FnHomes.f laws_big.f; rw [Option.bind_some, if_neg (by rw [decide_eq_false hbig]; simp)]) (Ev.bind hdraw ?_))
  dsimp only
  refine Ev.bind (iHomes_ev w h c) ?_
  have hH : (homesL w h c).length ≤ 64 := by
    have a := freeCells_len w h c
    have b := List.length_filter_le (fun z => decide (hm w h c z = z)) (freeCells w h c)
    unfold homesL
    omega
  have h1 := homes_l1 w h c g l hl hf l.length 0 (Nat.zero_add _)
  rw [show ((0 : Nat) : Int) = 0 from rfl] at h1
  have h0 := homes_l0 w h c l (homesL w h c) hl hH hf (fun v hv => mem_homesL.1 hv) (l.length : Int) h1 (homesL w h c).length 0 0 (Nat.zero_add _) (by omega) (by omega) (by rw [List.drop_zero, homes_tot hf]; omega)
  rw [show ((0 : Nat) : Int) = 0 from rfl] at h0
  exact h0

end Go.Proofs.Ytabepbkolmimlaa.Pure
