/- Distances are symmetric and satisfy the triangle inequality, and a shortest path has this length and consists of steps to adjacent cells. -/
import Derived.Test.YtabepbkolmimlaaPFnStepsx
import Derived.Test.YtabepbkolmimlaaMBase
import Derived.Test.YtabepbkolmimlaaMDraw
import Derived.Test.YtabepbkolmimlaaMGrid
import Derived.Test.YtabepbkolmimlaaMLists
import Derived.Test.YtabepbkolmimlaaMSteps
import Derived.Test.YtabepbkolmimlaaMScan
import Derived.Test.YtabepbkolmimlaaQFnStepsAll0
import Derived.Test.YtabepbkolmimlaaQFnStepsAll1
namespace Go.Proofs.Ytabepbkolmimlaa.Pure
open Go.RowKit Go.Proofs.Ytabepbkolmimlaa.PFnSteps Go.Proofs.YtabepbkolmimlaaW.PrintWords Go.Proofs.YtabepbkolmimlaaW.PrintLast Go.Proofs.YtabepbkolmimlaaW.PrintMore Go.Proofs.Ytabepbkolmimlaa.MBase Go.Proofs.Ytabepbkolmimlaa.MDraw Go.Proofs.Ytabepbkolmimlaa.MGrid Go.Proofs.Ytabepbkolmimlaa.MLists Go.Proofs.Ytabepbkolmimlaa.MSteps Go.Proofs.Ytabepbkolmimlaa.MScan Go.Proofs.Ytabepbkolmimlaa.QFnSteps
set_option linter.unusedVariables false
set_option linter.unusedSimpArgs false

theorem walk_get {A : Int → List Int} {b : Int} (p : List Int) : ∀ a, WalkTo A a p b → (a :: p).getD p.length 0 = b ∧ ∀ j : Nat, j < p.length → (a :: p).getD (j + 1) 0 ∈ A ((a :: p).getD j 0) := by
  induction p with
  | nil => intro a h; exact ⟨h, fun j hj => absurd hj (by simp)⟩
  | cons y p ih =>
    intro a h
    obtain ⟨h1, h2⟩ := ih y h.2
    refine ⟨h1, fun j hj => ?_⟩
    cases j with
    | zero => exact h.1
    | succ j => exact h2 j (by simp at hj; omega)

theorem steps_l0 (w h : Int) (cs : ByteArray) (a b c n y : Int) (W : List Int) (hW : W.length ≤ 200) (h0 : 0 < W.length → W.getD 0 0 = a) (hn : ∀ j : Nat, j < W.length → (j : Int) = n → W.getD j 0 = b) (hst : ∀ j : Nat, 0 < j → j < W.length → W.getD j 0 ∈ around w h cs (W.getD (j - 1) 0) ∧ (Lit.int .i64 (W.getD (j - 1) 0)).wf = true)
    (last : Ev (fun k => laws_FnSteps.l0 k a b c n y W (W.length : Int) w h cs) true) (m : Nat) : ∀ j : Nat, j + m = W.length → Ev (fun k => laws_FnSteps.l0 k a b c n y W j w h cs) true := by
  induction m with
  | zero => intro j hj; obtain rfl : j = W.length := by omega
            exact last
  | succ m ih =>
    intro j hj
    have next := ih (j + 1) (by omega)
    have hw3 : wrap64 ((j : Int) + 1) = ((j + 1 : Nat) : Int) := by rw [w64 (by omega) (by omega)]; omega
    by_cases e0 : j = 0
    · subst e0
      have ea := h0 (by omega)
      by_cases en : ((0 : Nat) : Int) = n
      · exact Ev.step (fun k => by rw [laws_FnSteps.l0, if_pos (by omega), if_pos (show ((0 : Nat) : Int) = 0 from rfl), if_pos (by omega), if_pos (by rw [rdN]; exact ea), if_pos en, if_pos (by rw [rdN]; exact hn 0 (by omega) en), if_neg (by omega), hw3]) next
      · exact Ev.step (fun k => by rw [laws_FnSteps.l0, if_pos (by omega), if_pos (show ((0 : Nat) : Int) = 0 from rfl), if_pos (by omega), if_pos (by rw [rdN]; exact ea), if_neg en, if_neg (by omega), hw3]) next
    · have hw4 : wrap64 ((j : Int) - 1) = ((j - 1 : Nat) : Int) := by rw [w64 (by omega) (by omega)]; omega
      obtain ⟨hm, hf⟩ := hst j (by omega) (by omega)
      have hb := iBeside w h cs (W.getD (j - 1) 0) (W.getD j 0) hf
      rw [show (around w h cs (W.getD (j - 1) 0)).contains (W.getD j 0) = true from List.contains_iff_mem.2 hm] at hb
      by_cases en : (j : Int) = n
      · exact Ev.step (fun k => by rw [laws_FnSteps.l0, if_pos (by omega), if_neg (by omega), if_pos en, if_pos (by omega), if_pos (by rw [rdN]; exact hn j (by omega) en), if_pos (by omega), hw4, if_pos (by omega), if_pos (by omega), rdN W j, rdN W (j - 1)]) (Ev.bind hb (Ev.congr (fun k => by rw [if_pos rfl, hw3]) next))
      · exact Ev.step (fun k => by rw [laws_FnSteps.l0, if_pos (by omega), if_neg (by omega), if_neg en, if_pos (by omega), hw4, if_pos (by omega), if_pos (by omega), if_pos (by omega), rdN W j, rdN W (j - 1)]) (Ev.bind hb (Ev.congr (fun k => by rw [if_pos rfl, hw3]) next))

theorem cell_wf {n : Nat} {x : Int} (hn : n ≤ 64) (hx : Cell n x) : (Lit.int .i64 x).wf = true := by
  have h0 := hx.1
  have h1 := hx.2
  have h := wrap64_wf x
  rw [w64 (by omega) (by omega)] at h
  exact h

theorem FnSteps : laws_FnSteps.Pure := by
  intro l hl _ _
  by_cases hbig : (l.length : Int) > 1048576
  · exact ⟨0, by unfold laws_FnSteps.f laws_big.f; rw [Option.bind_some, if_pos (decide_eq_true hbig)]⟩
  obtain ⟨w, h, cs, L, g, hL, hfree, _, hdraw⟩ := drawSome_ev l hl
  obtain ⟨p, hp, hpr, hplaces⟩ := places_ev l hl
  have hg := (gridOk_size g).2
  refine Ev.rounds (Ev.congr (fun k => by unfold laws_FnSteps.f laws_big.f; rw [Option.bind_some, if_neg (by rw [decide_eq_false hbig]; simp)]) (Ev.bind hdraw ?_))
  dsimp only
  by_cases h3 : (L.length : Int) < 3
  · exact Ev.of_eq fun k => by rw [if_pos h3]
  refine Ev.congr (fun k => by rw [if_neg h3]) (Ev.bind hplaces ?_)
  have t0 := tmod_lt (hpr 0 (by omega)).1 (show 0 < (L.length : Int) by omega)
  have t1 := tmod_lt (hpr 1 (by omega)).1 (show 0 < (L.length : Int) by omega)
  have t2 := tmod_lt (hpr 2 (by omega)).1 (show 0 < (L.length : Int) by omega)
  rw [show ((0 : Nat) : Int) = 0 from rfl] at t0
  rw [show ((1 : Nat) : Int) = 1 from rfl] at t1
  rw [show ((2 : Nat) : Int) = 2 from rfl] at t2
  have free : ∀ i : Int, 0 ≤ i → i < L.length → freeAt w h cs (rd L i) = true := fun i i0 i1 => hfree _ (getD_mem' (xs := L) (j := i.toNat) (by omega))
  have fa := free _ t0.1 t0.2
  have fb := free _ t1.1 t1.2
  have fc := free _ t2.1 t2.2
  refine Ev.congr (fun k => by rw [if_pos (by omega), if_neg (by omega), if_pos t0.1, if_pos t0.2, if_pos (by omega), if_pos t1.1, if_pos t1.2, if_pos (by omega), if_pos t2.1, if_pos t2.2]) ?_
  generalize rd L (Int.tmod (rd p 0) (L.length : Int)) = a at *
  generalize rd L (Int.tmod (rd p 1) (L.length : Int)) = b at *
  generalize rd L (Int.tmod (rd p 2) (L.length : Int)) = c at *
  clear t0 t1 t2 free hpr hplaces hdraw hfree
  obtain ⟨n, en, sn⟩ := iStepsTo w h cs a b
  obtain ⟨x, ex, sx⟩ := iStepsTo w h cs a c
  obtain ⟨y, ey, sy⟩ := iStepsTo w h cs c b
  obtain ⟨W, eW, sW⟩ := iWayTo w h cs a b
  obtain ⟨n2, en2, sn2⟩ := iStepsTo w h cs b a
  obtain ⟨F, eF, sF⟩ := iStepsFrom w h cs [a, c] (by simp)
  refine Ev.bind en ?_
  refine Ev.bind ex ?_
  refine Ev.bind ey ?_
  refine Ev.bind eW ?_
  refine Ev.bind en2 ?_
  have pick : ∀ {u v m : Int}, freeAt w h cs u = true → freeAt w h cs v = true → StepIs w h cs u v m → ∃ r, Answer w h cs [u] r ∧ m = rd r v := fun fu fv hs => by
    rcases hs with ⟨e, _⟩ | ⟨_, _, hr⟩
    · exact absurd ⟨fu, fv⟩ e
    · exact hr
  obtain ⟨ra, hra, e1⟩ := pick fa fb sn
  obtain ⟨ra2, hra2, e2⟩ := pick fa fc sx
  obtain rfl := hra.unique hra2
  obtain ⟨rc, hrc, e3⟩ := pick fc fb sy
  obtain ⟨rb, hrb, e4⟩ := pick fb fa sn2
  have sym : ∀ x y, y ∈ around w h cs x → x ∈ around w h cs y := fun x y hy => around_symm hy
  have la := answer_lab hra fa
  have lb := answer_lab hrb fb
  have lc := answer_lab hrc fc
  have ca := freeCell fa
  have cb := freeCell fb
  have cc := freeCell fc
  have hsym : n = n2 := by rw [e1, e4]; exact lab_sym sym ca cb la lb
  have hlo : -1 ≤ n := by rw [e1]; exact la.lo b cb
  have hsm : n < 64 := by rw [e1]; have := la.toBase.small b cb; omega
  have xsm : x < 64 := by rw [e2]; have := la.toBase.small c cc; omega
  have ysm : y < 64 := by rw [e3]; have := lc.toBase.small b cb; omega
  have tri : 0 ≤ x → 0 ≤ y → 0 ≤ n ∧ n ≤ x + y := fun x0 y0 => by
    have := lab_to lc la (by omega) y.toNat b cb (by omega)
    omega
  have h00 : n = 0 ↔ a = b := by
    rw [e1, la.src b cb, List.mem_singleton]
    exact ⟨fun e => e.symm, fun e => e.symm⟩
  obtain ⟨n3, sn3, hW⟩ := sW
  obtain rfl := sn3.unique sn
  have hWl : (W.length : Int) = n3 + 1 := by
    rcases hW with ⟨b1, b2⟩ | ⟨m, far, b1, b2, _, _, _, _, b3⟩
    · rw [b2, List.length_nil]; omega
    · rw [b3, List.length_append, wayL_len, List.length_singleton]; omega
  have hwn : wrap64 (n3 + 1) = n3 + 1 := w64 (by omega) (by omega)
  have two := two_label fa fc fb sF hra hrc
  -- the end
  have fin : Ev (fun k => laws_FnSteps.l0 k a b c n3 y W (W.length : Int) w h cs) true := by
    have tail : ∀ v : Int, rd F b = v → Ev (fun k : Nat => (if (F.length : Int) = (cs.size : Int) then (if 0 ≤ b then (if b < (F.length : Int) then (some ((rd F b) == v)) else (none)) else (none)) else (some false) : Option Bool)) true := fun v hv => by
      have b0 := cb.1
      have b1 := cb.2
      exact Ev.of_eq fun k => by rw [if_pos (by rw [two.1]), if_pos b0, if_pos (by rw [two.1]; exact b1), hv]; simp
    refine Ev.step (fun k => by rw [laws_FnSteps.l0, if_neg (by omega)]) (Ev.bind eF ?_)
    have ev := two.2
    rw [← e1, ← e3] at ev
    by_cases c1 : y ≥ 0
    · by_cases c2 : n3 < 0
      · rw [if_pos ⟨c1, .inl c2⟩] at ev
        exact Ev.congr (fun k => by rw [if_pos c1, if_pos c2]) (tail y ev)
      · by_cases c3 : y < n3
        · rw [if_pos ⟨c1, .inr c3⟩] at ev
          exact Ev.congr (fun k => by rw [if_pos c1, if_neg c2, if_pos c3]) (tail y ev)
        · rw [if_neg (fun hh => by omega)] at ev
          exact Ev.congr (fun k => by rw [if_pos c1, if_neg c2, if_neg c3]) (tail n3 ev)
    · rw [if_neg (fun hh => c1 hh.1)] at ev
      exact Ev.congr (fun k => by rw [if_neg c1]) (tail n3 ev)
  have loop : Ev (fun k => laws_FnSteps.l0 k a b c n3 y W 0 w h cs) true := by
    refine steps_l0 w h cs a b c n3 y W (by omega) ?_ ?_ ?_ fin W.length 0 (Nat.zero_add _)
    · intro hp0
      rcases hW with ⟨b1, b2⟩ | ⟨m, far, b1, b2, _, _, _, _, b3⟩
      · rw [b2] at hp0; exact absurd hp0 (by simp)
      · rw [b3]; rfl
    · intro j hj hjn
      rcases hW with ⟨b1, b2⟩ | ⟨m, far, b1, b2, _, lab, ca', em, b3⟩
      · rw [b2] at hj; exact absurd hj (by simp)
      · have wk := walk_get _ a (wayL_walk lab m a ca' em)
        rw [wayL_len] at wk
        obtain rfl : j = m := by omega
        rw [b3]
        exact wk.1
    · intro j hj0 hj
      rcases hW with ⟨b1, b2⟩ | ⟨m, far, b1, b2, _, lab, ca', em, b3⟩
      · rw [b2] at hj; exact absurd hj (by simp)
      · have wk := walk_get _ a (wayL_walk lab m a ca' em)
        rw [wayL_len] at wk
        have st := wk.2 (j - 1) (by omega)
        rw [show j - 1 + 1 = j by omega] at st
        rw [b3]
        exact ⟨st, cell_wf hg (around_cell (around_symm st))⟩
  have start : Ev (fun k => laws_FnSteps.j0 k a b c n3 y W ((a == b) != (n3 == 0)) w h cs) true := by
    have e : ((a == b) != (n3 == 0)) = false := by
      by_cases q : a = b
      · rw [beq_iff_eq.2 q, beq_iff_eq.2 (h00.2 q)]; rfl
      · rw [beq_eq_false_iff_ne.2 q, beq_eq_false_iff_ne.2 (fun hh => q (h00.1 hh))]; rfl
    rw [e]
    exact Ev.step (fun k => by rw [laws_FnSteps.j0, if_neg (by simp)]) loop
  have wl : (W.length : Int) = wrap64 (n3 + 1) := by rw [hwn]; exact hWl
  by_cases c1 : x ≥ 0
  · by_cases c2 : y ≥ 0
    · have := tri c1 c2
      have wxy : wrap64 (x + y) = x + y := w64 (by omega) (by omega)
      exact Ev.congr (fun k => by rw [if_pos hsym, if_pos c1, if_pos c2, if_neg (by omega), wxy, if_neg (by omega), if_pos wl]) start
    · exact Ev.congr (fun k => by rw [if_pos hsym, if_pos c1, if_neg c2, if_pos wl]) start
  · exact Ev.congr (fun k => by rw [if_pos hsym, if_neg c1, if_pos wl]) start

end Go.Proofs.Ytabepbkolmimlaa.Pure
