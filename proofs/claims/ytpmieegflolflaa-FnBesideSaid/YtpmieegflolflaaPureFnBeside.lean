/- Adjacency is symmetric and means one step, and the adjacent cells of all cells contain each pair twice. -/
import Derived.Test.YtpmieegflolflaaPFnBesidex
import Derived.Test.YtpmieegflolflaaMBase
import Derived.Test.YtpmieegflolflaaMDraw
import Derived.Test.YtpmieegflolflaaMGrid
import Derived.Test.YtpmieegflolflaaMLists
import Derived.Test.YtpmieegflolflaaMSteps
import Derived.Test.YtpmieegflolflaaMScan
import Derived.Test.YtpmieegflolflaaQFnBesideAll0
namespace Go.Proofs.Ytpmieegflolflaa.Pure
open Go.RowKit Go.Proofs.Ytpmieegflolflaa.PFnBeside Go.Proofs.YtpmieegflolflaaW.PrintWords Go.Proofs.YtpmieegflolflaaW.PrintLast Go.Proofs.YtpmieegflolflaaW.PrintMore Go.Proofs.Ytpmieegflolflaa.MBase Go.Proofs.Ytpmieegflolflaa.MDraw Go.Proofs.Ytpmieegflolflaa.MGrid Go.Proofs.Ytpmieegflolflaa.MLists Go.Proofs.Ytpmieegflolflaa.MSteps Go.Proofs.Ytpmieegflolflaa.MScan Go.Proofs.Ytpmieegflolflaa.QFnBeside
set_option linter.unusedVariables false
set_option linter.unusedSimpArgs false

theorem wf_small {x : Int} (h0 : 0 ≤ x) (h1 : x ≤ 64) : (Lit.int .i64 x).wf = true := by
  have h := wrap64_wf x
  rw [w64 (by omega) (by omega)] at h
  exact h

def cellsSum (f : Int → Int) : Nat → Int → Int
  | 0, _ => 0
  | d + 1, i => f i + cellsSum f d (i + 1)

theorem sumL_app (F G : List Int) (f : Int → Int) : sumL (F ++ G) f = sumL F f + sumL G f := by
  induction F with
  | nil => simp [sumL]
  | cons x F ih => rw [List.cons_append, sumL, sumL, ih]; omega

theorem cellsSum_free (c : ByteArray) (f : Int → Int) (d : Nat) : ∀ i : Int, (∀ x, bt c x = 35 → f x = 0) → cellsSum f d i = sumL (freeList c d i) f := by
  induction d with
  | zero => intro i _; rfl
  | succ d ih =>
    intro i hf
    rw [cellsSum, freeList, sumL_app, ih _ hf]
    by_cases hb : bt c i ≠ 35
    · rw [if_pos hb, sumL, sumL]; omega
    · rw [if_neg hb, sumL, hf i (by omega)]

theorem all_cells {w h : Int} {c : ByteArray} (g : gridOk w h c = true) : cellsSum (fun a => ((around w h c a).length : Int)) c.size 0 = allAround w h c := by
  rw [cellsSum_free]
  · unfold allAround freeCells
    rw [if_pos g]
  · intro x hx
    have hf : freeAt w h c x = false := by
      cases h0 : freeAt w h c x with
      | false => rfl
      | true => exact absurd hx (freeAt_iff.1 h0).2.2.2
    unfold around
    rw [hf]
    rfl

theorem sq_one {du dv : Int} (h : (du = 0 ∧ (dv = 1 ∨ dv = -1)) ∨ (dv = 0 ∧ (du = 1 ∨ du = -1))) : wrap64 ((wrap64 ((wrap64 du) * (wrap64 du))) + (wrap64 ((wrap64 dv) * (wrap64 dv)))) = 1 := by
  rcases h with ⟨rfl, rfl | rfl⟩ | ⟨rfl, rfl | rfl⟩ <;> (unfold wrap64; omega)

theorem ediv_of {w q r x : Int} (hw : 0 < w) (h0 : 0 ≤ r) (h1 : r < w) (e : x = q * w + r) : x / w = q := by
  have a := emod_of h0 h1 e
  have b := spot_eq (w := w) (x := x)
  rw [a] at b
  exact Int.eq_of_mul_eq_mul_right (show w ≠ 0 by omega) (by omega)

/-- a neighbour is one step off -/
theorem one_off {w h : Int} {c : ByteArray} {x y : Int} (hy : y ∈ around w h c x) : (y % w - x % w = 0 ∧ (y / w - x / w = 1 ∨ y / w - x / w = -1)) ∨ (y / w - x / w = 0 ∧ (y % w - x % w = 1 ∨ y % w - x % w = -1)) := by
  obtain ⟨hf, _, hc⟩ := mem_around.1 hy
  have g := gridOk_side (freeAt_iff.1 hf).1
  have w1 := g.1
  have e := spot_eq (w := w) (x := x)
  have r0 := Int.emod_nonneg x (show w ≠ 0 by omega)
  have r1 := Int.emod_lt_of_pos x (show 0 < w by omega)
  generalize x / w = q at e ⊢
  generalize x % w = r at e hc r0 r1 ⊢
  rcases hc with hc | ⟨h1, hc⟩ | ⟨h1, hc⟩ | hc
  · have ey : y = (q - 1) * w + r := by rw [Int.sub_mul]; omega
    have a := emod_of r0 r1 ey
    have b := ediv_of (by omega) r0 r1 ey
    exact .inl ⟨by omega, .inr (by omega)⟩
  · have ey : y = q * w + (r - 1) := by omega
    have a := emod_of (by omega) (by omega) ey
    have b := ediv_of (by omega) (by omega) (by omega) ey
    exact .inr ⟨by omega, .inr (by omega)⟩
  · have ey : y = q * w + (r + 1) := by omega
    have a := emod_of (by omega) (by omega) ey
    have b := ediv_of (by omega) (by omega) (by omega) ey
    exact .inr ⟨by omega, .inl (by omega)⟩
  · have ey : y = (q + 1) * w + r := by rw [Int.add_mul]; omega
    have a := emod_of r0 r1 ey
    have b := ediv_of (by omega) r0 r1 ey
    exact .inl ⟨by omega, .inl (by omega)⟩

theorem spot_in {w h : Int} {c : ByteArray} {x : Int} (g : gridOk w h c = true) (h0 : 0 ≤ x) (h1 : x < c.size) : spotOf w h c x = (x % w, x / w) := by
  unfold spotOf
  rw [if_pos ⟨g, h0, h1⟩]

theorem cell_spot {w h : Int} {c : ByteArray} {x : Int} (g : gridOk w h c = true) (h0 : 0 ≤ x) (h1 : x < c.size) : cellAt w h c (x % w) (x / w) = x := by
  obtain ⟨a, b, d, e, s⟩ := gridOk_side g
  have hr := spot_row a b d e s h0 h1
  unfold cellAt
  rw [if_pos ⟨g, hr.1, hr.2.1, hr.2.2.1, hr.2.2.2⟩]
  exact (spot_eq).symm

theorem beside_symm (w h : Int) (c : ByteArray) (a b : Int) : (around w h c a).contains b = (around w h c b).contains a := by
  rw [Bool.eq_iff_iff, List.contains_iff_mem, List.contains_iff_mem]
  exact ⟨around_symm, around_symm⟩

theorem beside_l1 (w h : Int) (c : ByteArray) (g : gridOk w h c = true) (p : List Int) (n x : Int) (L : List Int) (hL : L.length ≤ 4) (hm : ∀ y, y ∈ L → y ∈ around w h c x)
    (next : Ev (fun k => laws_FnBeside.l0 k p (wrap64 (n + (L.length : Int))) (wrap64 (x + 1)) w h c) true) (d : Nat) : ∀ j : Nat, j + d = L.length → Ev (fun k => laws_FnBeside.l1 k p n x L (x % w) (x / w) j w h c) true := by
  induction d with
  | zero =>
    intro j hj
    exact Ev.step (fun k => by rw [laws_FnBeside.l1, if_neg (by omega)]) next
  | succ d ih =>
    intro j hj
    have hw : wrap64 ((j : Int) + 1) = ((j + 1 : Nat) : Int) := by rw [w64 (by omega) (by omega)]; omega
    have hjl : j < L.length := by omega
    have e : rd L (j : Int) = L.getD j 0 := by unfold rd; rw [Int.toNat_natCast]
    have hy := hm _ (getD_mem' hjl)
    have hr := ih (j + 1) (by omega)
    generalize L.getD j 0 = y at e hy
    have hf := (mem_around.1 hy).2.1
    have hb := (freeAt_iff.1 hf).2
    have hg := (gridOk_size g).2
    have e1 := iSpotOf w h c y
    rw [spot_in g hb.1 hb.2.1] at e1
    have e2 := iBeside w h c y x (wf_small hb.1 (by omega))
    rw [show (around w h c y).contains x = true from List.contains_iff_mem.2 (around_symm hy)] at e2
    have e3 := iFreeAt w h c y
    rw [hf] at e3
    refine Ev.step (fun k => by rw [laws_FnBeside.l1, if_pos (by omega), if_pos (by omega), e]) ?_
    refine Ev.bind e1 ?_
    refine Ev.bind e2 ?_
    refine Ev.congr (fun k => by rw [if_pos rfl, if_pos (sq_one (one_off hy))]) (Ev.bind e3 ?_)
    exact Ev.congr (fun k => by rw [if_pos rfl, hw]) hr

theorem beside_l0 (w h : Int) (c : ByteArray) (g : gridOk w h c = true) (p : List Int) (T : Int)
    (last : Ev (fun k => laws_FnBeside.l0 k p T (c.size : Int) w h c) true) (d : Nat) : ∀ (j : Nat) (n : Int), j + d = c.size → 0 ≤ n → n ≤ 4 * j → n + cellsSum (fun a => ((around w h c a).length : Int)) d j = T → Ev (fun k => laws_FnBeside.l0 k p n j w h c) true := by
  have hg := (gridOk_size g).2
  induction d with
  | zero =>
    intro j n hj n0 n1 hT
    obtain rfl : j = c.size := by omega
    rw [cellsSum, Int.add_zero] at hT
    rw [hT]
    exact last
  | succ d ih =>
    intro j n hj n0 n1 hT
    have hw : wrap64 ((j : Int) + 1) = ((j + 1 : Nat) : Int) := by rw [w64 (by omega) (by omega)]; omega
    have hl := around_len w h c j
    have hw2 : wrap64 (n + ((around w h c j).length : Int)) = n + (around w h c j).length := w64 (by omega) (by omega)
    rw [cellsSum] at hT
    have hr := ih (j + 1) (n + (around w h c j).length) (by omega) (by omega) (by omega) (by rw [show ((j + 1 : Nat) : Int) = (j : Int) + 1 by omega]; omega)
    have e1 := iAround w h c j (wf_small (by omega) (by omega))
    have e2 := iSpotOf w h c j
    rw [spot_in g (by omega) (by omega)] at e2
    have e3 := iCellAt w h c ((j : Int) % w) ((j : Int) / w)
    rw [cell_spot g (by omega) (by omega)] at e3
    have e4 := beside_l1 w h c g p n j (around w h c j) hl (fun y hy => hy) (by rw [hw2, hw]; exact hr) (around w h c j).length 0 (Nat.zero_add _)
    rw [show ((0 : Nat) : Int) = 0 from rfl] at e4
    refine Ev.step (fun k => by rw [laws_FnBeside.l0, if_pos (by omega)]) ?_
    refine Ev.bind e1 ?_
    refine Ev.bind e2 ?_
    refine Ev.bind e3 ?_
    exact Ev.congr (fun k => by rw [if_pos rfl]) e4

theorem FnBeside : laws_FnBeside.Pure := by
  intro l hl _ _
  by_cases hbig : (l.length : Int) > 1048576
  · exact ⟨0, by unfold laws_FnBeside.f laws_big.f; rw [Option.bind_some, if_pos (decide_eq_true hbig)]⟩
  obtain ⟨w, h, c, g, hdraw⟩ := drawMap_ev l hl
  obtain ⟨p, hp, hpr, hplaces⟩ := places_ev l hl
  have hg := gridOk_size g
  refine Ev.rounds (Ev.congr (fun k => by unfold laws_FnBeside.f laws_big.f; rw [Option.bind_some, if_neg (by rw [decide_eq_false hbig]; simp)]) (Ev.bind hdraw ?_))
  refine Ev.bind hplaces ?_
  dsimp only
  have t0 := tmod_lt (hpr 0 (by omega)).1 (show 0 < (c.size : Int) by omega)
  have t1 := tmod_lt (hpr 1 (by omega)).1 (show 0 < (c.size : Int) by omega)
  rw [show ((0 : Nat) : Int) = 0 from rfl] at t0
  rw [show ((1 : Nat) : Int) = 1 from rfl] at t1
  have ha := allAround_bound w h c
  have h2 := pairs_twice w h c
  have hall := all_cells g
  have hw2 : wrap64 (2 * pairsOf w h c) = 2 * pairsOf w h c := w64 (by omega) (by omega)
  have eg := iGridOk w h c
  rw [g] at eg
  have last : Ev (fun k => laws_FnBeside.l0 k p (allAround w h c) (c.size : Int) w h c) true := by
    refine Ev.step (fun k => by rw [laws_FnBeside.l0, if_neg (by omega), if_pos (by omega), if_neg (by omega), if_pos (by omega)]) ?_
    refine Ev.bind (iPairsOf w h c) ?_
    refine Ev.congr (fun k => by rw [hw2, if_pos h2]) (Ev.bind (iBeside w h c _ _ (wf_small t0.1 (by omega))) ?_)
    refine Ev.bind (iBeside w h c _ _ (wf_small t1.1 (by omega))) ?_
    refine Ev.congr (fun k => by rw [beside_symm w h c (Int.tmod (rd p 0) (c.size : Int)), if_pos (by simp)]) (Ev.bind eg ?_)
    exact Ev.now _
  have := beside_l0 w h c g p (allAround w h c) last c.size 0 0 (Nat.zero_add _) (by omega) (by omega) (by rw [show ((0 : Nat) : Int) = 0 from rfl, hall]; omega)
  rw [show ((0 : Nat) : Int) = 0 from rfl] at this
  exact this

end Go.Proofs.Ytpmieegflolflaa.Pure
