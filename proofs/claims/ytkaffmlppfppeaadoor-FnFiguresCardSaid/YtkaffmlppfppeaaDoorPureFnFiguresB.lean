/- The plain law of FnFigures, its end. -/
import Derived.Test.YtkaffmlppfppeaaDoorPureFnFigures
namespace Go.Proofs.YtkaffmlppfppeaaDoor.Fig
open Go Go.RowKit Go.Proofs.YtkaffmlppfppeaaDoorW.PrintWords Go.Proofs.YtkaffmlppfppeaaDoorW.PrintMore Go.Proofs.YtkaffmlppfppeaaDoor.MBase Go.Proofs.YtkaffmlppfppeaaDoor.MDraw Go.Proofs.YtkaffmlppfppeaaDoor.PFnFigures Go.Proofs.YtkaffmlppfppeaaDoor.DSpec Go.Proofs.YtkaffmlppfppeaaDoor.MReadDecimal
set_option linter.unusedVariables false
theorem fin (h ty : ByteArray) (n m x q w z : Int) (hx : mx m (mn w q) = x) (hsz : (h.size : Int) = z) (x1 : x ≥ m) (x2 : x ≤ q) (x3 : mx m (mn x q) = x) :
    ((some (mx m (mn w q))).bind fun t220 => (if ((h, true) : ByteArray × Bool).2 = true then (if ((ty, true) : ByteArray × Bool).2 = true then (if ((ty, true) : ByteArray × Bool).1.toList = ty.toList then (if (((h, true) : ByteArray × Bool).1.size : Int) = z then (if ((n, true) : Int × Bool).2 = true then (if ((n, true) : Int × Bool).1 = n then (if t220 ≥ m then (if t220 ≤ q then ((some (mx m (mn t220 q))).bind fun t225 => (some (t225 == t220))) else (some false)) else (some false)) else (some false)) else (some false)) else (some false)) else (some false)) else (some false)) else (some false))) = some true := by
  have x4 : ((some (mx m (mn x q))).bind fun t225 => (some (t225 == x))) = some true := by
    rw [x3]
    exact congrArg some (beq_self_eq_true x)
  rw [hx, Option.bind_some]
  refine (if_pos rfl).trans ?_
  refine (if_pos rfl).trans ?_
  refine (if_pos rfl).trans ?_
  refine (if_pos hsz).trans ?_
  refine (if_pos rfl).trans ?_
  refine (if_pos rfl).trans ?_
  refine (if_pos x1).trans ?_
  refine (if_pos x2).trans ?_
  exact x4

theorem main (l0 p : List Int) (hbig : ¬ (l0.length : Int) > 1048576) (e0 : Ev (fun k => spec_DrawPlaces.f k l0) p) (hp : p.length = 12) (n5 n : Nat) (b5 : n5 ≤ 1000000000) (h5 : rd p 5 = (n5 : Int))
    (hn : wrap64 (wrap64 (rd p 0 * 10000) + rd p 1) = (n : Int)) (hnb : n ≤ 1000000000) (m : Int) (e3 : wrap64 (-(rd p 3)) = m) (x : Int) (hx : mx m (mn (wrap64 (rd p 2 - 5000)) (rd p 4)) = x) (x1 : m ≤ x) (x2 : x ≤ rd p 4)
    (x3 : mx m (mn x (rd p 4)) = x) (y : ByteArray) (hy : strOfNums [rd p 6 % 256, rd p 7 % 256] = y) (hys : y.size = 2) : ∃ k, laws_FnFigures.f k l0 = some true := by
  have hd5 := dec_ev n5 b5
  have hs5 := itoa_small n5 b5
  generalize (⟨(Lib.itoa (n5 : Int)).toArray⟩ : ByteArray) = t at hd5 hs5
  have hts : (t ++ y).size = t.size + 2 := by rw [ByteArray.size_append, hys]
  obtain ⟨h, hh, hx1, hx2⟩ := hexed (t ++ y) (le5 (le4 hts hs5))
  have hsz := szz hh (le4 hts hs5)
  obtain ⟨ty, hty⟩ : ∃ ty, t ++ y = ty := ⟨_, rfl⟩
  rw [hty] at hh hx1 hx2 hsz
  refine Ev.rounds (Ev.congr (fun k => by unfold laws_FnFigures.f laws_big.f; rw [Option.bind_some, decide_eq_false hbig, if_neg (by decide)]) ?_)
  refine Ev.bind e0 ?_
  rw [h5, hn, e3]
  simp only [hp]
  refine Ev.congr (fun k => by rw [if_pos t5]) ?_
  refine Ev.bind hd5 ?_
  refine Ev.congr (fun k => by rw [if_pos t6, if_pos t7, Option.bind_some, hy, hys, if_pos (le6 hs5), hty]) ?_
  refine Ev.bind hx1 ?_
  refine Ev.bind hx2 ?_
  refine Ev.congr (fun k => by rw [if_pos t0, if_pos t1]) ?_
  refine Ev.bind (dec_ev n hnb) ?_
  refine Ev.bind (read_ev n hnb) ?_
  refine Ev.of_eq fun k => ?_
  unfold impl_Brought.f
  rw [if_pos t2, if_pos t3, if_pos t4]
  exact fin h ty (n : Int) m x (rd p 4) (wrap64 (rd p 2 - 5000)) _ hx hsz x1 x2 x3

theorem pure : laws_FnFigures.Pure := by
  intro l0 hm _ _
  obtain ⟨p, hp, hz, e0⟩ := places_ev l0 hm
  have z5 : 0 ≤ rd p 5 ∧ rd p 5 < 10000 := hz 5 (by decide)
  have hr (k : Nat) (q : List Int) (h : spec_DrawPlaces.f k l0 = some q) : InR (rd q 5) := by
    obtain ⟨K, e⟩ := e0
    obtain rfl := leO_det (f := fun k => spec_DrawPlaces.f k l0) (spec_DrawPlaces.mono l0) h (e K (Nat.le_refl _))
    exact ⟨Int.le_trans (by decide) z5.1, Int.le_trans (Int.le_of_lt z5.2) (by decide)⟩
  suffices ∃ k, laws_FnFigures.f k l0 = some true from by
    obtain ⟨k, h⟩ := this
    exact ⟨k, h, hr k⟩
  by_cases hbig : (l0.length : Int) > 1048576
  · refine ⟨0, ?_⟩
    unfold laws_FnFigures.f laws_big.f
    rw [Option.bind_some, decide_eq_true hbig, if_pos rfl]
  have z0 : 0 ≤ rd p 0 ∧ rd p 0 < 10000 := hz 0 (by decide)
  have z1 : 0 ≤ rd p 1 ∧ rd p 1 < 10000 := hz 1 (by decide)
  have z3 : 0 ≤ rd p 3 ∧ rd p 3 < 10000 := hz 3 (by decide)
  have z4 : 0 ≤ rd p 4 ∧ rd p 4 < 10000 := hz 4 (by decide)
  obtain ⟨n, hn, hnb⟩ := num z0.1 z0.2 z1.1 z1.2
  obtain ⟨n5, h5, b5⟩ : ∃ n : Nat, rd p 5 = (n : Int) ∧ n ≤ 1000000000 := nat5 z5.1 z5.2
  obtain ⟨x, hx, x1, x2, x3⟩ := brought (wrap64 (rd p 2 - 5000)) (rd p 3) (rd p 4) z3.1 z4.1
  exact main l0 p hbig e0 hp n5 n b5 h5 hn hnb (-(rd p 3)) (neg3 z3.1 z3.2) x hx x1 x2 x3 _ rfl (by rw [strOfNums_size]; rfl)
end Go.Proofs.YtkaffmlppfppeaaDoor.Fig
