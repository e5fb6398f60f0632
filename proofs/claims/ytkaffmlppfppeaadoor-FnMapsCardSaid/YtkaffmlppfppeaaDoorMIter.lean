/- A range over a string of ASCII bytes, as events of the printed walks: its iterator is made, and goes on by one byte; no condition. -/
import Derived.Laws.RangeString
import Derived.Lib.OthersKept
import Derived.Test.YtkaffmlppfppeaaDoorWWords
import Derived.Test.YtkaffmlppfppeaaDoorWMore
namespace Go.Proofs.YtkaffmlppfppeaaDoor.MIter
open Go.RowKit Go.Proofs.YtkaffmlppfppeaaDoorW.PrintWords Go.Proofs.YtkaffmlppfppeaaDoorW.PrintMore
set_option linter.unusedVariables false

section
variable {P : Program} {ops : Array Oper} {rest : List Oper} {o : Oper} {a : Act} {Q : Exit → Act → World → Prop}
theorem iter_event {W : World} (hgd : o.guard = none) {N : Tmp} (_hd : o.dst = some N) {s : ByteArray}
    (hrun : (execOp a.eval o).run P W = .ok (.value (.pointer (some ⟨W.heap.size, 0, none⟩))) (W.iter s 0))
    (h : ∀ g, g = W.heap.size → ∀ w1, w1.heap[g]? = some (.stringIter s 0) → Below W.heap.size W w1 → wpList P ops Q rest (a.put o.dst (.pointer (some ⟨g, 0, none⟩))) w1) : wpList P ops Q (o :: rest) a W :=
  Kd.event_run hgd hrun (h _ rfl _ (World.iter_heap W s 0) (below_alloc (Below.refl _ _) _))

theorem next_event {W : World} (hgd : o.guard = none) {N : Tmp} (_hd : o.dst = some N) {k pos : Nat} {s : ByteArray} {v : Value} (hk : W.heap[k]? = some (.stringIter s pos))
    (hrun : (execOp a.eval o).run P W = .ok (.value v) (W.iterAt k s (pos + 1)))
    (h : ∀ w1, w1.heap[k]? = some (.stringIter s (pos + 1)) → KeepBut W w1 k none → (∀ (B : Nat) (w0 : World), B ≤ k → Below B w0 W → Below B w0 w1) → wpList P ops Q rest (a.put o.dst v) w1) : wpList P ops Q (o :: rest) a W :=
  Kd.event_run hgd hrun (h _ (Lib.iterAt_heap W k s pos _ hk) ⟨by rw [Lib.iterAt_size]; exact Nat.le_refl _, fun i _ hi _ => Lib.iterAt_other W k i s _ hi⟩ (fun _ _ hB hb => Lib.below_iterAt hb hB s _))
end

theorem R_ne_iter {α : Type} {d : Kd α} {e base : Nat} {ok : Nat → Prop} {w : World} {v : Value} {xs : List α} {g pos : Nat} {s : ByteArray} (h : d.R e w base ok v xs) (hk : w.heap[g]? = some (.stringIter s pos)) : some g ≠ v.ownBlock := fun he => by
  obtain ⟨cells, hc⟩ := Kd.R_typed h g he.symm
  rw [hk] at hc
  cases hc

theorem R_iter {α : Type} {d : Kd α} {e base : Nat} {ok : Nat → Prop} {w w1 : World} {v : Value} {xs : List α} {g pos : Nat} {s : ByteArray} (h : d.R e w base ok v xs) (hk : w.heap[g]? = some (.stringIter s pos)) (hkp : KeepBut w w1 g none) : d.R e w1 base ok v xs :=
  Kd.R_mono (Kd.R_move (Kd.R_bound h) (fun j hj => hkp.2 j hj.2.2.1 (fun hjg => by
    obtain ⟨_, _, _, q, hq, cells, hc⟩ := hj
    rw [hjg, hk] at hc
    cases hc) (by simp))) (fun _ hk => hk.1)

theorem blk_iter {w w1 : World} {g g' pos : Nat} {s : ByteArray} {cs : Array Value} {t : TypeId} (hk : w.heap[g]? = some (.stringIter s pos)) (hkp : KeepBut w w1 g none) (hb : w.heap[g']? = some (.cells cs t (0, 0))) : w1.heap[g']? = some (.cells cs t (0, 0)) :=
  hkp.blk hb (fun he => by rw [he, hk] at hb; cases hb) (by simp)
end Go.Proofs.YtkaffmlppfppeaaDoor.MIter
