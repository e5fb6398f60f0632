/- A row of bytes that the conversion of a string has made: kept, read, stored into, told back as a string; no condition. -/
import Derived.Test.YtkaffmlppfppeaaDoorWWords
import Derived.Test.YtkaffmlppfppeaaDoorWMore
import Derived.Lib.ConvBytes
namespace Go.Proofs.YtkaffmlppfppeaaDoor.MBytes
open Go.RowKit Go.Proofs.YtkaffmlppfppeaaDoorW.PrintWords Go.Proofs.YtkaffmlppfppeaaDoorW.PrintLast Go.Proofs.YtkaffmlppfppeaaDoorW.PrintMore
set_option linter.unusedVariables false

def BR (e : Nat) (w : World) (base : Nat) (v : Value) (xs : List Int) : Prop :=
  ∃ (g : Nat) (cells : Array Value), v = .slice (some ⟨g, 0, none⟩) xs.length cells.size ∧ base ≤ g ∧ w.heap[g]? = some (.cells cells e (cells.size, cells.size + 1)) ∧ xs.length ≤ cells.size ∧ ∀ j : Nat, j < xs.length → cells[j]? = some (.int .u8 (xs.getD j 0))

section
variable {e base : Nat} {w w1 : World} {v : Value} {xs : List Int}
theorem BR_step (h : BR e w base v xs) (hm : ∀ k, k < w.heap.size → w1.heap[k]? = w.heap[k]?) : BR e w1 base v xs := by
  obtain ⟨g, cells, h1, h2, h3, h4, h5⟩ := h
  exact ⟨g, cells, h1, h2, (hm g (blk_lt h3)).trans h3, h4, h5⟩
theorem BR_below (h : BR e w base v xs) (hb : Below w.heap.size w w1) : BR e w1 base v xs := BR_step h (fun k hk => hb.block k hk)
theorem BR_alloc (h : BR e w base v xs) (o : Obj) : BR e (w.alloc o) base v xs := BR_below h (below_alloc (Below.refl _ _) o)
theorem BR_drew (h : BR e w base v xs) : BR e w.drew base v xs := BR_below h (below_drew (Below.refl _ _))
theorem BR_drewN (h : BR e w base v xs) (m : Nat) : BR e (w.drewN m) base v xs := BR_below h (pw_below_drewN (Below.refl _ _) m)
theorem BR_lower {base' : Nat} (h : BR e w base v xs) (hb : base' ≤ base) : BR e w base' v xs := by
  obtain ⟨g, cells, h1, h2, h3, h4, h5⟩ := h
  exact ⟨g, cells, h1, Nat.le_trans hb h2, h3, h4, h5⟩
theorem BR_slice (h : BR e w base v xs) : ∃ A c, v = .slice A xs.length c := by
  obtain ⟨g, cells, h1, _⟩ := h
  exact ⟨_, _, h1⟩
theorem BR_reads {A : Option Addr} {n c : Nat} (h : BR e w base (.slice A n c) xs) : n = xs.length ∧ n ≤ c := by
  obtain ⟨g, cells, h1, _, _, h4, _⟩ := h
  injection h1 with _ h6 h7
  exact ⟨h6, by omega⟩
theorem BR_form (h : BR e w base v xs) (hp : 0 < xs.length) : ∃ g cap, v = .slice (some ⟨g, 0, none⟩) xs.length cap ∧ base ≤ g ∧ g < w.heap.size ∧ ∃ cells, w.heap[g]? = some (.cells cells e (cap, cap + 1)) := by
  obtain ⟨g, cells, h1, h2, h3, h4, h5⟩ := h
  exact ⟨g, cells.size, h1, h2, blk_lt h3, cells, h3⟩
theorem BR_ne (h : BR e w base v xs) {g t : Nat} {cells : Array Value} (hb : w.heap[g]? = some (.cells cells t (0, 0))) (ht : e ≠ t) : some g ≠ v.ownBlock := by
  obtain ⟨g', cells', rfl, _, h3, _⟩ := h
  intro hh
  have hg : g = g' := by simpa [Value.ownBlock] using hh
  subst hg
  rw [h3] at hb
  injection hb with hb
  injection hb with _ hb
  exact ht hb
theorem BR_celln {g n cap : Nat} (d : Int) (h : BR e w base (.slice (some ⟨g, 0, none⟩) n cap) xs) (i : Int) (h0 : 0 ≤ i) (hi : i < n) : w.cell? ⟨g, i.toNat, none⟩ = some (.int .u8 (rdOf d xs i)) ∧ w.frozen? ⟨g, i.toNat, none⟩ = false := by
  obtain ⟨g', cells, h1, _, h3, h4, h5⟩ := h
  injection h1 with h6 h7 h8
  injection h6 with h6
  injection h6 with h6
  subst h6
  have hj : i.toNat < xs.length := by omega
  refine ⟨?_, ?_⟩
  · rw [World.cell?, h3]
    have e5 := h5 i.toNat hj
    have ed : rdOf d xs i = xs.getD i.toNat 0 := by
      unfold rdOf
      rw [List.getD_eq_getElem?_getD, List.getD_eq_getElem?_getD, List.getElem?_eq_getElem hj]; rfl
    rw [ed]
    simpa using e5
  · simp only [World.frozen?, h3]
    have : ¬ cells.size ≤ i.toNat := by omega
    simp [this]
theorem BR_putg {g n cap : Nat} (h : BR e w base (.slice (some ⟨g, 0, none⟩) n cap) xs) (i : Int) (x : Int) : BR e (w.setCell ⟨g, i.toNat, none⟩ (.int .u8 x)) base (.slice (some ⟨g, 0, none⟩) n cap) (xs.set i.toNat x) ∧ w.grownBy (w.setCell ⟨g, i.toNat, none⟩ (.int .u8 x)) (some g) := by
  obtain ⟨g', cells, h1, h2, h3, h4, h5⟩ := h
  injection h1 with h6 h7 h8
  injection h6 with h6
  injection h6 with h6
  subst h6
  refine ⟨⟨g, cells.setIfInBounds i.toNat (.int .u8 x), by rw [List.length_set, h7, h8, Array.size_setIfInBounds], h2, ?_, by rw [List.length_set, Array.size_setIfInBounds]; exact h4, fun j hj => ?_⟩, ⟨rfl, rfl, rfl, by simp [World.setCell], fun k _ hk => Below.heap_setCell w ⟨g, i.toNat, none⟩ _ k (fun hh => hk (by rw [hh]))⟩⟩
  · have hlt := blk_lt h3
    simp only [World.setCell, Array.getElem?_modify, h3]
    simp
  · rw [List.length_set] at hj
    have hc := h5 j hj
    have hjc : j < cells.size := by omega
    rw [Array.getElem?_setIfInBounds]
    by_cases e1 : i.toNat = j
    · subst e1
      rw [if_pos rfl, if_pos hjc, List.getD_eq_getElem?_getD, List.getElem?_set_self hj]; rfl
    · rw [if_neg e1, hc, List.getD_eq_getElem?_getD, List.getD_eq_getElem?_getD, List.getElem?_set_ne e1]
theorem BR_string {P : Program} {src dst e' : TypeId} (hs : P.underlying src = some (.slice e')) (he : P.underlying e' = some (.int .u8)) (hd : P.underlying dst = some .string) (h : BR e w base v xs) : (convert src dst v).run P w = .ok (.string (strOfNums xs)) w := by
  obtain ⟨g, cells, rfl, _, h3, h4, h5⟩ := h
  refine run_convert_bytes_arg w src e' hs he g 0 xs.length cells.size xs rfl (fun i hi => ?_) dst hd
  rw [World.cell?, h3, Nat.zero_add]
  simpa using h5 i hi
end
section
variable {P : Program} {ops : Array Oper} {rest : List Oper} {o : Oper} {a : Act} {Q : Exit → Act → World → Prop}
/-- the conversion of a string, as one step -/
theorem BR_conv {W : World} (e : Nat) (hgd : o.guard = none) (src dst : TypeId) (x : Operand) (ho : o.op = .convert src dst x) (s : ByteArray) (hx : a.eval x = .string s) {u : TypeDesc} (hs : P.underlying src = some u) (hd : P.underlying dst = some (.slice e)) (he : P.underlying e = some (.int .u8))
    (h : ∀ v1 w1, BR e w1 W.heap.size v1 (bytesOf s) → Below W.heap.size W w1 → wpList P ops Q rest (a.put o.dst v1) w1) : wpList P ops Q (o :: rest) a W := by
  have hr := print_bytes (P := P) src dst e hs hd he s W
  have hcs : (Lib.bytesCells W e s).size = grownCap W s.size 0 e ∧ s.size ≤ (Lib.bytesCells W e s).size := by
    have hg : s.size ≤ grownCap W s.size 0 e := grownCap_ge _ _ _ _
    have : s.data.size = s.size := rfl
    unfold Lib.bytesCells
    simp
    omega
  refine Kd.event_run hgd (v := .slice (some ⟨W.heap.size, 0, none⟩) s.size (grownCap W s.size 0 e)) (w1 := Lib.bytesWorld W e s) ?_ (h _ _ ⟨W.heap.size, Lib.bytesCells W e s, ?_, Nat.le_refl _, Lib.bytesWorld_at_new W e s, ?_, fun j hj => ?_⟩ (bytes_below (Below.refl _ _) (Nat.le_refl _) e s))
  · simp [execOp, ho, hx, hr]
  · rw [bytesOf_length, hcs.1]
  · rw [bytesOf_length]; exact hcs.2
  · rw [bytesOf_length] at hj
    have hc := Lib.bytesWorld_cell W e s j hj
    rw [World.cell?, Lib.bytesWorld_at_new] at hc
    have h' : j < s.data.toList.length := by rw [data_length]; exact hj
    have e2 : (bytesOf s).getD j 0 = ((s.data.toList.getD j 0).toNat : Int) := by
      simp [bytesOf, List.getD_eq_getElem?_getD, List.getElem?_eq_getElem h']
    rw [e2]
    simpa using hc
end
end Go.Proofs.YtkaffmlppfppeaaDoor.MBytes
