/- What the functions that the law FnCheapest reaches compute: DrawCur, Arcs, ArcAt, DrawNet, NetOkI, StepsOf, RowsH, ReachI, ExcessI, ReachedA, MostIs, PushStep, MostFlowI, RunIs, DistI, CostI, CheapI, RunLink, FlowOkI, FlowSizeI, FlowCostI. -/
import Derived.Test.YtgkpgigoonhgdaaPFnCheapestx
import Derived.Test.YtgkpgigoonhgdaaMBase
import Derived.Test.YtgkpgigoonhgdaaMDraw
import Derived.Test.YtgkpgigoonhgdaaMLists
import Derived.Test.YtgkpgigoonhgdaaMNet
import Derived.Test.YtgkpgigoonhgdaaMCut
import Derived.Test.YtgkpgigoonhgdaaMDist
import Derived.Test.YtgkpgigoonhgdaaMCheap
import Derived.Test.YtgkpgigoonhgdaaMSpfa
namespace Go.Proofs.Ytgkpgigoonhgdaa.QFnCheapest
open Go.RowKit Go.Proofs.Ytgkpgigoonhgdaa.PFnCheapest Go.Proofs.YtgkpgigoonhgdaaW.PrintWords Go.Proofs.YtgkpgigoonhgdaaW.PrintLast Go.Proofs.YtgkpgigoonhgdaaW.PrintMore Go.Proofs.Ytgkpgigoonhgdaa.MBase Go.Proofs.Ytgkpgigoonhgdaa.MDraw Go.Proofs.Ytgkpgigoonhgdaa.MLists Go.Proofs.Ytgkpgigoonhgdaa.MNet Go.Proofs.Ytgkpgigoonhgdaa.MCut Go.Proofs.Ytgkpgigoonhgdaa.MDist Go.Proofs.Ytgkpgigoonhgdaa.MCheap Go.Proofs.Ytgkpgigoonhgdaa.MSpfa
set_option linter.unusedVariables false
set_option linter.unusedSimpArgs false

/-! the cursor of a draw: each number that it gives lies below what was asked -/
theorem new_l0 (b : List Int) (m : Nat) : ∀ (j : Nat) (h : Int), j + m = 4000 → ∃ h', Ev (fun k => spec_l01New.l0 k b h j) (b, 0, h') := by
  induction m with
  | zero =>
    intro j h hj
    refine ⟨h, Ev.step (f := fun _ => some (b, 0, h)) (fun k => ?_) (Ev.now _)⟩
    by_cases hl : (j : Int) < b.length
    · rw [spec_l01New.l0, if_pos hl, if_neg (by omega)]
    · rw [spec_l01New.l0, if_neg hl]
  | succ m ih =>
    intro j h hj
    by_cases hl : (j : Int) < b.length
    · obtain ⟨h', e⟩ := ih (j + 1) (bits .and .i64 (wrap64 ((wrap64 ((wrap64 (h * 131)) + (wrap64 (rd b (j : Int))))) + 7)) 1073741823) (by omega)
      have hw3 : wrap64 ((j : Int) + 1) = ((j + 1 : Nat) : Int) := by rw [w64 (by omega) (by omega)]; omega
      exact ⟨h', Ev.step (fun k => by rw [spec_l01New.l0, if_pos hl, if_pos (by omega), if_pos (by omega), hw3]) e⟩
    · exact ⟨h, Ev.step (f := fun _ => some (b, 0, h)) (fun k => by rw [spec_l01New.l0, if_neg hl]) (Ev.now _)⟩

theorem new_ev (b : List Int) : ∃ h, Ev (fun k => spec_l01New.f k b) (b, 0, h) := new_l0 b 4000 0 _ (by omega)

theorem byte_ok (b : List Int) (hb : b.length ≤ maxLen) (i h : Int) (hi : 0 ≤ i) : ∃ x i' h', spec_l01Byte.f b i h = some (x, i', h') ∧ 0 ≤ x ∧ x ≤ 255 ∧ 0 ≤ i' := by
  unfold spec_l01Byte.f
  unfold maxLen at hb
  by_cases hl : i < b.length
  · rw [if_pos hl, if_pos hi]
    exact ⟨_, _, _, rfl, (and255 _).1, (and255 _).2, by rw [w64 (by omega) (by omega)]; omega⟩
  · rw [if_neg hl]
    exact ⟨_, _, _, rfl, (and255 _).1, (and255 _).2, hi⟩

theorem below_ok (b : List Int) (hb : b.length ≤ maxLen) (i h : Int) (hi : 0 ≤ i) (n : Int) : ∃ x i' h', spec_l01Below.f b i h n = some (x, i', h') ∧ 0 ≤ x ∧ (0 < n → x < n) ∧ (n ≤ 0 → x = 0) ∧ 0 ≤ i' := by
  unfold spec_l01Below.f
  by_cases h0 : n ≤ 0
  · rw [if_pos h0]
    exact ⟨0, i, h, rfl, Int.le_refl _, fun hh => by omega, fun _ => rfl, hi⟩
  have hn : ¬ n = 0 := by omega
  by_cases h1 : n ≤ 256
  · obtain ⟨x, i', h', e, x0, x1, hi'⟩ := byte_ok b hb i h hi
    have t := tmod_lt x0 (show 0 < n by omega)
    exact ⟨Int.tmod x n, i', h', by rw [if_neg h0, if_pos h1, e, Option.bind_some, if_neg hn], t.1, fun _ => t.2, fun hh => by omega, hi'⟩
  · obtain ⟨x, i1, h1', e1, x0, x1, hi1⟩ := byte_ok b hb i h hi
    obtain ⟨y, i2, h2', e2, y0, y1, hi2⟩ := byte_ok b hb i1 h1' hi1
    obtain ⟨z, i3, h3', e3, z0, z1, hi3⟩ := byte_ok b hb i2 h2' hi2
    obtain ⟨u, i4, h4', e4, u0, u1, hi4⟩ := byte_ok b hb i3 h3' hi3
    have hv : 0 ≤ wrap64 ((wrap64 ((wrap64 ((wrap64 (x * 16777216)) + (wrap64 (y * 65536)))) + (wrap64 (z * 256)))) + u) := by
      rw [w64 (x := x * 16777216) (by omega) (by omega), w64 (x := y * 65536) (by omega) (by omega), w64 (x := z * 256) (by omega) (by omega), w64 (x := x * 16777216 + y * 65536) (by omega) (by omega), w64 (x := x * 16777216 + y * 65536 + z * 256) (by omega) (by omega), w64 (by omega) (by omega)]
      omega
    have t := tmod_lt hv (show 0 < n by omega)
    exact ⟨_, i4, h4', by rw [if_neg h0, if_neg h1, e1, Option.bind_some, e2, Option.bind_some, e3, Option.bind_some, e4, Option.bind_some, if_neg hn], t.1, fun _ => t.2, fun hh => by omega, hi4⟩

/-! the arcs of a list of structs, as plain data -/
def arcs (l : List S67) : List Arc := l.map fun a => ⟨a.f0, a.f1, a.f2, a.f3⟩

/-! the arcs of a list of structs -/
theorem arcs_len (l : List S67) : (arcs l).length = l.length := by unfold arcs; rw [List.length_map]
theorem at_f (l : List S67) (i : Int) : (rd_T67 l i).f0 = (at_ (arcs l) i.toNat).u ∧ (rd_T67 l i).f1 = (at_ (arcs l) i.toNat).v ∧ (rd_T67 l i).f2 = (at_ (arcs l) i.toNat).r ∧ (rd_T67 l i).f3 = (at_ (arcs l) i.toNat).c := by
  unfold rd_T67 at_ arcs
  rw [List.getD_eq_getElem?_getD, List.getD_eq_getElem?_getD, List.getElem?_map]
  cases l[i.toNat]? with
  | none => exact ⟨rfl, rfl, rfl, rfl⟩
  | some a => exact ⟨rfl, rfl, rfl, rfl⟩
theorem at_0 (l : List S67) (i : Int) : (rd_T67 l i).f0 = (at_ (arcs l) i.toNat).u := (at_f l i).1
theorem at_1 (l : List S67) (i : Int) : (rd_T67 l i).f1 = (at_ (arcs l) i.toNat).v := (at_f l i).2.1
theorem at_2 (l : List S67) (i : Int) : (rd_T67 l i).f2 = (at_ (arcs l) i.toNat).r := (at_f l i).2.2.1
theorem at_3 (l : List S67) (i : Int) : (rd_T67 l i).f3 = (at_ (arcs l) i.toNat).c := (at_f l i).2.2.2

/-! spec.l06Right: a right net of a few nodes -/
theorem net_of {n : Int} {l : List S67} (h0 : 2 ≤ n) (h1 : n ≤ 1500) (hl : l.length ≤ 3200) (hm : ∀ a, a ∈ l → ArcOk n ⟨a.f0, a.f1, a.f2, a.f3⟩) : NetOk n (arcs l) := by
  refine ⟨⟨h0, h1, by rw [arcs_len]; exact hl⟩, fun i hi => ?_⟩
  rw [arcs_len] at hi
  have := hm _ (List.getElem_mem hi)
  unfold at_ arcs
  rw [List.getD_eq_getElem?_getD, List.getElem?_map, List.getElem?_eq_getElem hi]
  exact this

/-- the five draws of an arc -/
theorem arc_draw (b : List Int) (hb : b.length ≤ maxLen) (n : Int) (n0 : 3 ≤ n) (i h : Int) (hi : 0 ≤ i) : ∃ u v r c s i' h' : Int, 0 ≤ u ∧ u < n ∧ 0 ≤ v ∧ v < n ∧ 0 ≤ r ∧ r < 5 ∧ 0 ≤ c ∧ c < 10 ∧ 0 ≤ i' ∧
    ∀ {α : Type} (F : Int → Int → Int → Int → Int × Int × Int → Option α), ((spec_l01Below.f b i h n).bind fun b1 => ((spec_l01Below.f b b1.2.1 b1.2.2 n).bind fun b2 => ((spec_l01Below.f b b2.2.1 b2.2.2 5).bind fun b3 => ((spec_l01Below.f b b3.2.1 b3.2.2 10).bind fun b4 => ((spec_l01Below.f b b4.2.1 b4.2.2 5).bind fun b5 => F b1.1 b2.1 b3.1 b4.1 b5))))) = F u v r c (s, i', h') := by
  obtain ⟨u, i2, h2, e2, u0, u1, _, hi2⟩ := below_ok b hb i h hi n
  obtain ⟨v, i3, h3, e3, v0, v1, _, hi3⟩ := below_ok b hb i2 h2 hi2 n
  obtain ⟨r, i4, h4, e4, r0, r1, _, hi4⟩ := below_ok b hb i3 h3 hi3 5
  obtain ⟨c, i5, h5, e5, c0, c1, _, hi5⟩ := below_ok b hb i4 h4 hi4 10
  obtain ⟨s, i6, h6, e6, s0, s1, _, hi6⟩ := below_ok b hb i5 h5 hi5 5
  refine ⟨u, v, r, c, s, i6, h6, u0, u1 (by clear e2 e3 e4 e5 e6; omega), v0, v1 (by clear e2 e3 e4 e5 e6; omega), r0, r1 (by decide), c0, c1 (by decide), hi6, fun F => ?_⟩
  rw [e2, Option.bind_some, e3, Option.bind_some, e4, Option.bind_some, e5, Option.bind_some, e6, Option.bind_some]

/-- what the loop's end is asked -/
def Right06 (b : List Int) (n : Int) (g : Nat → Option (Int × List S67 × Int × Int)) : Prop := ∃ (l' : List S67) (i' h' : Int), l'.length ≤ 18 ∧ (∀ a, a ∈ l' → ArcOk n ⟨a.f0, a.f1, a.f2, a.f3⟩) ∧ 0 ≤ i' ∧ Ev g (n, l', i', h')

theorem Right06.step {b : List Int} {n : Int} {g g' : Nat → Option (Int × List S67 × Int × Int)} (h : Right06 b n g') (e : ∀ k, g (k + 1) = g' k) : Right06 b n g := by
  obtain ⟨l', i', h', q1, q2, q3, q4⟩ := h
  exact ⟨l', i', h', q1, q2, q3, Ev.step e q4⟩

theorem right06_arc {b : List Int} {n : Int} (n0 : 3 ≤ n) {u v r c s : Int} (u0 : 0 ≤ u) (hu : u < n) (v0 : 0 ≤ v) (hv : v < n) {l : List S67} (hl : l.length ≤ 18) {g : Nat → Option (Int × List S67 × Int × Int)} (N : Nat → List S67 → Option (Int × List S67 × Int × Int))
    (skip : Right06 b n (fun k => N k l)) (put : ∀ u v : Int, 0 ≤ u → u < n → 0 ≤ v → v < n → u ≠ v → Right06 b n (fun k => N k (l ++ [⟨u, v, r, c⟩])))
    (go : ∀ k, g (k + 1) = (if s = 0 then (if 0 = v then (N k l) else (if l.length < 4398046511104 then (N k (l ++ [⟨0, v, r, c⟩])) else (none))) else (if s = 1 then (if u = 1 then (N k l) else (if l.length < 4398046511104 then (N k (l ++ [⟨u, 1, r, c⟩])) else (none))) else (if u = v then (N k l) else (if l.length < 4398046511104 then (N k (l ++ [⟨u, v, r, c⟩])) else (none)))))) : Right06 b n g := by
  have hcap : l.length < 4398046511104 := by omega
  by_cases cs : s = 0
  · by_cases cv : 0 = v
    · exact skip.step fun k => by rw [go, if_pos cs, if_pos cv]
    · exact (put 0 v (by omega) (by omega) v0 hv cv).step fun k => by rw [go, if_pos cs, if_neg cv, if_pos hcap]
  · by_cases ct : s = 1
    · by_cases cu : u = 1
      · exact skip.step fun k => by rw [go, if_neg cs, if_pos ct, if_pos cu]
      · exact (put u 1 u0 hu (by omega) (by omega) cu).step fun k => by rw [go, if_neg cs, if_pos ct, if_neg cu, if_pos hcap]
    · by_cases cu : u = v
      · exact skip.step fun k => by rw [go, if_neg cs, if_neg ct, if_pos cu]
      · exact (put u v u0 hu v0 hv cu).step fun k => by rw [go, if_neg cs, if_neg ct, if_neg cu, if_pos hcap]

theorem right06_l0 (b : List Int) (hb : b.length ≤ maxLen) (n : Int) (n0 : 3 ≤ n) (m : Nat) : ∀ (j : Nat) (l : List S67) (i h : Int), j + m = 18 → l.length ≤ j → (∀ a, a ∈ l → ArcOk n ⟨a.f0, a.f1, a.f2, a.f3⟩) → 0 ≤ i → Right06 b n (fun k => spec_l06Right.l0 k j b i h n l) := by
  induction m with
  | zero =>
    intro j l i h hj hl ha hi
    obtain ⟨x, i1, h1, e, x0, x1, _, hi1⟩ := below_ok b hb i h hi 14
    have hx := x1 (by decide)
    have hw : wrap64 (4 + x) = 4 + x := w64 (by clear e; omega) (by clear e; omega)
    have hlt : ¬ (j : Int) < 4 + x := by clear e; omega
    exact ⟨l, i1, h1, by omega, ha, hi1, Ev.step (f := fun _ => some (n, l, i1, h1)) (fun k => by rw [spec_l06Right.l0, e, Option.bind_some, hw, if_neg hlt]) (Ev.now _)⟩
  | succ m ih =>
    intro j l i h hj hl ha hi
    have hl18 : l.length ≤ 18 := by omega
    have hj1 : j + 1 + m = 18 := by omega
    have hl1 : l.length ≤ j + 1 := by omega
    have hlp : ∀ a : S67, (l ++ [a]).length ≤ j + 1 := fun a => by rw [List.length_append, List.length_singleton]; omega
    have hw2 : wrap64 ((j : Int) + 1) = ((j + 1 : Nat) : Int) := by rw [w64 (by omega) (by omega)]; omega
    obtain ⟨x, i1, h1, e, x0, x1, _, hi1⟩ := below_ok b hb i h hi 14
    have hx := x1 (by decide)
    have hw : wrap64 (4 + x) = 4 + x := by clear e hw2; exact w64 (by omega) (by omega)
    by_cases hlt : (j : Int) < 4 + x
    · obtain ⟨u, v, r, c, s, i6, h6, u0, hu, v0, hv, r0, hr, c0, hc, hi6, hd⟩ := arc_draw b hb n n0 i1 h1 hi1
      refine right06_arc (s := s) (r := r) (c := c) n0 u0 hu v0 hv (l := l) hl18 (fun k l => spec_l06Right.l0 k ((j + 1 : Nat) : Int) b i6 h6 n l) (ih (j + 1) l i6 h6 hj1 hl1 ha hi6) (fun u v a0 a1 b0 b1 hne => ih (j + 1) (l ++ [⟨u, v, r, c⟩]) i6 h6 hj1 (hlp _) (fun a hm => ?_) hi6) (fun k => ?_)
      · rcases List.mem_append.1 hm with hm | hm
        · exact ha a hm
        · rw [List.mem_singleton.1 hm]
          exact ⟨a0, a1, b0, b1, hne, r0, by show r ≤ 20; clear hw hw2 e hd; omega, c0, by show c ≤ 100; clear hw hw2 e hd; omega⟩
      · rw [spec_l06Right.l0, e, Option.bind_some, hw, if_pos hlt, hw2]
        exact hd (fun u v r c t => if t.1 = 0 then (if 0 = v then (spec_l06Right.l0 k ((j + 1 : Nat) : Int) b t.2.1 t.2.2 n l) else (if l.length < 4398046511104 then (spec_l06Right.l0 k ((j + 1 : Nat) : Int) b t.2.1 t.2.2 n (l ++ [⟨0, v, r, c⟩])) else (none))) else (if t.1 = 1 then (if u = 1 then (spec_l06Right.l0 k ((j + 1 : Nat) : Int) b t.2.1 t.2.2 n l) else (if l.length < 4398046511104 then (spec_l06Right.l0 k ((j + 1 : Nat) : Int) b t.2.1 t.2.2 n (l ++ [⟨u, 1, r, c⟩])) else (none))) else (if u = v then (spec_l06Right.l0 k ((j + 1 : Nat) : Int) b t.2.1 t.2.2 n l) else (if l.length < 4398046511104 then (spec_l06Right.l0 k ((j + 1 : Nat) : Int) b t.2.1 t.2.2 n (l ++ [⟨u, v, r, c⟩])) else (none)))))
    · exact ⟨l, i1, h1, hl18, ha, hi1, Ev.step (f := fun _ => some (n, l, i1, h1)) (fun k => by rw [spec_l06Right.l0, e, Option.bind_some, hw, if_neg hlt]) (Ev.now _)⟩

theorem right06_ev (b : List Int) (hb : b.length ≤ maxLen) (i hh : Int) (hi : 0 ≤ i) : ∃ (n : Int) (l : List S67) (i' h' : Int), NetOk n (arcs l) ∧ l.length ≤ 18 ∧ 0 ≤ i' ∧ Ev (fun k => spec_l06Right.f k b i hh) (n, l, i', h') := by
  obtain ⟨x, i1, h1, e, x0, x1, _, hi1⟩ := below_ok b hb i hh hi 6
  have hx := x1 (by omega)
  have hw : wrap64 (3 + x) = 3 + x := w64 (by omega) (by omega)
  obtain ⟨l, i', h', q1, q2, q3, q4⟩ := right06_l0 b hb (3 + x) (by omega) 18 0 [] i1 h1 (by omega) (Nat.le_refl _) (fun a ha => by cases ha) hi1
  rw [show ((0 : Nat) : Int) = 0 from rfl] at q4
  exact ⟨3 + x, l, i', h', net_of (by omega) (by omega) (by omega) q2, q1, q3, Ev.congr (fun k => by unfold spec_l06Right.f; rw [e, Option.bind_some, hw]) q4⟩

/-! impl.NetOk -/
theorem impl_arcs (n : Int) (l : List S67) (hl : l.length ≤ 3200) (d : Nat) : ∀ i : Int, 0 ≤ i → i + d = l.length →
    Ev (fun k => impl_NetOk.l0 k l (l.length : Int) i n l) (boolP (∀ j : Nat, i ≤ j → j < l.length → ArcOk n (at_ (arcs l) j))) := by
  induction d with
  | zero =>
    intro i h0 h1
    rw [boolP_true (fun j a b => by omega)]
    exact Ev.step (f := fun _ => some true) (fun k => by rw [impl_NetOk.l0, if_neg (by omega)]) (Ev.now _)
  | succ d ih =>
    intro i h0 h1
    have hi : ((i.toNat : Nat) : Int) = i := by omega
    have bad : ¬ ArcOk n (at_ (arcs l) i.toNat) → boolP (∀ j : Nat, i ≤ j → j < l.length → ArcOk n (at_ (arcs l) j)) = false := fun hb => boolP_false (fun h => hb (h i.toNat (by omega) (by omega)))
    have head : ∀ k, impl_NetOk.l0 (k + 1 + 1) l (l.length : Int) i n l = if ArcOk n (at_ (arcs l) i.toNat) then impl_NetOk.l0 k l (l.length : Int) (i + 1) n l else some false := fun k => by
      rw [impl_NetOk.l0, if_pos (by omega), if_pos h0, if_pos (by omega), at_0, at_1, at_2, at_3]
      simp only [impl_NetOk.j2]
      rw [w64 (x := i + 1) (by omega) (by omega)]
      by_cases c1 : (at_ (arcs l) i.toNat).u < 0
      · rw [if_pos c1, if_pos trivial, if_neg (by unfold ArcOk; omega)]
      rw [if_neg c1]
      by_cases c2 : (at_ (arcs l) i.toNat).u ≥ n
      · rw [if_pos c2, if_pos trivial, if_neg (by unfold ArcOk; omega)]
      rw [if_neg c2]
      by_cases c3 : (at_ (arcs l) i.toNat).v < 0
      · rw [if_pos c3, if_pos trivial, if_neg (by unfold ArcOk; omega)]
      rw [if_neg c3]
      by_cases c4 : (at_ (arcs l) i.toNat).v ≥ n
      · rw [if_pos c4, if_pos trivial, if_neg (by unfold ArcOk; omega)]
      rw [if_neg c4]
      by_cases c5 : (at_ (arcs l) i.toNat).u = (at_ (arcs l) i.toNat).v
      · rw [if_pos (beq_iff_eq.mpr c5), if_neg (by unfold ArcOk; omega)]
      rw [if_neg (by simpa using c5)]
      by_cases c6 : (at_ (arcs l) i.toNat).r < 0
      · rw [if_pos c6, if_neg (by unfold ArcOk; omega)]
      rw [if_neg c6]
      by_cases c7 : (at_ (arcs l) i.toNat).r > 20
      · rw [if_pos c7, if_neg (by unfold ArcOk; omega)]
      rw [if_neg c7]
      by_cases c8 : (at_ (arcs l) i.toNat).c < 0
      · rw [if_pos c8, if_neg (by unfold ArcOk; omega)]
      rw [if_neg c8]
      by_cases c9 : (at_ (arcs l) i.toNat).c > 100
      · rw [if_pos c9, if_neg (by unfold ArcOk; omega)]
      rw [if_neg c9, if_pos (by unfold ArcOk; omega)]
    by_cases ha : ArcOk n (at_ (arcs l) i.toNat)
    · have e : boolP (∀ j : Nat, i ≤ j → j < l.length → ArcOk n (at_ (arcs l) j)) = boolP (∀ j : Nat, i + 1 ≤ j → j < l.length → ArcOk n (at_ (arcs l) j)) := by
        rw [Bool.eq_iff_iff, boolP_iff, boolP_iff]
        constructor
        · intro h j a b; exact h j (by omega) b
        · intro h j a b
          by_cases hj : j = i.toNat
          · rw [hj]; exact ha
          · exact h j (by omega) b
      rw [e]
      exact Ev.step (g := fun k => impl_NetOk.l0 k l (l.length : Int) i n l) (f := fun k => impl_NetOk.l0 (k + 1) l (l.length : Int) i n l) (fun k => rfl) (Ev.step (fun k => by rw [head, if_pos ha]) (ih (i + 1) (by omega) (by omega)))
    · rw [bad ha]
      exact Ev.step (g := fun k => impl_NetOk.l0 k l (l.length : Int) i n l) (f := fun k => impl_NetOk.l0 (k + 1) l (l.length : Int) i n l) (fun k => rfl) (Ev.step (f := fun _ => some false) (fun k => by rw [head, if_neg ha]) (Ev.now _))

theorem iNetOk (n : Int) (l : List S67) (hlen : l.length ≤ 1048576) : Ev (fun k => impl_NetOk.f k n l) (boolP (NetOk n (arcs l))) := by
  have bad : ∀ hn : ¬ NetOk n (arcs l), Ev (fun k => impl_NetOk.j0 k true n l) (boolP (NetOk n (arcs l))) := fun hn => by
    rw [boolP_false hn]
    exact Ev.step (f := fun _ => some false) (fun k => by rw [impl_NetOk.j0, if_pos rfl]) (Ev.now _)
  by_cases h1 : n < 2
  · exact Ev.congr (fun k => by unfold impl_NetOk.f; rw [if_pos h1]) (bad (fun hh => by have := hh.1; omega))
  by_cases h2 : n > 1500
  · exact Ev.congr (fun k => by unfold impl_NetOk.f; rw [if_neg h1, if_pos h2]) (bad (fun hh => by have := hh.1; omega))
  refine Ev.congr (fun k => by unfold impl_NetOk.f; rw [if_neg h1, if_neg h2]) ?_
  by_cases h3 : (l.length : Int) > 3200
  · rw [decide_eq_true h3]
    exact bad (fun hh => by have := hh.1; rw [arcs_len] at this; omega)
  · rw [decide_eq_false h3]
    have e : boolP (NetOk n (arcs l)) = boolP (∀ j : Nat, (0 : Int) ≤ j → j < l.length → ArcOk n (at_ (arcs l) j)) := by
      rw [Bool.eq_iff_iff, boolP_iff, boolP_iff]
      constructor
      · intro h j a b; exact h.2 j (by rw [arcs_len]; exact b)
      · intro h; exact ⟨⟨by omega, by omega, by rw [arcs_len]; omega⟩, fun i hi => h i (by omega) (by rw [arcs_len] at hi; exact hi)⟩
    rw [e]
    exact Ev.step (fun k => by rw [impl_NetOk.j0, if_neg (by simp)]) (impl_arcs n l (by omega) l.length 0 (by omega) (by omega))

/-! impl.stepsOf: the steps that leave each node, and those that enter it -/
def toS (s : Nat × Bool) : S79 := ⟨s.1, s.2⟩
def outL (l : List Arc) (u : Int) : Nat → List (Nat × Bool)
  | 0 => []
  | m + 1 => outL l u m ++ ((if (at_ l m).u = u then [(m, false)] else []) ++ (if (at_ l m).v = u then [(m, true)] else []))
def inL (l : List Arc) (u : Int) : Nat → List (Nat × Bool)
  | 0 => []
  | m + 1 => inL l u m ++ ((if (at_ l m).v = u then [(m, false)] else []) ++ (if (at_ l m).u = u then [(m, true)] else []))

theorem outL_len (l : List Arc) (u : Int) (m : Nat) : (outL l u m).length ≤ 2 * m := by
  induction m with
  | zero => exact Nat.le_refl _
  | succ m ih => rw [outL, List.length_append, List.length_append]; split <;> split <;> simp <;> omega
theorem inL_len (l : List Arc) (u : Int) (m : Nat) : (inL l u m).length ≤ 2 * m := by
  induction m with
  | zero => exact Nat.le_refl _
  | succ m ih => rw [inL, List.length_append, List.length_append]; split <;> split <;> simp <;> omega

theorem mem_outL (l : List Arc) (u : Int) (m : Nat) (i : Nat) (b : Bool) : (i, b) ∈ outL l u m ↔ i < m ∧ sFrom l i b = u := by
  induction m with
  | zero => simp [outL]
  | succ m ih =>
    rw [outL, List.mem_append, List.mem_append, ih]
    have e1 : (i, b) ∈ (if (at_ l m).u = u then [(m, false)] else ([] : List (Nat × Bool))) ↔ (at_ l m).u = u ∧ i = m ∧ b = false := by split <;> simp [*]
    have e2 : (i, b) ∈ (if (at_ l m).v = u then [(m, true)] else ([] : List (Nat × Bool))) ↔ (at_ l m).v = u ∧ i = m ∧ b = true := by split <;> simp [*]
    rw [e1, e2]
    constructor
    · rintro (⟨h1, h2⟩ | ⟨h1, rfl, rfl⟩ | ⟨h1, rfl, rfl⟩)
      · exact ⟨by omega, h2⟩
      · exact ⟨by omega, h1⟩
      · exact ⟨by omega, h1⟩
    · rintro ⟨h1, h2⟩
      by_cases h : i < m
      · exact .inl ⟨h, h2⟩
      · obtain rfl : i = m := by omega
        cases b
        · exact .inr (.inl ⟨h2, rfl, rfl⟩)
        · exact .inr (.inr ⟨h2, rfl, rfl⟩)

theorem mem_inL (l : List Arc) (u : Int) (m : Nat) (i : Nat) (b : Bool) : (i, b) ∈ inL l u m ↔ i < m ∧ sTo l i b = u := by
  induction m with
  | zero => simp [inL]
  | succ m ih =>
    rw [inL, List.mem_append, List.mem_append, ih]
    have e1 : (i, b) ∈ (if (at_ l m).v = u then [(m, false)] else ([] : List (Nat × Bool))) ↔ (at_ l m).v = u ∧ i = m ∧ b = false := by split <;> simp [*]
    have e2 : (i, b) ∈ (if (at_ l m).u = u then [(m, true)] else ([] : List (Nat × Bool))) ↔ (at_ l m).u = u ∧ i = m ∧ b = true := by split <;> simp [*]
    rw [e1, e2]
    constructor
    · rintro (⟨h1, h2⟩ | ⟨h1, rfl, rfl⟩ | ⟨h1, rfl, rfl⟩)
      · exact ⟨by omega, h2⟩
      · exact ⟨by omega, h1⟩
      · exact ⟨by omega, h1⟩
    · rintro ⟨h1, h2⟩
      by_cases h : i < m
      · exact .inl ⟨h, h2⟩
      · obtain rfl : i = m := by omega
        cases b
        · exact .inr (.inl ⟨h2, rfl, rfl⟩)
        · exact .inr (.inr ⟨h2, rfl, rfl⟩)

theorem ends_ev (n : Int) (l : List S67) (i : Nat) (b : Bool) (hi : i < l.length) : impl_step_ends.f (i : Int) b n l = some (sFrom (arcs l) i b, sTo (arcs l) i b) := by
  have h0 := at_0 l (i : Int)
  have h1 := at_1 l (i : Int)
  rw [Int.toNat_natCast] at h0 h1
  unfold impl_step_ends.f
  rw [if_pos (by omega), if_pos (by omega), h0, h1]
  cases b
  · rw [if_neg (by simp)]; rfl
  · rw [if_pos rfl]; rfl

theorem room_ev (n : Int) (l : List S67) (f : List Int) (i : Nat) (b : Bool) (hi : i < l.length) (hf : f.length = l.length) (hw : -1000 ≤ sRoom (arcs l) f i b ∧ sRoom (arcs l) f i b ≤ 1000) : impl_step_room.f (i : Int) b n l f = some (sRoom (arcs l) f i b) := by
  have h2 := at_2 l (i : Int)
  have ef : rd f (i : Int) = f.getD i 0 := by unfold rd; rw [Int.toNat_natCast]
  rw [Int.toNat_natCast] at h2
  unfold impl_step_room.f
  unfold sRoom at hw ⊢
  cases b
  · simp only [Bool.false_eq_true, if_false] at hw ⊢
    rw [if_pos (by omega), if_pos (by omega), if_pos (by omega), h2, ef, w64 (by omega) (by omega)]
  · simp only [if_true] at hw ⊢
    rw [if_pos (by omega), if_pos (by omega), ef]

/-- the rows behind i arcs -/
structure Rows2 (l : List Arc) (N : Nat) (i : Nat) (L E : List (List S79)) : Prop where
  l1 : L.length = N
  l2 : E.length = N
  g1 : ∀ u : Nat, u < N → L.getD u [] = (outL l u i).map toS
  g2 : ∀ u : Nat, u < N → E.getD u [] = (inL l u i).map toS

theorem stepsOf_l0 {n : Int} {l : List S67} (hn : NetOk n (arcs l)) (hl : l.length ≤ 1048576) (d : Nat) : ∀ (i : Nat) (L E : List (List S79)), i + d = l.length → Rows2 (arcs l) n.toNat i L E → ∃ L' E', Ev (fun k => impl_stepsOf.l0 k L E (l.length : Int) i n l) (L', E') ∧ Rows2 (arcs l) n.toNat l.length L' E' := by
  induction d with
  | zero =>
    intro i L E hi R
    obtain rfl : i = l.length := by omega
    exact ⟨L, E, Ev.step (f := fun _ => some (L, E)) (fun k => by rw [impl_stepsOf.l0, if_neg (by omega)]) (Ev.now _), R⟩
  | succ d ih =>
    intro i L E hi R
    have hil : i < l.length := by omega
    have ha := hn.2 i (by rw [arcs_len]; exact hil)
    obtain ⟨a1, a2, a3, a4, a5, _⟩ := ha
    have hw : wrap64 ((i : Int) + 1) = ((i + 1 : Nat) : Int) := by rw [w64 (by omega) (by omega)]; omega
    have n2 := hn.1.1
    generalize hU : (at_ (arcs l) i).u = U at *
    generalize hV : (at_ (arcs l) i).v = V at *
    have hUt : ((U.toNat : Nat) : Int) = U := by omega
    have hVt : ((V.toNat : Nat) : Int) = V := by omega
    have lo := fun u => outL_len (arcs l) u i
    have li := fun u => inL_len (arcs l) u i
    -- the rows behind both steps
    have R' : Rows2 (arcs l) n.toNat (i + 1) ((L.set U.toNat (L.getD U.toNat [] ++ [toS (i, false)])).set V.toNat ((L.set U.toNat (L.getD U.toNat [] ++ [toS (i, false)])).getD V.toNat [] ++ [toS (i, true)])) ((E.set V.toNat (E.getD V.toNat [] ++ [toS (i, false)])).set U.toNat ((E.set V.toNat (E.getD V.toNat [] ++ [toS (i, false)])).getD U.toNat [] ++ [toS (i, true)])) := by
      refine ⟨by simp [R.l1], by simp [R.l2], fun u hu => ?_, fun u hu => ?_⟩
      · rw [getD_set _ _ _ _ _ (by simp [R.l1]; omega), getD_set _ _ _ _ _ (by rw [R.l1]; omega), getD_set _ _ _ _ _ (by rw [R.l1]; omega)]
        rw [outL, hU, hV, List.map_append, List.map_append, ← R.g1 u hu]
        by_cases c1 : u = V.toNat
        · subst c1
          rw [if_pos rfl, if_neg (by omega), if_neg (show ¬ U = ((V.toNat : Nat) : Int) by omega), if_pos (show V = ((V.toNat : Nat) : Int) by omega)]
          rfl
        · rw [if_neg c1, if_neg (show ¬ V = (u : Int) by omega)]
          by_cases c2 : u = U.toNat
          · subst c2
            rw [if_pos rfl, if_pos (show U = ((U.toNat : Nat) : Int) by omega)]
            simp
          · rw [if_neg c2, if_neg (show ¬ U = (u : Int) by omega)]
            simp
      · rw [getD_set _ _ _ _ _ (by simp [R.l2]; omega), getD_set _ _ _ _ _ (by rw [R.l2]; omega), getD_set _ _ _ _ _ (by rw [R.l2]; omega)]
        rw [inL, hU, hV, List.map_append, List.map_append, ← R.g2 u hu]
        by_cases c1 : u = U.toNat
        · subst c1
          rw [if_pos rfl, if_neg (by omega), if_neg (show ¬ V = ((U.toNat : Nat) : Int) by omega), if_pos (show U = ((U.toNat : Nat) : Int) by omega)]
          rfl
        · rw [if_neg c1, if_neg (show ¬ U = (u : Int) by omega)]
          by_cases c2 : u = V.toNat
          · subst c2
            rw [if_pos rfl, if_pos (show V = ((V.toNat : Nat) : Int) by omega)]
            simp
          · rw [if_neg c2, if_neg (show ¬ V = (u : Int) by omega)]
            simp
    obtain ⟨L', E', h1, h2⟩ := ih (i + 1) _ _ (by omega) R'
    refine ⟨L', E', ?_, h2⟩
    have lL : ∀ u : Nat, u < n.toNat → (L.getD u []).length ≤ 2097152 := fun u hu => by rw [R.g1 u hu, List.length_map]; have := lo u; omega
    have lE : ∀ u : Nat, u < n.toNat → (E.getD u []).length ≤ 2097152 := fun u hu => by rw [R.g2 u hu, List.length_map]; have := li u; omega
    have ef := ends_ev n l i false hil
    have et := ends_ev n l i true hil
    have f1 : sFrom (arcs l) i false = U := hU
    have f2 : sTo (arcs l) i false = V := hV
    have f3 : sFrom (arcs l) i true = V := hV
    have f4 : sTo (arcs l) i true = U := hU
    rw [f1, f2] at ef
    rw [f3, f4] at et
    have rL : ∀ (X : List (List S79)) (z : Int), rd_L4 X z = X.getD z.toNat [] := fun X z => rfl
    have w1 : wrap64 ((0 : Int) + 1) = 1 := by rw [w64 (by omega) (by omega)]; rfl
    have w2 : wrap64 ((1 : Int) + 1) = 2 := by rw [w64 (by omega) (by omega)]; rfl
    have p0 : rd_T79 [(⟨(i : Int), false⟩ : S79), (⟨(i : Int), true⟩ : S79)] 0 = ⟨(i : Int), false⟩ := rfl
    have p1 : rd_T79 [(⟨(i : Int), false⟩ : S79), (⟨(i : Int), true⟩ : S79)] 1 = ⟨(i : Int), true⟩ := rfl
    have pl : (([(⟨(i : Int), false⟩ : S79), (⟨(i : Int), true⟩ : S79)] : List S79).length : Int) = 2 := rfl
    refine Ev.step (fun k => by rw [impl_stepsOf.l0, if_pos (by omega), Option.bind_some, pl]) ?_
    refine Ev.step (fun k => by conv => lhs; rw [impl_stepsOf.l1, if_pos (by omega), if_pos (by omega), pl, if_pos (by omega), p0]; dsimp only; rw [ef, Option.bind_some]; dsimp only; rw [if_pos a1, if_pos (by rw [R.l1]; omega), rL, if_pos (by have := lL U.toNat (by omega); omega), if_pos a3, if_pos (by rw [R.l2]; omega), rL, if_pos (by have := lE V.toNat (by omega); omega), w1]) ?_
    refine Ev.step (fun k => by conv => lhs; rw [impl_stepsOf.l1, if_pos (by omega), if_pos (by omega), pl, if_pos (by omega), p1]; dsimp only; rw [et, Option.bind_some]; dsimp only; rw [if_pos a3, if_pos (by rw [List.length_set, R.l1]; omega), rL, if_pos (by rw [getD_set _ _ _ _ _ (by rw [R.l1]; omega), if_neg (by omega)]; have := lL V.toNat (by omega); omega), if_pos a1, if_pos (by rw [List.length_set, R.l2]; omega), rL, if_pos (by rw [getD_set _ _ _ _ _ (by rw [R.l2]; omega), if_neg (by omega)]; have := lE U.toNat (by omega); omega), w2]) ?_
    exact Ev.step (fun k => by rw [impl_stepsOf.l1, if_neg (by omega), hw]; rfl) h1

theorem stepsOf_ev {n : Int} {l : List S67} (hn : NetOk n (arcs l)) (hl : l.length ≤ 1048576) : ∃ L E, Ev (fun k => impl_stepsOf.f k n l) (L, E) ∧ Rows2 (arcs l) n.toNat l.length L E := by
  have n2 := hn.1.1
  have n3 := hn.1.2.1
  obtain ⟨L, E, h1, h2⟩ := stepsOf_l0 hn hl l.length 0 (List.replicate n.toNat []) (List.replicate n.toNat []) (Nat.zero_add _) ⟨by simp, by simp, fun u hu => by
    rw [List.getD_eq_getElem?_getD, List.getElem?_replicate, if_pos hu]; rfl, fun u hu => by
    rw [List.getD_eq_getElem?_getD, List.getElem?_replicate, if_pos hu]; rfl⟩
  rw [show ((0 : Nat) : Int) = 0 from rfl] at h1
  exact ⟨L, E, Ev.congr (fun k => by unfold impl_stepsOf.f; rw [if_pos (by omega), if_pos (by omega)]) h1, h2⟩

/-! reading the rows of steps -/
theorem rdOf_eq (xs : List Bool) (i : Int) : rdOf false xs i = xs.getD i.toNat false := rfl

theorem room_bound {n : Int} {l : List Arc} {f : List Int} (hn : NetOk n l) (hr : InRoom l f) {i : Nat} (hi : i < l.length) (b : Bool) : -1000 ≤ sRoom l f i b ∧ sRoom l f i b ≤ 1000 := by
  have a := hr i hi
  have c := (hn.2 i hi).2.2.2.2.2
  unfold sRoom
  cases b
  · simp only [Bool.false_eq_true, if_false]; omega
  · simp only [if_true]; omega

theorem toS_get (row : List (Nat × Bool)) (j : Nat) (hj : j < row.length) : rd_T79 (row.map toS) (j : Int) = ⟨((row.getD j (0, false)).1 : Int), (row.getD j (0, false)).2⟩ := by
  unfold rd_T79
  rw [Int.toNat_natCast, List.getD_eq_getElem?_getD, List.getD_eq_getElem?_getD, List.getElem?_map, List.getElem?_eq_getElem hj]
  rfl

theorem row_mem {row : List (Nat × Bool)} {j : Nat} (hj : j < row.length) : row.getD j (0, false) ∈ row := by
  rw [List.getD_eq_getElem?_getD, List.getElem?_eq_getElem hj]
  exact List.getElem_mem hj

theorem row_take {row : List (Nat × Bool)} {j : Nat} (hj : j < row.length) {s : Nat × Bool} (h : s ∈ row.take (j + 1)) : s ∈ row.take j ∨ s = row.getD j (0, false) := by
  rw [List.take_add_one, List.getElem?_eq_getElem hj, List.mem_append] at h
  rw [List.getD_eq_getElem?_getD, List.getElem?_eq_getElem hj]
  rcases h with h | h
  · exact .inl h
  · exact .inr (by simpa using h)

/-! impl.reach: the search by a queue -/
def ByI (bys : List S79) (v : Int) (i : Nat) (b : Bool) : Prop := 0 ≤ v ∧ bys.getD v.toNat z79 = ⟨i, b⟩

structure BfsI (N : Nat) (l : List Arc) (f : List Int) (h : Nat) (bys : List S79) (seen : List Bool) (Q : List Int) : Prop extends Bfs N l f (ByI bys) h seen Q where
  blen : bys.length = N
  cnt : unseen N seen + Q.length = N

theorem BfsI.len_le {N : Nat} {l : List Arc} {f : List Int} {h : Nat} {bys : List S79} {seen : List Bool} {Q : List Int} (q : BfsI N l f h bys seen Q) : Q.length ≤ N := by
  have := (unseen_bound N seen).1
  have := q.cnt
  omega

section
variable {n : Int} {l : List S67} {f : List Int} {L E : List (List S79)} {G : List S79 × List Bool → Prop}
theorem reach_l1 (hn : NetOk n (arcs l)) (hl : l.length ≤ 1048576) (hf : f.length = l.length) (hr : InRoom (arcs l) f) (h : Nat) (v : Int)
    (next : ∀ bys seen Q, BfsI n.toNat (arcs l) f (h + 1) bys seen Q → ∃ r, Ev (fun k => impl_reach.l0 k L f bys seen Q ((h + 1 : Nat) : Int) n l) r ∧ G r) (m : Nat) :
    ∀ (j : Nat) (bys : List S79) (seen : List Bool) (Q : List Int), j + m = (outL (arcs l) v l.length).length → h < Q.length → Q.getD h 0 = v → BfsI n.toNat (arcs l) f h bys seen Q → (∀ s, s ∈ (outL (arcs l) v l.length).take j → 0 < sRoom (arcs l) f s.1 s.2 → seen.getD (sTo (arcs l) s.1 s.2).toNat false = true) →
    ∃ r, Ev (fun k => impl_reach.l1 k L f bys seen Q h ((outL (arcs l) v l.length).map toS) ((outL (arcs l) v l.length).length : Int) j n l) r ∧ G r := by
  have hol := outL_len (arcs l) v l.length
  have n15 := hn.1.2.1
  induction m with
  | zero =>
    intro j bys seen Q hj hh hv q hs
    rw [List.take_of_length_le (by omega)] at hs
    have hql := q.len_le
    have hw : wrap64 ((h : Int) + 1) = ((h + 1 : Nat) : Int) := by rw [w64 (by omega) (by omega)]; omega
    obtain ⟨r, h1, h2⟩ := next bys seen Q { q with
     done := fun a ha haq i b hi hfr hro => by
      by_cases e : a = h
      · subst e
        have hil : i < l.length := by rw [arcs_len] at hi; exact hi
        have hmem : (i, b) ∈ outL (arcs l) v l.length := (mem_outL (arcs l) v l.length i b).2 ⟨hil, hfr.trans hv⟩
        exact hs (i, b) hmem hro
      · exact q.done a (Nat.lt_of_le_of_ne (Nat.le_of_lt_succ ha) e) haq i b hi hfr hro }
    exact ⟨r, Ev.step (fun k => by rw [impl_reach.l1, if_neg (by omega), hw]) h1, h2⟩
  | succ m ih =>
    intro j bys seen Q hj hh hv q hs
    have hjl : j < (outL (arcs l) v l.length).length := by omega
    have hj1 : j + 1 + m = (outL (arcs l) v l.length).length := by omega
    have hql := q.len_le
    have hw : wrap64 ((j : Int) + 1) = ((j + 1 : Nat) : Int) := by rw [w64 (by omega) (by omega)]; omega
    have hml : ((outL (arcs l) v l.length).map toS).length = (outL (arcs l) v l.length).length := List.length_map ..
    have hA : (j : Int) < ((outL (arcs l) v l.length).length : Int) := Int.ofNat_lt.2 hjl
    have hB : (0 : Int) ≤ (j : Int) := Int.natCast_nonneg j
    have hC : (j : Int) < (((outL (arcs l) v l.length).map toS).length : Int) := by rw [hml]; exact hA
    have hSl : (seen.length : Int) = n.toNat := by rw [q.len]
    have hBl : (bys.length : Int) = n.toNat := by rw [q.blen]
    have hQl : Q.length < 17592186044416 := by omega
    obtain ⟨s, hib⟩ : ∃ s, s = (outL (arcs l) v l.length).getD j (0, false) := ⟨_, rfl⟩
    have hmj : s ∈ outL (arcs l) v l.length := by rw [hib]; exact row_mem hjl
    have hg := toS_get _ j hjl
    rw [← hib] at hg
    have hsplit : ∀ s', s' ∈ (outL (arcs l) v l.length).take (j + 1) → s' ∈ (outL (arcs l) v l.length).take j ∨ s' = s := fun s' h' => by rw [hib]; exact row_take hjl h'
    clear hib
    obtain ⟨i, b⟩ := s
    obtain ⟨hi, hfr'⟩ := (mem_outL (arcs l) v l.length i b).1 hmj
    have hia : i < (arcs l).length := by rw [arcs_len]; exact hi
    obtain ⟨_, e2, _, e4, _, _, _⟩ := Go.Proofs.Ytgkpgigoonhgdaa.MDist.ends_ok hn hia b
    have hu0 : 0 ≤ sTo (arcs l) i b := by rw [← e2]; exact Int.natCast_nonneg _
    have hu1 : sTo (arcs l) i b < (n.toNat : Int) := by rw [← e2]; exact Int.ofNat_lt.2 e4
    have het := ends_ev n l i b hi
    have hro := room_ev n l f i b hi hf (room_bound hn hr hia b)
    obtain ⟨u, hu⟩ : ∃ u, Aside0 (u = sTo (arcs l) i b) := ⟨_, ⟨rfl⟩⟩
    obtain ⟨rm, hrm⟩ : ∃ rm, Aside0 (rm = sRoom (arcs l) f i b) := ⟨_, ⟨rfl⟩⟩
    clear e2 e4
    rw [← hu.out] at hu0 hu1 het
    rw [← hrm.out] at hro
    have hfr := Aside0.mk hfr'
    have hb2 := Aside0.mk hg
    clear hfr' hg
    have hsu : u < (seen.length : Int) := by omega
    have hbu : u < (bys.length : Int) := by omega
    have hun : u.toNat < n.toNat := by omega
    by_cases c1 : seen.getD u.toNat false = true
    · obtain ⟨r, h1, h2⟩ := ih (j + 1) bys seen Q hj1 hh hv q (fun s' hm hrm' => by
        rcases hsplit s' hm with e | e
        · exact hs s' e hrm'
        · subst e; show seen.getD (sTo (arcs l) i b).toNat false = true; rw [← hu.out]; exact c1)
      exact ⟨r, Ev.step (fun k => by rw [impl_reach.l1, if_pos hA, if_pos hB, if_pos hC, hb2.out]; dsimp only; rw [het, Option.bind_some]; dsimp only; rw [if_pos hu0, if_pos hsu, rdOf_eq, if_pos c1, hw]) h1, h2⟩
    · have c1' : seen.getD u.toNat false = false := by cases hx : seen.getD u.toNat false with
        | true => exact absurd hx c1
        | false => rfl
      by_cases c2 : rm > 0
      · have hbs : ∀ x : Nat, (bys.set u.toNat (⟨(i : Int), b⟩ : S79)).getD x z79 = if x = u.toNat then (⟨(i : Int), b⟩ : S79) else bys.getD x z79 := fun x => getD_set _ _ _ _ _ (by rw [q.blen]; exact hun)
        have q2 := q.toBfs.put (By' := ByI (bys.set u.toNat (⟨(i : Int), b⟩ : S79))) hh hia (hfr.out.trans hv.symm) (by rw [← hrm.out]; exact c2) (by rw [← hu.out]; exact hu0) (by rw [← hu.out]; exact hu1) (by rw [← hu.out]; exact c1') (by rw [← hu.out]; exact ⟨hu0, by rw [hbs, if_pos rfl]⟩) (fun v' j' c' hne hB' => ⟨hB'.1, by
          rw [← hu.out] at hne
          have h0 := hB'.1
          rw [hbs, if_neg (by omega)]; exact hB'.2⟩)
        rw [← hu.out] at q2
        have hset : ∀ x : Nat, (seen.set u.toNat true).getD x false = if x = u.toNat then true else seen.getD x false := fun x => getD_set _ _ _ _ _ (by rw [q.len]; exact hun)
        have hcnt := unseen_set q.len (y := u.toNat) hun c1'
        have hcq := q.cnt
        have hcnt2 : unseen n.toNat (seen.set u.toNat true) + ((Q ++ [u]).length : Int) = n.toNat := by rw [hcnt, List.length_append]; simp only [List.length_cons, List.length_nil]; omega
        obtain ⟨r, h1, h2⟩ := ih (j + 1) _ _ (Q ++ [u]) hj1 (by rw [List.length_append]; omega) (by rw [getD_app, if_pos hh]; exact hv) ⟨q2, by rw [List.length_set]; exact q.blen, hcnt2⟩ (fun s' hm hrm' => by
          rw [hset]
          rcases hsplit s' hm with e | e
          · split
            · rfl
            · exact hs s' e hrm'
          · subst e; rw [if_pos (by show (sTo (arcs l) i b).toNat = u.toNat; rw [← hu.out])])
        exact ⟨r, Ev.step (fun k => by rw [impl_reach.l1, if_pos hA, if_pos hB, if_pos hC, hb2.out]; dsimp only; rw [het, Option.bind_some]; dsimp only; rw [if_pos hu0, if_pos hsu, rdOf_eq, if_neg c1, hro, Option.bind_some, if_pos c2, if_pos hbu, if_pos hQl, hw]) h1, h2⟩
      · obtain ⟨r, h1, h2⟩ := ih (j + 1) bys seen Q hj1 hh hv q (fun s' hm hrm' => by
          rcases hsplit s' hm with e | e
          · exact hs s' e hrm'
          · subst e; exact absurd (by rw [hrm.out]; exact hrm') c2)
        exact ⟨r, Ev.step (fun k => by rw [impl_reach.l1, if_pos hA, if_pos hB, if_pos hC, hb2.out]; dsimp only; rw [het, Option.bind_some]; dsimp only; rw [if_pos hu0, if_pos hsu, rdOf_eq, if_neg c1, hro, Option.bind_some, if_neg c2, hw]) h1, h2⟩

theorem reach_l0 (hn : NetOk n (arcs l)) (hl : l.length ≤ 1048576) (hf : f.length = l.length) (hr : InRoom (arcs l) f) (R : Rows2 (arcs l) n.toNat l.length L E) (m : Nat) : ∀ (h : Nat) (bys : List S79) (seen : List Bool) (Q : List Int), h + m = n.toNat → BfsI n.toNat (arcs l) f h bys seen Q → ∃ r, Ev (fun k => impl_reach.l0 k L f bys seen Q h n l) r ∧ ∃ Q', BfsI n.toNat (arcs l) f Q'.length r.1 r.2 Q' := by
  have stop : ∀ (h : Nat) (bys : List S79) (seen : List Bool) (Q : List Int), Q.length ≤ h → BfsI n.toNat (arcs l) f h bys seen Q → ∃ r, Ev (fun k => impl_reach.l0 k L f bys seen Q h n l) r ∧ ∃ Q', BfsI n.toNat (arcs l) f Q'.length r.1 r.2 Q' := fun h bys seen Q hq q =>
    ⟨(bys, seen), Ev.step (f := fun _ => some (bys, seen)) (fun k => by rw [impl_reach.l0, if_neg (by omega)]) (Ev.now _), Q, { q with done := fun a ha haq => q.done a (by omega) haq }⟩
  induction m with
  | zero =>
    intro h bys seen Q hh q
    exact stop h bys seen Q (by have := q.len_le; omega) q
  | succ m ih =>
    intro h bys seen Q hh q
    by_cases hq : h < Q.length
    · have hin := q.inQ h hq
      have er : rd_L4 L (rd Q (h : Int)) = (outL (arcs l) (Q.getD h 0) l.length).map toS := by
        have e1 : rd Q (h : Int) = Q.getD h 0 := by unfold rd; rw [Int.toNat_natCast]
        rw [e1]
        show L.getD (Q.getD h 0).toNat [] = _
        rw [R.g1 _ (by omega), show (((Q.getD h 0).toNat : Nat) : Int) = Q.getD h 0 by omega]
      have e1 : rd Q (h : Int) = Q.getD h 0 := by unfold rd; rw [Int.toNat_natCast]
      obtain ⟨r, h1, h2⟩ := reach_l1 (L := L) (G := fun r => ∃ Q', BfsI n.toNat (arcs l) f Q'.length r.1 r.2 Q') hn hl hf hr h (Q.getD h 0) (fun bys seen Q q => ih (h + 1) bys seen Q (by omega) q) (outL (arcs l) (Q.getD h 0) l.length).length 0 bys seen Q (Nat.zero_add _) hq rfl q (fun s hs => by simp at hs)
      rw [show ((0 : Nat) : Int) = 0 from rfl] at h1
      exact ⟨r, Ev.step (fun k => by rw [impl_reach.l0, if_pos (by omega), if_pos (by omega), if_pos (by rw [e1]; exact hin.1), if_pos (by rw [e1, R.l1]; exact hin.2.1), er, List.length_map]) h1, h2⟩
    · exact stop h bys seen Q (by omega) q

theorem reach_ev (hn : NetOk n (arcs l)) (hl : l.length ≤ 1048576) (hf : f.length = l.length) (hr : InRoom (arcs l) f) (R : Rows2 (arcs l) n.toNat l.length L E) : ∃ bys seen, Ev (fun k => impl_reach.f k n l L f) (bys, seen) ∧ ∃ Q, BfsI n.toNat (arcs l) f Q.length bys seen Q := by
  have n2 := hn.1.1
  have n3 := hn.1.2.1
  have hrep : ∀ x : Nat, (List.replicate n.toNat false).getD x false = false := fun x => by
    rw [List.getD_eq_getElem?_getD, List.getElem?_replicate]; split <;> rfl
  have h0 : ∀ x : Nat, ((List.replicate n.toNat false).set 0 true).getD x false = if x = 0 then true else false := fun x => by
    rw [getD_set _ _ _ _ _ (by simp; omega), hrep]
  have q0 : BfsI n.toNat (arcs l) f 0 (List.replicate n.toNat z79) ((List.replicate n.toNat false).set 0 true) [0] := by
    refine ⟨⟨by simp, fun a ha => ?_, fun a b ha hb _ => ?_, fun x hx => ?_, ⟨by simp, rfl⟩, fun a h1 h2 => ?_, fun a ha => by omega⟩, by simp, ?_⟩
    · obtain rfl : a = 0 := by simp at ha; omega
      refine ⟨Int.le_refl _, ?_, by rw [h0]; rfl⟩
      show (0 : Int) < _
      omega
    · simp at ha hb; omega
    · rw [h0] at hx
      by_cases e : x = 0
      · exact ⟨0, by simp, by rw [e]; rfl⟩
      · rw [if_neg e] at hx; cases hx
    · simp at h2; omega
    · have hu := unseen_set (N := n.toNat) (seen := List.replicate n.toNat false) (by simp) (y := 0) (by omega) (hrep 0)
      have hz : unseen n.toNat (List.replicate n.toNat false) = n.toNat := by
        unfold unseen
        have : sumTo n.toNat (fun i => if (List.replicate n.toNat false).getD i false = true then (0 : Int) else 1) = sumTo n.toNat (fun _ => 1) := sumTo_congr (fun i _ => by rw [hrep]; rfl)
        rw [this]
        generalize n.toNat = N
        induction N with
        | zero => rfl
        | succ N ih => rw [sumTo, ih]; omega
      rw [hu, hz]
      simp
  obtain ⟨r, h1, Q, h2⟩ := reach_l0 (L := L) (E := E) hn hl hf hr R n.toNat 0 _ _ _ (Nat.zero_add _) q0
  rw [show ((0 : Nat) : Int) = 0 from rfl] at h1
  obtain ⟨bys, seen⟩ := r
  refine ⟨bys, seen, Ev.congr (fun k => by unfold impl_reach.f; rw [if_pos (by omega), if_pos (by omega), if_pos (by omega), Option.bind_some, if_pos (by simp; omega)]; rfl) h1, Q, h2⟩
end

/-! impl.excess -/
theorem excess_l0 {n : Int} {l : List S67} {f : List Int} (hn : NetOk n (arcs l)) (hf : f.length = l.length) (hr : InRoom (arcs l) f) (hm : l.length ≤ 1048576) (d : Nat) : ∀ (i : Nat) (ys : List Int), i + d = l.length →
    ys.length = n.toNat → (∀ x : Nat, (x : Int) < n → ys.getD x 0 = exc (arcs l) f i x) →
    ∃ zs, Ev (fun k => impl_excess.l0 k f ys l (l.length : Int) i) zs ∧ zs.length = n.toNat ∧ ∀ x : Nat, (x : Int) < n → zs.getD x 0 = exc (arcs l) f l.length x := by
  induction d with
  | zero =>
    intro i ys h1 hl hy
    obtain rfl : i = l.length := h1
    exact ⟨ys, Ev.step (f := fun _ => some ys) (fun k => by rw [impl_excess.l0, if_neg nlt_i]) (Ev.now _), hl, hy⟩
  | succ d ih =>
    intro i ys h1 hl hy
    have hi : i < l.length := by omega
    have hia : i < (arcs l).length := by rw [arcs_len]; exact hi
    have hif : i < f.length := by rw [hf]; exact hi
    obtain ⟨a1, a2, a3, a4, a5, a6, a7, a8, a9⟩ := hn.2 i hia
    have w1 := w64e (exc_bound hn hr i (Nat.le_of_lt hia) (at_ (arcs l) i).v) (hr i hia) a7
    have w2 := w64e (exc_bound hn hr i (Nat.le_of_lt hia) (at_ (arcs l) i).u) (hr i hia) a7
    obtain ⟨p1, p2, p3⟩ := put_step (G := fun x => exc (arcs l) f i x) (G' := fun x => exc (arcs l) f (i + 1) x) (F := f.getD i 0) a1 a2 a3 a4 a5 hl hy (fun x => rfl)
    obtain ⟨zs, hz, hzl, hzx⟩ := ih (i + 1) _ (by omega) (by rw [List.length_set, List.length_set]; exact hl) p3
    refine ⟨zs, Ev.step (fun k => ?_) hz, hzl, hzx⟩
    have ti : ((i : Int)).toNat = i := Int.toNat_natCast i
    have e0 : (rd_T67 l (i : Int)).f0 = (at_ (arcs l) i).u := by rw [at_0, ti]
    have e1 : (rd_T67 l (i : Int)).f1 = (at_ (arcs l) i).v := by rw [at_1, ti]
    have ef : rd f (i : Int) = f.getD i 0 := by unfold rd; rw [ti]
    have p1' : rd ys (at_ (arcs l) i).v = exc (arcs l) f i (at_ (arcs l) i).v := p1
    have p2' : rd (ys.set (at_ (arcs l) i).v.toNat (exc (arcs l) f i (at_ (arcs l) i).v + f.getD i 0)) (at_ (arcs l) i).u = exc (arcs l) f i (at_ (arcs l) i).u := p2
    rw [impl_excess.l0, if_pos (lt_i hi), if_pos (ge_i i), if_pos (lt_i hi), e0, e1, ef, if_pos a3, if_pos (lt_len a4 hl a3), if_pos (lt_i hif), p1', w1.1, Option.bind_some, if_pos a1, if_pos (lt_len a2 hl a1), p2', w2.2.1, next_i hi hm]

theorem excess_ev {n : Int} {l : List S67} {f : List Int} (hn : NetOk n (arcs l)) (hf : f.length = l.length) (hr : InRoom (arcs l) f) :
    ∃ zs, Ev (fun k => impl_excess.f k n l f) zs ∧ zs.length = n.toNat ∧ ∀ x : Nat, (x : Int) < n → zs.getD x 0 = exc (arcs l) f l.length x := by
  have g1 : 0 ≤ n := by have := hn.1.1; omega
  have g2 : n.toNat ≤ 35184372088832 := by have := hn.1.2.1; omega
  have hm : l.length ≤ 1048576 := by have := hn.1.2.2; rw [arcs_len] at this; omega
  obtain ⟨zs, hz, h1, h2⟩ := excess_l0 hn hf hr hm l.length 0 (List.replicate n.toNat 0) (Nat.zero_add _) (by simp) (fun x hx => by
    rw [List.getD_eq_getElem?_getD, List.getElem?_replicate]
    split <;> rfl)
  rw [show ((0 : Nat) : Int) = 0 from rfl] at hz
  exact ⟨zs, Ev.congr (fun k => by unfold impl_excess.f; rw [if_pos g1, if_pos g2]) hz, h1, h2⟩

/-! what ReachedBy answers -/
def ReachIs (n : Int) (l : List Arc) (f : List Int) (r : List Bool) : Prop := (¬ FlowOk n l f ∧ r = []) ∨ (FlowOk n l f ∧ r.length = n.toNat ∧ Rch l f (fun x => r.getD x false))

theorem ReachIs.unique {n : Int} {l : List Arc} {f : List Int} {r s : List Bool} (p : ReachIs n l f r) (q : ReachIs n l f s) : r = s := by
  rcases p with ⟨p1, p2⟩ | ⟨p1, p2, p3⟩
  · rcases q with ⟨q1, q2⟩ | ⟨q1, q2, q3⟩
    · rw [p2, q2]
    · exact absurd q1 p1
  · rcases q with ⟨q1, q2⟩ | ⟨q1, q2, q3⟩
    · exact absurd p1 q1
    · refine list_eq (by rw [p2, q2]) (fun j hj => ?_)
      have hj2 : j < s.length := by rw [q2, ← p2]; exact hj
      have e : r.getD j false = s.getD j false := p3.unique q3 j
      rw [List.getD_eq_getElem?_getD, List.getD_eq_getElem?_getD, List.getElem?_eq_getElem hj, List.getElem?_eq_getElem hj2] at e
      rw [List.getElem?_eq_getElem hj, List.getElem?_eq_getElem hj2]
      simpa using e

theorem ReachIs.len {n : Int} {l : List Arc} {f : List Int} {r : List Bool} (p : ReachIs n l f r) : r.length ≤ 1500 := by
  rcases p with ⟨_, p2⟩ | ⟨p1, p2, _⟩
  · rw [p2]; simp
  · have := p1.1.1.2.1; omega

/-! what MostFlow answers; a push along a way that was noted -/
def MostIs (n : Int) (l : List Arc) (m : Int) (r : List Bool) : Prop := (¬ NetOk n l ∧ m = -1 ∧ r = []) ∨ (NetOk n l ∧ ∃ f, FlowOk n l f ∧ r.length = n.toNat ∧ Rch l f (fun x => r.getD x false) ∧ r.getD 1 false = false ∧ m = - exc l f l.length 0)

theorem MostIs.unique {n : Int} {l : List Arc} {m m' : Int} {r s : List Bool} (p : MostIs n l m r) (q : MostIs n l m' s) : m = m' ∧ r = s := by
  rcases p with ⟨p1, p2, p3⟩ | ⟨p1, f, p2, p3, p4, p5, p6⟩
  · rcases q with ⟨q1, q2, q3⟩ | ⟨q1, _⟩
    · exact ⟨by omega, by rw [p3, q3]⟩
    · exact absurd q1 p1
  · rcases q with ⟨q1, _⟩ | ⟨q1, g, q2, q3, q4, q5, q6⟩
    · exact absurd p1 q1
    · obtain ⟨h1, h2⟩ := max_same p2 q2 p4 q4 p5 q5
      refine ⟨by omega, list_eq (by rw [p3, q3]) (fun j hj => ?_)⟩
      have hj2 : j < s.length := by rw [q3, ← p3]; exact hj
      have e : r.getD j false = s.getD j false := h1 j
      rw [List.getD_eq_getElem?_getD, List.getD_eq_getElem?_getD, List.getElem?_eq_getElem hj, List.getElem?_eq_getElem hj2] at e
      rw [List.getElem?_eq_getElem hj, List.getElem?_eq_getElem hj2]
      simpa using e

theorem MostIs.bounds {n : Int} {l : List Arc} {m : Int} {r : List Bool} (p : MostIs n l m r) : -64000 ≤ m ∧ m ≤ 64000 ∧ r.length ≤ 1500 := by
  rcases p with ⟨_, p2, p3⟩ | ⟨p1, f, p2, p3, _, _, p6⟩
  · rw [p3]; simp; omega
  · have := exc_bound p1 p2.2.2.1 l.length (Nat.le_refl _) 0
    have := p1.1.2.1
    omega

/-- no flow is greater than 64000 -/
theorem size_bound {n : Int} {l : List Arc} {f : List Int} (h : FlowOk n l f) : -64000 ≤ exc l f l.length 0 ∧ exc l f l.length 0 ≤ 64000 := exc_bound h.1 h.2.2.1 l.length (Nat.le_refl _) 0

/-- the flow that nothing goes through -/
theorem zero_flow {n : Int} {l : List Arc} (h : NetOk n l) : FlowOk n l (List.replicate l.length 0) ∧ exc l (List.replicate l.length 0) l.length 0 = 0 := by
  have hz : ∀ i : Nat, (List.replicate l.length (0 : Int)).getD i 0 = 0 := fun i => by
    rw [List.getD_eq_getElem?_getD, List.getElem?_replicate]; split <;> rfl
  have he : ∀ x : Int, exc l (List.replicate l.length 0) l.length x = 0 := fun x => by
    unfold exc
    exact (sumTo_congr (g := fun _ => 0) (fun i _ => by rw [hz]; split <;> split <;> rfl)).trans (sumTo_zero l.length)
  exact ⟨⟨h, by simp, fun i hi => by rw [hz]; have := (h.2 i hi).2.2.2.2.2; omega, fun x _ _ => he x⟩, he 0⟩

theorem follow_lt {l : List Arc} {By : Int → Nat → Bool → Prop} (p : List (Nat × Bool)) : ∀ v, Follow l By p v → PathL l p v → ∀ s, s ∈ p → s.1 < l.length := fun v _ hp => pathL_lt p v hp

/-! impl.pushed -/
theorem pushed_step (l : List S67) (g : List Int) (i : Nat) (b : Bool) (D : Int) (hi : i < l.length) (hg : g.length = l.length) (hD : 0 ≤ D ∧ D ≤ 20) (hB : -1000000 ≤ g.getD i 0 ∧ g.getD i 0 ≤ 1000000) : impl_pushed.f g (i : Int) b D = some (push g i b D) := by
  have eg : rd g (i : Int) = g.getD i 0 := by unfold rd; rw [Int.toNat_natCast]
  have w1 : wrap64 (-D) = -D := w64 (by omega) (by omega)
  have w2 : wrap64 (g.getD i 0 + -D) = g.getD i 0 + -D := w64 (by omega) (by omega)
  have w3 : wrap64 (g.getD i 0 + D) = g.getD i 0 + D := w64 (by omega) (by omega)
  unfold impl_pushed.f
  cases b
  · rw [if_neg (by simp), if_pos (by omega), if_pos (by omega), eg, w3, Int.toNat_natCast]
    rfl
  · rw [if_pos rfl, if_pos (by omega), if_pos (by omega), eg, w1, w2, Int.toNat_natCast]
    rfl

/-! impl.MostFlow -/
theorem room_pos {n : Int} {l : List Arc} {f : List Int} (hn : NetOk n l) (hr : InRoom l f) {i : Nat} (hi : i < l.length) (b : Bool) : sRoom l f i b ≤ 20 := by
  have h1 := hr i hi
  have h2 := (hn.2 i hi).2.2.2.2.2
  cases b
  · show (at_ l i).r - f.getD i 0 ≤ 20; omega
  · show f.getD i 0 ≤ 20; omega

section
variable {n : Int} {l : List S67} {f : List Int} {L E : List (List S79)}

/-- the step that was noted at a node of the way -/
theorem note_at {bys : List S79} (hb : bys.length = n.toNat) (hn : NetOk n (arcs l)) {v : Int} {i : Nat} {b : Bool} (hi : i < (arcs l).length) (hto : sTo (arcs l) i b = v) (hby : ByI bys v i b) : 0 ≤ v ∧ v < (bys.length : Int) ∧ rd_T79 bys v = ⟨(i : Int), b⟩ := by
  have hen := Go.Proofs.Ytgkpgigoonhgdaa.MDist.ends_ok hn hi b
  unfold Go.Proofs.Ytgkpgigoonhgdaa.MDist.tw Go.Proofs.Ytgkpgigoonhgdaa.MDist.fr at hen
  rw [hto] at hen
  refine ⟨hby.1, by rw [hb]; omega, ?_⟩
  unfold rd_T79
  exact hby.2

/-- the least room along the way -/
theorem most_l1 (hn : NetOk n (arcs l)) (hl : l.length ≤ 1048576) (hf : f.length = l.length) (hr : InRoom (arcs l) f) {bys : List S79} (hb : bys.length = n.toNat) (p : List (Nat × Bool)) : ∀ (v x : Int), 0 < x → x ≤ 20 → PathL (arcs l) p v → Follow (arcs l) (ByI bys) p v → (∀ s, s ∈ p → 0 < sRoom (arcs l) f s.1 s.2) →
    ∃ D, 0 < D ∧ D ≤ x ∧ (∀ s, s ∈ p → D ≤ sRoom (arcs l) f s.1 s.2) ∧ (∀ r, Ev (fun k => impl_MostFlow.l2 k L f bys D 1 n l) r → Ev (fun k => impl_MostFlow.l1 k L f bys x v n l) r) := by
  induction p with
  | nil =>
    intro v x h0 h1 hp hfo _
    have hv : v = 0 := hp
    exact ⟨x, h0, Int.le_refl _, fun s hs => (by cases hs), fun r h => Ev.step (fun k => by rw [impl_MostFlow.l1, if_pos hv]) h⟩
  | cons s p ih =>
    intro v x h0 h1 hp hfo hro
    obtain ⟨i, b⟩ := s
    obtain ⟨hi, hto, hp'⟩ := hp
    obtain ⟨hv0, hby, hfo'⟩ := hfo
    have hil : i < l.length := by rw [← arcs_len]; exact hi
    obtain ⟨v0, v1, v2⟩ := note_at hb hn hi hto hby
    have hrm : 0 < sRoom (arcs l) f i b := hro (i, b) (List.mem_cons_self ..)
    have hrb := room_pos hn hr hi b
    have he := ends_ev n l i b hil
    have hro2 := room_ev n l f i b hil hf (by omega)
    have hmn : 0 < mn x (sRoom (arcs l) f i b) ∧ mn x (sRoom (arcs l) f i b) ≤ x ∧ mn x (sRoom (arcs l) f i b) ≤ sRoom (arcs l) f i b := by unfold mn; split <;> omega
    obtain ⟨D, d1, d2, d3, d4⟩ := ih (sFrom (arcs l) i b) (mn x (sRoom (arcs l) f i b)) hmn.1 (by omega) hp' hfo' (fun s hs => hro s (List.mem_cons_of_mem _ hs))
    refine ⟨D, d1, by omega, fun s hs => ?_, fun r h => Ev.step (fun k => ?_) (d4 r h)⟩
    · rcases List.mem_cons.1 hs with e | e
      · rw [e]; show D ≤ sRoom (arcs l) f i b; omega
      · exact d3 s e
    · rw [impl_MostFlow.l1, if_neg hv0, if_pos v0, if_pos v1, v2]
      dsimp only
      rw [hro2, Option.bind_some, he, Option.bind_some]

/-- so much is pushed along the way -/
theorem most_l2 {r : Int × List Bool} (hn : NetOk n (arcs l)) (hl : l.length ≤ 1048576) {bys : List S79} (hb : bys.length = n.toNat) {D : Int} (hD : 0 ≤ D ∧ D ≤ 20) (p : List (Nat × Bool)) : ∀ (g : List Int) (v B : Int), g.length = l.length → 0 ≤ B → B + 20 * p.length ≤ 1000000 → (∀ j : Nat, -B ≤ g.getD j 0 ∧ g.getD j 0 ≤ B) → PathL (arcs l) p v → Follow (arcs l) (ByI bys) p v →
    Ev (fun k => impl_MostFlow.l0 k L (pushAll g p D) n l) r → Ev (fun k => impl_MostFlow.l2 k L g bys D v n l) r := by
  induction p with
  | nil =>
    intro g v B hg _ _ _ hp hfo hr
    have hv : v = 0 := hp
    exact Ev.step (fun k => by rw [impl_MostFlow.l2, if_pos hv]; rfl) hr
  | cons s p ih =>
    intro g v B hg hB0 hB hgB hp hfo hr
    obtain ⟨i, b⟩ := s
    obtain ⟨hi, hto, hp'⟩ := hp
    obtain ⟨hv0, hby, hfo'⟩ := hfo
    have hil : i < l.length := by rw [← arcs_len]; exact hi
    obtain ⟨v0, v1, v2⟩ := note_at hb hn hi hto hby
    have hgi := hgB i
    have hlen : ((List.length ((i, b) :: p) : Nat) : Int) = p.length + 1 := by simp
    have he := ends_ev n l i b hil
    have hps := pushed_step l g i b D hil hg hD (by omega)
    have hrec := ih (push g i b D) (sFrom (arcs l) i b) (B + 20) (by rw [push_len]; exact hg) (by omega) (by omega) (fun j => by
      rw [push_get (by omega)]
      have := hgB j
      split
      · cases b
        · simp only [Bool.false_eq_true, if_false]; omega
        · simp only [if_true]; omega
      · omega) hp' hfo' hr
    refine Ev.step (fun k => ?_) hrec
    rw [impl_MostFlow.l2, if_neg hv0, if_pos v0, if_pos v1, v2]
    dsimp only
    rw [hps, Option.bind_some, he, Option.bind_some]

theorem most_l0 (hn : NetOk n (arcs l)) (hl : l.length ≤ 1048576) (R : Rows2 (arcs l) n.toNat l.length L E) (m : Nat) : ∀ f, FlowOk n (arcs l) f → 64000 + exc (arcs l) f (arcs l).length 0 ≤ m → ∃ x s, Ev (fun k => impl_MostFlow.l0 k L f n l) (x, s) ∧ MostIs n (arcs l) x s := by
  have n15 := hn.1.2.1
  have n2 := hn.1.1
  have one : ∀ f, FlowOk n (arcs l) f → (∀ g, FlowOk n (arcs l) g → exc (arcs l) g (arcs l).length 0 < exc (arcs l) f (arcs l).length 0 → ∃ x s, Ev (fun k => impl_MostFlow.l0 k L g n l) (x, s) ∧ MostIs n (arcs l) x s) → ∃ x s, Ev (fun k => impl_MostFlow.l0 k L f n l) (x, s) ∧ MostIs n (arcs l) x s := fun f hF again => by
    have hf : f.length = l.length := by have := hF.2.1; rw [arcs_len] at this; exact this
    obtain ⟨bys, seen, h2, Q, q⟩ := reach_ev (L := L) (E := E) hn hl hf hF.2.2.1 R
    have hql := q.len_le
    have e : rdOf false seen 1 = seen.getD 1 false := rfl
    have hsl : (1 : Int) < (seen.length : Int) := by rw [q.len]; omega
    by_cases c : seen.getD 1 false = true
    · obtain ⟨p, p1, p2, p3, p4, p5⟩ := q.toBfs.way c
      have p1' : PathL (arcs l) p 1 := p1
      have p2' : Follow (arcs l) (ByI bys) p 1 := p2
      have main : ∀ D, 0 < D → D ≤ 20 → (∀ s, s ∈ p → D ≤ sRoom (arcs l) f s.1 s.2) → FlowOk n (arcs l) (pushAll f p D) ∧ exc (arcs l) (pushAll f p D) (arcs l).length 0 = exc (arcs l) f (arcs l).length 0 - D := fun D d0 _ d2 => push_flow hF p p1' p3 D (by omega) d2
      have hl2 : ∀ D r, 0 < D → D ≤ 20 → Ev (fun k => impl_MostFlow.l0 k L (pushAll f p D) n l) r → Ev (fun k => impl_MostFlow.l2 k L f bys D 1 n l) r := fun D r d0 d1 hr => most_l2 (r := r) hn hl q.blen ⟨by omega, d1⟩ p f 1 20 hf (by omega) (by omega) (fun j => by
        by_cases hj : j < (arcs l).length
        · have a := hF.2.2.1 j hj
          have b := (hn.2 j hj).2.2.2.2.2
          omega
        · rw [arcs_len] at hj
          rw [List.getD_eq_getElem?_getD, List.getElem?_eq_none (by omega)]
          simp) p1' p2' hr
      obtain ⟨D, d0, d1, d2, d3⟩ : ∃ D, 0 < D ∧ D ≤ 20 ∧ (∀ s, s ∈ p → D ≤ sRoom (arcs l) f s.1 s.2) ∧ ∀ r, Ev (fun k => impl_MostFlow.l2 k L f bys D 1 n l) r → Ev (fun k => impl_MostFlow.l1 k L f bys 20 1 n l) r := most_l1 hn hl hf hF.2.2.1 q.blen p 1 20 (by omega) (by omega) p1' p2' p5
      obtain ⟨g1, g2⟩ := main D d0 d1 d2
      obtain ⟨x, s, h3, h4⟩ := again _ g1 (by omega)
      exact ⟨x, s, Ev.step (fun k => by rw [impl_MostFlow.l0]) (Ev.bind h2 (Ev.congr (fun k => by rw [if_pos hsl, e, if_pos c]) (d3 _ (hl2 D _ d0 d1 h3)))), h4⟩
    · have c' : seen.getD 1 false = false := by cases hx : seen.getD 1 false with
        | true => exact absurd hx c
        | false => rfl
      obtain ⟨zs, hz, hzl, hzx⟩ := excess_ev hn hf hF.2.2.1
      have g0 : (0 : Int) < (zs.length : Int) := by omega
      have g1 : ((0 : Nat) : Int) < n := by omega
      have ez : rd zs 0 = exc (arcs l) f l.length 0 := hzx 0 g1
      have b := exc_bound hn hF.2.2.1 l.length (by rw [arcs_len]; exact Nat.le_refl _) 0
      refine ⟨- exc (arcs l) f (arcs l).length 0, seen, ?_, .inr ⟨hn, f, hF, q.len, q.toBfs.reach (Nat.le_refl _) (fun i hi => ⟨(hn.2 i hi).1, (hn.2 i hi).2.2.1⟩), c', rfl⟩⟩
      refine Ev.step (fun k => by rw [impl_MostFlow.l0]) ?_
      refine Ev.bind h2 ?_
      refine Ev.congr (fun k => by rw [if_pos hsl, e, if_neg c]) (Ev.bind hz ?_)
      exact Ev.of_eq fun k => by rw [if_pos g0, ez, w64n b, arcs_len]
  induction m with
  | zero =>
    intro f hF hm
    refine one f hF (fun g hG hlt => ?_)
    have := size_bound hG
    omega
  | succ m ih =>
    intro f hF hm
    exact one f hF (fun g hG hlt => ih g hG (by omega))
end

theorem iMostFlow (n : Int) (l : List S67) (hl : l.length ≤ 1048576) : ∃ m r, Ev (fun k => impl_MostFlow.f k n l) (m, r) ∧ MostIs n (arcs l) m r := by
  have hN := iNetOk n l hl
  by_cases h : NetOk n (arcs l)
  · rw [boolP_true h] at hN
    obtain ⟨L, E, h1, R⟩ := stepsOf_ev h hl
    obtain ⟨z1, z2⟩ := zero_flow h
    rw [arcs_len] at z1 z2
    obtain ⟨x, s, h2, h3⟩ := most_l0 (L := L) (E := E) h hl R 64000 (List.replicate l.length 0) z1 (by rw [arcs_len, z2]; omega)
    refine ⟨x, s, ?_, h3⟩
    refine Ev.bind hN ?_
    refine Ev.congr (fun k => by rw [if_pos rfl]) (Ev.bind h1 ?_)
    exact Ev.congr (fun k => by rw [if_pos (by omega), if_pos (by omega), Int.toNat_natCast]) h2
  · rw [boolP_false h] at hN
    exact ⟨-1, [], Ev.bind hN (Ev.of_eq fun k => by rw [if_neg (by simp)]), .inl ⟨h, rfl, rfl⟩⟩

/-! what Cheapest answers -/
theorem INF_eq : INF = 1152921504606846976 := rfl

def RunIs (n : Int) (l : List Arc) : Nat → List Int → List Int × Int × Bool → Prop
  | 0, f, r => r = (f, costTo l f l.length, true)
  | m + 1, f, r => (∃ S P d, Pot n l f S P ∧ Fin n l f S P d ∧ d.getD 1 0 = INF ∧ r = ([], 0, false)) ∨
      (∃ S P d p, Pot n l f S P ∧ Fin n l f S P d ∧ d.getD 1 0 < INF ∧ PathL l p 1 ∧ Follow l (ByT l f d) p 1 ∧ (p.map Prod.fst).Nodup ∧ p.length < n.toNat ∧ (∀ s, s ∈ p → 0 < sRoom l f s.1 s.2) ∧ RunIs n l m (pushAll f p 1) r)

def RunTop (n : Int) (l : List Arc) (size : Int) (r : List Int × Int × Bool) : Prop :=
  (¬ (NetOk n l ∧ 0 ≤ size ∧ size ≤ 16) ∧ r = ([], 0, false)) ∨ (NetOk n l ∧ 0 ≤ size ∧ size ≤ 16 ∧ RunIs n l size.toNat (List.replicate l.length 0) r)

/-- the flow that nothing goes through, and its potential -/
theorem zero_start {n : Int} {l : List Arc} (h : NetOk n l) : FlowOk n l (List.replicate l.length 0) ∧ Pot n l (List.replicate l.length 0) (fun _ => true) (fun _ => 0) := by
  have hz : ∀ i : Nat, (List.replicate l.length (0 : Int)).getD i 0 = 0 := fun i => by
    rw [List.getD_eq_getElem?_getD, List.getElem?_replicate]; split <;> rfl
  have he : ∀ x : Int, exc l (List.replicate l.length 0) l.length x = 0 := fun x => by
    unfold exc
    exact (sumTo_congr (g := fun _ => 0) (fun i _ => by rw [hz]; split <;> split <;> rfl)).trans (sumTo_zero l.length)
  exact ⟨⟨h, by simp, fun i hi => by rw [hz]; have := (h.2 i hi).2.2.2.2.2; omega, fun x _ _ => he x⟩, start_pot h (by simp) (fun i _ => hz i)⟩

theorem flow_small {n : Int} {l : List Arc} {f : List Int} (hF : FlowOk n l f) (j : Nat) : -20 ≤ f.getD j 0 ∧ f.getD j 0 ≤ 20 := by
  by_cases hj : j < l.length
  · have a := hF.2.2.1 j hj
    have b := (hF.1.2 j hj).2.2.2.2.2
    omega
  · have := hF.2.1
    rw [List.getD_eq_getElem?_getD, List.getElem?_eq_none (by omega)]
    simp

/-- the first tight step, found in the row of the steps that enter a node -/
theorem ft_find {n : Int} {l : List Arc} (hn : NetOk n l) (f d : List Int) (v m : Nat) (hm : m ≤ l.length) (inL : Nat → List (Nat × Bool)) (h0 : inL 0 = []) (h1 : ∀ m, inL (m + 1) = inL m ++ ((if (at_ l m).v = (v : Int) then [(m, false)] else []) ++ (if (at_ l m).u = (v : Int) then [(m, true)] else []))) : (inL m).find? (tb l f d v) = ft l f d v m := by
  induction m with
  | zero => rw [h0]; rfl
  | succ m ih =>
    have hi : m < l.length := by omega
    obtain ⟨a1, a2, a3, a4, _⟩ := hn.2 m hi
    rw [h1, List.find?_append, ih (by omega), ft]
    cases e : ft l f d v m with
    | some s => rfl
    | none =>
      have tf : tb l f d v (m, false) = true → (at_ l m).v = (v : Int) := fun h => by
        have : (at_ l m).v.toNat = v := (boolP_iff.1 h).2.1
        omega
      have tt : tb l f d v (m, true) = true → (at_ l m).u = (v : Int) := fun h => by
        have : (at_ l m).u.toNat = v := (boolP_iff.1 h).2.1
        omega
      show (none : Option (Nat × Bool)).or _ = _
      rw [Option.none_or]
      have F1 : (if (at_ l m).v = (v : Int) then [(m, false)] else ([] : List (Nat × Bool))).find? (tb l f d v) = if tb l f d v (m, false) = true then some (m, false) else none := by
        by_cases c : (at_ l m).v = (v : Int)
        · rw [if_pos c, List.find?_cons]
          cases hb : tb l f d v (m, false) <;> simp
        · rw [if_neg c, if_neg (fun h => c (tf h))]; rfl
      have F2 : (if (at_ l m).u = (v : Int) then [(m, true)] else ([] : List (Nat × Bool))).find? (tb l f d v) = if tb l f d v (m, true) = true then some (m, true) else none := by
        by_cases c : (at_ l m).u = (v : Int)
        · rw [if_pos c, List.find?_cons]
          cases hb : tb l f d v (m, true) <;> simp
        · rw [if_neg c, if_neg (fun h => c (tt h))]; rfl
      rw [List.find?_append, F1, F2]
      by_cases c1 : tb l f d v (m, false) = true
      · rw [if_pos c1, if_pos c1]; rfl
      · rw [if_neg c1, if_neg c1]; rfl

/-! impl.distances: a queue of nodes to relax from -/


theorem length_ev {n : Int} {l : List S67} (hn : NetOk n (arcs l)) {i : Nat} (b : Bool) (hi : i < l.length) : impl_step_length.f (i : Int) b n l = some (sLen (arcs l) i b) := by
  have h3 := at_3 l (i : Int)
  rw [Int.toNat_natCast] at h3
  have hc := (hn.2 i (by rw [arcs_len]; exact hi)).2.2.2.2.2.2.2
  unfold impl_step_length.f sLen sCost
  rw [if_pos (by omega), if_pos (by omega), h3]
  generalize (at_ (arcs l) i).c = c at hc
  cases b
  · rw [if_neg (by simp), w64 (x := 10000 * c) (by omega) (by omega), w64 (by omega) (by omega)]
    rfl
  · rw [if_pos rfl, w64 (x := 10000 * c) (by omega) (by omega), w64 (by omega) (by omega), if_pos rfl]
    congr 1
    omega

section
variable {n : Int} {l : List S67} {f : List Int} {S : Nat → Bool} {P : Nat → Int} {L E : List (List S79)}

/-- a label and a step's length stay small -/
theorem lab_small {d : List Int} (hn : NetOk n (arcs l)) (hp : Pot n (arcs l) f S P) (a : Lab n (arcs l) f S P d) {x : Nat} (hx : x < n.toNat) : -3000000000 ≤ d.getD x 0 ∧ d.getD x 0 ≤ INF := by
  refine ⟨?_, a.hi x hx⟩
  have h0 := hp.bound 0 hp.zero
  rcases Int.lt_or_le (d.getD x 0) INF with h | h
  · obtain ⟨h1, h2⟩ := a.lo x hx h
    have h3 := hp.bound x h1
    omega
  · rw [INF_eq] at h; omega

theorem len_small (hn : NetOk n (arcs l)) {i : Nat} (hi : i < (arcs l).length) (b : Bool) : -1000000 ≤ sLen (arcs l) i b ∧ sLen (arcs l) i b ≤ 1000001 := by
  have := (Go.Proofs.Ytgkpgigoonhgdaa.MDist.ends_ok hn hi b).2.2.2.2.2
  unfold sLen
  omega

theorem dist_l2 (hn : NetOk n (arcs l)) (hl : l.length ≤ 1048576) (hf : f.length = l.length) (hr : InRoom (arcs l) f) (hp : Pot n (arcs l) f S P) (h : Int) (v : Nat) (M : Int) (G : List Int → Prop)
    (next : ∀ d W T, Scn n (arcs l) f S P v (fun i b => (i, b) ∈ outL (arcs l) v l.length) d W T → 2 * sumD n d + T.length ≤ M → ∃ r, Ev (fun k => impl_distances.l1 k L f d W T n l) r ∧ G r) (m : Nat) :
    ∀ (j : Nat) d W T, j + m = (outL (arcs l) v l.length).length → Scn n (arcs l) f S P v (fun i b => (i, b) ∈ (outL (arcs l) v l.length).take j) d W T → 2 * sumD n d + T.length ≤ M →
      ∃ r, Ev (fun k => impl_distances.l2 k L f d W (h :: T) v ((outL (arcs l) v l.length).map toS) ((outL (arcs l) v l.length).length : Int) j n l) r ∧ G r := by
  have hrl := outL_len (arcs l) v l.length
  have n15 := hn.1.2.1
  induction m with
  | zero =>
    intro j d W T hj q hM
    have hjl : j = (outL (arcs l) v l.length).length := by omega
    rw [hjl, List.take_length] at q
    obtain ⟨r, h1, h2⟩ := next d W T q hM
    refine ⟨r, Ev.step (fun k => ?_) h1, h2⟩
    rw [impl_distances.l2, if_neg (by omega), if_pos (by rw [List.length_cons]; omega)]
    rfl
  | succ m ih =>
    intro j d W T hj q hM
    have hjl : j < (outL (arcs l) v l.length).length := by omega
    have hmem := row_mem hjl
    have hget := toS_get (outL (arcs l) v l.length) j hjl
    have htk : ∀ s, s ∈ (outL (arcs l) v l.length).take (j + 1) → s ∈ (outL (arcs l) v l.length).take j ∨ s = (outL (arcs l) v l.length).getD j (0, false) := fun s hs => row_take hjl hs
    have hj1 : j + 1 + m = (outL (arcs l) v l.length).length := by omega
    have hw : wrap64 ((j : Int) + 1) = ((j + 1 : Nat) : Int) := by rw [w64 (by omega) (by omega)]; omega
    have hjlt : (j : Int) < ((outL (arcs l) v l.length).length : Int) := by omega
    have hj0 : (0 : Int) ≤ (j : Int) := by omega
    generalize hs : (outL (arcs l) v l.length).getD j (0, false) = s at hmem hget htk
    obtain ⟨i, b⟩ := s
    obtain ⟨hi, hfr⟩ := (mem_outL (arcs l) v l.length i b).1 hmem
    have hia : i < (arcs l).length := by rw [arcs_len]; exact hi
    obtain ⟨e1, e2, e3, e4, e5, _⟩ := Go.Proofs.Ytgkpgigoonhgdaa.MDist.ends_ok hn hia b
    have hdl := q.lab.len
    have hto0 : 0 ≤ sTo (arcs l) i b := by clear hw hj1 hj; omega
    have hto1 : sTo (arcs l) i b < (d.length : Int) := by clear hw hj1 hj; rw [hdl]; omega
    have hto2 : sTo (arcs l) i b < (W.length : Int) := by clear hw hj1 hj; rw [q.wl]; omega
    have hv1 : (v : Int) < (d.length : Int) := by clear hw hj1 hj; rw [hdl]; have := q.vn; omega
    have hTl : (h :: T).length < 17592186044416 := by
      have a1 := q.cnt
      have a2 := (unseen_bound n.toNat W).1
      clear hw hj1 hj
      rw [List.length_cons]
      omega
    have hfv : fr (arcs l) i b = v := by unfold fr; rw [hfr]; exact Int.toNat_natCast v
    have he := ends_ev n l i b hi
    have hle := length_ev hn b hi
    have hrm := room_ev n l f i b hi hf (room_bound hn hr hia b)
    have hls := len_small hn hia b
    have hds := lab_small hn hp q.lab q.vn
    have hdt := lab_small hn hp q.lab e4
    have er : rd d (v : Int) = d.getD v 0 := by unfold rd; rw [Int.toNat_natCast]
    have et : rd d (sTo (arcs l) i b) = d.getD (tw (arcs l) i b) 0 := rfl
    have hwd : wrap64 (d.getD v 0 + sLen (arcs l) i b) = d.getD v 0 + sLen (arcs l) i b := by
      rw [INF_eq] at hds
      exact w64 (by omega) (by omega)
    have hr0 := hr i hia
    have rn : 0 ≤ sRoom (arcs l) f i b := by
      unfold sRoom
      cases b
      · simp only [Bool.false_eq_true, if_false]; omega
      · simp only [if_true]; omega
    -- the set of the steps that were scanned
    have conv : ∀ {d W T}, Scn n (arcs l) f S P v (fun j' c => (j', c) ∈ (outL (arcs l) v l.length).take j ∨ (j' = i ∧ c = b)) d W T → Scn n (arcs l) f S P v (fun i b => (i, b) ∈ (outL (arcs l) v l.length).take (j + 1)) d W T := fun q' =>
      { q' with
        conv := fun j' c hj' hr' hu' => by
          rcases q'.conv j' c hj' hr' hu' with x | x | ⟨x, y⟩
          · exact .inl x
          · exact .inr (.inl x)
          · refine .inr (.inr ⟨x, fun z => y ?_⟩)
            rcases htk _ z with z | z
            · exact .inl z
            · exact .inr ⟨(Prod.mk.inj z).1, (Prod.mk.inj z).2⟩ }
    have skip : (0 < sRoom (arcs l) f i b → d.getD (tw (arcs l) i b) 0 ≤ d.getD v 0 + sLen (arcs l) i b) → ∃ r, Ev (fun k => impl_distances.j3 k L f d W (h :: T) v (sTo (arcs l) i b) (d.getD v 0 + sLen (arcs l) i b) ((outL (arcs l) v l.length).map toS) ((outL (arcs l) v l.length).length : Int) j true n l) r ∧ G r := fun hx => by
      obtain ⟨r, h1, h2⟩ := ih (j + 1) d W T hj1 (conv (q.skip (i := i) (b := b) (fun a _ => hx a))) hM
      exact ⟨r, Ev.step (fun k => by rw [impl_distances.j3, if_pos rfl, hw]) h1, h2⟩
    have front : ∀ (t : Bool), (sRoom (arcs l) f i b = 0 → t = true) → (¬ sRoom (arcs l) f i b = 0 → t = decide (d.getD v 0 + sLen (arcs l) i b ≥ d.getD (tw (arcs l) i b) 0)) →
        (∃ r, Ev (fun k => impl_distances.j3 k L f d W (h :: T) v (sTo (arcs l) i b) (d.getD v 0 + sLen (arcs l) i b) ((outL (arcs l) v l.length).map toS) ((outL (arcs l) v l.length).length : Int) j t n l) r ∧ G r) →
        ∃ r, Ev (fun k => impl_distances.l2 k L f d W (h :: T) v ((outL (arcs l) v l.length).map toS) ((outL (arcs l) v l.length).length : Int) j n l) r ∧ G r := fun t t0 t1 hx => by
      obtain ⟨r, h1, h2⟩ := hx
      refine ⟨r, Ev.step (fun k => ?_) h1, h2⟩
      rw [impl_distances.l2, if_pos hjlt, if_pos hj0, if_pos (by rw [List.length_map]; exact hjlt), hget]
      dsimp only
      rw [he, Option.bind_some, if_pos (Int.natCast_nonneg v), if_pos hv1, hle, Option.bind_some, hrm, Option.bind_some]
      dsimp only
      rw [er, hwd]
      by_cases c0 : sRoom (arcs l) f i b = 0
      · rw [if_pos c0, t0 c0]
      · rw [if_neg c0, if_pos hto0, if_pos hto1, et, t1 c0]
    by_cases c0 : sRoom (arcs l) f i b = 0
    · exact front true (fun _ => rfl) (fun h => absurd c0 h) (skip (fun a => absurd c0 (Int.ne_of_gt a)))
    · by_cases c1 : d.getD v 0 + sLen (arcs l) i b ≥ d.getD (tw (arcs l) i b) 0
      · exact front true (fun _ => rfl) (fun _ => (decide_eq_true c1).symm) (skip (fun _ => c1))
      · refine front false (fun h => absurd h c0) (fun _ => (decide_eq_false c1).symm) ?_
        obtain ⟨q1, q2⟩ := q.relax hn hp hia (by clear hwd hle hrm hw hj1; omega) hfv (Int.not_le.1 c1)
        have hsum := sumD_set (d := d) hdl e4 (d.getD v 0 + sLen (arcs l) i b)
        have hsum1 : 2 * sumD n (d.set (tw (arcs l) i b) (d.getD v 0 + sLen (arcs l) i b)) + T.length ≤ M ∧ 2 * sumD n (d.set (tw (arcs l) i b) (d.getD v 0 + sLen (arcs l) i b)) + (T.length + 1 : Nat) ≤ M := by
          rw [hsum]
          clear hsum hwd hle hrm hw hj1
          omega
        by_cases cw : W.getD (tw (arcs l) i b) false = true
        · obtain ⟨r, h1, h2⟩ := ih (j + 1) _ W T hj1 (conv (q1 cw)) hsum1.1
          refine ⟨r, Ev.step (fun k => ?_) h1, h2⟩
          rw [impl_distances.j3, if_neg (by simp), if_pos hto0, if_pos hto1, Option.bind_some, if_pos hto2, if_pos (by show W.getD (tw (arcs l) i b) false = true; exact cw), hw]
          rfl
        · have cw' : W.getD (tw (arcs l) i b) false = false := by cases hx : W.getD (tw (arcs l) i b) false with
            | true => exact absurd hx cw
            | false => rfl
          obtain ⟨r, h1, h2⟩ := ih (j + 1) _ _ _ hj1 (conv (q2 cw')) (by rw [List.length_append, List.length_singleton]; exact hsum1.2)
          refine ⟨r, Ev.step (fun k => ?_) h1, h2⟩
          rw [impl_distances.j3, if_neg (by simp), if_pos hto0, if_pos hto1, Option.bind_some, if_pos hto2, if_neg (by show ¬ W.getD (tw (arcs l) i b) false = true; exact cw), if_pos hTl, hw, ← e2]
          rfl

theorem dist_l1 (hn : NetOk n (arcs l)) (hl : l.length ≤ 1048576) (hf : f.length = l.length) (hr : InRoom (arcs l) f) (hp : Pot n (arcs l) f S P) (R : Rows2 (arcs l) n.toNat l.length L E) (m : Nat) : ∀ d W Q, Que n (arcs l) f S P d W Q → 2 * sumD n d + Q.length ≤ m → ∃ r, Ev (fun k => impl_distances.l1 k L f d W Q n l) r ∧ Fin n (arcs l) f S P r := by
  induction m with
  | zero =>
    intro d W Q q hm
    have hs := sumD_nonneg hp q.lab
    have hQ : Q = [] := List.eq_nil_of_length_eq_zero (by omega)
    subst hQ
    exact ⟨d, Ev.step (f := fun _ => some d) (fun k => by rw [impl_distances.l1, if_neg (by simp)]) (Ev.now _), q.fin⟩
  | succ m ih =>
    intro d W Q q hm
    cases Q with
    | nil => exact ⟨d, Ev.step (f := fun _ => some d) (fun k => by rw [impl_distances.l1, if_neg (by simp)]) (Ev.now _), q.fin⟩
    | cons h T =>
      have hh := q.rng h (List.mem_cons_self ..)
      have q0 := q.take
      have hlen : ((h :: T).length : Int) = T.length + 1 := by rw [List.length_cons]; omega
      have hLg := R.g1 h.toNat (by omega)
      have hvi : ((h.toNat : Nat) : Int) = h := by omega
      obtain ⟨r, h1, h2⟩ := dist_l2 (L := L) hn hl hf hr hp h h.toNat (2 * sumD n d + T.length) (Fin n (arcs l) f S P) (fun d' W' T' q' hM => ih d' W' T' (q'.done (fun i b hi hfr => (mem_outL (arcs l) _ l.length i b).2 ⟨by rw [arcs_len] at hi; exact hi, by
        have := (Go.Proofs.Ytgkpgigoonhgdaa.MDist.ends_ok hn hi b).1
        omega⟩)) (by omega)) (outL (arcs l) h.toNat l.length).length 0 d (W.set h.toNat false) T (Nat.zero_add _) { q0 with
         conv := fun i b hi hr hu => by
          rcases q0.conv i b hi hr hu with x | x | ⟨x, y⟩
          · exact .inl x
          · exact .inr (.inl x)
          · exact .inr (.inr ⟨x, fun z => by rw [List.take_zero] at z; cases z⟩) } (Int.le_refl _)
      rw [show ((0 : Nat) : Int) = 0 from rfl, hvi] at h1
      refine ⟨r, Ev.step (fun k => ?_) h1, h2⟩
      have e0 : rd (h :: T) 0 = h := rfl
      have eL : rd_L4 L h = (outL (arcs l) h l.length).map toS := by
        unfold rd_L4
        rw [hLg, hvi]
      have hlm : (((outL (arcs l) h l.length).map toS).length : Int) = ((outL (arcs l) h l.length).length : Int) := by rw [List.length_map]
      rw [impl_distances.l1, if_pos (by omega), if_pos (by omega), e0, if_pos hh.1, if_pos (by rw [q.wl]; omega), if_pos (by rw [R.l1]; omega), eL, hlm]

theorem dist_l0 (hn : NetOk n (arcs l)) (m : Nat) : ∀ (i : Nat) (d : List Int) (W : List Bool), 1 ≤ i → i + m = n.toNat → d.length = n.toNat → d.getD 0 0 = 0 → (∀ x, 0 < x → x < i → d.getD x 0 = INF) →
    ∃ d', d'.length = n.toNat ∧ d'.getD 0 0 = 0 ∧ (∀ x, 0 < x → x < n.toNat → d'.getD x 0 = INF) ∧ ∀ r, Ev (fun k => impl_distances.l1 k L f d' W [0] n l) r → Ev (fun k => impl_distances.l0 k L f d W i n l) r := by
  have n15 := hn.1.2.1
  induction m with
  | zero =>
    intro i d W h1 hi hd h0 hx
    exact ⟨d, hd, h0, fun x a b => hx x a (by omega), fun r h => Ev.step (fun k => by rw [impl_distances.l0, if_neg (by omega)]) h⟩
  | succ m ih =>
    intro i d W h1 hi hd h0 hx
    have hw : wrap64 ((i : Int) + 1) = ((i + 1 : Nat) : Int) := by rw [w64 (by omega) (by omega)]; omega
    have hset : ∀ x : Nat, (d.set i INF).getD x 0 = if x = i then INF else d.getD x 0 := fun x => getD_set _ _ _ _ _ (by omega)
    obtain ⟨d', g1, g2, g3, g4⟩ := ih (i + 1) (d.set i INF) W (by omega) (by omega) (by rw [List.length_set]; exact hd) (by rw [hset, if_neg (by omega)]; exact h0) (fun x a b => by
      rw [hset]
      split
      · rfl
      · exact hx x a (by omega))
    exact ⟨d', g1, g2, g3, fun r h => Ev.step (fun k => by rw [impl_distances.l0, if_pos (by omega), if_pos (by omega), if_pos (by omega), hw, Int.toNat_natCast, ← INF_eq]) (g4 r h)⟩

theorem distances_ev (hn : NetOk n (arcs l)) (hl : l.length ≤ 1048576) (hf : f.length = l.length) (hr : InRoom (arcs l) f) (hp : Pot n (arcs l) f S P) (R : Rows2 (arcs l) n.toNat l.length L E) : ∃ d, Ev (fun k => impl_distances.f k n l L f) d ∧ Fin n (arcs l) f S P d := by
  have n2 := hn.1.1
  have n15 := hn.1.2.1
  have h00 : (List.replicate n.toNat (0 : Int)).getD 0 0 = 0 := by
    rw [List.getD_eq_getElem?_getD, List.getElem?_replicate]; split <;> rfl
  obtain ⟨d0, g1, g2, g3, g4⟩ := dist_l0 (L := L) (f := f) (l := l) hn (n.toNat - 1) 1 (List.replicate n.toNat 0) (List.replicate n.toNat false) (Nat.le_refl _) (by omega) (by simp) h00 (fun x a b => by omega)
  have lab := Lab.start hn hp d0 g1 g2 g3
  have hrep : ∀ x : Nat, (List.replicate n.toNat false).getD x false = false := fun x => by
    rw [List.getD_eq_getElem?_getD, List.getElem?_replicate]; split <;> rfl
  have q : Que n (arcs l) f S P d0 (List.replicate n.toNat false) [0] := by
    refine ⟨lab, by simp, fun x hx => ?_, fun i b hi hr hu => ?_, fun h T e => ?_⟩
    · rw [List.mem_singleton.1 hx]
      exact ⟨Int.le_refl _, by omega, by show d0.getD 0 0 < INF; rw [g2, INF_eq]; omega⟩
    · have e3 := (Go.Proofs.Ytgkpgigoonhgdaa.MDist.ends_ok hn hi b).2.2.1
      by_cases c : fr (arcs l) i b = 0
      · exact .inr (by rw [c]; exact List.mem_singleton.2 rfl)
      · rw [g3 _ (by omega) e3] at hu
        exact absurd hu (Int.lt_irrefl _)
    · obtain ⟨rfl, rfl⟩ := List.cons.inj e
      have hs0 : (List.replicate n.toNat false).set (0 : Int).toNat false = List.replicate n.toNat false := by
        show (List.replicate n.toNat false).set 0 false = _
        rw [List.set_replicate_self]
      rw [hs0]
      refine ⟨List.nodup_nil, fun x hx => ?_, by rw [unseen_all]; simp⟩
      rw [hrep]
      constructor
      · intro h; cases h
      · intro h; cases h
  obtain ⟨r, h1, h2⟩ := dist_l1 (L := L) (E := E) hn hl hf hr hp R (2 * sumD n d0 + 1).toNat d0 _ [0] q (by
    have := sumD_nonneg hp lab
    rw [List.length_singleton]
    omega)
  have h3 := g4 r h1
  rw [show ((1 : Nat) : Int) = 1 from rfl] at h3
  exact ⟨r, Ev.congr (fun k => by unfold impl_distances.f; rw [if_pos (by omega), if_pos (by omega), if_pos (by omega)]) h3, h2⟩
end

/-! impl.costOf -/
theorem costOf_l0 {n : Int} {l : List S67} {f : List Int} (hn : NetOk n (arcs l)) (hf : f.length = l.length) (hr : InRoom (arcs l) f) (hm : l.length ≤ 1048576) (d : Nat) : ∀ i : Nat, i + d = l.length →
    Ev (fun k => impl_costOf.l0 k f (costTo (arcs l) f i) l (l.length : Int) i) (costTo (arcs l) f l.length) := by
  induction d with
  | zero =>
    intro i h
    obtain rfl : i = l.length := h
    exact Ev.step (f := fun _ => some _) (fun k => by rw [impl_costOf.l0, if_neg nlt_i]) (Ev.now _)
  | succ d ih =>
    intro i h
    have hi : i < l.length := by omega
    have hia : i < (arcs l).length := by rw [arcs_len]; exact hi
    have hif : i < f.length := by rw [hf]; exact hi
    obtain ⟨_, _, _, _, _, a6, a7, a8, a9⟩ := hn.2 i hia
    have hrm := hr i hia
    have p1 : f.getD i 0 * (at_ (arcs l) i).c ≤ 20 * 100 := Int.mul_le_mul (Int.le_trans hrm.2 a7) a9 a8 (by omega)
    have p2 : 0 ≤ f.getD i 0 * (at_ (arcs l) i).c := Int.mul_nonneg hrm.1 a8
    have hih := ih (i + 1) (by omega)
    refine Ev.step (fun k => ?_) hih
    have b2 := cost_bound hn hr (i + 1) hia
    have ti : ((i : Int)).toNat = i := Int.toNat_natCast i
    have e3 : (rd_T67 l (i : Int)).f3 = (at_ (arcs l) i).c := by rw [at_3, ti]
    have ef : rd f (i : Int) = f.getD i 0 := by unfold rd; rw [ti]
    have e : costTo (arcs l) f i + f.getD i 0 * (at_ (arcs l) i).c = costTo (arcs l) f (i + 1) := rfl
    rw [impl_costOf.l0, if_pos (lt_i hi), if_pos (ge_i i), if_pos (lt_i hi), if_pos (lt_i hif), ef, e3, w64s p2 p1 lt2000, e, w64s b2.1 b2.2 lt6400, next_i hi hm]

theorem costOf_ev {n : Int} {l : List S67} {f : List Int} (hn : NetOk n (arcs l)) (hf : f.length = l.length) (hr : InRoom (arcs l) f) : Ev (fun k => impl_costOf.f k n l f) (costTo (arcs l) f l.length) := by
  have h0 := costOf_l0 hn hf hr (by have := hn.1.2.2; rw [arcs_len] at this; omega) l.length 0 (Nat.zero_add _)
  rw [show costTo (arcs l) f 0 = 0 from rfl, show ((0 : Nat) : Int) = 0 from rfl] at h0
  exact Ev.congr (fun k => by unfold impl_costOf.f; rfl) h0

/-! impl.Cheapest -/
section
variable {n : Int} {l : List S67} {f d : List Int} {S : Nat → Bool} {P : Nat → Int} {L E : List (List S79)} {r : List Int × Int × Bool}

theorem ci_l3 (hl : l.length ≤ 1048576) (x : Int) (p : List (Nat × Bool)) (hp : p.length ≤ 1500) (hlt : ∀ s, s ∈ p → s.1 < l.length) (m : Nat) : ∀ (j : Nat) (g : List Int) (B : Int), j + m = p.length → g.length = l.length → 0 ≤ B → B + m ≤ 1000000 → (∀ i : Nat, -B ≤ g.getD i 0 ∧ g.getD i 0 ≤ B) →
    Ev (fun k => impl_Cheapest.l0 k (wrap64 (x - 1)) L E (pushAll g (p.drop j) 1) n l) r → Ev (fun k => impl_Cheapest.l3 k x L E g (p.map toS) ((p.map toS).length : Int) j n l) r := by
  induction m with
  | zero =>
    intro j g B hj hg _ _ _ hr
    rw [List.drop_eq_nil_of_le (by omega)] at hr
    exact Ev.step (fun k => by rw [impl_Cheapest.l3, if_neg (by rw [List.length_map]; omega)]; rfl) hr
  | succ m ih =>
    intro j g B hj hg hB0 hB hgB hr
    have hjl : j < p.length := by omega
    have hw : wrap64 ((j : Int) + 1) = ((j + 1 : Nat) : Int) := by rw [w64 (by omega) (by omega)]; omega
    have hget := toS_get p j hjl
    have hmem := row_mem hjl
    rw [drop_cons p j (0, false) hjl] at hr
    generalize p.getD j (0, false) = s at hget hmem hr
    obtain ⟨i, b⟩ := s
    have hi := hlt _ hmem
    have hgi := hgB i
    have hps := pushed_step l g i b 1 hi hg (by omega) (by omega)
    have hrec := ih (j + 1) (push g i b 1) (B + 1) (by omega) (by rw [push_len]; exact hg) (by omega) (by omega) (fun q => by
      rw [push_get (by show i < g.length; rw [hg]; exact hi)]
      have := hgB q
      split
      · cases b
        · simp only [Bool.false_eq_true, if_false]; omega
        · simp only [if_true]; omega
      · omega) hr
    refine Ev.step (fun k => ?_) hrec
    rw [impl_Cheapest.l3, if_pos (by rw [List.length_map]; omega), if_pos (by omega), if_pos (by rw [List.length_map]; omega), hget]
    dsimp only
    rw [hps, Option.bind_some, hw]

theorem ci_l2 (hn : NetOk n (arcs l)) (hl : l.length ≤ 1048576) (hf : f.length = l.length) (hr : InRoom (arcs l) f) (hp : Pot n (arcs l) f S P) (a : Fin n (arcs l) f S P d) (x : Int) (acc : List S79) (hacc : acc.length ≤ 2000) (v : Nat) (hv : v < n.toNat) (i : Nat) (b : Bool)
    (next : Ev (fun k => impl_Cheapest.l1 k x L E f d (acc ++ [⟨(i : Int), b⟩]) (sFrom (arcs l) i b) n l) r) (m : Nat) :
    ∀ j : Nat, j + m = (inL (arcs l) v l.length).length → ((inL (arcs l) v l.length).drop j).find? (tb (arcs l) f d v) = some (i, b) → Ev (fun k => impl_Cheapest.l2 k x L E f d acc v ((inL (arcs l) v l.length).map toS) ((inL (arcs l) v l.length).length : Int) j n l) r := by
  have hrl := inL_len (arcs l) v l.length
  induction m with
  | zero =>
    intro j hj hfd
    rw [List.drop_eq_nil_of_le (by omega)] at hfd
    cases hfd
  | succ m ih =>
    intro j hj hfd
    have hjl : j < (inL (arcs l) v l.length).length := by omega
    have hj1 : j + 1 + m = (inL (arcs l) v l.length).length := by omega
    have hjlt : (j : Int) < ((inL (arcs l) v l.length).length : Int) := by omega
    have hj0 : (0 : Int) ≤ (j : Int) := by omega
    have hw : wrap64 ((j : Int) + 1) = ((j + 1 : Nat) : Int) := by rw [w64 (by omega) (by omega)]; omega
    have hmem := row_mem hjl
    have hget := toS_get (inL (arcs l) v l.length) j hjl
    rw [drop_cons _ j (0, false) hjl, List.find?_cons] at hfd
    generalize (inL (arcs l) v l.length).getD j (0, false) = s at hmem hget hfd
    obtain ⟨i', b'⟩ := s
    obtain ⟨hi, hto⟩ := (mem_inL (arcs l) v l.length i' b').1 hmem
    have hia : i' < (arcs l).length := by rw [arcs_len]; exact hi
    obtain ⟨e1, e2, e3, e4, _⟩ := Go.Proofs.Ytgkpgigoonhgdaa.MDist.ends_ok hn hia b'
    have hdl := a.len
    have f0 : 0 ≤ sFrom (arcs l) i' b' := by clear hw hj hj1; omega
    have f1 : sFrom (arcs l) i' b' < (d.length : Int) := by clear hw hj hj1; rw [hdl]; omega
    have v1 : (v : Int) < (d.length : Int) := by clear hw hj hj1; rw [hdl]; omega
    have htv : tw (arcs l) i' b' = v := by clear hw hj hj1; omega
    have he := ends_ev n l i' b' hi
    have hle := length_ev hn b' hi
    have hrm := room_ev n l f i' b' hi hf (room_bound hn hr hia b')
    have hls := len_small hn hia b'
    have hds := lab_small hn hp a.toLab e3
    have ef : rd d (sFrom (arcs l) i' b') = d.getD (fr (arcs l) i' b') 0 := rfl
    have ex : rd d (v : Int) = d.getD v 0 := by unfold rd; rw [Int.toNat_natCast]
    have hwd : wrap64 (d.getD (fr (arcs l) i' b') 0 + sLen (arcs l) i' b') = d.getD (fr (arcs l) i' b') 0 + sLen (arcs l) i' b' := by
      rw [INF_eq] at hds
      clear hw hj hj1
      exact w64 (by omega) (by omega)
    have hcap : acc.length < 8796093022208 := by clear hw hwd hj hj1; omega
    have no : ¬ Tight (arcs l) f d v i' b' → Ev (fun k => impl_Cheapest.l2 k x L E f d acc v ((inL (arcs l) v l.length).map toS) ((inL (arcs l) v l.length).length : Int) ((j + 1 : Nat) : Int) n l) r := fun h => by
      rw [show tb (arcs l) f d v (i', b') = false from boolP_false h] at hfd
      exact ih (j + 1) hj1 hfd
    have hd0 : ∀ k, impl_Cheapest.l2 (k + 1) x L E f d acc v ((inL (arcs l) v l.length).map toS) ((inL (arcs l) v l.length).length : Int) j n l = (if sRoom (arcs l) f i' b' > 0 then (if d.getD (fr (arcs l) i' b') 0 < 1152921504606846976 then (if d.getD (fr (arcs l) i' b') 0 + sLen (arcs l) i' b' = d.getD v 0 then (impl_Cheapest.l1 k x L E f d (acc ++ [⟨(i' : Int), b'⟩]) (sFrom (arcs l) i' b') n l) else (impl_Cheapest.l2 k x L E f d acc v ((inL (arcs l) v l.length).map toS) ((inL (arcs l) v l.length).length : Int) ((j + 1 : Nat) : Int) n l)) else (impl_Cheapest.l2 k x L E f d acc v ((inL (arcs l) v l.length).map toS) ((inL (arcs l) v l.length).length : Int) ((j + 1 : Nat) : Int) n l)) else (impl_Cheapest.l2 k x L E f d acc v ((inL (arcs l) v l.length).map toS) ((inL (arcs l) v l.length).length : Int) ((j + 1 : Nat) : Int) n l)) := fun k => by
      rw [impl_Cheapest.l2, if_pos hjlt, if_pos hj0, if_pos (by rw [List.length_map]; exact hjlt), hget]
      dsimp only
      rw [he, Option.bind_some, hrm, Option.bind_some]
      dsimp only
      rw [if_pos f0, if_pos f1, ef, hle, Option.bind_some, if_pos (Int.natCast_nonneg v), if_pos v1, hwd, ex, if_pos hcap, hw]
    by_cases c1 : sRoom (arcs l) f i' b' > 0
    · by_cases c2 : d.getD (fr (arcs l) i' b') 0 < 1152921504606846976
      · by_cases c3 : d.getD (fr (arcs l) i' b') 0 + sLen (arcs l) i' b' = d.getD v 0
        · rw [show tb (arcs l) f d v (i', b') = true from boolP_true ⟨hia, htv, c1, c2, c3⟩] at hfd
          obtain ⟨rfl, rfl⟩ := Prod.mk.inj (Option.some.inj hfd)
          exact Ev.step (fun k => by rw [hd0, if_pos c1, if_pos c2, if_pos c3]) next
        · exact Ev.step (fun k => by rw [hd0, if_pos c1, if_pos c2, if_neg c3]) (no (fun t => c3 t.2.2.2.2))
      · exact Ev.step (fun k => by rw [hd0, if_pos c1, if_neg c2]) (no (fun t => c2 t.2.2.2.1))
    · exact Ev.step (fun k => by rw [hd0, if_neg c1]) (no (fun t => c1 t.2.2.1))

theorem ci_l1 (hn : NetOk n (arcs l)) (hl : l.length ≤ 1048576) (hf : f.length = l.length) (hr : InRoom (arcs l) f) (hp : Pot n (arcs l) f S P) (a : Fin n (arcs l) f S P d) (R : Rows2 (arcs l) n.toNat l.length L E) (x : Int) (p : List (Nat × Bool)) : ∀ (v : Int) (q : List (Nat × Bool)), q.length + p.length ≤ 1500 → PathL (arcs l) p v → Follow (arcs l) (ByT (arcs l) f d) p v →
    Ev (fun k => impl_Cheapest.l3 k x L E f ((q ++ p).map toS) (((q ++ p).map toS).length : Int) 0 n l) r → Ev (fun k => impl_Cheapest.l1 k x L E f d (q.map toS) v n l) r := by
  induction p with
  | nil =>
    intro v q _ hpa _ h
    have hv : v = 0 := hpa
    rw [List.append_nil] at h
    exact Ev.step (fun k => by rw [impl_Cheapest.l1, if_pos hv]) h
  | cons s p ih =>
    intro v q hq hpa hfo h
    obtain ⟨i, b⟩ := s
    obtain ⟨hi, hto, hpa'⟩ := hpa
    obtain ⟨hv0, hby, hfo'⟩ := hfo
    obtain ⟨e1, e2, e3, e4, _⟩ := Go.Proofs.Ytgkpgigoonhgdaa.MDist.ends_ok hn hi b
    have hlen : ((i, b) :: p).length = p.length + 1 := List.length_cons
    have vi : ((v.toNat : Nat) : Int) = v := by have := hby.1; omega
    have vn : v.toNat < n.toNat := by rw [← hto, ← e2]; omega
    have hE := R.g2 v.toNat vn
    rw [vi] at hE
    have eL : rd_L4 E v = (inL (arcs l) v l.length).map toS := by
      unfold rd_L4
      exact hE
    have hlm : (((inL (arcs l) v l.length).map toS).length : Int) = ((inL (arcs l) v l.length).length : Int) := by rw [List.length_map]
    have hfind : (inL (arcs l) (v.toNat : Int) l.length).find? (tb (arcs l) f d v.toNat) = some (i, b) := by
      rw [ft_find hn f d v.toNat l.length (by rw [arcs_len]; exact Nat.le_refl _) (inL (arcs l) (v.toNat : Int)) rfl (fun _ => rfl), ← arcs_len]
      exact hby.2
    have hrec := ih (sFrom (arcs l) i b) (q ++ [(i, b)]) (by rw [List.length_append, List.length_singleton]; omega) hpa' hfo' (by rw [List.append_assoc]; exact h)
    rw [List.map_append] at hrec
    have h2 := ci_l2 (r := r) (L := L) (E := E) hn hl hf hr hp a x (q.map toS) (by rw [List.length_map]; omega) v.toNat vn i b hrec (inL (arcs l) (v.toNat : Int) l.length).length 0 (Nat.zero_add _) (by rw [List.drop_zero]; exact hfind)
    rw [vi, show ((0 : Nat) : Int) = 0 from rfl] at h2
    refine Ev.step (fun k => ?_) h2
    rw [impl_Cheapest.l1, if_neg hv0, if_pos hby.1, if_pos (by rw [R.l2]; omega), eL, hlm]

theorem ci_l0 (hn : NetOk n (arcs l)) (hl : l.length ≤ 1048576) (R : Rows2 (arcs l) n.toNat l.length L E) (m : Nat) : ∀ (f : List Int) (S : Nat → Bool) (P : Nat → Int), m ≤ 100 → FlowOk n (arcs l) f → Pot n (arcs l) f S P → ∃ r, Ev (fun k => impl_Cheapest.l0 k m L E f n l) r ∧ RunIs n (arcs l) m f r := by
  have n2 := hn.1.1
  have n15 := hn.1.2.1
  induction m with
  | zero =>
    intro f S P hm hF hp
    have hf : f.length = l.length := by have := hF.2.1; rw [arcs_len] at this; exact this
    have hc := costOf_ev hn hf hF.2.2.1
    refine ⟨(f, costTo (arcs l) f (arcs l).length, true), Ev.step (fun k => by rw [impl_Cheapest.l0, if_neg (by omega)]) (Ev.bind hc (Ev.of_eq fun k => by rw [arcs_len])), rfl⟩
  | succ m ih =>
    intro f S P hm hF hp
    have hf : f.length = l.length := by have := hF.2.1; rw [arcs_len] at this; exact this
    have hw : wrap64 (((m + 1 : Nat) : Int) - 1) = (m : Int) := by rw [w64 (by omega) (by omega)]; omega
    obtain ⟨d, hd, a⟩ := distances_ev (L := L) (E := E) hn hl hf hF.2.2.1 hp R
    have hdl : (1 : Int) < (d.length : Int) := by rw [a.len]; omega
    have e1 : rd d 1 = d.getD 1 0 := rfl
    have hhi := a.hi 1 (by omega)
    by_cases c : d.getD 1 0 = INF
    · refine ⟨([], 0, false), Ev.step (fun k => by rw [impl_Cheapest.l0, if_pos (by omega)]) (Ev.bind hd (Ev.of_eq fun k => by rw [if_pos hdl, e1, ← INF_eq, if_pos c])), .inl ⟨S, P, d, hp, a, c, rfl⟩⟩
    · have clt : d.getD 1 0 < INF := by omega
      obtain ⟨p, p1, p2, p3, p4, p5⟩ := tight_way hn hp a (ByT (arcs l) f d) (fun x hx h0 hf => byT_exists a hx h0 hf) (v := 1) (by omega) clt
      have p1' : PathL (arcs l) p 1 := p1
      have p2' : Follow (arcs l) (ByT (arcs l) f d) p 1 := p2
      obtain ⟨g1, g2⟩ := push_flow hF p p1' p3 1 (by omega) (fun s hs => by have := p5 s hs; omega)
      have hpot := next_pot hF hp a p p1' p3 (follow_tight p 1 p2')
      obtain ⟨r, h1, h2⟩ := ih _ _ _ (by omega) g1 hpot
      have hlt : ∀ s, s ∈ p → s.1 < l.length := fun s hs => by have := pathL_lt p 1 p1' s hs; rw [arcs_len] at this; exact this
      have h3 := ci_l3 (r := r) (n := n) (L := L) (E := E) hl ((m + 1 : Nat) : Int) p (by omega) hlt p.length 0 f 20 (Nat.zero_add _) hf (by omega) (by omega) (flow_small hF) (by rw [List.drop_zero, hw]; exact h1)
      rw [show ((0 : Nat) : Int) = 0 from rfl] at h3
      have h4 := ci_l1 (r := r) hn hl hf hF.2.2.1 hp a R ((m + 1 : Nat) : Int) p 1 [] (by rw [List.length_nil]; omega) p1' p2' h3
      refine ⟨r, Ev.step (fun k => by rw [impl_Cheapest.l0, if_pos (by omega)]) (Ev.bind hd (Ev.congr (fun k => by rw [if_pos hdl, e1, ← INF_eq, if_neg c]; rfl) h4)), .inr ⟨S, P, d, p, hp, a, clt, p1', p2', p3, p4, p5, h2⟩⟩

theorem iCheapest (n : Int) (l : List S67) (size : Int) (hl : l.length ≤ 1048576) : ∃ r, Ev (fun k => impl_Cheapest.f k n l size) r ∧ RunTop n (arcs l) size r := by
  have hN := iNetOk n l hl
  have bad : ¬ (NetOk n (arcs l) ∧ 0 ≤ size ∧ size ≤ 16) → ∀ t, t = true → Ev (fun k => impl_Cheapest.j0 k size t n l) ([], 0, false) := fun _ t ht => Ev.step (f := fun _ => some ([], 0, false)) (fun k => by rw [impl_Cheapest.j0, if_pos ht]) (Ev.now _)
  by_cases h : NetOk n (arcs l)
  · rw [boolP_true h] at hN
    by_cases h0 : size < 0
    · exact ⟨_, Ev.bind hN (Ev.congr (fun k => by rw [if_pos rfl, if_pos h0]) (bad (fun hh => by omega) true rfl)), .inl ⟨fun hh => by omega, rfl⟩⟩
    · by_cases h1 : size > 16
      · exact ⟨_, Ev.bind hN (Ev.congr (fun k => by rw [if_pos rfl, if_neg h0]) (bad (fun hh => by omega) (decide (size > 16)) (decide_eq_true h1))), .inl ⟨fun hh => by omega, rfl⟩⟩
      · obtain ⟨L, E, h2, R⟩ := stepsOf_ev h hl
        obtain ⟨z1, z2⟩ := zero_start h
        rw [arcs_len] at z1 z2
        obtain ⟨r, h3, h4⟩ := ci_l0 (L := L) (E := E) h hl R size.toNat _ _ _ (by omega) z1 z2
        rw [show ((size.toNat : Nat) : Int) = size by omega] at h3
        refine ⟨r, Ev.bind hN (Ev.congr (fun k => by rw [if_pos rfl, if_neg h0]) ?_), .inr ⟨h, by omega, by omega, by rw [arcs_len]; exact h4⟩⟩
        refine Ev.step (fun k => by rw [impl_Cheapest.j0, if_neg (by rw [decide_eq_false h1]; simp)]) (Ev.bind h2 ?_)
        exact Ev.congr (fun k => by rw [if_pos (by omega), if_pos (by omega), Int.toNat_natCast]) h3
  · rw [boolP_false h] at hN
    exact ⟨_, Ev.bind hN (Ev.congr (fun k => by rw [if_neg (by simp)]) (bad (fun hh => h hh.1) true rfl)), .inl ⟨fun hh => h hh.1, rfl⟩⟩
end

/-! runs of Cheapest: a longer run goes on from the shorter one; its costs are convex; it stops where no flow is greater -/
theorem fin_move {n : Int} {l : List Arc} {f d : List Int} {S S' : Nat → Bool} {P P' : Nat → Int} (hn : NetOk n l) (hp : Pot n l f S P) (a : Fin n l f S P d) (hp' : Pot n l f S' P') : Fin n l f S' P' d := by
  have key : ∀ m : Nat, ∀ x, x < n.toNat → d.getD x 0 < INF → rank n P d x ≤ m → S' x = true ∧ 10000 * (P' x - P' 0) ≤ d.getD x 0 := by
    intro m
    induction m with
    | zero =>
      intro x hx hf hr
      by_cases h0 : x = 0
      · subst h0; rw [a.zero]; exact ⟨hp'.zero, by omega⟩
      · obtain ⟨i, b, t⟩ := a.tight hx h0 hf
        have h1 := tight_rank hn hp a.toLab t
        have h2 := (rank_bound n P d (fr l i b) (ends_ok hn t.1 b).2.2.1).1
        omega
    | succ m ih =>
      intro x hx hf hr
      by_cases h0 : x = 0
      · subst h0; rw [a.zero]; exact ⟨hp'.zero, by omega⟩
      · obtain ⟨i, b, t⟩ := a.tight hx h0 hf
        have h1 := tight_rank hn hp a.toLab t
        have e3 := (ends_ok hn t.1 b).2.2.1
        obtain ⟨q1, q2⟩ := ih _ e3 t.2.2.2.1 (by omega)
        obtain ⟨s1, s2⟩ := hp'.step i b t.1 t.2.2.1 q1
        have t5 := t.2.2.2.2
        rw [t.2.1] at s1 s2
        unfold sLen at t5
        exact ⟨s1, by omega⟩
  exact { a with lo := fun x hx hf => key n.toNat x hx hf (by have := (rank_bound n P d x hx).2; omega) }

theorem fin_same {n : Int} {l : List Arc} {f d e : List Int} {S S' : Nat → Bool} {P P' : Nat → Int} (hn : NetOk n l) (hp : Pot n l f S P) (a : Fin n l f S P d) (hp' : Pot n l f S' P') (c : Fin n l f S' P' e) : d = e :=
  Fin.unique hn hp a (fin_move hn hp' c hp)

theorem follow_same {l : List Arc} {f d : List Int} (p : List (Nat × Bool)) : ∀ (q : List (Nat × Bool)) (v : Int), Follow l (ByT l f d) p v → Follow l (ByT l f d) q v → p = q := by
  induction p with
  | nil =>
    intro q v hp hq
    have hv : v = 0 := hp
    cases q with
    | nil => rfl
    | cons s q => obtain ⟨i, b⟩ := s; exact absurd hv hq.1
  | cons s p ih =>
    intro q v hp hq
    obtain ⟨i, b⟩ := s
    cases q with
    | nil => have hv : v = 0 := hq
             exact absurd hv hp.1
    | cons t q =>
      obtain ⟨j, c⟩ := t
      have e := hp.2.1.2.symm.trans hq.2.1.2
      obtain ⟨rfl, rfl⟩ : i = j ∧ b = c := by
        have := Option.some.inj e
        exact ⟨congrArg Prod.fst this, congrArg Prod.snd this⟩
      rw [ih q _ hp.2.2 hq.2.2]

/-- what a run that ends well answers -/
theorem run_ok {n : Int} {l : List Arc} (m : Nat) : ∀ (f : List Int) (r : List Int × Int × Bool), FlowOk n l f → RunIs n l m f r → r.2.2 = true → FlowOk n l r.1 ∧ r.2.1 = costTo l r.1 l.length ∧ exc l r.1 l.length 0 = exc l f l.length 0 - m := by
  induction m with
  | zero =>
    intro f r hF hr _
    have hr' : r = (f, costTo l f l.length, true) := hr
    subst hr'
    exact ⟨hF, rfl, by show exc l f l.length 0 = _; omega⟩
  | succ m ih =>
    intro f r hF hr hk
    rcases hr with ⟨_, _, _, _, _, _, e⟩ | ⟨S, P, d, p, hp, a, hd, p1, p2, p3, p4, p5, h⟩
    · rw [e] at hk; cases hk
    · obtain ⟨g1, g2⟩ := push_flow hF p p1 p3 1 (by omega) (fun s hs => by have := p5 s hs; omega)
      obtain ⟨q1, q2, q3⟩ := ih _ r g1 h hk
      exact ⟨q1, q2, by rw [q3, g2]; omega⟩

/-- the longer run goes one step on from where the shorter one ended -/
theorem run_link {n : Int} {l : List Arc} (m : Nat) : ∀ (f g : List Int) (c : Int) (r : List Int × Int × Bool), NetOk n l → RunIs n l m f (g, c, true) → RunIs n l (m + 1) f r → RunIs n l 1 g r := by
  induction m with
  | zero =>
    intro f g c r hn h h'
    have e : (g, c, true) = (f, costTo l f l.length, true) := h
    have e1 : g = f := congrArg Prod.fst e
    rw [e1]; exact h'
  | succ m ih =>
    intro f g c r hn h h'
    rcases h with ⟨_, _, _, _, _, _, e⟩ | ⟨S, P, d, p, hp, a, hd, p1, p2, p3, p4, p5, h⟩
    · cases e
    · rcases h' with ⟨S', P', d', hp', a', hd', _⟩ | ⟨S', P', d', p', hp', a', hd', p1', p2', p3', p4', p5', h'⟩
      · have e := fin_same hn hp a hp' a'
        rw [e, hd'] at hd; exact absurd hd (Int.lt_irrefl _)
      · have e := fin_same hn hp a hp' a'
        subst e
        have e := follow_same p p' 1 p2 p2'
        subst e
        exact ih _ g c r hn h h'

/-- a run that fails in its one step: no flow is greater -/
theorem run_stop {n : Int} {l : List Arc} {g : List Int} {r : List Int × Int × Bool} (hF : FlowOk n l g) (h : RunIs n l 1 g r) (hk : r.2.2 = false) {m : Int} {s : List Bool} (hm : MostIs n l m s) : m ≤ - exc l g l.length 0 := by
  rcases h with ⟨S, P, d, hp, a, hd, _⟩ | ⟨S, P, d, p, hp, a, hd, p1, p2, p3, p4, p5, h⟩
  · rcases hm with ⟨hn, _⟩ | ⟨_, f, hf, _, hr, h1, he⟩
    · exact absurd hF.1 hn
    · have n2 := hF.1.1.1
      have hcl : Closed l g (got n d) := fun i hi => by
        have mv : ∀ b, 0 < sRoom l g i b → got n d (fr l i b) = true → got n d (tw l i b) = true := fun b hro hS => by
          have hS' : fr l i b < n.toNat ∧ d.getD (fr l i b) 0 < INF := of_decide_eq_true hS
          exact decide_eq_true ⟨(ends_ok hF.1 hi b).2.2.2.1, (a.next hF.1 hp hi hro hS'.2).1⟩
        refine ⟨fun hu hlt => ?_, fun hv hlt => ?_⟩
        · exact mv false (by unfold sRoom; simp only [Bool.false_eq_true, if_false]; omega) hu
        · exact mv true (by unfold sRoom; simp only [if_true]; omega) hv
      have z0 : got n d 0 = true := decide_eq_true ⟨by omega, by rw [a.zero]; unfold INF; omega⟩
      have z1 : got n d 1 = false := decide_eq_false (fun hh => by rw [hd] at hh; exact absurd hh.2 (Int.lt_irrefl _))
      rw [closed_size hF _ z0 z1 hcl, he]
      exact size_le_cut hf _ z0 z1
  · have e : r = (pushAll g p 1, costTo l (pushAll g p 1) l.length, true) := h
    rw [e] at hk; cases hk

/-- the size of a flow is no greater than the greatest -/
theorem most_ge {n : Int} {l : List Arc} {g : List Int} (hF : FlowOk n l g) {m : Int} {s : List Bool} (hm : MostIs n l m s) : - exc l g l.length 0 ≤ m := by
  rcases hm with ⟨hn, _⟩ | ⟨_, f, hf, _, hr, h1, he⟩
  · exact absurd hF.1 hn
  · rw [he, closed_size hf _ hr.zero h1 hr.closed]
    exact size_le_cut hF _ hr.zero h1

/-- what the next unit costs, at least: at every flow -/
def NextGe (n : Int) (l : List Arc) (g : List Int) (step : Int) : Prop := ∀ S P d, Pot n l g S P → Fin n l g S P d → d.getD 1 0 < INF → step ≤ cst d 1

/-- one more unit: what it costs, and that the one behind it costs no less -/
theorem run_more {n : Int} {l : List Arc} {g : List Int} {r : List Int × Int × Bool} (hF : FlowOk n l g) (h : RunIs n l 1 g r) (hk : r.2.2 = true) {step : Int} (hs : NextGe n l g step) : step ≤ r.2.1 - costTo l g l.length ∧ NextGe n l r.1 (r.2.1 - costTo l g l.length) := by
  rcases h with ⟨S, P, d, hp, a, hd, e⟩ | ⟨S, P, d, p, hp, a, hd, p1, p2, p3, p4, p5, h⟩
  · rw [e] at hk; cases hk
  · have e : r = (pushAll g p 1, costTo l (pushAll g p 1) l.length, true) := h
    subst e
    have hn := hF.1
    have n2 := hn.1.1
    have n15 := hn.1.2.1
    have hc := cost_pushAll p g 1 hF.2.1 p1
    have ht := tight_path p a.zero 1 p1 (follow_tight p 1 p2)
    have hd1 : d.getD (1 : Int).toNat 0 = d.getD 1 0 := rfl
    rw [hd1] at ht
    have hcst : cst d 1 = pCost l p := by unfold cst; omega
    have hdiff : costTo l (pushAll g p 1) l.length - costTo l g l.length = cst d 1 := by omega
    show step ≤ costTo l (pushAll g p 1) l.length - costTo l g l.length ∧ NextGe n l (pushAll g p 1) (costTo l (pushAll g p 1) l.length - costTo l g l.length)
    rw [hdiff]
    refine ⟨hs S P d hp a hd, fun S' P' d' hp' a' hd' => ?_⟩
    have hq := next_pot hF hp a p p1 p3 (follow_tight p 1 p2)
    exact next_cost hn a hq (fin_move hn hp' a' hq) (by omega) hd'

/-- at the flow that nothing goes through each unit costs at least 0 -/
theorem zero_next {n : Int} {l : List Arc} (hn : NetOk n l) : NextGe n l (List.replicate l.length 0) 0 := fun S P d hp a hd => by
  have c := fin_move hn hp a (zero_start hn).2
  have h := (c.lo 1 (by have := hn.1.1; omega) hd).2
  unfold cst
  omega

theorem zero_cost (l : List Arc) : costTo l (List.replicate l.length 0) l.length = 0 := by
  have hz : ∀ i : Nat, (List.replicate l.length (0 : Int)).getD i 0 = 0 := fun i => by
    rw [List.getD_eq_getElem?_getD, List.getElem?_replicate]; split <;> rfl
  unfold costTo
  exact (sumTo_congr (g := fun _ => 0) (fun i _ => by rw [hz]; exact Int.zero_mul _)).trans (sumTo_zero l.length)

/-! impl.FlowOk -/
theorem impl_nodes {n : Int} (zs : List Int) (e : Nat → Int) (hz : zs.length = n.toNat) (hn : 2 ≤ n) (hn2 : n ≤ 1500) (he : ∀ x : Nat, (x : Int) < n → zs.getD x 0 = e x) (d : Nat) : ∀ i : Nat, i + d = n.toNat →
    Ev (fun k => impl_FlowOk.l1 k zs (zs.length : Int) i) (boolP (∀ x : Nat, i ≤ x → 2 ≤ x → (x : Int) < n → e x = 0)) := by
  induction d with
  | zero =>
    intro i h
    rw [boolP_true (fun x a b c => by omega)]
    exact Ev.step (f := fun _ => some true) (fun k => by rw [impl_FlowOk.l1, if_neg (by omega)]) (Ev.now _)
  | succ d ih =>
    intro i h
    have ei : rd zs (i : Int) = e i := by unfold rd; rw [Int.toNat_natCast]; exact he i (by omega)
    have hw : wrap64 ((i : Int) + 1) = ((i + 1 : Nat) : Int) := by rw [w64 (by omega) (by omega)]; omega
    by_cases hgo : 2 ≤ i ∧ e i ≠ 0
    · rw [boolP_false (fun hh => hgo.2 (hh i (Nat.le_refl _) hgo.1 (by omega)))]
      exact Ev.step (f := fun _ => some false) (fun k => by rw [impl_FlowOk.l1, if_pos (by omega), if_pos (by omega), if_pos (by omega), if_pos (by omega), ei, if_neg hgo.2]) (Ev.now _)
    · have e2 : boolP (∀ x : Nat, i ≤ x → 2 ≤ x → (x : Int) < n → e x = 0) = boolP (∀ x : Nat, i + 1 ≤ x → 2 ≤ x → (x : Int) < n → e x = 0) := by
        rw [Bool.eq_iff_iff, boolP_iff, boolP_iff]
        constructor
        · intro hh x a b c; exact hh x (by omega) b c
        · intro hh x a b c
          by_cases hx : x = i
          · subst hx
            exact Decidable.byContradiction fun hne => hgo ⟨b, hne⟩
          · exact hh x (by omega) b c
      rw [e2]
      refine Ev.step (f := fun k => impl_FlowOk.l1 k zs (zs.length : Int) ((i + 1 : Nat) : Int)) (fun k => ?_) (ih (i + 1) (by omega))
      rw [impl_FlowOk.l1, if_pos (by omega), if_pos (by omega), if_pos (by omega), hw]
      by_cases h1 : (i : Int) > 1
      · have : e i = 0 := Decidable.byContradiction fun hne => hgo ⟨by omega, hne⟩
        rw [if_pos h1, ei, if_pos this]
      · rw [if_neg h1]

theorem impl_ranges {n : Int} {l : List S67} {f : List Int} (hn : NetOk n (arcs l)) (hf : f.length = l.length) (hm : l.length ≤ 1048576) (d : Nat) : ∀ i : Nat, i + d = l.length → (∀ j, j < i → 0 ≤ f.getD j 0 ∧ f.getD j 0 ≤ (at_ (arcs l) j).r) →
    Ev (fun k => impl_FlowOk.l0 k f l (l.length : Int) i n l) (boolP (FlowOk n (arcs l) f)) := by
  have hal := arcs_len l
  induction d with
  | zero =>
    intro i h hj
    have hr : InRoom (arcs l) f := fun j hjl => hj j (by omega)
    obtain ⟨zs, hz, hzl, hzx⟩ := excess_ev hn hf hr
    refine Ev.step (fun k => by rw [impl_FlowOk.l0, if_neg (by omega)]) (Ev.bind hz ?_)
    have e : boolP (FlowOk n (arcs l) f) = boolP (∀ x : Nat, 0 ≤ x → 2 ≤ x → (x : Int) < n → exc (arcs l) f l.length x = 0) := by
      rw [Bool.eq_iff_iff, boolP_iff, boolP_iff]
      constructor
      · intro hh x _ b c
        have := hh.2.2.2 x b c
        rwa [hal] at this
      · intro hh
        refine ⟨hn, by omega, hr, fun x b c => ?_⟩
        rw [hal]
        exact hh x (Nat.zero_le _) b c
    rw [e]
    have h0 := impl_nodes zs (fun x => exc (arcs l) f l.length x) hzl hn.1.1 hn.1.2.1 hzx n.toNat 0 (by omega)
    rw [show ((0 : Nat) : Int) = 0 from rfl] at h0
    exact h0
  | succ d ih =>
    intro i h hj
    have hi : i < l.length := by omega
    have hia : i < (arcs l).length := by rw [arcs_len]; exact hi
    have hif : i < f.length := by rw [hf]; exact hi
    have ti : ((i : Int)).toNat = i := Int.toNat_natCast i
    by_cases c1 : f.getD i 0 < 0
    · rw [boolP_false (fun hh : FlowOk n (arcs l) f => absurd (hh.2.2.1 i hia).1 (Int.not_le.mpr c1))]
      exact Ev.step (f := fun _ => some false) (fun k => by
        have ef : rd f (i : Int) = f.getD i 0 := by unfold rd; rw [ti]
        rw [impl_FlowOk.l0, if_pos (lt_i hi), if_pos (ge_i i), if_pos (lt_i hi), if_pos (lt_i hif), ef, if_pos c1]) (Ev.now _)
    · by_cases c2 : f.getD i 0 > (at_ (arcs l) i).r
      · rw [boolP_false (fun hh : FlowOk n (arcs l) f => absurd (hh.2.2.1 i hia).2 (Int.not_le.mpr c2))]
        exact Ev.step (f := fun _ => some false) (fun k => by
          have e2 : (rd_T67 l (i : Int)).f2 = (at_ (arcs l) i).r := by rw [at_2, ti]
          have ef : rd f (i : Int) = f.getD i 0 := by unfold rd; rw [ti]
          rw [impl_FlowOk.l0, if_pos (lt_i hi), if_pos (ge_i i), if_pos (lt_i hi), if_pos (lt_i hif), ef, e2, if_neg c1, if_pos c2]) (Ev.now _)
      · refine Ev.step (fun k => ?_) (ih (i + 1) (by omega) (fun j hj2 => ?_))
        · have e2 : (rd_T67 l (i : Int)).f2 = (at_ (arcs l) i).r := by rw [at_2, ti]
          have ef : rd f (i : Int) = f.getD i 0 := by unfold rd; rw [ti]
          rw [impl_FlowOk.l0, if_pos (lt_i hi), if_pos (ge_i i), if_pos (lt_i hi), if_pos (lt_i hif), ef, e2, if_neg c1, if_neg c2, next_i hi hm]
        · rcases Nat.lt_or_ge j i with hji | hji
          · exact hj j hji
          · obtain rfl : j = i := by omega
            exact ⟨Int.not_lt.mp c1, Int.not_lt.mp c2⟩

theorem iFlowOk (n : Int) (l : List S67) (f : List Int) (hlen : l.length ≤ 1048576) : Ev (fun k => impl_FlowOk.f k n l f) (boolP (FlowOk n (arcs l) f)) := by
  have bad : ∀ hn : ¬ FlowOk n (arcs l) f, Ev (fun k => impl_FlowOk.j0 k f true n l) (boolP (FlowOk n (arcs l) f)) := fun hn => by
    rw [boolP_false hn]
    exact Ev.step (f := fun _ => some false) (fun k => by rw [impl_FlowOk.j0, if_pos rfl]) (Ev.now _)
  refine Ev.bind (iNetOk n l hlen) ?_
  by_cases hn : NetOk n (arcs l)
  · refine Ev.congr (fun k => by rw [if_pos (boolP_true hn)]) ?_
    by_cases hf : f.length = l.length
    · refine Ev.step (fun k => by rw [impl_FlowOk.j0, if_neg (by simp [hf])]) ?_
      have h0 := impl_ranges hn hf hlen l.length 0 (Nat.zero_add _) (fun j hj => absurd hj (by omega))
      rw [show ((0 : Nat) : Int) = 0 from rfl] at h0
      exact h0
    · have : ((f.length : Int) != (l.length : Int)) = true := by simp; omega
      simp only [this]
      exact bad (fun hh => hf (by have := hh.2.1; rw [arcs_len] at this; exact this))
  · refine Ev.congr (fun k => by rw [if_neg (by rw [boolP_false hn]; simp)]) (bad (fun hh => hn hh.1))

/-! impl.FlowSize -/
theorem iFlowSize (n : Int) (l : List S67) (f : List Int) (hlen : l.length ≤ 1048576) : Ev (fun k => impl_FlowSize.f k n l f) (flowSize n (arcs l) f) := by
  refine Ev.bind (iFlowOk n l f hlen) ?_
  unfold flowSize
  by_cases hn : FlowOk n (arcs l) f
  · rw [if_pos (boolP_true hn)]
    obtain ⟨zs, hz, hzl, hzx⟩ := excess_ev hn.1 (by have := hn.2.1; rw [arcs_len] at this; exact this) hn.2.2.1
    have g0 : (0 : Int) < (zs.length : Int) := by have h1 := hn.1.1; omega
    have g1 : ((0 : Nat) : Int) < n := by have h1 := hn.1.1; omega
    refine Ev.congr (fun k => by rw [if_pos (boolP_true hn)]) (Ev.bind hz ?_)
    have e : rd zs 0 = exc (arcs l) f l.length 0 := hzx 0 g1
    have b := exc_bound hn.1 hn.2.2.1 l.length (by rw [arcs_len]; exact Nat.le_refl _) 0
    exact Ev.of_eq fun k => by rw [if_pos g0, e, w64n b, arcs_len]
  · rw [if_neg (by rw [boolP_false hn]; simp)]
    exact Ev.of_eq fun k => by rw [if_neg (by rw [boolP_false hn]; simp)]

/-! impl.FlowCost -/
theorem iFlowCost (n : Int) (l : List S67) (f : List Int) (hlen : l.length ≤ 1048576) : Ev (fun k => impl_FlowCost.f k n l f) (flowCost n (arcs l) f) := by
  refine Ev.bind (iFlowOk n l f hlen) ?_
  unfold flowCost
  by_cases hn : FlowOk n (arcs l) f
  · rw [if_pos (boolP_true hn), arcs_len]
    exact Ev.congr (fun k => by rw [if_pos (boolP_true hn)]) (Ev.bind (costOf_ev hn.1 (by have := hn.2.1; rw [arcs_len] at this; exact this) hn.2.2.1) (Ev.now _))
  · rw [if_neg (by rw [boolP_false hn]; simp)]
    exact Ev.of_eq fun k => by rw [if_neg (by rw [boolP_false hn]; simp)]

end Go.Proofs.Ytgkpgigoonhgdaa.QFnCheapest
