/- What the functions that the law FnExactFlowMore reaches compute: SzNet, ToNet, EqNet, MarkNet, ArcAt, NetOkS, L06Out, FlowOkS, FlowMoreA, FlowMoreS, NetOkI, ExcessI, FlowOkI, FlowMoreI, ToIntS, EqIntS, MarkIntS. -/
import Derived.Test.YtgkpgigoonhgdaaPFnExactFlowMorex
import Derived.Test.YtgkpgigoonhgdaaMBase
import Derived.Test.YtgkpgigoonhgdaaMLists
import Derived.Test.YtgkpgigoonhgdaaMNet
import Derived.Test.YtgkpgigoonhgdaaMMarks
namespace Go.Proofs.Ytgkpgigoonhgdaa.QFnExactFlowMore
open Go.RowKit Go.Proofs.Ytgkpgigoonhgdaa.PFnExactFlowMore Go.Proofs.YtgkpgigoonhgdaaW.PrintWords Go.Proofs.YtgkpgigoonhgdaaW.PrintLast Go.Proofs.YtgkpgigoonhgdaaW.PrintMore Go.Proofs.Ytgkpgigoonhgdaa.MBase Go.Proofs.Ytgkpgigoonhgdaa.MLists Go.Proofs.Ytgkpgigoonhgdaa.MNet Go.Proofs.Ytgkpgigoonhgdaa.MMarks
set_option linter.unusedVariables false
set_option linter.unusedSimpArgs false

/-! szNet -/
theorem szNet_ev (n : Int) (l : List S91) (hl : l.length ≤ 9223372036854775807) :
    (∃ t, laws_szNet.f n l 1048576 = some t ∧ t < 0) ∨ (l.length ≤ 1048576 ∧ ∃ t, laws_szNet.f n l 1048576 = some t ∧ ¬ t < 0) := by
  unfold laws_szNet.f laws_szArcS.f
  rw [w64 (by omega) (by omega)]
  by_cases hb : (1048576 - (l.length : Int)) < 0
  · exact .inl ⟨-1, by rw [if_pos hb, Option.bind_some, if_pos (by omega)], by omega⟩
  · exact .inr ⟨by omega, 1048576 - (l.length : Int), by rw [if_neg hb, Option.bind_some, if_neg hb], hb⟩

/-! toNet: the arcs are copied one by one -/
def conv (a : S91) : S67 := ⟨a.f0, a.f1, a.f2, a.f3⟩
def arcs (l : List S67) : List Arc := l.map fun a => ⟨a.f0, a.f1, a.f2, a.f3⟩

theorem toArcS_l0 (xs : List S91) (hx : xs.length ≤ 1048576) (d : Nat) : ∀ (ys : List S67) (i : Int), 0 ≤ i → i + d = xs.length → Copied conv xs ys i → Ev (fun k => laws_toArcS.l0 k xs ys i) (xs.map conv) := by
  induction d with
  | zero =>
    intro ys i h0 h1 hc
    rw [← hc.end_ (by omega)]
    exact Ev.step (f := fun _ => some ys) (fun k => by rw [laws_toArcS.l0, if_neg (by omega)]) (Ev.now _)
  | succ d ih =>
    intro ys i h0 h1 hc
    have hl := hc.1
    refine Ev.step (fun k => by rw [laws_toArcS.l0, if_pos (by omega), if_pos h0, laws_toArc.f, Option.bind_some, if_pos (by omega), w64 (by omega) (by omega)]; rfl) (ih _ (i + 1) (by omega) (by omega) (hc.step h0 (by omega) z91 rfl))

theorem toNet_ev (n : Int) (l : List S91) (hl : l.length ≤ 1048576) : Ev (fun k => laws_toNet.f k n l) (n, l.map conv) := by
  refine Ev.bind (a := l.map conv) ?_ (Ev.now _)
  refine Ev.congr (fun k => by unfold laws_toArcS.f; rw [if_pos (by omega), if_pos (by omega)]) ?_
  exact toArcS_l0 l hl l.length _ 0 (by omega) (by omega) (by rw [Int.toNat_natCast]; exact Copied.start conv l z67)

/-! eqNet: a net equals itself -/
theorem eqArcS_l0 (xs : List S67) (hx : xs.length ≤ 1048576) (d : Nat) : ∀ i : Int, 0 ≤ i → i + d = xs.length → Ev (fun k => laws_eqArcS.l0 k xs xs i) true := by
  induction d with
  | zero => intro i h0 h1; exact Ev.step (f := fun _ => some true) (fun k => by rw [laws_eqArcS.l0, if_neg (by omega)]) (Ev.now _)
  | succ d ih =>
    intro i h0 h1
    refine Ev.step (fun k => by rw [laws_eqArcS.l0, if_pos (by omega), if_pos h0, if_pos (by omega), laws_eqArc.f, if_pos rfl, if_pos rfl, if_pos rfl, if_pos rfl, Option.bind_some, if_pos rfl, w64 (by omega) (by omega)]) (ih (i + 1) (by omega) (by omega))

theorem eqNet_same (n : Int) (l : List S67) (hl : l.length ≤ 1048576) : Ev (fun k => laws_eqNet.f k n l n l) true := by
  refine Ev.congr (fun k => by unfold laws_eqNet.f; rw [if_pos rfl]) (Ev.bind (a := true) ?_ (Ev.of_eq fun k => by rw [if_pos rfl]))
  exact Ev.congr (fun k => by unfold laws_eqArcS.f; rw [if_pos rfl]) (eqArcS_l0 l hl l.length 0 (by omega) (by omega))

/-! markNet: the arcs of a net are marked -/
theorem markArcS_l0 (d : Nat) : ∀ (xs : List S67) (m i : Int), xs.length ≤ 1048576 → 0 ≤ i → 0 ≤ m → m + 4 * d ≤ 4000000000000 → i + d = xs.length → ∃ ys : List S67, ys.length = xs.length ∧ Ev (fun k => laws_markArcS.l0 k xs m i) (m + 4 * d, ys) := by
  induction d with
  | zero =>
    intro xs m i hx h0 h1 h2 h
    refine ⟨xs, rfl, Ev.step (f := fun _ => some (m, xs)) (fun k => by rw [laws_markArcS.l0, if_neg (by omega)]) ?_⟩
    have e : m + 4 * ((0 : Nat) : Int) = m := by omega
    rw [e]
    exact Ev.now _
  | succ d ih =>
    intro xs m i hx h0 h1 h2 h
    have w1 : wrap64 (m + 1) = m + 1 := w64 (by omega) (by omega)
    have w2 : wrap64 (m + 1 + 1) = m + 1 + 1 := w64 (by omega) (by omega)
    have w3 : wrap64 (m + 1 + 1 + 1) = m + 1 + 1 + 1 := w64 (by omega) (by omega)
    have w4 : wrap64 (m + 1 + 1 + 1 + 1) = m + 1 + 1 + 1 + 1 := w64 (by omega) (by omega)
    have wi : wrap64 (i + 1) = i + 1 := w64 (by omega) (by omega)
    generalize hz : (((xs.set i.toNat (⟨m, (rd_T67 xs i).f1, (rd_T67 xs i).f2, (rd_T67 xs i).f3⟩ : S67)))) = z1
    generalize hz2 : z1.set i.toNat (⟨(rd_T67 z1 i).f0, m + 1, (rd_T67 z1 i).f2, (rd_T67 z1 i).f3⟩ : S67) = z2
    generalize hz3 : z2.set i.toNat (⟨(rd_T67 z2 i).f0, (rd_T67 z2 i).f1, m + 1 + 1, (rd_T67 z2 i).f3⟩ : S67) = z3
    generalize hz4 : z3.set i.toNat (⟨(rd_T67 z3 i).f0, (rd_T67 z3 i).f1, (rd_T67 z3 i).f2, m + 1 + 1 + 1⟩ : S67) = z4
    have hl : z4.length = xs.length := by rw [← hz4, ← hz3, ← hz2, ← hz]; simp
    obtain ⟨ys, h3, h4⟩ := ih z4 (m + 1 + 1 + 1 + 1) (i + 1) (by omega) (by omega) (by omega) (by omega) (by omega)
    refine ⟨ys, by omega, Ev.step (fun k => by rw [laws_markArcS.l0, if_pos (by omega), if_pos h0, hz, Option.bind_some, w1, hz2, Option.bind_some, w2, hz3, Option.bind_some, w3, hz4, w4, wi]) ?_⟩
    have e : m + 4 * ((d + 1 : Nat) : Int) = m + 1 + 1 + 1 + 1 + 4 * (d : Int) := by omega
    rw [e]
    exact h4

theorem markNet_any (n : Int) (l : List S67) (m : Int) (hl : l.length ≤ 1048576) (h0 : 0 ≤ m) (h1 : m ≤ 1000000000) : ∃ (m' : Int) (ys : List S67), m ≤ m' ∧ m' ≤ m + 4194304 ∧ Ev (fun k => laws_markNet.f k n l m) (m', ys) := by
  obtain ⟨ys, h2, h3⟩ := markArcS_l0 l.length l m 0 hl (by omega) h0 (by omega) (by omega)
  have h4 : Ev (fun k => laws_markArcS.f k l m) (m + 4 * (l.length : Int), ys) := h3
  exact ⟨_, ys, by omega, by omega, Ev.bind h4 (Ev.now _)⟩

/-! the arcs of a list of structs -/
theorem arcs_len (l : List S67) : (arcs l).length = l.length := by unfold arcs; rw [List.length_map]
theorem at_f (l : List S67) (i : Int) : (rd_T67 l i).f0 = (at_ (arcs l) i.toNat).u ∧ (rd_T67 l i).f1 = (at_ (arcs l) i.toNat).v ∧ (rd_T67 l i).f2 = (at_ (arcs l) i.toNat).r ∧ (rd_T67 l i).f3 = (at_ (arcs l) i.toNat).c := by
  unfold rd_T67 at_ arcs
  rw [List.getD_eq_getElem?_getD, List.getD_eq_getElem?_getD, List.getElem?_map]
  cases l[i.toNat]? with
  | none => exact ⟨rfl, rfl, rfl, rfl⟩
  | some a => exact ⟨rfl, rfl, rfl, rfl⟩
theorem at_0 (l : List S67) (i : Int) : (rd_T67 l i).f0 = (at_ (arcs l) i.toNat).u := (at_f l i).1
theorem at_1 (l : List S67) (i : Int) : (rd_T67 l i).f1 = (at_ (arcs l) i.toNat).v := (at_f l i).2.1
theorem at_2 (l : List S67) (i : Int) : (rd_T67 l i).f2 = (at_ (arcs l) i.toNat).r := (at_f l i).2.2.1
theorem at_3 (l : List S67) (i : Int) : (rd_T67 l i).f3 = (at_ (arcs l) i.toNat).c := (at_f l i).2.2.2

/-! spec.NetOk -/
theorem l01In_eq (x a b : Int) : spec_l01In.f x a b = some (decide (a ≤ x ∧ x ≤ b)) := by
  unfold spec_l01In.f
  by_cases h : x ≥ a
  · rw [if_pos h]; congr 1; rw [decide_eq_decide]; omega
  · rw [if_neg h, decide_eq_false (by omega)]

theorem spec_arcs (n : Int) (l : List S67) (h2 : 2 ≤ n) (hn : n ≤ 1500) (hl : l.length ≤ 3200) (d : Nat) : ∀ i : Int, 0 ≤ i → i + d = l.length →
    Ev (fun k => spec_NetOk.l0 k i n l) (boolP (∀ j : Nat, i ≤ j → j < l.length → ArcOk n (at_ (arcs l) j))) := by
  induction d with
  | zero =>
    intro i h0 h1
    rw [boolP_true (fun j a b => by omega)]
    exact Ev.step (f := fun _ => some true) (fun k => by rw [spec_NetOk.l0, if_neg (by omega)]) (Ev.now _)
  | succ d ih =>
    intro i h0 h1
    have hi : ((i.toNat : Nat) : Int) = i := by omega
    have bad : ¬ ArcOk n (at_ (arcs l) i.toNat) → boolP (∀ j : Nat, i ≤ j → j < l.length → ArcOk n (at_ (arcs l) j)) = false := fun hb => boolP_false (fun h => hb (h i.toNat (by omega) (by omega)))
    have hw : wrap64 (n - 1) = n - 1 := w64 (by omega) (by omega)
    have head : ∀ k, spec_NetOk.l0 (k + 1) i n l = if ArcOk n (at_ (arcs l) i.toNat) then spec_NetOk.l0 k (i + 1) n l else some false := fun k => by
      rw [spec_NetOk.l0, if_pos (by omega), if_pos h0, at_0, at_1, at_2, at_3, hw, l01In_eq, l01In_eq, l01In_eq, l01In_eq, w64 (x := i + 1) (by omega) (by omega)]
      simp only [Option.bind_some, decide_eq_true_eq]
      by_cases c1 : 0 ≤ (at_ (arcs l) i.toNat).u ∧ (at_ (arcs l) i.toNat).u ≤ n - 1
      · rw [if_pos c1]
        by_cases c2 : 0 ≤ (at_ (arcs l) i.toNat).v ∧ (at_ (arcs l) i.toNat).v ≤ n - 1
        · rw [if_pos c2]
          by_cases c3 : (at_ (arcs l) i.toNat).u = (at_ (arcs l) i.toNat).v
          · rw [if_pos c3, if_neg (by unfold ArcOk; omega)]
          · rw [if_neg c3]
            by_cases c4 : 0 ≤ (at_ (arcs l) i.toNat).r ∧ (at_ (arcs l) i.toNat).r ≤ 20
            · rw [if_pos c4]
              by_cases c5 : 0 ≤ (at_ (arcs l) i.toNat).c ∧ (at_ (arcs l) i.toNat).c ≤ 100
              · rw [if_pos c5, if_pos (by unfold ArcOk; omega)]
              · rw [if_neg c5, if_neg (by unfold ArcOk; omega)]
            · rw [if_neg c4, if_neg (by unfold ArcOk; omega)]
        · rw [if_neg c2, if_neg (by unfold ArcOk; omega)]
      · rw [if_neg c1, if_neg (by unfold ArcOk; omega)]
    by_cases ha : ArcOk n (at_ (arcs l) i.toNat)
    · have e : boolP (∀ j : Nat, i ≤ j → j < l.length → ArcOk n (at_ (arcs l) j)) = boolP (∀ j : Nat, i + 1 ≤ j → j < l.length → ArcOk n (at_ (arcs l) j)) := by
        rw [Bool.eq_iff_iff, boolP_iff, boolP_iff]
        constructor
        · intro h j a b; exact h j (by omega) b
        · intro h j a b
          by_cases hj : j = i.toNat
          · rw [hj]; exact ha
          · exact h j (by omega) b
      rw [e]
      exact Ev.step (fun k => by rw [head, if_pos ha]) (ih (i + 1) (by omega) (by omega))
    · rw [bad ha]
      exact Ev.step (f := fun _ => some false) (fun k => by rw [head, if_neg ha]) (Ev.now _)

theorem sNetOk (n : Int) (l : List S67) (hlen : l.length ≤ 1048576) : Ev (fun k => spec_NetOk.f k n l) (boolP (NetOk n (arcs l))) := by
  have bad : ∀ hn : ¬ NetOk n (arcs l), Ev (fun k => spec_NetOk.j0 k true n l) (boolP (NetOk n (arcs l))) := fun hn => by
    rw [boolP_false hn]
    exact Ev.step (f := fun _ => some false) (fun k => by rw [spec_NetOk.j0, if_pos rfl]) (Ev.now _)
  refine Ev.congr (f := fun k => if 2 ≤ n ∧ n ≤ 1500 then spec_NetOk.j0 k (decide ((l.length : Int) > 3200)) n l else spec_NetOk.j0 k true n l) (fun k => by unfold spec_NetOk.f; rw [l01In_eq, Option.bind_some]; simp only [decide_eq_true_eq]) ?_
  by_cases h1 : 2 ≤ n ∧ n ≤ 1500
  · simp only [if_pos h1]
    by_cases h2 : (l.length : Int) > 3200
    · rw [decide_eq_true h2]
      exact bad (fun hh => by have := hh.1; rw [arcs_len] at this; omega)
    · rw [decide_eq_false h2]
      have e : boolP (NetOk n (arcs l)) = boolP (∀ j : Nat, (0 : Int) ≤ j → j < l.length → ArcOk n (at_ (arcs l) j)) := by
        rw [Bool.eq_iff_iff, boolP_iff, boolP_iff]
        constructor
        · intro h j a b; exact h.2 j (by rw [arcs_len]; exact b)
        · intro h; exact ⟨⟨h1.1, h1.2, by rw [arcs_len]; omega⟩, fun i hi => h i (by omega) (by rw [arcs_len] at hi; exact hi)⟩
      rw [e]
      exact Ev.step (fun k => by rw [spec_NetOk.j0, if_neg (by simp)]) (spec_arcs n l h1.1 h1.2 (by omega) l.length 0 (by omega) (by omega))
  · simp only [if_neg h1]
    exact bad (fun hh => h1 ⟨hh.1.1, hh.1.2.1⟩)

/-! spec.l06Out -/
theorem l06Out_l0 {n : Int} {l : List S67} {f : List Int} (hn : NetOk n (arcs l)) (hf : f.length = l.length) (hr : InRoom (arcs l) f) (hm : l.length ≤ 1048576) (d : Nat) : ∀ (i : Nat) (ys : List Int), i + d = l.length →
    ys.length = n.toNat → (∀ x : Nat, (x : Int) < n → ys.getD x 0 = - exc (arcs l) f i x) →
    ∃ zs, Ev (fun k => spec_l06Out.l0 k f ys i n l) zs ∧ zs.length = n.toNat ∧ ∀ x : Nat, (x : Int) < n → zs.getD x 0 = - exc (arcs l) f l.length x := by
  induction d with
  | zero =>
    intro i ys h1 hl hy
    obtain rfl : i = l.length := h1
    exact ⟨ys, Ev.step (f := fun _ => some ys) (fun k => by rw [spec_l06Out.l0, if_neg (by rw [hf]; exact nlt_i)]) (Ev.now _), hl, hy⟩
  | succ d ih =>
    intro i ys h1 hl hy
    have hi : i < l.length := by omega
    have hia : i < (arcs l).length := by rw [arcs_len]; exact hi
    have hif : i < f.length := by rw [hf]; exact hi
    obtain ⟨a1, a2, a3, a4, a5, a6, a7, a8, a9⟩ := hn.2 i hia
    have w1 := w64e (exc_bound hn hr i (Nat.le_of_lt hia) (at_ (arcs l) i).v) (hr i hia) a7
    have w2 := w64e (exc_bound hn hr i (Nat.le_of_lt hia) (at_ (arcs l) i).u) (hr i hia) a7
    have hstep : ∀ x : Nat, - exc (arcs l) f (i + 1) x = - exc (arcs l) f i x + ((if (at_ (arcs l) i).u = (x : Int) then f.getD i 0 else 0) - (if (at_ (arcs l) i).v = (x : Int) then f.getD i 0 else 0)) := fun x => by
      rw [exc_succ]
      generalize exc (arcs l) f i x = E
      generalize (if (at_ (arcs l) i).u = (x : Int) then f.getD i 0 else 0) = A
      generalize (if (at_ (arcs l) i).v = (x : Int) then f.getD i 0 else 0) = B
      omega
    obtain ⟨p1, p2, p3⟩ := put_step (G := fun x => - exc (arcs l) f i x) (G' := fun x => - exc (arcs l) f (i + 1) x) (F := f.getD i 0) a3 a4 a1 a2 (fun h => a5 h.symm) hl hy hstep
    obtain ⟨zs, hz, hzl, hzx⟩ := ih (i + 1) _ (by omega) (by rw [List.length_set, List.length_set]; exact hl) p3
    refine ⟨zs, Ev.step (fun k => ?_) hz, hzl, hzx⟩
    have ti : ((i : Int)).toNat = i := Int.toNat_natCast i
    have e0 : (rd_T67 l (i : Int)).f0 = (at_ (arcs l) i).u := by rw [at_0, ti]
    have e1 : (rd_T67 l (i : Int)).f1 = (at_ (arcs l) i).v := by rw [at_1, ti]
    have ef : rd f (i : Int) = f.getD i 0 := by unfold rd; rw [ti]
    have p1' : rd ys (at_ (arcs l) i).u = - exc (arcs l) f i (at_ (arcs l) i).u := p1
    have p2' : rd (ys.set (at_ (arcs l) i).u.toNat (- exc (arcs l) f i (at_ (arcs l) i).u + f.getD i 0)) (at_ (arcs l) i).v = - exc (arcs l) f i (at_ (arcs l) i).v := p2
    rw [spec_l06Out.l0, if_pos (lt_i hif), if_pos (ge_i i), if_pos (lt_i hi), e0, e1, ef, if_pos a1, if_pos (lt_len a2 hl a1), p1', w2.2.2.1, Option.bind_some, if_pos a3, if_pos (lt_len a4 hl a3), p2', w1.2.2.2, next_i hi hm]

theorem l06Out_ev {n : Int} {l : List S67} {f : List Int} (hn : NetOk n (arcs l)) (hf : f.length = l.length) (hr : InRoom (arcs l) f) :
    ∃ zs, Ev (fun k => spec_l06Out.f k n l f) zs ∧ zs.length = n.toNat ∧ ∀ x : Nat, (x : Int) < n → zs.getD x 0 = - exc (arcs l) f l.length x := by
  have g1 : 0 ≤ n := by have := hn.1.1; omega
  have g2 : n.toNat ≤ 35184372088832 := by have := hn.1.2.1; omega
  have hm : l.length ≤ 1048576 := by have := hn.1.2.2; rw [arcs_len] at this; omega
  obtain ⟨zs, hz, h1, h2⟩ := l06Out_l0 hn hf hr hm l.length 0 (List.replicate n.toNat 0) (Nat.zero_add _) (by simp) (fun x hx => by
    rw [List.getD_eq_getElem?_getD, List.getElem?_replicate]
    split <;> rfl)
  rw [show ((0 : Nat) : Int) = 0 from rfl] at hz
  exact ⟨zs, Ev.congr (fun k => by unfold spec_l06Out.f; rw [if_pos g1, if_pos g2]) hz, h1, h2⟩

/-! spec.FlowOk -/
theorem spec_nodes {n : Int} (l : List S67) (zs : List Int) (e : Nat → Int) (hz : zs.length = n.toNat) (hn : 2 ≤ n) (hn2 : n ≤ 1500) (he : ∀ x : Nat, (x : Int) < n → zs.getD x 0 = - e x) (d : Nat) : ∀ i : Nat, 2 ≤ i → i + d = n.toNat →
    Ev (fun k => spec_FlowOk.l1 k zs i n l) (boolP (∀ x : Nat, i ≤ x → 2 ≤ x → (x : Int) < n → e x = 0)) := by
  induction d with
  | zero =>
    intro i hi2 h
    rw [boolP_true (fun x a b c => by omega)]
    exact Ev.step (f := fun _ => some true) (fun k => by rw [spec_FlowOk.l1, if_neg (by omega)]) (Ev.now _)
  | succ d ih =>
    intro i hi2 h
    have ei : rd zs (i : Int) = - e i := by unfold rd; rw [Int.toNat_natCast]; exact he i (by omega)
    have hw : wrap64 ((i : Int) + 1) = ((i + 1 : Nat) : Int) := by rw [w64 (by omega) (by omega)]; omega
    by_cases hgo : e i ≠ 0
    · rw [boolP_false (fun hh => hgo (hh i (Nat.le_refl _) hi2 (by omega)))]
      exact Ev.step (f := fun _ => some false) (fun k => by rw [spec_FlowOk.l1, if_pos (by omega), if_pos (by omega), if_pos (by omega), ei, if_neg (by omega)]) (Ev.now _)
    · have e2 : boolP (∀ x : Nat, i ≤ x → 2 ≤ x → (x : Int) < n → e x = 0) = boolP (∀ x : Nat, i + 1 ≤ x → 2 ≤ x → (x : Int) < n → e x = 0) := by
        rw [Bool.eq_iff_iff, boolP_iff, boolP_iff]
        constructor
        · intro hh x a b c; exact hh x (by omega) b c
        · intro hh x a b c
          by_cases hx : x = i
          · subst hx
            exact Decidable.not_not.mp hgo
          · exact hh x (by omega) b c
      rw [e2]
      exact Ev.step (fun k => by rw [spec_FlowOk.l1, if_pos (by omega), if_pos (by omega), if_pos (by omega), ei, if_pos (by omega), hw]) (ih (i + 1) (by omega) (by omega))

theorem spec_ranges {n : Int} {l : List S67} {f : List Int} (hn : NetOk n (arcs l)) (hf : f.length = l.length) (hm : l.length ≤ 1048576) (d : Nat) : ∀ i : Nat, i + d = l.length → (∀ j, j < i → 0 ≤ f.getD j 0 ∧ f.getD j 0 ≤ (at_ (arcs l) j).r) →
    Ev (fun k => spec_FlowOk.l0 k f i n l) (boolP (FlowOk n (arcs l) f)) := by
  have hal := arcs_len l
  induction d with
  | zero =>
    intro i h hj
    have hr : InRoom (arcs l) f := fun j hjl => hj j (by omega)
    obtain ⟨zs, hz, hzl, hzx⟩ := l06Out_ev hn hf hr
    refine Ev.step (fun k => by rw [spec_FlowOk.l0, if_neg (by omega)]) (Ev.bind hz ?_)
    have e : boolP (FlowOk n (arcs l) f) = boolP (∀ x : Nat, 2 ≤ x → 2 ≤ x → (x : Int) < n → exc (arcs l) f l.length x = 0) := by
      rw [Bool.eq_iff_iff, boolP_iff, boolP_iff]
      constructor
      · intro hh x _ b c
        have := hh.2.2.2 x b c
        rwa [hal] at this
      · intro hh
        refine ⟨hn, by omega, hr, fun x b c => ?_⟩
        rw [hal]
        exact hh x b b c
    rw [e]
    have h0 := spec_nodes l zs (fun x => exc (arcs l) f l.length x) hzl hn.1.1 hn.1.2.1 hzx (n.toNat - 2) 2 (by omega) (by have := hn.1; omega)
    rw [show ((2 : Nat) : Int) = 2 from rfl] at h0
    exact h0
  | succ d ih =>
    intro i h hj
    have hi : i < l.length := by omega
    have hia : i < (arcs l).length := by rw [arcs_len]; exact hi
    have hif : i < f.length := by rw [hf]; exact hi
    have ti : ((i : Int)).toNat = i := Int.toNat_natCast i
    by_cases c1 : 0 ≤ f.getD i 0 ∧ f.getD i 0 ≤ (at_ (arcs l) i).r
    · refine Ev.step (fun k => ?_) (ih (i + 1) (by omega) (fun j hj2 => ?_))
      · have e2 : (rd_T67 l (i : Int)).f2 = (at_ (arcs l) i).r := by rw [at_2, ti]
        have ef : rd f (i : Int) = f.getD i 0 := by unfold rd; rw [ti]
        rw [spec_FlowOk.l0, if_pos (lt_i hif), if_pos (ge_i i), if_pos (lt_i hi), ef, e2, l01In_eq, Option.bind_some, if_pos (decide_eq_true c1), next_i hi hm]
      · rcases Nat.lt_or_ge j i with hji | hji
        · exact hj j hji
        · obtain rfl : j = i := by omega
          exact c1
    · rw [boolP_false (fun hh : FlowOk n (arcs l) f => c1 (hh.2.2.1 i hia))]
      exact Ev.step (f := fun _ => some false) (fun k => by
        have e2 : (rd_T67 l (i : Int)).f2 = (at_ (arcs l) i).r := by rw [at_2, ti]
        have ef : rd f (i : Int) = f.getD i 0 := by unfold rd; rw [ti]
        rw [spec_FlowOk.l0, if_pos (lt_i hif), if_pos (ge_i i), if_pos (lt_i hi), ef, e2, l01In_eq, Option.bind_some, if_neg (by rw [decide_eq_false c1]; simp)]) (Ev.now _)

theorem sFlowOk (n : Int) (l : List S67) (f : List Int) (hlen : l.length ≤ 1048576) : Ev (fun k => spec_FlowOk.f k n l f) (boolP (FlowOk n (arcs l) f)) := by
  have bad : ∀ hn : ¬ FlowOk n (arcs l) f, Ev (fun k => spec_FlowOk.j0 k f true n l) (boolP (FlowOk n (arcs l) f)) := fun hn => by
    rw [boolP_false hn]
    exact Ev.step (f := fun _ => some false) (fun k => by rw [spec_FlowOk.j0, if_pos rfl]) (Ev.now _)
  refine Ev.bind (sNetOk n l hlen) ?_
  by_cases hn : NetOk n (arcs l)
  · refine Ev.congr (fun k => by rw [if_pos (boolP_true hn)]) ?_
    by_cases hf : f.length = l.length
    · refine Ev.step (fun k => by rw [spec_FlowOk.j0, if_neg (by simp [hf])]) ?_
      have h0 := spec_ranges hn hf hlen l.length 0 (Nat.zero_add _) (fun j hj => absurd hj (by omega))
      rw [show ((0 : Nat) : Int) = 0 from rfl] at h0
      exact h0
    · have : ((f.length : Int) != (l.length : Int)) = true := by simp; omega
      simp only [this]
      exact bad (fun hh => hf (by have := hh.2.1; rw [arcs_len] at this; exact this))
  · refine Ev.congr (fun k => by rw [if_neg (by rw [boolP_false hn]; simp)]) (bad (fun hh => hn hh.1))

/-! the sum of two flows -/
def sums (a b : List Int) (m : Nat) : List Int := (List.range m).map (fun j => wrap64 (a.getD j 0 + b.getD j 0))
theorem sums_len (a b : List Int) (m : Nat) : (sums a b m).length = m := by unfold sums; simp
theorem sums_succ (a b : List Int) (m : Nat) : sums a b (m + 1) = sums a b m ++ [wrap64 (a.getD m 0 + b.getD m 0)] := by
  unfold sums; rw [List.range_succ, List.map_append]; rfl
theorem sums_get (a b : List Int) (m j : Nat) (hj : j < m) : (sums a b m).getD j 0 = wrap64 (a.getD j 0 + b.getD j 0) := by
  unfold sums
  rw [List.getD_eq_getElem?_getD, List.getElem?_map, List.getElem?_range hj]
  rfl

noncomputable def flowMore (n : Int) (l : List Arc) (a b : List Int) : List Int := if boolP (FlowOk n l a) = true ∧ boolP (FlowOk n l b) = true ∧ boolP (FlowOk n l (sums a b a.length)) = true then sums a b a.length else []

theorem flowMore_len (n : Int) (l : List Arc) (a b : List Int) : (flowMore n l a b).length ≤ 3200 := by
  unfold flowMore
  split
  · rename_i h
    have := boolP_iff.mp h.2.2
    rw [this.2.1]
    exact this.1.1.2.2
  · exact Nat.zero_le _

/-! spec.FlowMore -/
theorem sMore_l0 (n : Int) (l : List S67) (hlen : l.length ≤ 1048576) (a b : List Int) (hab : a.length = b.length) (ha : a.length ≤ 1048576) (d : Nat) : ∀ i : Nat, i + d = a.length → Ev (fun k => spec_FlowMore.l0 k a b (sums a b i) i n l) (if boolP (FlowOk n (arcs l) (sums a b a.length)) = true then sums a b a.length else []) := by
  induction d with
  | zero =>
    intro i hi
    obtain rfl : i = a.length := by omega
    refine Ev.step (fun k => by rw [spec_FlowMore.l0, if_neg (by omega)]) (Ev.bind (sFlowOk n l _ hlen) ?_)
    exact Ev.of_eq fun k => by split <;> rfl
  | succ d ih =>
    intro i hi
    have hw : wrap64 ((i : Int) + 1) = ((i + 1 : Nat) : Int) := by rw [w64 (by omega) (by omega)]; omega
    have r1 : rd a (i : Int) = a.getD i 0 := by unfold rd; rw [Int.toNat_natCast]
    have r2 : rd b (i : Int) = b.getD i 0 := by unfold rd; rw [Int.toNat_natCast]
    have := ih (i + 1) (by omega)
    rw [sums_succ] at this
    exact Ev.step (fun k => by rw [spec_FlowMore.l0, if_pos (by omega), if_pos (by omega), if_pos (by omega), if_pos (by rw [sums_len]; omega), r1, r2, hw]) this

theorem sFlowMore (n : Int) (l : List S67) (a b : List Int) (hlen : l.length ≤ 1048576) : Ev (fun k => spec_FlowMore.f k n l a b) (flowMore n (arcs l) a b) := by
  have bad : Ev (fun k => spec_FlowMore.j0 k a b true n l) [] := Ev.step (f := fun _ => some []) (fun k => by rw [spec_FlowMore.j0, if_pos rfl]) (Ev.now _)
  have fa := sFlowOk n l a hlen
  have fb := sFlowOk n l b hlen
  unfold flowMore
  cases ea : boolP (FlowOk n (arcs l) a) with
  | false =>
    rw [ea] at fa
    rw [if_neg (by simp)]
    exact Ev.bind fa (Ev.congr (fun k => by rw [if_neg (by simp)]) bad)
  | true =>
    rw [ea] at fa
    cases eb : boolP (FlowOk n (arcs l) b) with
    | false =>
      rw [eb] at fb
      rw [if_neg (by simp)]
      exact Ev.bind fa (Ev.congr (fun k => by rw [if_pos rfl]) (Ev.bind fb bad))
    | true =>
      rw [eb] at fb
      have h1 := boolP_iff.mp ea
      have h2 := boolP_iff.mp eb
      have h0 := sMore_l0 n l hlen a b (by rw [h1.2.1, h2.2.1]) (by have := h1.2.1; rw [arcs_len] at this; omega) a.length 0 (Nat.zero_add _)
      rw [show ((0 : Nat) : Int) = 0 from rfl] at h0
      refine Ev.bind fa (Ev.congr (fun k => by rw [if_pos rfl]) (Ev.bind fb ?_))
      refine Ev.step (fun k => by rw [spec_FlowMore.j0, if_neg (by simp)]) ?_
      simp only [true_and]
      exact h0

/-! impl.NetOk -/
theorem impl_arcs (n : Int) (l : List S67) (hl : l.length ≤ 3200) (d : Nat) : ∀ i : Int, 0 ≤ i → i + d = l.length →
    Ev (fun k => impl_NetOk.l0 k l (l.length : Int) i n l) (boolP (∀ j : Nat, i ≤ j → j < l.length → ArcOk n (at_ (arcs l) j))) := by
  induction d with
  | zero =>
    intro i h0 h1
    rw [boolP_true (fun j a b => by omega)]
    exact Ev.step (f := fun _ => some true) (fun k => by rw [impl_NetOk.l0, if_neg (by omega)]) (Ev.now _)
  | succ d ih =>
    intro i h0 h1
    have hi : ((i.toNat : Nat) : Int) = i := by omega
    have bad : ¬ ArcOk n (at_ (arcs l) i.toNat) → boolP (∀ j : Nat, i ≤ j → j < l.length → ArcOk n (at_ (arcs l) j)) = false := fun hb => boolP_false (fun h => hb (h i.toNat (by omega) (by omega)))
    have head : ∀ k, impl_NetOk.l0 (k + 1 + 1) l (l.length : Int) i n l = if ArcOk n (at_ (arcs l) i.toNat) then impl_NetOk.l0 k l (l.length : Int) (i + 1) n l else some false := fun k => by
      rw [impl_NetOk.l0, if_pos (by omega), if_pos h0, if_pos (by omega), at_0, at_1, at_2, at_3]
      simp only [impl_NetOk.j2]
      rw [w64 (x := i + 1) (by omega) (by omega)]
      by_cases c1 : (at_ (arcs l) i.toNat).u < 0
      · rw [if_pos c1, if_pos trivial, if_neg (by unfold ArcOk; omega)]
      rw [if_neg c1]
      by_cases c2 : (at_ (arcs l) i.toNat).u ≥ n
      · rw [if_pos c2, if_pos trivial, if_neg (by unfold ArcOk; omega)]
      rw [if_neg c2]
      by_cases c3 : (at_ (arcs l) i.toNat).v < 0
      · rw [if_pos c3, if_pos trivial, if_neg (by unfold ArcOk; omega)]
      rw [if_neg c3]
      by_cases c4 : (at_ (arcs l) i.toNat).v ≥ n
      · rw [if_pos c4, if_pos trivial, if_neg (by unfold ArcOk; omega)]
      rw [if_neg c4]
      by_cases c5 : (at_ (arcs l) i.toNat).u = (at_ (arcs l) i.toNat).v
      · rw [if_pos (beq_iff_eq.mpr c5), if_neg (by unfold ArcOk; omega)]
      rw [if_neg (by simpa using c5)]
      by_cases c6 : (at_ (arcs l) i.toNat).r < 0
      · rw [if_pos c6, if_neg (by unfold ArcOk; omega)]
      rw [if_neg c6]
      by_cases c7 : (at_ (arcs l) i.toNat).r > 20
      · rw [if_pos c7, if_neg (by unfold ArcOk; omega)]
      rw [if_neg c7]
      by_cases c8 : (at_ (arcs l) i.toNat).c < 0
      · rw [if_pos c8, if_neg (by unfold ArcOk; omega)]
      rw [if_neg c8]
      by_cases c9 : (at_ (arcs l) i.toNat).c > 100
      · rw [if_pos c9, if_neg (by unfold ArcOk; omega)]
      rw [if_neg c9, if_pos (by unfold ArcOk; omega)]
    by_cases ha : ArcOk n (at_ (arcs l) i.toNat)
    · have e : boolP (∀ j : Nat, i ≤ j → j < l.length → ArcOk n (at_ (arcs l) j)) = boolP (∀ j : Nat, i + 1 ≤ j → j < l.length → ArcOk n (at_ (arcs l) j)) := by
        rw [Bool.eq_iff_iff, boolP_iff, boolP_iff]
        constructor
        · intro h j a b; exact h j (by omega) b
        · intro h j a b
          by_cases hj : j = i.toNat
          · rw [hj]; exact ha
          · exact h j (by omega) b
      rw [e]
      exact Ev.step (g := fun k => impl_NetOk.l0 k l (l.length : Int) i n l) (f := fun k => impl_NetOk.l0 (k + 1) l (l.length : Int) i n l) (fun k => rfl) (Ev.step (fun k => by rw [head, if_pos ha]) (ih (i + 1) (by omega) (by omega)))
    · rw [bad ha]
      exact Ev.step (g := fun k => impl_NetOk.l0 k l (l.length : Int) i n l) (f := fun k => impl_NetOk.l0 (k + 1) l (l.length : Int) i n l) (fun k => rfl) (Ev.step (f := fun _ => some false) (fun k => by rw [head, if_neg ha]) (Ev.now _))

theorem iNetOk (n : Int) (l : List S67) (hlen : l.length ≤ 1048576) : Ev (fun k => impl_NetOk.f k n l) (boolP (NetOk n (arcs l))) := by
  have bad : ∀ hn : ¬ NetOk n (arcs l), Ev (fun k => impl_NetOk.j0 k true n l) (boolP (NetOk n (arcs l))) := fun hn => by
    rw [boolP_false hn]
    exact Ev.step (f := fun _ => some false) (fun k => by rw [impl_NetOk.j0, if_pos rfl]) (Ev.now _)
  by_cases h1 : n < 2
  · exact Ev.congr (fun k => by unfold impl_NetOk.f; rw [if_pos h1]) (bad (fun hh => by have := hh.1; omega))
  by_cases h2 : n > 1500
  · exact Ev.congr (fun k => by unfold impl_NetOk.f; rw [if_neg h1, if_pos h2]) (bad (fun hh => by have := hh.1; omega))
  refine Ev.congr (fun k => by unfold impl_NetOk.f; rw [if_neg h1, if_neg h2]) ?_
  by_cases h3 : (l.length : Int) > 3200
  · rw [decide_eq_true h3]
    exact bad (fun hh => by have := hh.1; rw [arcs_len] at this; omega)
  · rw [decide_eq_false h3]
    have e : boolP (NetOk n (arcs l)) = boolP (∀ j : Nat, (0 : Int) ≤ j → j < l.length → ArcOk n (at_ (arcs l) j)) := by
      rw [Bool.eq_iff_iff, boolP_iff, boolP_iff]
      constructor
      · intro h j a b; exact h.2 j (by rw [arcs_len]; exact b)
      · intro h; exact ⟨⟨by omega, by omega, by rw [arcs_len]; omega⟩, fun i hi => h i (by omega) (by rw [arcs_len] at hi; exact hi)⟩
    rw [e]
    exact Ev.step (fun k => by rw [impl_NetOk.j0, if_neg (by simp)]) (impl_arcs n l (by omega) l.length 0 (by omega) (by omega))

/-! impl.excess -/
theorem excess_l0 {n : Int} {l : List S67} {f : List Int} (hn : NetOk n (arcs l)) (hf : f.length = l.length) (hr : InRoom (arcs l) f) (hm : l.length ≤ 1048576) (d : Nat) : ∀ (i : Nat) (ys : List Int), i + d = l.length →
    ys.length = n.toNat → (∀ x : Nat, (x : Int) < n → ys.getD x 0 = exc (arcs l) f i x) →
    ∃ zs, Ev (fun k => impl_excess.l0 k f ys l (l.length : Int) i) zs ∧ zs.length = n.toNat ∧ ∀ x : Nat, (x : Int) < n → zs.getD x 0 = exc (arcs l) f l.length x := by
  induction d with
  | zero =>
    intro i ys h1 hl hy
    obtain rfl : i = l.length := h1
    exact ⟨ys, Ev.step (f := fun _ => some ys) (fun k => by rw [impl_excess.l0, if_neg nlt_i]) (Ev.now _), hl, hy⟩
  | succ d ih =>
    intro i ys h1 hl hy
    have hi : i < l.length := by omega
    have hia : i < (arcs l).length := by rw [arcs_len]; exact hi
    have hif : i < f.length := by rw [hf]; exact hi
    obtain ⟨a1, a2, a3, a4, a5, a6, a7, a8, a9⟩ := hn.2 i hia
    have w1 := w64e (exc_bound hn hr i (Nat.le_of_lt hia) (at_ (arcs l) i).v) (hr i hia) a7
    have w2 := w64e (exc_bound hn hr i (Nat.le_of_lt hia) (at_ (arcs l) i).u) (hr i hia) a7
    obtain ⟨p1, p2, p3⟩ := put_step (G := fun x => exc (arcs l) f i x) (G' := fun x => exc (arcs l) f (i + 1) x) (F := f.getD i 0) a1 a2 a3 a4 a5 hl hy (fun x => rfl)
    obtain ⟨zs, hz, hzl, hzx⟩ := ih (i + 1) _ (by omega) (by rw [List.length_set, List.length_set]; exact hl) p3
    refine ⟨zs, Ev.step (fun k => ?_) hz, hzl, hzx⟩
    have ti : ((i : Int)).toNat = i := Int.toNat_natCast i
    have e0 : (rd_T67 l (i : Int)).f0 = (at_ (arcs l) i).u := by rw [at_0, ti]
    have e1 : (rd_T67 l (i : Int)).f1 = (at_ (arcs l) i).v := by rw [at_1, ti]
    have ef : rd f (i : Int) = f.getD i 0 := by unfold rd; rw [ti]
    have p1' : rd ys (at_ (arcs l) i).v = exc (arcs l) f i (at_ (arcs l) i).v := p1
    have p2' : rd (ys.set (at_ (arcs l) i).v.toNat (exc (arcs l) f i (at_ (arcs l) i).v + f.getD i 0)) (at_ (arcs l) i).u = exc (arcs l) f i (at_ (arcs l) i).u := p2
    rw [impl_excess.l0, if_pos (lt_i hi), if_pos (ge_i i), if_pos (lt_i hi), e0, e1, ef, if_pos a3, if_pos (lt_len a4 hl a3), if_pos (lt_i hif), p1', w1.1, Option.bind_some, if_pos a1, if_pos (lt_len a2 hl a1), p2', w2.2.1, next_i hi hm]

theorem excess_ev {n : Int} {l : List S67} {f : List Int} (hn : NetOk n (arcs l)) (hf : f.length = l.length) (hr : InRoom (arcs l) f) :
    ∃ zs, Ev (fun k => impl_excess.f k n l f) zs ∧ zs.length = n.toNat ∧ ∀ x : Nat, (x : Int) < n → zs.getD x 0 = exc (arcs l) f l.length x := by
  have g1 : 0 ≤ n := by have := hn.1.1; omega
  have g2 : n.toNat ≤ 35184372088832 := by have := hn.1.2.1; omega
  have hm : l.length ≤ 1048576 := by have := hn.1.2.2; rw [arcs_len] at this; omega
  obtain ⟨zs, hz, h1, h2⟩ := excess_l0 hn hf hr hm l.length 0 (List.replicate n.toNat 0) (Nat.zero_add _) (by simp) (fun x hx => by
    rw [List.getD_eq_getElem?_getD, List.getElem?_replicate]
    split <;> rfl)
  rw [show ((0 : Nat) : Int) = 0 from rfl] at hz
  exact ⟨zs, Ev.congr (fun k => by unfold impl_excess.f; rw [if_pos g1, if_pos g2]) hz, h1, h2⟩

/-! impl.FlowOk -/
theorem impl_nodes {n : Int} (zs : List Int) (e : Nat → Int) (hz : zs.length = n.toNat) (hn : 2 ≤ n) (hn2 : n ≤ 1500) (he : ∀ x : Nat, (x : Int) < n → zs.getD x 0 = e x) (d : Nat) : ∀ i : Nat, i + d = n.toNat →
    Ev (fun k => impl_FlowOk.l1 k zs (zs.length : Int) i) (boolP (∀ x : Nat, i ≤ x → 2 ≤ x → (x : Int) < n → e x = 0)) := by
  induction d with
  | zero =>
    intro i h
    rw [boolP_true (fun x a b c => by omega)]
    exact Ev.step (f := fun _ => some true) (fun k => by rw [impl_FlowOk.l1, if_neg (by omega)]) (Ev.now _)
  | succ d ih =>
    intro i h
    have ei : rd zs (i : Int) = e i := by unfold rd; rw [Int.toNat_natCast]; exact he i (by omega)
    have hw : wrap64 ((i : Int) + 1) = ((i + 1 : Nat) : Int) := by rw [w64 (by omega) (by omega)]; omega
    by_cases hgo : 2 ≤ i ∧ e i ≠ 0
    · rw [boolP_false (fun hh => hgo.2 (hh i (Nat.le_refl _) hgo.1 (by omega)))]
      exact Ev.step (f := fun _ => some false) (fun k => by rw [impl_FlowOk.l1, if_pos (by omega), if_pos (by omega), if_pos (by omega), if_pos (by omega), ei, if_neg hgo.2]) (Ev.now _)
    · have e2 : boolP (∀ x : Nat, i ≤ x → 2 ≤ x → (x : Int) < n → e x = 0) = boolP (∀ x : Nat, i + 1 ≤ x → 2 ≤ x → (x : Int) < n → e x = 0) := by
        rw [Bool.eq_iff_iff, boolP_iff, boolP_iff]
        constructor
        · intro hh x a b c; exact hh x (by omega) b c
        · intro hh x a b c
          by_cases hx : x = i
          · subst hx
            exact Decidable.byContradiction fun hne => hgo ⟨b, hne⟩
          · exact hh x (by omega) b c
      rw [e2]
      refine Ev.step (f := fun k => impl_FlowOk.l1 k zs (zs.length : Int) ((i + 1 : Nat) : Int)) (fun k => ?_) (ih (i + 1) (by omega))
      rw [impl_FlowOk.l1, if_pos (by omega), if_pos (by omega), if_pos (by omega), hw]
      by_cases h1 : (i : Int) > 1
      · have : e i = 0 := Decidable.byContradiction fun hne => hgo ⟨by omega, hne⟩
        rw [if_pos h1, ei, if_pos this]
      · rw [if_neg h1]

theorem impl_ranges {n : Int} {l : List S67} {f : List Int} (hn : NetOk n (arcs l)) (hf : f.length = l.length) (hm : l.length ≤ 1048576) (d : Nat) : ∀ i : Nat, i + d = l.length → (∀ j, j < i → 0 ≤ f.getD j 0 ∧ f.getD j 0 ≤ (at_ (arcs l) j).r) →
    Ev (fun k => impl_FlowOk.l0 k f l (l.length : Int) i n l) (boolP (FlowOk n (arcs l) f)) := by
  have hal := arcs_len l
  induction d with
  | zero =>
    intro i h hj
    have hr : InRoom (arcs l) f := fun j hjl => hj j (by omega)
    obtain ⟨zs, hz, hzl, hzx⟩ := excess_ev hn hf hr
    refine Ev.step (fun k => by rw [impl_FlowOk.l0, if_neg (by omega)]) (Ev.bind hz ?_)
    have e : boolP (FlowOk n (arcs l) f) = boolP (∀ x : Nat, 0 ≤ x → 2 ≤ x → (x : Int) < n → exc (arcs l) f l.length x = 0) := by
      rw [Bool.eq_iff_iff, boolP_iff, boolP_iff]
      constructor
      · intro hh x _ b c
        have := hh.2.2.2 x b c
        rwa [hal] at this
      · intro hh
        refine ⟨hn, by omega, hr, fun x b c => ?_⟩
        rw [hal]
        exact hh x (Nat.zero_le _) b c
    rw [e]
    have h0 := impl_nodes zs (fun x => exc (arcs l) f l.length x) hzl hn.1.1 hn.1.2.1 hzx n.toNat 0 (by omega)
    rw [show ((0 : Nat) : Int) = 0 from rfl] at h0
    exact h0
  | succ d ih =>
    intro i h hj
    have hi : i < l.length := by omega
    have hia : i < (arcs l).length := by rw [arcs_len]; exact hi
    have hif : i < f.length := by rw [hf]; exact hi
    have ti : ((i : Int)).toNat = i := Int.toNat_natCast i
    by_cases c1 : f.getD i 0 < 0
    · rw [boolP_false (fun hh : FlowOk n (arcs l) f => absurd (hh.2.2.1 i hia).1 (Int.not_le.mpr c1))]
      exact Ev.step (f := fun _ => some false) (fun k => by
        have ef : rd f (i : Int) = f.getD i 0 := by unfold rd; rw [ti]
        rw [impl_FlowOk.l0, if_pos (lt_i hi), if_pos (ge_i i), if_pos (lt_i hi), if_pos (lt_i hif), ef, if_pos c1]) (Ev.now _)
    · by_cases c2 : f.getD i 0 > (at_ (arcs l) i).r
      · rw [boolP_false (fun hh : FlowOk n (arcs l) f => absurd (hh.2.2.1 i hia).2 (Int.not_le.mpr c2))]
        exact Ev.step (f := fun _ => some false) (fun k => by
          have e2 : (rd_T67 l (i : Int)).f2 = (at_ (arcs l) i).r := by rw [at_2, ti]
          have ef : rd f (i : Int) = f.getD i 0 := by unfold rd; rw [ti]
          rw [impl_FlowOk.l0, if_pos (lt_i hi), if_pos (ge_i i), if_pos (lt_i hi), if_pos (lt_i hif), ef, e2, if_neg c1, if_pos c2]) (Ev.now _)
      · refine Ev.step (fun k => ?_) (ih (i + 1) (by omega) (fun j hj2 => ?_))
        · have e2 : (rd_T67 l (i : Int)).f2 = (at_ (arcs l) i).r := by rw [at_2, ti]
          have ef : rd f (i : Int) = f.getD i 0 := by unfold rd; rw [ti]
          rw [impl_FlowOk.l0, if_pos (lt_i hi), if_pos (ge_i i), if_pos (lt_i hi), if_pos (lt_i hif), ef, e2, if_neg c1, if_neg c2, next_i hi hm]
        · rcases Nat.lt_or_ge j i with hji | hji
          · exact hj j hji
          · obtain rfl : j = i := by omega
            exact ⟨Int.not_lt.mp c1, Int.not_lt.mp c2⟩

theorem iFlowOk (n : Int) (l : List S67) (f : List Int) (hlen : l.length ≤ 1048576) : Ev (fun k => impl_FlowOk.f k n l f) (boolP (FlowOk n (arcs l) f)) := by
  have bad : ∀ hn : ¬ FlowOk n (arcs l) f, Ev (fun k => impl_FlowOk.j0 k f true n l) (boolP (FlowOk n (arcs l) f)) := fun hn => by
    rw [boolP_false hn]
    exact Ev.step (f := fun _ => some false) (fun k => by rw [impl_FlowOk.j0, if_pos rfl]) (Ev.now _)
  refine Ev.bind (iNetOk n l hlen) ?_
  by_cases hn : NetOk n (arcs l)
  · refine Ev.congr (fun k => by rw [if_pos (boolP_true hn)]) ?_
    by_cases hf : f.length = l.length
    · refine Ev.step (fun k => by rw [impl_FlowOk.j0, if_neg (by simp [hf])]) ?_
      have h0 := impl_ranges hn hf hlen l.length 0 (Nat.zero_add _) (fun j hj => absurd hj (by omega))
      rw [show ((0 : Nat) : Int) = 0 from rfl] at h0
      exact h0
    · have : ((f.length : Int) != (l.length : Int)) = true := by simp; omega
      simp only [this]
      exact bad (fun hh => hf (by have := hh.2.1; rw [arcs_len] at this; exact this))
  · refine Ev.congr (fun k => by rw [if_neg (by rw [boolP_false hn]; simp)]) (bad (fun hh => hn hh.1))

/-! impl.FlowMore -/
theorem iMore_l0 (n : Int) (l : List S67) (hlen : l.length ≤ 1048576) (a b : List Int) (hab : a.length = b.length) (ha : a.length ≤ 1048576) (d : Nat) : ∀ (i : Nat) (ys : List Int), i + d = a.length → ys.length = a.length → (∀ j : Nat, j < i → ys.getD j 0 = wrap64 (a.getD j 0 + b.getD j 0)) → Ev (fun k => impl_FlowMore.l0 k a b ys (a.length : Int) i n l) (if boolP (FlowOk n (arcs l) (sums a b a.length)) = true then sums a b a.length else []) := by
  induction d with
  | zero =>
    intro i ys hi hl hy
    have e : ys = sums a b a.length := list_eq (by rw [sums_len, hl]) (fun j hj => by
      have q1 := hy j (by omega)
      have q2 := sums_get a b a.length j (by omega)
      rw [← q2] at q1
      have hj2 : j < (sums a b a.length).length := by rw [sums_len]; omega
      rw [List.getD_eq_getElem?_getD, List.getD_eq_getElem?_getD, List.getElem?_eq_getElem hj, List.getElem?_eq_getElem hj2] at q1
      rw [List.getElem?_eq_getElem hj, List.getElem?_eq_getElem hj2]
      simpa using q1)
    rw [e]
    refine Ev.step (fun k => by rw [impl_FlowMore.l0, if_neg (by omega)]) (Ev.bind (iFlowOk n l _ hlen) ?_)
    exact Ev.of_eq fun k => by split <;> rfl
  | succ d ih =>
    intro i ys hi hl hy
    have hw : wrap64 ((i : Int) + 1) = ((i + 1 : Nat) : Int) := by rw [w64 (by omega) (by omega)]; omega
    have r1 : rd a (i : Int) = a.getD i 0 := by unfold rd; rw [Int.toNat_natCast]
    have r2 : rd b (i : Int) = b.getD i 0 := by unfold rd; rw [Int.toNat_natCast]
    have := ih (i + 1) (ys.set i (wrap64 (a.getD i 0 + b.getD i 0))) (by omega) (by rw [List.length_set]; exact hl) (fun j hj => by
      rw [getD_set _ _ _ _ _ (by omega)]
      by_cases e : j = i
      · rw [if_pos e, e]
      · rw [if_neg e]; exact hy j (by omega))
    exact Ev.step (fun k => by rw [impl_FlowMore.l0, if_pos (by omega), if_pos (by omega), if_pos (by omega), if_pos (by omega), if_pos (by omega), r1, r2, hw, Int.toNat_natCast]) this

theorem iFlowMore (n : Int) (l : List S67) (a b : List Int) (hlen : l.length ≤ 1048576) : Ev (fun k => impl_FlowMore.f k n l a b) (flowMore n (arcs l) a b) := by
  have bad : Ev (fun k => impl_FlowMore.j0 k a b true n l) [] := Ev.step (f := fun _ => some []) (fun k => by rw [impl_FlowMore.j0, if_pos rfl]) (Ev.now _)
  have fa := iFlowOk n l a hlen
  have fb := iFlowOk n l b hlen
  unfold flowMore
  cases ea : boolP (FlowOk n (arcs l) a) with
  | false =>
    rw [ea] at fa
    rw [if_neg (by simp)]
    exact Ev.bind fa (Ev.congr (fun k => by rw [if_neg (by simp)]) bad)
  | true =>
    rw [ea] at fa
    cases eb : boolP (FlowOk n (arcs l) b) with
    | false =>
      rw [eb] at fb
      rw [if_neg (by simp)]
      exact Ev.bind fa (Ev.congr (fun k => by rw [if_pos rfl]) (Ev.bind fb bad))
    | true =>
      rw [eb] at fb
      have h1 := boolP_iff.mp ea
      have h2 := boolP_iff.mp eb
      have hal : a.length ≤ 1048576 := by have := h1.2.1; rw [arcs_len] at this; omega
      have h0 := iMore_l0 n l hlen a b (by rw [h1.2.1, h2.2.1]) hal a.length 0 (List.replicate a.length 0) (Nat.zero_add _) (by simp) (fun j hj => absurd hj (by omega))
      rw [show ((0 : Nat) : Int) = 0 from rfl] at h0
      refine Ev.bind fa (Ev.congr (fun k => by rw [if_pos rfl]) (Ev.bind fb ?_))
      refine Ev.step (fun k => by rw [impl_FlowMore.j0, if_neg (by simp), Int.toNat_natCast, if_pos (by omega), if_pos (by omega)]) ?_
      simp only [true_and]
      exact h0

/-! toIntS: a list is copied -/
theorem toIntS_l0 (xs : List Int) (hx : xs.length ≤ 1048576) (d : Nat) : ∀ (ys : List Int) (i : Int), 0 ≤ i → i + d = xs.length → Copied id xs ys i → Ev (fun k => laws_toIntS.l0 k xs ys i) xs := by
  induction d with
  | zero =>
    intro ys i h0 h1 hc
    have he := hc.end_ (by omega)
    rw [List.map_id] at he
    rw [← he]
    exact Ev.step (f := fun _ => some ys) (fun k => by rw [laws_toIntS.l0, if_neg (by rw [he]; omega)]) (Ev.now _)
  | succ d ih =>
    intro ys i h0 h1 hc
    have hl := hc.1
    refine Ev.step (fun k => by rw [laws_toIntS.l0, if_pos (by omega), if_pos h0, if_pos (by omega), w64 (by omega) (by omega)]; rfl) (ih _ (i + 1) (by omega) (by omega) (hc.step h0 (by omega) 0 rfl))

theorem toIntS_ev (l : List Int) (hl : l.length ≤ 1048576) : Ev (fun k => laws_toIntS.f k l) l := by
  refine Ev.congr (fun k => by unfold laws_toIntS.f; rw [if_pos (by omega), if_pos (by omega)]) ?_
  exact toIntS_l0 l hl l.length _ 0 (by omega) (by omega) (by rw [Int.toNat_natCast]; exact Copied.start id l 0)

/-! eqIntS: a list equals itself -/
theorem eqIntS_l0 (xs : List Int) (hx : xs.length < 1099511627776) (d : Nat) : ∀ i : Int, 0 ≤ i → i + d = xs.length → Ev (fun k => laws_eqIntS.l0 k xs xs i) true := by
  induction d with
  | zero => intro i h0 h; exact Ev.step (fun k => by rw [laws_eqIntS.l0, if_neg (by omega)]) (Ev.now _)
  | succ d ih =>
    intro i h0 h
    refine Ev.step (fun k => by rw [laws_eqIntS.l0, if_pos (by omega), if_pos h0, if_pos (by omega), if_pos rfl, w64 (by omega) (by omega)]) (ih (i + 1) (by omega) (by omega))

theorem eqIntS_same (xs : List Int) (hx : xs.length < 1099511627776) : Ev (fun k => laws_eqIntS.f k xs xs) true := by
  refine Ev.congr (fun k => by unfold laws_eqIntS.f; rw [if_pos rfl]) ?_
  exact eqIntS_l0 xs hx xs.length 0 (by omega) (by omega)

/-! markIntS and heldIntS: marks that were set are found; lists of fewer than 2^40 elements -/
theorem markIntS_l0 (d : Nat) : ∀ (xs : List Int) (m i : Int), xs.length < 1099511627776 → 0 ≤ i → 0 ≤ m → m + d ≤ 4000000000000 → i + d = xs.length → Ev (fun k => laws_markIntS.l0 k xs m i) (m + d, markL (fun x => x) d xs m i) := by
  induction d with
  | zero =>
    intro xs m i hx h0 h1 h2 h
    refine Ev.step (fun k => by rw [laws_markIntS.l0, if_neg (by omega)]) ?_
    simp only [markL]
    have : m + ((0 : Nat) : Int) = m := by omega
    rw [this]
    exact Ev.now _
  | succ d ih =>
    intro xs m i hx h0 h1 h2 h
    refine Ev.step (fun k => by rw [laws_markIntS.l0, if_pos (by omega), if_pos h0, w64 (by omega) (by omega), w64 (by omega) (by omega)]) ?_
    have := ih (xs.set i.toNat m) (m + 1) (i + 1) (by simpa using hx) (by omega) (by omega) (by omega) (by simp; omega)
    rw [show m + 1 + (d : Int) = m + ((d + 1 : Nat) : Int) by omega] at this
    exact this

theorem heldIntS_l0 (ys : List Int) (d : Nat) : ∀ (m i : Int), ys.length < 1099511627776 → 0 ≤ i → 0 ≤ m → m + d ≤ 4000000000000 → i + d = ys.length → Marked (fun x => x) 0 ys m i d → Ev (fun k => laws_heldIntS.l0 k ys m i) (m + d) := by
  induction d with
  | zero =>
    intro m i hx h0 h1 h2 h _
    refine Ev.step (fun k => by rw [laws_heldIntS.l0, if_neg (by omega)]) ?_
    have : m + ((0 : Nat) : Int) = m := by omega
    rw [this]
    exact Ev.now _
  | succ d ih =>
    intro m i hx h0 h1 h2 h hm
    refine Ev.step (fun k => by rw [laws_heldIntS.l0, if_pos (by omega), if_pos h0, if_pos (show rd ys i = m from hm.head), w64 (by omega) (by omega), w64 (by omega) (by omega)]) ?_
    have := ih (m + 1) (i + 1) hx (by omega) (by omega) (by omega) (by omega) (hm.tail h0)
    rw [show m + 1 + (d : Int) = m + ((d + 1 : Nat) : Int) by omega] at this
    exact this

/-- A list is marked from 1 on, and the marks are found. -/
theorem marks_int (xs : List Int) (hx : xs.length < 1099511627776) (m : Int) (hm0 : 0 ≤ m) (hm : m ≤ 1000000000000) :
    ∃ ys : List Int, ys.length = xs.length ∧ Ev (fun k => laws_markIntS.f k xs m) (m + xs.length, ys) ∧ Ev (fun k => laws_heldIntS.f k ys m) (m + xs.length) := by
  refine ⟨markL (fun x => x) xs.length xs m 0, markL_length _ _ _ _ _, ?_, ?_⟩
  · exact markIntS_l0 xs.length xs m 0 hx (by omega) hm0 (by omega) (by omega)
  · have hl := markL_length (fun x : Int => x) xs.length xs m 0
    exact heldIntS_l0 _ xs.length m 0 (by omega) (by omega) hm0 (by omega) (by omega) (markL_marked _ _ _ _ _ _ (by omega) (by omega))

end Go.Proofs.Ytgkpgigoonhgdaa.QFnExactFlowMore
