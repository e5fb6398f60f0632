/- What the functions that the law FnExactStopped reaches compute: SzNet, ToNet, EqNet, ArcAt, NetOkS, L06Out, FlowOkS, FlowSizeS, CutOkS, CutRoomS, StoppedS, NetOkI, ExcessI, FlowOkI, FlowSizeI, CutOkI, CutRoomI, StoppedI, ToIntS, EqIntS, ToBoolS, EqBoolS. -/
import Derived.Test.YteedjadcgocnnaaPFnExactStoppedx
import Derived.Test.YteedjadcgocnnaaMBase
import Derived.Test.YteedjadcgocnnaaMLists
import Derived.Test.YteedjadcgocnnaaMNet
namespace Go.Proofs.Yteedjadcgocnnaa.QFnExactStopped
open Go.RowKit Go.Proofs.Yteedjadcgocnnaa.PFnExactStopped Go.Proofs.YteedjadcgocnnaaW.PrintWords Go.Proofs.YteedjadcgocnnaaW.PrintLast Go.Proofs.YteedjadcgocnnaaW.PrintMore Go.Proofs.Yteedjadcgocnnaa.MBase Go.Proofs.Yteedjadcgocnnaa.MLists Go.Proofs.Yteedjadcgocnnaa.MNet
set_option linter.unusedVariables false
set_option linter.unusedSimpArgs false

/-! szNet -/
theorem szNet_ev (n : Int) (l : List S77) (hl : l.length ≤ 9223372036854775807) :
    (∃ t, laws_szNet.f n l 1048576 = some t ∧ t < 0) ∨ (l.length ≤ 1048576 ∧ ∃ t, laws_szNet.f n l 1048576 = some t ∧ ¬ t < 0) := by
  unfold laws_szNet.f laws_szArcS.f
  rw [w64 (by omega) (by omega)]
  by_cases hb : (1048576 - (l.length : Int)) < 0
  · exact .inl ⟨-1, by rw [if_pos hb, Option.bind_some, if_pos (by omega)], by omega⟩
  · exact .inr ⟨by omega, 1048576 - (l.length : Int), by rw [if_neg hb, Option.bind_some, if_neg hb], hb⟩

/-! toNet: the arcs are copied one by one -/
def conv (a : S77) : S60 := ⟨a.f0, a.f1, a.f2, a.f3⟩
def arcs (l : List S60) : List Arc := l.map fun a => ⟨a.f0, a.f1, a.f2, a.f3⟩

theorem toArcS_l0 (xs : List S77) (hx : xs.length ≤ 1048576) (d : Nat) : ∀ (ys : List S60) (i : Int), 0 ≤ i → i + d = xs.length → Copied conv xs ys i → Ev (fun k => laws_toArcS.l0 k xs ys i) (xs.map conv) := by
  induction d with
  | zero =>
    intro ys i h0 h1 hc
    rw [← hc.end_ (by omega)]
    exact Ev.step (f := fun _ => some ys) (fun k => by rw [laws_toArcS.l0, if_neg (by omega)]) (Ev.now _)
  | succ d ih =>
    intro ys i h0 h1 hc
    have hl := hc.1
    refine Ev.step (fun k => by rw [laws_toArcS.l0, if_pos (by omega), if_pos h0, laws_toArc.f, Option.bind_some, if_pos (by omega), w64 (by omega) (by omega)]; rfl) (ih _ (i + 1) (by omega) (by omega) (hc.step h0 (by omega) z77 rfl))

theorem toNet_ev (n : Int) (l : List S77) (hl : l.length ≤ 1048576) : Ev (fun k => laws_toNet.f k n l) (n, l.map conv) := by
  refine Ev.bind (a := l.map conv) ?_ (Ev.now _)
  refine Ev.congr (fun k => by unfold laws_toArcS.f; rw [if_pos (by omega), if_pos (by omega)]) ?_
  exact toArcS_l0 l hl l.length _ 0 (by omega) (by omega) (by rw [Int.toNat_natCast]; exact Copied.start conv l z60)

/-! eqNet: a net equals itself -/
theorem eqArcS_l0 (xs : List S60) (hx : xs.length ≤ 1048576) (d : Nat) : ∀ i : Int, 0 ≤ i → i + d = xs.length → Ev (fun k => laws_eqArcS.l0 k xs xs i) true := by
  induction d with
  | zero => intro i h0 h1; exact Ev.step (f := fun _ => some true) (fun k => by rw [laws_eqArcS.l0, if_neg (by omega)]) (Ev.now _)
  | succ d ih =>
    intro i h0 h1
    refine Ev.step (fun k => by rw [laws_eqArcS.l0, if_pos (by omega), if_pos h0, if_pos (by omega), laws_eqArc.f, if_pos rfl, if_pos rfl, if_pos rfl, if_pos rfl, Option.bind_some, if_pos rfl, w64 (by omega) (by omega)]) (ih (i + 1) (by omega) (by omega))

theorem eqNet_same (n : Int) (l : List S60) (hl : l.length ≤ 1048576) : Ev (fun k => laws_eqNet.f k n l n l) true := by
  refine Ev.congr (fun k => by unfold laws_eqNet.f; rw [if_pos rfl]) (Ev.bind (a := true) ?_ (Ev.of_eq fun k => by rw [if_pos rfl]))
  exact Ev.congr (fun k => by unfold laws_eqArcS.f; rw [if_pos rfl]) (eqArcS_l0 l hl l.length 0 (by omega) (by omega))

/-! the arcs of a list of structs -/
theorem arcs_len (l : List S60) : (arcs l).length = l.length := by unfold arcs; rw [List.length_map]
theorem at_f (l : List S60) (i : Int) : (rd_T60 l i).f0 = (at_ (arcs l) i.toNat).u ∧ (rd_T60 l i).f1 = (at_ (arcs l) i.toNat).v ∧ (rd_T60 l i).f2 = (at_ (arcs l) i.toNat).r ∧ (rd_T60 l i).f3 = (at_ (arcs l) i.toNat).c := by
  unfold rd_T60 at_ arcs
  rw [List.getD_eq_getElem?_getD, List.getD_eq_getElem?_getD, List.getElem?_map]
  cases l[i.toNat]? with
  | none => exact ⟨rfl, rfl, rfl, rfl⟩
  | some a => exact ⟨rfl, rfl, rfl, rfl⟩
theorem at_0 (l : List S60) (i : Int) : (rd_T60 l i).f0 = (at_ (arcs l) i.toNat).u := (at_f l i).1
theorem at_1 (l : List S60) (i : Int) : (rd_T60 l i).f1 = (at_ (arcs l) i.toNat).v := (at_f l i).2.1
theorem at_2 (l : List S60) (i : Int) : (rd_T60 l i).f2 = (at_ (arcs l) i.toNat).r := (at_f l i).2.2.1
theorem at_3 (l : List S60) (i : Int) : (rd_T60 l i).f3 = (at_ (arcs l) i.toNat).c := (at_f l i).2.2.2

/-! spec.NetOk -/
theorem l01In_eq (x a b : Int) : spec_l01In.f x a b = some (decide (a ≤ x ∧ x ≤ b)) := by
  unfold spec_l01In.f
  by_cases h : x ≥ a
  · rw [if_pos h]; congr 1; rw [decide_eq_decide]; omega
  · rw [if_neg h, decide_eq_false (by omega)]

theorem spec_arcs (n : Int) (l : List S60) (h2 : 2 ≤ n) (hn : n ≤ 1500) (hl : l.length ≤ 3200) (d : Nat) : ∀ i : Int, 0 ≤ i → i + d = l.length →
    Ev (fun k => spec_NetOk.l0 k i n l) (boolP (∀ j : Nat, i ≤ j → j < l.length → ArcOk n (at_ (arcs l) j))) := by
  induction d with
  | zero =>
    intro i h0 h1
    rw [boolP_true (fun j a b => by omega)]
    exact Ev.step (f := fun _ => some true) (fun k => by rw [spec_NetOk.l0, if_neg (by omega)]) (Ev.now _)
  | succ d ih =>
    intro i h0 h1
    have hi : ((i.toNat : Nat) : Int) = i := by omega
    have bad : ¬ ArcOk n (at_ (arcs l) i.toNat) → boolP (∀ j : Nat, i ≤ j → j < l.length → ArcOk n (at_ (arcs l) j)) = false := fun hb => boolP_false (fun h => hb (h i.toNat (by omega) (by omega)))
    have hw : wrap64 (n - 1) = n - 1 := w64 (by omega) (by omega)
    have head : ∀ k, spec_NetOk.l0 (k + 1) i n l = if ArcOk n (at_ (arcs l) i.toNat) then spec_NetOk.l0 k (i + 1) n l else some false := fun k => by
      rw [spec_NetOk.l0, if_pos (by omega), if_pos h0, at_0, at_1, at_2, at_3, hw, l01In_eq, l01In_eq, l01In_eq, l01In_eq, w64 (x := i + 1) (by omega) (by omega)]
      simp only [Option.bind_some, decide_eq_true_eq]
      by_cases c1 : 0 ≤ (at_ (arcs l) i.toNat).u ∧ (at_ (arcs l) i.toNat).u ≤ n - 1
      · rw [if_pos c1]
        by_cases c2 : 0 ≤ (at_ (arcs l) i.toNat).v ∧ (at_ (arcs l) i.toNat).v ≤ n - 1
        · rw [if_pos c2]
          by_cases c3 : (at_ (arcs l) i.toNat).u = (at_ (arcs l) i.toNat).v
          · rw [if_pos c3, if_neg (by unfold ArcOk; omega)]
          · rw [if_neg c3]
            by_cases c4 : 0 ≤ (at_ (arcs l) i.toNat).r ∧ (at_ (arcs l) i.toNat).r ≤ 20
            · rw [if_pos c4]
              by_cases c5 : 0 ≤ (at_ (arcs l) i.toNat).c ∧ (at_ (arcs l) i.toNat).c ≤ 100
              · rw [if_pos c5, if_pos (by unfold ArcOk; omega)]
              · rw [if_neg c5, if_neg (by unfold ArcOk; omega)]
            · rw [if_neg c4, if_neg (by unfold ArcOk; omega)]
        · rw [if_neg c2, if_neg (by unfold ArcOk; omega)]
      · rw [if_neg c1, if_neg (by unfold ArcOk; omega)]
    by_cases ha : ArcOk n (at_ (arcs l) i.toNat)
    · have e : boolP (∀ j : Nat, i ≤ j → j < l.length → ArcOk n (at_ (arcs l) j)) = boolP (∀ j : Nat, i + 1 ≤ j → j < l.length → ArcOk n (at_ (arcs l) j)) := by
        rw [Bool.eq_iff_iff, boolP_iff, boolP_iff]
        constructor
        · intro h j a b; exact h j (by omega) b
        · intro h j a b
          by_cases hj : j = i.toNat
          · rw [hj]; exact ha
          · exact h j (by omega) b
      rw [e]
      exact Ev.step (fun k => by rw [head, if_pos ha]) (ih (i + 1) (by omega) (by omega))
    · rw [bad ha]
      exact Ev.step (f := fun _ => some false) (fun k => by rw [head, if_neg ha]) (Ev.now _)

theorem sNetOk (n : Int) (l : List S60) (hlen : l.length ≤ 1048576) : Ev (fun k => spec_NetOk.f k n l) (boolP (NetOk n (arcs l))) := by
  have bad : ∀ hn : ¬ NetOk n (arcs l), Ev (fun k => spec_NetOk.j0 k true n l) (boolP (NetOk n (arcs l))) := fun hn => by
    rw [boolP_false hn]
    exact Ev.step (f := fun _ => some false) (fun k => by rw [spec_NetOk.j0, if_pos rfl]) (Ev.now _)
  refine Ev.congr (f := fun k => if 2 ≤ n ∧ n ≤ 1500 then spec_NetOk.j0 k (decide ((l.length : Int) > 3200)) n l else spec_NetOk.j0 k true n l) (fun k => by unfold spec_NetOk.f; rw [l01In_eq, Option.bind_some]; simp only [decide_eq_true_eq]) ?_
  by_cases h1 : 2 ≤ n ∧ n ≤ 1500
  · simp only [if_pos h1]
    by_cases h2 : (l.length : Int) > 3200
    · rw [decide_eq_true h2]
      exact bad (fun hh => by have := hh.1; rw [arcs_len] at this; omega)
    · rw [decide_eq_false h2]
      have e : boolP (NetOk n (arcs l)) = boolP (∀ j : Nat, (0 : Int) ≤ j → j < l.length → ArcOk n (at_ (arcs l) j)) := by
        rw [Bool.eq_iff_iff, boolP_iff, boolP_iff]
        constructor
        · intro h j a b; exact h.2 j (by rw [arcs_len]; exact b)
        · intro h; exact ⟨⟨h1.1, h1.2, by rw [arcs_len]; omega⟩, fun i hi => h i (by omega) (by rw [arcs_len] at hi; exact hi)⟩
      rw [e]
      exact Ev.step (fun k => by rw [spec_NetOk.j0, if_neg (by simp)]) (spec_arcs n l h1.1 h1.2 (by omega) l.length 0 (by omega) (by omega))
  · simp only [if_neg h1]
    exact bad (fun hh => h1 ⟨hh.1.1, hh.1.2.1⟩)

/-! spec.l06Out -/
theorem l06Out_l0 {n : Int} {l : List S60} {f : List Int} (hn : NetOk n (arcs l)) (hf : f.length = l.length) (hr : InRoom (arcs l) f) (hm : l.length ≤ 1048576) (d : Nat) : ∀ (i : Nat) (ys : List Int), i + d = l.length →
    ys.length = n.toNat → (∀ x : Nat, (x : Int) < n → ys.getD x 0 = - exc (arcs l) f i x) →
    ∃ zs, Ev (fun k => spec_l06Out.l0 k f ys i n l) zs ∧ zs.length = n.toNat ∧ ∀ x : Nat, (x : Int) < n → zs.getD x 0 = - exc (arcs l) f l.length x := by
  induction d with
  | zero =>
    intro i ys h1 hl hy
    obtain rfl : i = l.length := h1
    exact ⟨ys, Ev.step (f := fun _ => some ys) (fun k => by rw [spec_l06Out.l0, if_neg (by rw [hf]; exact nlt_i)]) (Ev.now _), hl, hy⟩
  | succ d ih =>
    intro i ys h1 hl hy
    have hi : i < l.length := by omega
    have hia : i < (arcs l).length := by rw [arcs_len]; exact hi
    have hif : i < f.length := by rw [hf]; exact hi
    obtain ⟨a1, a2, a3, a4, a5, a6, a7, a8, a9⟩ := hn.2 i hia
    have w1 := w64e (exc_bound hn hr i (Nat.le_of_lt hia) (at_ (arcs l) i).v) (hr i hia) a7
    have w2 := w64e (exc_bound hn hr i (Nat.le_of_lt hia) (at_ (arcs l) i).u) (hr i hia) a7
    have hstep : ∀ x : Nat, - exc (arcs l) f (i + 1) x = - exc (arcs l) f i x + ((if (at_ (arcs l) i).u = (x : Int) then f.getD i 0 else 0) - (if (at_ (arcs l) i).v = (x : Int) then f.getD i 0 else 0)) := fun x => by
      rw [exc_succ]
      generalize exc (arcs l) f i x = E
      generalize (if (at_ (arcs l) i).u = (x : Int) then f.getD i 0 else 0) = A
      generalize (if (at_ (arcs l) i).v = (x : Int) then f.getD i 0 else 0) = B
      omega
    obtain ⟨p1, p2, p3⟩ := put_step (G := fun x => - exc (arcs l) f i x) (G' := fun x => - exc (arcs l) f (i + 1) x) (F := f.getD i 0) a3 a4 a1 a2 (fun h => a5 h.symm) hl hy hstep
    obtain ⟨zs, hz, hzl, hzx⟩ := ih (i + 1) _ (by omega) (by rw [List.length_set, List.length_set]; exact hl) p3
    refine ⟨zs, Ev.step (fun k => ?_) hz, hzl, hzx⟩
    have ti : ((i : Int)).toNat = i := Int.toNat_natCast i
    have e0 : (rd_T60 l (i : Int)).f0 = (at_ (arcs l) i).u := by rw [at_0, ti]
    have e1 : (rd_T60 l (i : Int)).f1 = (at_ (arcs l) i).v := by rw [at_1, ti]
    have ef : rd f (i : Int) = f.getD i 0 := by unfold rd; rw [ti]
    have p1' : rd ys (at_ (arcs l) i).u = - exc (arcs l) f i (at_ (arcs l) i).u := p1
    have p2' : rd (ys.set (at_ (arcs l) i).u.toNat (- exc (arcs l) f i (at_ (arcs l) i).u + f.getD i 0)) (at_ (arcs l) i).v = - exc (arcs l) f i (at_ (arcs l) i).v := p2
    rw [spec_l06Out.l0, if_pos (lt_i hif), if_pos (ge_i i), if_pos (lt_i hi), e0, e1, ef, if_pos a1, if_pos (lt_len a2 hl a1), p1', w2.2.2.1, Option.bind_some, if_pos a3, if_pos (lt_len a4 hl a3), p2', w1.2.2.2, next_i hi hm]

theorem l06Out_ev {n : Int} {l : List S60} {f : List Int} (hn : NetOk n (arcs l)) (hf : f.length = l.length) (hr : InRoom (arcs l) f) :
    ∃ zs, Ev (fun k => spec_l06Out.f k n l f) zs ∧ zs.length = n.toNat ∧ ∀ x : Nat, (x : Int) < n → zs.getD x 0 = - exc (arcs l) f l.length x := by
  have g1 : 0 ≤ n := by have := hn.1.1; omega
  have g2 : n.toNat ≤ 35184372088832 := by have := hn.1.2.1; omega
  have hm : l.length ≤ 1048576 := by have := hn.1.2.2; rw [arcs_len] at this; omega
  obtain ⟨zs, hz, h1, h2⟩ := l06Out_l0 hn hf hr hm l.length 0 (List.replicate n.toNat 0) (Nat.zero_add _) (by simp) (fun x hx => by
    rw [List.getD_eq_getElem?_getD, List.getElem?_replicate]
    split <;> rfl)
  rw [show ((0 : Nat) : Int) = 0 from rfl] at hz
  exact ⟨zs, Ev.congr (fun k => by unfold spec_l06Out.f; rw [if_pos g1, if_pos g2]) hz, h1, h2⟩

/-! spec.FlowOk -/
theorem spec_nodes {n : Int} (l : List S60) (zs : List Int) (e : Nat → Int) (hz : zs.length = n.toNat) (hn : 2 ≤ n) (hn2 : n ≤ 1500) (he : ∀ x : Nat, (x : Int) < n → zs.getD x 0 = - e x) (d : Nat) : ∀ i : Nat, 2 ≤ i → i + d = n.toNat →
    Ev (fun k => spec_FlowOk.l1 k zs i n l) (boolP (∀ x : Nat, i ≤ x → 2 ≤ x → (x : Int) < n → e x = 0)) := by
  induction d with
  | zero =>
    intro i hi2 h
    rw [boolP_true (fun x a b c => by omega)]
    exact Ev.step (f := fun _ => some true) (fun k => by rw [spec_FlowOk.l1, if_neg (by omega)]) (Ev.now _)
  | succ d ih =>
    intro i hi2 h
    have ei : rd zs (i : Int) = - e i := by unfold rd; rw [Int.toNat_natCast]; exact he i (by omega)
    have hw : wrap64 ((i : Int) + 1) = ((i + 1 : Nat) : Int) := by rw [w64 (by omega) (by omega)]; omega
    by_cases hgo : e i ≠ 0
    · rw [boolP_false (fun hh => hgo (hh i (Nat.le_refl _) hi2 (by omega)))]
      exact Ev.step (f := fun _ => some false) (fun k => by rw [spec_FlowOk.l1, if_pos (by omega), if_pos (by omega), if_pos (by omega), ei, if_neg (by omega)]) (Ev.now _)
    · have e2 : boolP (∀ x : Nat, i ≤ x → 2 ≤ x → (x : Int) < n → e x = 0) = boolP (∀ x : Nat, i + 1 ≤ x → 2 ≤ x → (x : Int) < n → e x = 0) := by
        rw [Bool.eq_iff_iff, boolP_iff, boolP_iff]
        constructor
        · intro hh x a b c; exact hh x (by omega) b c
        · intro hh x a b c
          by_cases hx : x = i
          · subst hx
            exact Decidable.not_not.mp hgo
          · exact hh x (by omega) b c
      rw [e2]
      exact Ev.step (fun k => by rw [spec_FlowOk.l1, if_pos (by omega), if_pos (by omega), if_pos (by omega), ei, if_pos (by omega), hw]) (ih (i + 1) (by omega) (by omega))

theorem spec_ranges {n : Int} {l : List S60} {f : List Int} (hn : NetOk n (arcs l)) (hf : f.length = l.length) (hm : l.length ≤ 1048576) (d : Nat) : ∀ i : Nat, i + d = l.length → (∀ j, j < i → 0 ≤ f.getD j 0 ∧ f.getD j 0 ≤ (at_ (arcs l) j).r) →
    Ev (fun k => spec_FlowOk.l0 k f i n l) (boolP (FlowOk n (arcs l) f)) := by
  have hal := arcs_len l
  induction d with
  | zero =>
    intro i h hj
    have hr : InRoom (arcs l) f := fun j hjl => hj j (by omega)
    obtain ⟨zs, hz, hzl, hzx⟩ := l06Out_ev hn hf hr
    refine Ev.step (fun k => by rw [spec_FlowOk.l0, if_neg (by omega)]) (Ev.bind hz ?_)
    have e : boolP (FlowOk n (arcs l) f) = boolP (∀ x : Nat, 2 ≤ x → 2 ≤ x → (x : Int) < n → exc (arcs l) f l.length x = 0) := by
      rw [Bool.eq_iff_iff, boolP_iff, boolP_iff]
      constructor
      · intro hh x _ b c
        have := hh.2.2.2 x b c
        rwa [hal] at this
      · intro hh
        refine ⟨hn, by omega, hr, fun x b c => ?_⟩
        rw [hal]
        exact hh x b b c
    rw [e]
    have h0 := spec_nodes l zs (fun x => exc (arcs l) f l.length x) hzl hn.1.1 hn.1.2.1 hzx (n.toNat - 2) 2 (by omega) (by have := hn.1; omega)
    rw [show ((2 : Nat) : Int) = 2 from rfl] at h0
    exact h0
  | succ d ih =>
    intro i h hj
    have hi : i < l.length := by omega
    have hia : i < (arcs l).length := by rw [arcs_len]; exact hi
    have hif : i < f.length := by rw [hf]; exact hi
    have ti : ((i : Int)).toNat = i := Int.toNat_natCast i
    by_cases c1 : 0 ≤ f.getD i 0 ∧ f.getD i 0 ≤ (at_ (arcs l) i).r
    · refine Ev.step (fun k => ?_) (ih (i + 1) (by omega) (fun j hj2 => ?_))
      · have e2 : (rd_T60 l (i : Int)).f2 = (at_ (arcs l) i).r := by rw [at_2, ti]
        have ef : rd f (i : Int) = f.getD i 0 := by unfold rd; rw [ti]
        rw [spec_FlowOk.l0, if_pos (lt_i hif), if_pos (ge_i i), if_pos (lt_i hi), ef, e2, l01In_eq, Option.bind_some, if_pos (decide_eq_true c1), next_i hi hm]
      · rcases Nat.lt_or_ge j i with hji | hji
        · exact hj j hji
        · obtain rfl : j = i := by omega
          exact c1
    · rw [boolP_false (fun hh : FlowOk n (arcs l) f => c1 (hh.2.2.1 i hia))]
      exact Ev.step (f := fun _ => some false) (fun k => by
        have e2 : (rd_T60 l (i : Int)).f2 = (at_ (arcs l) i).r := by rw [at_2, ti]
        have ef : rd f (i : Int) = f.getD i 0 := by unfold rd; rw [ti]
        rw [spec_FlowOk.l0, if_pos (lt_i hif), if_pos (ge_i i), if_pos (lt_i hi), ef, e2, l01In_eq, Option.bind_some, if_neg (by rw [decide_eq_false c1]; simp)]) (Ev.now _)

theorem sFlowOk (n : Int) (l : List S60) (f : List Int) (hlen : l.length ≤ 1048576) : Ev (fun k => spec_FlowOk.f k n l f) (boolP (FlowOk n (arcs l) f)) := by
  have bad : ∀ hn : ¬ FlowOk n (arcs l) f, Ev (fun k => spec_FlowOk.j0 k f true n l) (boolP (FlowOk n (arcs l) f)) := fun hn => by
    rw [boolP_false hn]
    exact Ev.step (f := fun _ => some false) (fun k => by rw [spec_FlowOk.j0, if_pos rfl]) (Ev.now _)
  refine Ev.bind (sNetOk n l hlen) ?_
  by_cases hn : NetOk n (arcs l)
  · refine Ev.congr (fun k => by rw [if_pos (boolP_true hn)]) ?_
    by_cases hf : f.length = l.length
    · refine Ev.step (fun k => by rw [spec_FlowOk.j0, if_neg (by simp [hf])]) ?_
      have h0 := spec_ranges hn hf hlen l.length 0 (Nat.zero_add _) (fun j hj => absurd hj (by omega))
      rw [show ((0 : Nat) : Int) = 0 from rfl] at h0
      exact h0
    · have : ((f.length : Int) != (l.length : Int)) = true := by simp; omega
      simp only [this]
      exact bad (fun hh => hf (by have := hh.2.1; rw [arcs_len] at this; exact this))
  · refine Ev.congr (fun k => by rw [if_neg (by rw [boolP_false hn]; simp)]) (bad (fun hh => hn hh.1))

/-! spec.FlowSize -/
theorem sFlowSize (n : Int) (l : List S60) (f : List Int) (hlen : l.length ≤ 1048576) : Ev (fun k => spec_FlowSize.f k n l f) (flowSize n (arcs l) f) := by
  refine Ev.bind (sFlowOk n l f hlen) ?_
  unfold flowSize
  by_cases hn : FlowOk n (arcs l) f
  · rw [if_pos (boolP_true hn)]
    obtain ⟨zs, hz, hzl, hzx⟩ := l06Out_ev hn.1 (by have := hn.2.1; rw [arcs_len] at this; exact this) hn.2.2.1
    have g0 : (0 : Int) < (zs.length : Int) := by have h1 := hn.1.1; omega
    have g1 : ((0 : Nat) : Int) < n := by have h1 := hn.1.1; omega
    refine Ev.congr (fun k => by rw [if_pos (boolP_true hn)]) (Ev.bind hz ?_)
    have e : rd zs 0 = - exc (arcs l) f l.length 0 := hzx 0 g1
    exact Ev.of_eq fun k => by rw [if_pos g0, e, arcs_len]
  · rw [if_neg (by rw [boolP_false hn]; simp)]
    exact Ev.of_eq fun k => by rw [if_neg (by rw [boolP_false hn]; simp)]

/-! spec.CutOk -/
theorem sCutOk (n : Int) (l : List S60) (s : List Bool) (hlen : l.length ≤ 1048576) : Ev (fun k => spec_CutOk.f k n l s) (boolP (CutOk n (arcs l) s)) := by
  refine Ev.bind (sNetOk n l hlen) ?_
  by_cases hn' : ¬ (NetOk n (arcs l))
  · have hn := hn'
    rw [boolP_false (fun hh : CutOk n (arcs l) s => hn hh.1)]
    exact Ev.of_eq fun k => by rw [if_neg (by rw [boolP_false hn]; simp)]
  have hn := Classical.not_not.mp hn'
  have h1 := hn.1
  refine Ev.congr (fun k => by rw [if_pos (boolP_true hn)]) ?_
  by_cases h2' : ¬ ((s.length : Int) = n)
  · have h2 := h2'
    rw [boolP_false (fun hh : CutOk n (arcs l) s => h2 hh.2.1)]
    exact Ev.of_eq fun k => by rw [if_neg h2]
  have h2 := Decidable.not_not.mp h2'
  have e0 : rdOf false s 0 = s.getD 0 false := rfl
  have e1 : rdOf false s 1 = s.getD 1 false := rfl
  refine Ev.of_eq fun k => ?_
  rw [if_pos h2, if_pos (by omega), e0, e1]
  cases h3 : s.getD 0 false with
  | false => rw [if_neg (by simp), boolP_false (fun hh : CutOk n (arcs l) s => by have := hh.2.2.1; rw [h3] at this; cases this)]
  | true =>
    rw [if_pos rfl, if_pos (by omega)]
    cases h4 : s.getD 1 false with
    | false => rw [boolP_true (show CutOk n (arcs l) s from ⟨hn, h2, h3, h4⟩)]; rfl
    | true => rw [boolP_false (fun hh : CutOk n (arcs l) s => by have := hh.2.2.2; rw [h4] at this; cases this)]; rfl

/-! spec.CutRoom -/
theorem sCut_l0 {n : Int} {l : List S60} {s : List Bool} (hn : NetOk n (arcs l)) (hs : s.length = n.toNat) (hm : l.length ≤ 1048576) (d : Nat) : ∀ i : Nat, i + d = l.length →
    Ev (fun k => spec_CutRoom.l0 k s (cutTo (arcs l) s i) i n l) (cutTo (arcs l) s l.length) := by
  induction d with
  | zero =>
    intro i h
    obtain rfl : i = l.length := h
    exact Ev.step (f := fun _ => some _) (fun k => by rw [spec_CutRoom.l0, if_neg nlt_i]) (Ev.now _)
  | succ d ih =>
    intro i h
    have hi : i < l.length := by omega
    have hia : i < (arcs l).length := by rw [arcs_len]; exact hi
    obtain ⟨a1, a2, a3, a4, a5, a6, a7, a8, a9⟩ := hn.2 i hia
    have hih := ih (i + 1) (by omega)
    refine Ev.step (fun k => ?_) hih
    have ti : ((i : Int)).toNat = i := Int.toNat_natCast i
    have e0 : (rd_T60 l (i : Int)).f0 = (at_ (arcs l) i).u := by rw [at_0, ti]
    have e1 : (rd_T60 l (i : Int)).f1 = (at_ (arcs l) i).v := by rw [at_1, ti]
    have e2 : (rd_T60 l (i : Int)).f2 = (at_ (arcs l) i).r := by rw [at_2, ti]
    have ru : rdOf false s (at_ (arcs l) i).u = s.getD (at_ (arcs l) i).u.toNat false := rfl
    have rv : rdOf false s (at_ (arcs l) i).v = s.getD (at_ (arcs l) i).v.toNat false := rfl
    rw [spec_CutRoom.l0, if_pos (lt_i hi), if_pos (ge_i i), e0, e1, e2, if_pos a1, if_pos (lt_len a2 hs a1), ru, rv, next_i hi hm]
    have b2 := cut_bound s hn (i + 1) hia
    have e : cutTo (arcs l) s (i + 1) = cutTo (arcs l) s i + (if s.getD (at_ (arcs l) i).u.toNat false = true ∧ s.getD (at_ (arcs l) i).v.toNat false = false then (at_ (arcs l) i).r else 0) := rfl
    cases h1 : s.getD (at_ (arcs l) i).u.toNat false with
    | false =>
      rw [h1, if_neg (by simp)] at e
      rw [if_neg (by simp), e, Int.add_zero]
    | true =>
      rw [if_pos rfl, if_pos a3, if_pos (lt_len a4 hs a3)]
      cases h2 : s.getD (at_ (arcs l) i).v.toNat false with
      | true =>
        rw [h1, h2, if_neg (by simp)] at e
        rw [if_pos rfl, e, Int.add_zero]
      | false =>
        rw [h1, h2, if_pos ⟨rfl, rfl⟩] at e
        rw [if_neg (by simp), ← e, w64s b2.1 b2.2 lt64]

theorem sCutRoom (n : Int) (l : List S60) (s : List Bool) (hlen : l.length ≤ 1048576) : Ev (fun k => spec_CutRoom.f k n l s) (cutRoom n (arcs l) s) := by
  refine Ev.bind (sCutOk n l s hlen) ?_
  unfold cutRoom
  by_cases hn : CutOk n (arcs l) s
  · rw [if_pos (boolP_true hn), arcs_len]
    have h0 := sCut_l0 (s := s) hn.1 (by have := hn.2.1; omega) (by have := hn.1.1.2.2; rw [arcs_len] at this; omega) l.length 0 (Nat.zero_add _)
    rw [show cutTo (arcs l) s 0 = 0 from rfl, show ((0 : Nat) : Int) = 0 from rfl] at h0
    exact Ev.congr (fun k => by rw [if_pos (boolP_true hn)]) h0
  · rw [if_neg (by rw [boolP_false hn]; simp)]
    exact Ev.of_eq fun k => by rw [if_neg (by rw [boolP_false hn]; simp)]

/-! spec.Stopped -/
theorem sStopped (n : Int) (l : List S60) (f : List Int) (s : List Bool) (hlen : l.length ≤ 1048576) : Ev (fun k => spec_Stopped.f k n l f s) (stopped n (arcs l) f s) := by
  refine Ev.bind (sFlowOk n l f hlen) ?_
  unfold stopped
  cases h1 : boolP (FlowOk n (arcs l) f) with
  | false => exact Ev.of_eq fun k => by rw [if_neg (by simp)]; rfl
  | true =>
    refine Ev.congr (fun k => by rw [if_pos rfl]) (Ev.bind (sCutOk n l s hlen) ?_)
    cases h2 : boolP (CutOk n (arcs l) s) with
    | false => exact Ev.of_eq fun k => by rw [if_neg (by simp)]; rfl
    | true =>
      rw [Bool.true_and, Bool.true_and]
      refine Ev.congr (fun k => by rw [if_pos rfl]) (Ev.bind (sFlowSize n l f hlen) ?_)
      refine Ev.bind (sCutRoom n l s hlen) ?_
      exact Ev.of_eq fun k => rfl

/-! impl.NetOk -/
theorem impl_arcs (n : Int) (l : List S60) (hl : l.length ≤ 3200) (d : Nat) : ∀ i : Int, 0 ≤ i → i + d = l.length →
    Ev (fun k => impl_NetOk.l0 k l (l.length : Int) i n l) (boolP (∀ j : Nat, i ≤ j → j < l.length → ArcOk n (at_ (arcs l) j))) := by
  induction d with
  | zero =>
    intro i h0 h1
    rw [boolP_true (fun j a b => by omega)]
    exact Ev.step (f := fun _ => some true) (fun k => by rw [impl_NetOk.l0, if_neg (by omega)]) (Ev.now _)
  | succ d ih =>
    intro i h0 h1
    have hi : ((i.toNat : Nat) : Int) = i := by omega
    have bad : ¬ ArcOk n (at_ (arcs l) i.toNat) → boolP (∀ j : Nat, i ≤ j → j < l.length → ArcOk n (at_ (arcs l) j)) = false := fun hb => boolP_false (fun h => hb (h i.toNat (by omega) (by omega)))
    have head : ∀ k, impl_NetOk.l0 (k + 1 + 1) l (l.length : Int) i n l = if ArcOk n (at_ (arcs l) i.toNat) then impl_NetOk.l0 k l (l.length : Int) (i + 1) n l else some false := fun k => by
      rw [impl_NetOk.l0, if_pos (by omega), if_pos h0, if_pos (by omega), at_0, at_1, at_2, at_3]
      simp only [impl_NetOk.j2]
      rw [w64 (x := i + 1) (by omega) (by omega)]
      by_cases c1 : (at_ (arcs l) i.toNat).u < 0
      · rw [if_pos c1, if_pos trivial, if_neg (by unfold ArcOk; omega)]
      rw [if_neg c1]
      by_cases c2 : (at_ (arcs l) i.toNat).u ≥ n
      · rw [if_pos c2, if_pos trivial, if_neg (by unfold ArcOk; omega)]
      rw [if_neg c2]
      by_cases c3 : (at_ (arcs l) i.toNat).v < 0
      · rw [if_pos c3, if_pos trivial, if_neg (by unfold ArcOk; omega)]
      rw [if_neg c3]
      by_cases c4 : (at_ (arcs l) i.toNat).v ≥ n
      · rw [if_pos c4, if_pos trivial, if_neg (by unfold ArcOk; omega)]
      rw [if_neg c4]
      by_cases c5 : (at_ (arcs l) i.toNat).u = (at_ (arcs l) i.toNat).v
      · rw [if_pos (beq_iff_eq.mpr c5), if_neg (by unfold ArcOk; omega)]
      rw [if_neg (by simpa using c5)]
      by_cases c6 : (at_ (arcs l) i.toNat).r < 0
      · rw [if_pos c6, if_neg (by unfold ArcOk; omega)]
      rw [if_neg c6]
      by_cases c7 : (at_ (arcs l) i.toNat).r > 20
      · rw [if_pos c7, if_neg (by unfold ArcOk; omega)]
      rw [if_neg c7]
      by_cases c8 : (at_ (arcs l) i.toNat).c < 0
      · rw [if_pos c8, if_neg (by unfold ArcOk; omega)]
      rw [if_neg c8]
      by_cases c9 : (at_ (arcs l) i.toNat).c > 100
      · rw [if_pos c9, if_neg (by unfold ArcOk; omega)]
      rw [if_neg c9, if_pos (by unfold ArcOk; omega)]
    by_cases ha : ArcOk n (at_ (arcs l) i.toNat)
    · have e : boolP (∀ j : Nat, i ≤ j → j < l.length → ArcOk n (at_ (arcs l) j)) = boolP (∀ j : Nat, i + 1 ≤ j → j < l.length → ArcOk n (at_ (arcs l) j)) := by
        rw [Bool.eq_iff_iff, boolP_iff, boolP_iff]
        constructor
        · intro h j a b; exact h j (by omega) b
        · intro h j a b
          by_cases hj : j = i.toNat
          · rw [hj]; exact ha
          · exact h j (by omega) b
      rw [e]
      exact Ev.step (g := fun k => impl_NetOk.l0 k l (l.length : Int) i n l) (f := fun k => impl_NetOk.l0 (k + 1) l (l.length : Int) i n l) (fun k => rfl) (Ev.step (fun k => by rw [head, if_pos ha]) (ih (i + 1) (by omega) (by omega)))
    · rw [bad ha]
      exact Ev.step (g := fun k => impl_NetOk.l0 k l (l.length : Int) i n l) (f := fun k => impl_NetOk.l0 (k + 1) l (l.length : Int) i n l) (fun k => rfl) (Ev.step (f := fun _ => some false) (fun k => by rw [head, if_neg ha]) (Ev.now _))

theorem iNetOk (n : Int) (l : List S60) (hlen : l.length ≤ 1048576) : Ev (fun k => impl_NetOk.f k n l) (boolP (NetOk n (arcs l))) := by
  have bad : ∀ hn : ¬ NetOk n (arcs l), Ev (fun k => impl_NetOk.j0 k true n l) (boolP (NetOk n (arcs l))) := fun hn => by
    rw [boolP_false hn]
    exact Ev.step (f := fun _ => some false) (fun k => by rw [impl_NetOk.j0, if_pos rfl]) (Ev.now _)
  by_cases h1 : n < 2
  · exact Ev.congr (fun k => by unfold impl_NetOk.f; rw [if_pos h1]) (bad (fun hh => by have := hh.1; omega))
  by_cases h2 : n > 1500
  · exact Ev.congr (fun k => by unfold impl_NetOk.f; rw [if_neg h1, if_pos h2]) (bad (fun hh => by have := hh.1; omega))
  refine Ev.congr (fun k => by unfold impl_NetOk.f; rw [if_neg h1, if_neg h2]) ?_
  by_cases h3 : (l.length : Int) > 3200
  · rw [decide_eq_true h3]
    exact bad (fun hh => by have := hh.1; rw [arcs_len] at this; omega)
  · rw [decide_eq_false h3]
    have e : boolP (NetOk n (arcs l)) = boolP (∀ j : Nat, (0 : Int) ≤ j → j < l.length → ArcOk n (at_ (arcs l) j)) := by
      rw [Bool.eq_iff_iff, boolP_iff, boolP_iff]
      constructor
      · intro h j a b; exact h.2 j (by rw [arcs_len]; exact b)
      · intro h; exact ⟨⟨by omega, by omega, by rw [arcs_len]; omega⟩, fun i hi => h i (by omega) (by rw [arcs_len] at hi; exact hi)⟩
    rw [e]
    exact Ev.step (fun k => by rw [impl_NetOk.j0, if_neg (by simp)]) (impl_arcs n l (by omega) l.length 0 (by omega) (by omega))

/-! impl.excess -/
theorem excess_l0 {n : Int} {l : List S60} {f : List Int} (hn : NetOk n (arcs l)) (hf : f.length = l.length) (hr : InRoom (arcs l) f) (hm : l.length ≤ 1048576) (d : Nat) : ∀ (i : Nat) (ys : List Int), i + d = l.length →
    ys.length = n.toNat → (∀ x : Nat, (x : Int) < n → ys.getD x 0 = exc (arcs l) f i x) →
    ∃ zs, Ev (fun k => impl_excess.l0 k f ys l (l.length : Int) i) zs ∧ zs.length = n.toNat ∧ ∀ x : Nat, (x : Int) < n → zs.getD x 0 = exc (arcs l) f l.length x := by
  induction d with
  | zero =>
    intro i ys h1 hl hy
    obtain rfl : i = l.length := h1
    exact ⟨ys, Ev.step (f := fun _ => some ys) (fun k => by rw [impl_excess.l0, if_neg nlt_i]) (Ev.now _), hl, hy⟩
  | succ d ih =>
    intro i ys h1 hl hy
    have hi : i < l.length := by omega
    have hia : i < (arcs l).length := by rw [arcs_len]; exact hi
    have hif : i < f.length := by rw [hf]; exact hi
    obtain ⟨a1, a2, a3, a4, a5, a6, a7, a8, a9⟩ := hn.2 i hia
    have w1 := w64e (exc_bound hn hr i (Nat.le_of_lt hia) (at_ (arcs l) i).v) (hr i hia) a7
    have w2 := w64e (exc_bound hn hr i (Nat.le_of_lt hia) (at_ (arcs l) i).u) (hr i hia) a7
    obtain ⟨p1, p2, p3⟩ := put_step (G := fun x => exc (arcs l) f i x) (G' := fun x => exc (arcs l) f (i + 1) x) (F := f.getD i 0) a1 a2 a3 a4 a5 hl hy (fun x => rfl)
    obtain ⟨zs, hz, hzl, hzx⟩ := ih (i + 1) _ (by omega) (by rw [List.length_set, List.length_set]; exact hl) p3
    refine ⟨zs, Ev.step (fun k => ?_) hz, hzl, hzx⟩
    have ti : ((i : Int)).toNat = i := Int.toNat_natCast i
    have e0 : (rd_T60 l (i : Int)).f0 = (at_ (arcs l) i).u := by rw [at_0, ti]
    have e1 : (rd_T60 l (i : Int)).f1 = (at_ (arcs l) i).v := by rw [at_1, ti]
    have ef : rd f (i : Int) = f.getD i 0 := by unfold rd; rw [ti]
    have p1' : rd ys (at_ (arcs l) i).v = exc (arcs l) f i (at_ (arcs l) i).v := p1
    have p2' : rd (ys.set (at_ (arcs l) i).v.toNat (exc (arcs l) f i (at_ (arcs l) i).v + f.getD i 0)) (at_ (arcs l) i).u = exc (arcs l) f i (at_ (arcs l) i).u := p2
    rw [impl_excess.l0, if_pos (lt_i hi), if_pos (ge_i i), if_pos (lt_i hi), e0, e1, ef, if_pos a3, if_pos (lt_len a4 hl a3), if_pos (lt_i hif), p1', w1.1, Option.bind_some, if_pos a1, if_pos (lt_len a2 hl a1), p2', w2.2.1, next_i hi hm]

theorem excess_ev {n : Int} {l : List S60} {f : List Int} (hn : NetOk n (arcs l)) (hf : f.length = l.length) (hr : InRoom (arcs l) f) :
    ∃ zs, Ev (fun k => impl_excess.f k n l f) zs ∧ zs.length = n.toNat ∧ ∀ x : Nat, (x : Int) < n → zs.getD x 0 = exc (arcs l) f l.length x := by
  have g1 : 0 ≤ n := by have := hn.1.1; omega
  have g2 : n.toNat ≤ 35184372088832 := by have := hn.1.2.1; omega
  have hm : l.length ≤ 1048576 := by have := hn.1.2.2; rw [arcs_len] at this; omega
  obtain ⟨zs, hz, h1, h2⟩ := excess_l0 hn hf hr hm l.length 0 (List.replicate n.toNat 0) (Nat.zero_add _) (by simp) (fun x hx => by
    rw [List.getD_eq_getElem?_getD, List.getElem?_replicate]
    split <;> rfl)
  rw [show ((0 : Nat) : Int) = 0 from rfl] at hz
  exact ⟨zs, Ev.congr (fun k => by unfold impl_excess.f; rw [if_pos g1, if_pos g2]) hz, h1, h2⟩

/-! impl.FlowOk -/
theorem impl_nodes {n : Int} (zs : List Int) (e : Nat → Int) (hz : zs.length = n.toNat) (hn : 2 ≤ n) (hn2 : n ≤ 1500) (he : ∀ x : Nat, (x : Int) < n → zs.getD x 0 = e x) (d : Nat) : ∀ i : Nat, i + d = n.toNat →
    Ev (fun k => impl_FlowOk.l1 k zs (zs.length : Int) i) (boolP (∀ x : Nat, i ≤ x → 2 ≤ x → (x : Int) < n → e x = 0)) := by
  induction d with
  | zero =>
    intro i h
    rw [boolP_true (fun x a b c => by omega)]
    exact Ev.step (f := fun _ => some true) (fun k => by rw [impl_FlowOk.l1, if_neg (by omega)]) (Ev.now _)
  | succ d ih =>
    intro i h
    have ei : rd zs (i : Int) = e i := by unfold rd; rw [Int.toNat_natCast]; exact he i (by omega)
    have hw : wrap64 ((i : Int) + 1) = ((i + 1 : Nat) : Int) := by rw [w64 (by omega) (by omega)]; omega
    by_cases hgo : 2 ≤ i ∧ e i ≠ 0
    · rw [boolP_false (fun hh => hgo.2 (hh i (Nat.le_refl _) hgo.1 (by omega)))]
      exact Ev.step (f := fun _ => some false) (fun k => by rw [impl_FlowOk.l1, if_pos (by omega), if_pos (by omega), if_pos (by omega), if_pos (by omega), ei, if_neg hgo.2]) (Ev.now _)
    · have e2 : boolP (∀ x : Nat, i ≤ x → 2 ≤ x → (x : Int) < n → e x = 0) = boolP (∀ x : Nat, i + 1 ≤ x → 2 ≤ x → (x : Int) < n → e x = 0) := by
        rw [Bool.eq_iff_iff, boolP_iff, boolP_iff]
        constructor
        · intro hh x a b c; exact hh x (by omega) b c
        · intro hh x a b c
          by_cases hx : x = i
          · subst hx
            exact Decidable.byContradiction fun hne => hgo ⟨b, hne⟩
          · exact hh x (by omega) b c
      rw [e2]
      refine Ev.step (f := fun k => impl_FlowOk.l1 k zs (zs.length : Int) ((i + 1 : Nat) : Int)) (fun k => ?_) (ih (i + 1) (by omega))
      rw [impl_FlowOk.l1, if_pos (by omega), if_pos (by omega), if_pos (by omega), hw]
      by_cases h1 : (i : Int) > 1
      · have : e i = 0 := Decidable.byContradiction fun hne => hgo ⟨by omega, hne⟩
        rw [if_pos h1, ei, if_pos this]
      · rw [if_neg h1]

theorem impl_ranges {n : Int} {l : List S60} {f : List Int} (hn : NetOk n (arcs l)) (hf : f.length = l.length) (hm : l.length ≤ 1048576) (d : Nat) : ∀ i : Nat, i + d = l.length → (∀ j, j < i → 0 ≤ f.getD j 0 ∧ f.getD j 0 ≤ (at_ (arcs l) j).r) →
    Ev (fun k => impl_FlowOk.l0 k f l (l.length : Int) i n l) (boolP (FlowOk n (arcs l) f)) := by
  have hal := arcs_len l
  induction d with
  | zero =>
    intro i h hj
    have hr : InRoom (arcs l) f := fun j hjl => hj j (by omega)
    obtain ⟨zs, hz, hzl, hzx⟩ := excess_ev hn hf hr
    refine Ev.step (fun k => by rw [impl_FlowOk.l0, if_neg (by omega)]) (Ev.bind hz ?_)
    have e : boolP (FlowOk n (arcs l) f) = boolP (∀ x : Nat, 0 ≤ x → 2 ≤ x → (x : Int) < n → exc (arcs l) f l.length x = 0) := by
      rw [Bool.eq_iff_iff, boolP_iff, boolP_iff]
      constructor
      · intro hh x _ b c
        have := hh.2.2.2 x b c
        rwa [hal] at this
      · intro hh
        refine ⟨hn, by omega, hr, fun x b c => ?_⟩
        rw [hal]
        exact hh x (Nat.zero_le _) b c
    rw [e]
    have h0 := impl_nodes zs (fun x => exc (arcs l) f l.length x) hzl hn.1.1 hn.1.2.1 hzx n.toNat 0 (by omega)
    rw [show ((0 : Nat) : Int) = 0 from rfl] at h0
    exact h0
  | succ d ih =>
    intro i h hj
    have hi : i < l.length := by omega
    have hia : i < (arcs l).length := by rw [arcs_len]; exact hi
    have hif : i < f.length := by rw [hf]; exact hi
    have ti : ((i : Int)).toNat = i := Int.toNat_natCast i
    by_cases c1 : f.getD i 0 < 0
    · rw [boolP_false (fun hh : FlowOk n (arcs l) f => absurd (hh.2.2.1 i hia).1 (Int.not_le.mpr c1))]
      exact Ev.step (f := fun _ => some false) (fun k => by
        have ef : rd f (i : Int) = f.getD i 0 := by unfold rd; rw [ti]
        rw [impl_FlowOk.l0, if_pos (lt_i hi), if_pos (ge_i i), if_pos (lt_i hi), if_pos (lt_i hif), ef, if_pos c1]) (Ev.now _)
    · by_cases c2 : f.getD i 0 > (at_ (arcs l) i).r
      · rw [boolP_false (fun hh : FlowOk n (arcs l) f => absurd (hh.2.2.1 i hia).2 (Int.not_le.mpr c2))]
        exact Ev.step (f := fun _ => some false) (fun k => by
          have e2 : (rd_T60 l (i : Int)).f2 = (at_ (arcs l) i).r := by rw [at_2, ti]
          have ef : rd f (i : Int) = f.getD i 0 := by unfold rd; rw [ti]
          rw [impl_FlowOk.l0, if_pos (lt_i hi), if_pos (ge_i i), if_pos (lt_i hi), if_pos (lt_i hif), ef, e2, if_neg c1, if_pos c2]) (Ev.now _)
      · refine Ev.step (fun k => ?_) (ih (i + 1) (by omega) (fun j hj2 => ?_))
        · have e2 : (rd_T60 l (i : Int)).f2 = (at_ (arcs l) i).r := by rw [at_2, ti]
          have ef : rd f (i : Int) = f.getD i 0 := by unfold rd; rw [ti]
          rw [impl_FlowOk.l0, if_pos (lt_i hi), if_pos (ge_i i), if_pos (lt_i hi), if_pos (lt_i hif), ef, e2, if_neg c1, if_neg c2, next_i hi hm]
        · rcases Nat.lt_or_ge j i with hji | hji
          · exact hj j hji
          · obtain rfl : j = i := by omega
            exact ⟨Int.not_lt.mp c1, Int.not_lt.mp c2⟩

theorem iFlowOk (n : Int) (l : List S60) (f : List Int) (hlen : l.length ≤ 1048576) : Ev (fun k => impl_FlowOk.f k n l f) (boolP (FlowOk n (arcs l) f)) := by
  have bad : ∀ hn : ¬ FlowOk n (arcs l) f, Ev (fun k => impl_FlowOk.j0 k f true n l) (boolP (FlowOk n (arcs l) f)) := fun hn => by
    rw [boolP_false hn]
    exact Ev.step (f := fun _ => some false) (fun k => by rw [impl_FlowOk.j0, if_pos rfl]) (Ev.now _)
  refine Ev.bind (iNetOk n l hlen) ?_
  by_cases hn : NetOk n (arcs l)
  · refine Ev.congr (fun k => by rw [if_pos (boolP_true hn)]) ?_
    by_cases hf : f.length = l.length
    · refine Ev.step (fun k => by rw [impl_FlowOk.j0, if_neg (by simp [hf])]) ?_
      have h0 := impl_ranges hn hf hlen l.length 0 (Nat.zero_add _) (fun j hj => absurd hj (by omega))
      rw [show ((0 : Nat) : Int) = 0 from rfl] at h0
      exact h0
    · have : ((f.length : Int) != (l.length : Int)) = true := by simp; omega
      simp only [this]
      exact bad (fun hh => hf (by have := hh.2.1; rw [arcs_len] at this; exact this))
  · refine Ev.congr (fun k => by rw [if_neg (by rw [boolP_false hn]; simp)]) (bad (fun hh => hn hh.1))

/-! impl.FlowSize -/
theorem iFlowSize (n : Int) (l : List S60) (f : List Int) (hlen : l.length ≤ 1048576) : Ev (fun k => impl_FlowSize.f k n l f) (flowSize n (arcs l) f) := by
  refine Ev.bind (iFlowOk n l f hlen) ?_
  unfold flowSize
  by_cases hn : FlowOk n (arcs l) f
  · rw [if_pos (boolP_true hn)]
    obtain ⟨zs, hz, hzl, hzx⟩ := excess_ev hn.1 (by have := hn.2.1; rw [arcs_len] at this; exact this) hn.2.2.1
    have g0 : (0 : Int) < (zs.length : Int) := by have h1 := hn.1.1; omega
    have g1 : ((0 : Nat) : Int) < n := by have h1 := hn.1.1; omega
    refine Ev.congr (fun k => by rw [if_pos (boolP_true hn)]) (Ev.bind hz ?_)
    have e : rd zs 0 = exc (arcs l) f l.length 0 := hzx 0 g1
    have b := exc_bound hn.1 hn.2.2.1 l.length (by rw [arcs_len]; exact Nat.le_refl _) 0
    exact Ev.of_eq fun k => by rw [if_pos g0, e, w64n b, arcs_len]
  · rw [if_neg (by rw [boolP_false hn]; simp)]
    exact Ev.of_eq fun k => by rw [if_neg (by rw [boolP_false hn]; simp)]

/-! impl.CutOk -/
theorem iCutOk (n : Int) (l : List S60) (s : List Bool) (hlen : l.length ≤ 1048576) : Ev (fun k => impl_CutOk.f k n l s) (boolP (CutOk n (arcs l) s)) := by
  refine Ev.bind (iNetOk n l hlen) ?_
  by_cases hn' : ¬ (NetOk n (arcs l))
  · have hn := hn'
    rw [boolP_false (fun hh : CutOk n (arcs l) s => hn hh.1)]
    exact Ev.of_eq fun k => by rw [if_neg (by rw [boolP_false hn]; simp)]
  have hn := Classical.not_not.mp hn'
  have h1 := hn.1
  refine Ev.congr (fun k => by rw [if_pos (boolP_true hn)]) ?_
  by_cases h2' : ¬ ((s.length : Int) = n)
  · have h2 := h2'
    rw [boolP_false (fun hh : CutOk n (arcs l) s => h2 hh.2.1)]
    exact Ev.of_eq fun k => by rw [if_neg h2]
  have h2 := Decidable.not_not.mp h2'
  have e0 : rdOf false s 0 = s.getD 0 false := rfl
  have e1 : rdOf false s 1 = s.getD 1 false := rfl
  refine Ev.of_eq fun k => ?_
  rw [if_pos h2, if_pos (by omega), e0, e1]
  cases h3 : s.getD 0 false with
  | false => rw [if_neg (by simp), boolP_false (fun hh : CutOk n (arcs l) s => by have := hh.2.2.1; rw [h3] at this; cases this)]
  | true =>
    rw [if_pos rfl, if_pos (by omega)]
    cases h4 : s.getD 1 false with
    | false => rw [boolP_true (show CutOk n (arcs l) s from ⟨hn, h2, h3, h4⟩)]; rfl
    | true => rw [boolP_false (fun hh : CutOk n (arcs l) s => by have := hh.2.2.2; rw [h4] at this; cases this)]; rfl

/-! impl.CutRoom -/
theorem iCut_l0 {n : Int} {l : List S60} {s : List Bool} (hn : NetOk n (arcs l)) (hs : s.length = n.toNat) (hm : l.length ≤ 1048576) (d : Nat) : ∀ i : Nat, i + d = l.length →
    Ev (fun k => impl_CutRoom.l0 k s (cutTo (arcs l) s i) l (l.length : Int) i) (cutTo (arcs l) s l.length) := by
  induction d with
  | zero =>
    intro i h
    obtain rfl : i = l.length := h
    exact Ev.step (f := fun _ => some _) (fun k => by rw [impl_CutRoom.l0, if_neg nlt_i]) (Ev.now _)
  | succ d ih =>
    intro i h
    have hi : i < l.length := by omega
    have hia : i < (arcs l).length := by rw [arcs_len]; exact hi
    obtain ⟨a1, a2, a3, a4, a5, a6, a7, a8, a9⟩ := hn.2 i hia
    have hih := ih (i + 1) (by omega)
    refine Ev.step (fun k => ?_) hih
    have ti : ((i : Int)).toNat = i := Int.toNat_natCast i
    have e0 : (rd_T60 l (i : Int)).f0 = (at_ (arcs l) i).u := by rw [at_0, ti]
    have e1 : (rd_T60 l (i : Int)).f1 = (at_ (arcs l) i).v := by rw [at_1, ti]
    have e2 : (rd_T60 l (i : Int)).f2 = (at_ (arcs l) i).r := by rw [at_2, ti]
    have ru : rdOf false s (at_ (arcs l) i).u = s.getD (at_ (arcs l) i).u.toNat false := rfl
    have rv : rdOf false s (at_ (arcs l) i).v = s.getD (at_ (arcs l) i).v.toNat false := rfl
    rw [impl_CutRoom.l0, if_pos (lt_i hi), if_pos (ge_i i), if_pos (lt_i hi), e0, e1, e2, if_pos a1, if_pos (lt_len a2 hs a1), ru, rv, next_i hi hm]
    have b2 := cut_bound s hn (i + 1) hia
    have e : cutTo (arcs l) s (i + 1) = cutTo (arcs l) s i + (if s.getD (at_ (arcs l) i).u.toNat false = true ∧ s.getD (at_ (arcs l) i).v.toNat false = false then (at_ (arcs l) i).r else 0) := rfl
    cases h1 : s.getD (at_ (arcs l) i).u.toNat false with
    | false =>
      rw [h1, if_neg (by simp)] at e
      rw [if_neg (by simp), e, Int.add_zero]
    | true =>
      rw [if_pos rfl, if_pos a3, if_pos (lt_len a4 hs a3)]
      cases h2 : s.getD (at_ (arcs l) i).v.toNat false with
      | true =>
        rw [h1, h2, if_neg (by simp)] at e
        rw [if_pos rfl, e, Int.add_zero]
      | false =>
        rw [h1, h2, if_pos ⟨rfl, rfl⟩] at e
        rw [if_neg (by simp), ← e, w64s b2.1 b2.2 lt64]

theorem iCutRoom (n : Int) (l : List S60) (s : List Bool) (hlen : l.length ≤ 1048576) : Ev (fun k => impl_CutRoom.f k n l s) (cutRoom n (arcs l) s) := by
  refine Ev.bind (iCutOk n l s hlen) ?_
  unfold cutRoom
  by_cases hn : CutOk n (arcs l) s
  · rw [if_pos (boolP_true hn), arcs_len]
    have h0 := iCut_l0 (s := s) hn.1 (by have := hn.2.1; omega) (by have := hn.1.1.2.2; rw [arcs_len] at this; omega) l.length 0 (Nat.zero_add _)
    rw [show cutTo (arcs l) s 0 = 0 from rfl, show ((0 : Nat) : Int) = 0 from rfl] at h0
    exact Ev.congr (fun k => by rw [if_pos (boolP_true hn)]) h0
  · rw [if_neg (by rw [boolP_false hn]; simp)]
    exact Ev.of_eq fun k => by rw [if_neg (by rw [boolP_false hn]; simp)]

/-! impl.Stopped -/
theorem iStopped (n : Int) (l : List S60) (f : List Int) (s : List Bool) (hlen : l.length ≤ 1048576) : Ev (fun k => impl_Stopped.f k n l f s) (stopped n (arcs l) f s) := by
  refine Ev.bind (iFlowOk n l f hlen) ?_
  unfold stopped
  cases h1 : boolP (FlowOk n (arcs l) f) with
  | false => exact Ev.of_eq fun k => by rw [if_neg (by simp)]; rfl
  | true =>
    refine Ev.congr (fun k => by rw [if_pos rfl]) (Ev.bind (iCutOk n l s hlen) ?_)
    cases h2 : boolP (CutOk n (arcs l) s) with
    | false => exact Ev.of_eq fun k => by rw [if_neg (by simp)]; rfl
    | true =>
      rw [Bool.true_and, Bool.true_and]
      refine Ev.congr (fun k => by rw [if_pos rfl]) (Ev.bind (iFlowSize n l f hlen) ?_)
      refine Ev.bind (iCutRoom n l s hlen) ?_
      exact Ev.of_eq fun k => rfl

/-! toIntS: a list is copied -/
theorem toIntS_l0 (xs : List Int) (hx : xs.length ≤ 1048576) (d : Nat) : ∀ (ys : List Int) (i : Int), 0 ≤ i → i + d = xs.length → Copied id xs ys i → Ev (fun k => laws_toIntS.l0 k xs ys i) xs := by
  induction d with
  | zero =>
    intro ys i h0 h1 hc
    have he := hc.end_ (by omega)
    rw [List.map_id] at he
    rw [← he]
    exact Ev.step (f := fun _ => some ys) (fun k => by rw [laws_toIntS.l0, if_neg (by rw [he]; omega)]) (Ev.now _)
  | succ d ih =>
    intro ys i h0 h1 hc
    have hl := hc.1
    refine Ev.step (fun k => by rw [laws_toIntS.l0, if_pos (by omega), if_pos h0, if_pos (by omega), w64 (by omega) (by omega)]; rfl) (ih _ (i + 1) (by omega) (by omega) (hc.step h0 (by omega) 0 rfl))

theorem toIntS_ev (l : List Int) (hl : l.length ≤ 1048576) : Ev (fun k => laws_toIntS.f k l) l := by
  refine Ev.congr (fun k => by unfold laws_toIntS.f; rw [if_pos (by omega), if_pos (by omega)]) ?_
  exact toIntS_l0 l hl l.length _ 0 (by omega) (by omega) (by rw [Int.toNat_natCast]; exact Copied.start id l 0)

/-! eqIntS: a list equals itself -/
theorem eqIntS_l0 (xs : List Int) (hx : xs.length < 1099511627776) (d : Nat) : ∀ i : Int, 0 ≤ i → i + d = xs.length → Ev (fun k => laws_eqIntS.l0 k xs xs i) true := by
  induction d with
  | zero => intro i h0 h; exact Ev.step (fun k => by rw [laws_eqIntS.l0, if_neg (by omega)]) (Ev.now _)
  | succ d ih =>
    intro i h0 h
    refine Ev.step (fun k => by rw [laws_eqIntS.l0, if_pos (by omega), if_pos h0, if_pos (by omega), if_pos rfl, w64 (by omega) (by omega)]) (ih (i + 1) (by omega) (by omega))

theorem eqIntS_same (xs : List Int) (hx : xs.length < 1099511627776) : Ev (fun k => laws_eqIntS.f k xs xs) true := by
  refine Ev.congr (fun k => by unfold laws_eqIntS.f; rw [if_pos rfl]) ?_
  exact eqIntS_l0 xs hx xs.length 0 (by omega) (by omega)

/-! toBoolS: a list is copied -/
theorem toBoolS_l0 (xs : List Bool) (hx : xs.length ≤ 1048576) (d : Nat) : ∀ (ys : List Bool) (i : Int), 0 ≤ i → i + d = xs.length → Copied id xs ys i → Ev (fun k => laws_toBoolS.l0 k xs ys i) xs := by
  induction d with
  | zero =>
    intro ys i h0 h1 hc
    have he := hc.end_ (by omega)
    rw [List.map_id] at he
    rw [← he]
    exact Ev.step (f := fun _ => some ys) (fun k => by rw [laws_toBoolS.l0, if_neg (by rw [he]; omega)]) (Ev.now _)
  | succ d ih =>
    intro ys i h0 h1 hc
    have hl := hc.1
    refine Ev.step (fun k => by rw [laws_toBoolS.l0, if_pos (by omega), if_pos h0, if_pos (by omega), w64 (by omega) (by omega)]; rfl) (ih _ (i + 1) (by omega) (by omega) (hc.step h0 (by omega) false rfl))

theorem toBoolS_ev (l : List Bool) (hl : l.length ≤ 1048576) : Ev (fun k => laws_toBoolS.f k l) l := by
  refine Ev.congr (fun k => by unfold laws_toBoolS.f; rw [if_pos (by omega), if_pos (by omega)]) ?_
  exact toBoolS_l0 l hl l.length _ 0 (by omega) (by omega) (by rw [Int.toNat_natCast]; exact Copied.start id l false)

/-! eqBoolS: a list equals itself -/
theorem eqBoolS_l0 (xs : List Bool) (hx : xs.length < 1099511627776) (d : Nat) : ∀ i : Int, 0 ≤ i → i + d = xs.length → Ev (fun k => laws_eqBoolS.l0 k xs xs i) true := by
  induction d with
  | zero => intro i h0 h; exact Ev.step (f := fun _ => some true) (fun k => by rw [laws_eqBoolS.l0, if_neg (by omega)]) (Ev.now _)
  | succ d ih =>
    intro i h0 h
    refine Ev.step (fun k => by rw [laws_eqBoolS.l0, if_pos (by omega), if_pos h0, if_pos (by omega), bne_self_eq_false, if_neg (by simp), w64 (by omega) (by omega)]) (ih (i + 1) (by omega) (by omega))

theorem eqBoolS_same (xs : List Bool) (hx : xs.length < 1099511627776) : Ev (fun k => laws_eqBoolS.f k xs xs) true := by
  refine Ev.congr (fun k => by unfold laws_eqBoolS.f; rw [if_pos rfl]) ?_
  exact eqBoolS_l0 xs hx xs.length 0 (by omega) (by omega)

end Go.Proofs.Yteedjadcgocnnaa.QFnExactStopped
