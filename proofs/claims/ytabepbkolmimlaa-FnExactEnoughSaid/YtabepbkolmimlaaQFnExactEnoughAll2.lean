/- What the functions that the law FnExactEnough reaches compute: HomesSI, Sym, StepIs, Conn, CountInS, CountInI, AreFree, EnoughSI, EqIntS, ToIntS. -/
import Derived.Test.YtabepbkolmimlaaPFnExactEnoughx
import Derived.Test.YtabepbkolmimlaaMBase
import Derived.Test.YtabepbkolmimlaaMGrid
import Derived.Test.YtabepbkolmimlaaMLists
import Derived.Test.YtabepbkolmimlaaMSteps
import Derived.Test.YtabepbkolmimlaaMScan
import Derived.Test.YtabepbkolmimlaaQFnExactEnoughAll0
import Derived.Test.YtabepbkolmimlaaQFnExactEnoughAll1
namespace Go.Proofs.Ytabepbkolmimlaa.QFnExactEnough
open Go.RowKit Go.Proofs.Ytabepbkolmimlaa.PFnExactEnough Go.Proofs.YtabepbkolmimlaaW.PrintWords Go.Proofs.YtabepbkolmimlaaW.PrintLast Go.Proofs.YtabepbkolmimlaaW.PrintMore Go.Proofs.Ytabepbkolmimlaa.MBase Go.Proofs.Ytabepbkolmimlaa.MGrid Go.Proofs.Ytabepbkolmimlaa.MLists Go.Proofs.Ytabepbkolmimlaa.MSteps Go.Proofs.Ytabepbkolmimlaa.MScan
set_option linter.unusedVariables false
set_option linter.unusedSimpArgs false

/-! spec.Homes and impl.Homes, side by side -/
theorem both_home (w h : Int) (c : ByteArray) (a : Int) : ∃ v, Ev (fun k => spec_HomeOf.f k w h c a) v ∧ Ev (fun k => impl_HomeOf.f k w h c a) v := by
  obtain ⟨v, h1, hv⟩ := sHomeOf w h c a
  obtain ⟨u, h2, hu⟩ := iHomeOf w h c a
  obtain rfl : u = v := hu.unique hv
  exact ⟨u, h1, h2⟩

theorem homes_l0 (w h : Int) (c : ByteArray) (L : List Int) (hL : L.length ≤ 1048576) (m : Nat) : ∀ (i : Nat) (acc : List Int), i + m = L.length → acc.length ≤ i → ∃ r : List Int, r.length ≤ L.length ∧ Ev (fun k => spec_Homes.l0 k acc L i w h c) r ∧ Ev (fun k => impl_Homes.l0 k acc L (L.length : Int) i w h c) r := by
  induction m with
  | zero =>
    intro i acc hi ha
    exact ⟨acc, by omega, Ev.step (f := fun _ => some acc) (fun k => by rw [spec_Homes.l0, if_neg (by omega)]) (Ev.now _), Ev.step (f := fun _ => some acc) (fun k => by rw [impl_Homes.l0, if_neg (by omega)]) (Ev.now _)⟩
  | succ m ih =>
    intro i acc hi ha
    have hw3 : wrap64 ((i : Int) + 1) = ((i + 1 : Nat) : Int) := by rw [w64 (by omega) (by omega)]; omega
    obtain ⟨v, hs, hi2⟩ := both_home w h c (rd L (i : Int))
    by_cases hv : v = rd L (i : Int)
    · obtain ⟨r, hr, r1, r2⟩ := ih (i + 1) (acc ++ [rd L (i : Int)]) (by omega) (by simp; omega)
      exact ⟨r, hr, Ev.step (fun k => by rw [spec_Homes.l0, if_pos (by omega), if_pos (by omega)]) (Ev.bind hs (Ev.congr (fun k => by rw [if_pos hv, if_pos (by omega), hw3]) r1)), Ev.step (fun k => by rw [impl_Homes.l0, if_pos (by omega), if_pos (by omega), if_pos (by omega)]) (Ev.bind hi2 (Ev.congr (fun k => by rw [if_pos hv, if_pos (by omega), hw3]) r2))⟩
    · obtain ⟨r, hr, r1, r2⟩ := ih (i + 1) acc (by omega) (by omega)
      exact ⟨r, hr, Ev.step (fun k => by rw [spec_Homes.l0, if_pos (by omega), if_pos (by omega)]) (Ev.bind hs (Ev.congr (fun k => by rw [if_neg hv, hw3]) r1)), Ev.step (fun k => by rw [impl_Homes.l0, if_pos (by omega), if_pos (by omega), if_pos (by omega)]) (Ev.bind hi2 (Ev.congr (fun k => by rw [if_neg hv, hw3]) r2))⟩

/-! neighbours are neighbours both ways; distances are symmetric and obey the triangle inequality -/
theorem mem_addIf {b : Bool} {v u : Int} : v ∈ addIf b u ↔ b = true ∧ v = u := by
  unfold addIf
  cases b <;> simp

theorem mem_around {w h : Int} {c : ByteArray} {x y : Int} : y ∈ around w h c x ↔ freeAt w h c x = true ∧ freeAt w h c y = true ∧ (y = x - w ∨ (0 < x % w ∧ y = x - 1) ∨ (x % w < w - 1 ∧ y = x + 1) ∨ y = x + w) := by
  unfold around
  cases hx : freeAt w h c x with
  | false => simp
  | true =>
    rw [if_pos rfl]
    simp only [List.mem_append, mem_addIf, Bool.and_eq_true, decide_eq_true_eq]
    constructor
    · rintro (⟨a, rfl⟩ | ⟨⟨a, b⟩, rfl⟩ | ⟨⟨a, b⟩, rfl⟩ | ⟨a, rfl⟩)
      · exact ⟨trivial, a, .inl rfl⟩
      · exact ⟨trivial, b, .inr (.inl ⟨a, rfl⟩)⟩
      · exact ⟨trivial, b, .inr (.inr (.inl ⟨a, rfl⟩))⟩
      · exact ⟨trivial, a, .inr (.inr (.inr rfl))⟩
    · rintro ⟨_, a, rfl | ⟨b, rfl⟩ | ⟨b, rfl⟩ | rfl⟩
      · exact .inl ⟨a, rfl⟩
      · exact .inr (.inl ⟨⟨b, a⟩, rfl⟩)
      · exact .inr (.inr (.inl ⟨⟨b, a⟩, rfl⟩))
      · exact .inr (.inr (.inr ⟨a, rfl⟩))

theorem emod_of {w q r x : Int} (h0 : 0 ≤ r) (h1 : r < w) (e : x = q * w + r) : x % w = r := by
  rw [e, Int.add_comm, Int.add_mul_emod_self_right, Int.emod_eq_of_lt h0 h1]

theorem around_symm {w h : Int} {c : ByteArray} {x y : Int} (hy : y ∈ around w h c x) : x ∈ around w h c y := by
  obtain ⟨fx, fy, hh⟩ := mem_around.mp hy
  obtain ⟨s1, s2, s3, s4, s5⟩ := gridOk_side (freeAt_iff.mp fx).1
  have e := spot_eq (w := w) (x := x)
  have r1 := Int.emod_nonneg x (show w ≠ 0 by omega)
  have r2 := Int.emod_lt_of_pos x (show 0 < w by omega)
  refine mem_around.mpr ⟨fy, fx, ?_⟩
  rcases hh with rfl | ⟨b, rfl⟩ | ⟨b, rfl⟩ | rfl
  · exact .inr (.inr (.inr (by omega)))
  · refine .inr (.inr (.inl ⟨?_, by omega⟩))
    rw [emod_of (q := x / w) (r := x % w - 1) (by omega) (by omega) (by omega)]
    omega
  · refine .inr (.inl ⟨?_, by omega⟩)
    rw [emod_of (q := x / w) (r := x % w + 1) (by omega) (by omega) (by omega)]
    omega
  · exact .inl (by omega)

/-- by way of x: e's label of a is at most e's label of x and x's distance from a -/
theorem lab_tri {n : Nat} {A : Int → List Int} {S : Int → Prop} {d e : List Int} {a : Int} (sym : ∀ x y, y ∈ A x → x ∈ A y) (p : Lab n A (fun z => z ∈ [a]) d) (q : Lab n A S e) (m : Nat) :
    ∀ x, Cell n x → rd d x = m → 0 ≤ rd e x → 0 ≤ rd e a ∧ rd e a ≤ rd e x + m := by
  induction m with
  | zero =>
    intro x hx hm h0
    have := (p.src x hx).1 (by rw [hm]; rfl)
    rw [List.mem_singleton] at this
    subst this
    omega
  | succ m ih =>
    intro x hx hm h0
    obtain ⟨u, hu, hxu, e1⟩ := p.pred x hx (by omega)
    have h1 := q.edge x hx h0 u (sym u x hxu)
    have h2 := ih u hu (by omega) h1.1
    omega

theorem lab_sym {n : Nat} {A : Int → List Int} {d e : List Int} {a b : Int} (sym : ∀ x y, y ∈ A x → x ∈ A y) (ha : Cell n a) (hb : Cell n b) (p : Lab n A (fun z => z ∈ [a]) d) (q : Lab n A (fun z => z ∈ [b]) e) : rd d b = rd e a := by
  have b0 : rd e b = 0 := (q.src b hb).2 (List.mem_singleton.2 rfl)
  have a0 : rd d a = 0 := (p.src a ha).2 (List.mem_singleton.2 rfl)
  have l1 := p.lo b hb
  have l2 := q.lo a ha
  rcases Int.lt_or_le (rd d b) 0 with h1 | h1
  · rcases Int.lt_or_le (rd e a) 0 with h2 | h2
    · omega
    · have := lab_tri sym q p (rd e a).toNat a ha (by omega) (by omega)
      omega
  · have t1 := lab_tri sym p q (rd d b).toNat b hb (by omega) (by omega)
    have t2 := lab_tri sym q p (rd e a).toNat a ha (by omega) (by omega)
    omega

/-! what StepsTo answers -/
def StepIs (w h : Int) (c : ByteArray) (a b n : Int) : Prop :=
  (¬ (freeAt w h c a = true ∧ freeAt w h c b = true) ∧ n = -1) ∨ (freeAt w h c a = true ∧ freeAt w h c b = true ∧ ∃ r, Answer w h c [a] r ∧ n = rd r b)

theorem StepIs.unique {w h : Int} {c : ByteArray} {a b n m : Int} (p : StepIs w h c a b n) (q : StepIs w h c a b m) : n = m := by
  rcases p with ⟨p1, p2⟩ | ⟨p1, p2, r, p3, p4⟩
  · rcases q with ⟨q1, q2⟩ | ⟨q1, q2, s, q3, q4⟩
    · omega
    · exact absurd ⟨q1, q2⟩ p1
  · rcases q with ⟨q1, q2⟩ | ⟨q1, q2, s, q3, q4⟩
    · exact absurd ⟨p1, p2⟩ q1
    · obtain rfl := p3.unique q3
      omega

theorem StepIs.get {w h : Int} {c : ByteArray} {a b n : Int} (p : StepIs w h c a b n) (hn : 0 ≤ n) : freeAt w h c a = true ∧ freeAt w h c b = true ∧ ∃ r, Answer w h c [a] r ∧ n = rd r b := by
  rcases p with ⟨p1, p2⟩ | p
  · omega
  · exact p

theorem answer_lab {w h : Int} {c : ByteArray} {a : Int} {r : List Int} (p : Answer w h c [a] r) (ha : freeAt w h c a = true) : Lab c.size (around w h c) (fun z => z ∈ [a]) r := by
  rcases p with ⟨_, _, lab⟩ | ⟨e, _⟩
  · exact lab
  · exact absurd ⟨(freeAt_iff.mp ha).1, fun z hz => by rw [List.mem_singleton.1 hz]; exact ha⟩ e

/-! one part: two free cells whose labels reach each other have the same part and the same home -/
theorem lab_to {n : Nat} {A : Int → List Int} {S : Int → Prop} {d e : List Int} {a : Int} (p : Lab n A (fun z => z ∈ [a]) d) (q : Lab n A S e) (ha : 0 ≤ rd e a) (m : Nat) :
    ∀ x, Cell n x → rd d x = m → 0 ≤ rd e x ∧ rd e x ≤ rd e a + m := by
  induction m with
  | zero =>
    intro x hx hm
    have := (p.src x hx).1 (by rw [hm]; rfl)
    rw [List.mem_singleton] at this
    subst this
    omega
  | succ m ih =>
    intro x hx hm
    obtain ⟨u, hu, hxu, e1⟩ := p.pred x hx (by omega)
    have h2 := ih u hu (by omega)
    have h1 := q.edge u hu h2.1 x hxu
    omega

theorem freeCell {w h : Int} {c : ByteArray} {a : Int} (ha : freeAt w h c a = true) : Cell c.size a := by
  have := freeAt_iff.mp ha
  exact ⟨this.2.1, this.2.2.1⟩

/-- what has a label is free -/
theorem label_free {w h : Int} {c : ByteArray} {a i : Int} {r : List Int} (ha : freeAt w h c a = true) (p : Answer w h c [a] r) (hi : Cell c.size i) (h0 : 0 ≤ rd r i) : freeAt w h c i = true := by
  have lab := answer_lab p ha
  rcases Int.lt_or_le 0 (rd r i) with h1 | h1
  · obtain ⟨u, hu, hiu, _⟩ := lab.pred i hi h1
    exact (mem_around.mp hiu).2.1
  · have := (lab.src i hi).1 (by omega)
    rw [List.mem_singleton] at this
    rw [this]; exact ha

theorem conn_same {w h : Int} {c : ByteArray} {a b : Int} {r s : List Int} (ha : freeAt w h c a = true) (hb : freeAt w h c b = true) (p : Answer w h c [a] r) (q : Answer w h c [b] s) (hab : 0 ≤ rd r b) : 0 ≤ rd s a ∧ ∀ i, Cell c.size i → (0 ≤ rd r i ↔ 0 ≤ rd s i) := by
  have l1 := answer_lab p ha
  have l2 := answer_lab q hb
  have sy := lab_sym (fun x y hy => around_symm hy) (freeCell ha) (freeCell hb) l1 l2
  refine ⟨by omega, fun i hi => ⟨fun h0 => ?_, fun h0 => ?_⟩⟩
  · exact (lab_to l1 l2 (by omega) (rd r i).toNat i hi (by omega)).1
  · exact (lab_to l2 l1 hab (rd s i).toNat i hi (by omega)).1

/-- a home is a free cell that is its own home -/
theorem home_free {w h : Int} {c : ByteArray} {a v : Int} (p : HomeIs w h c a v) (hv : 0 ≤ v) : freeAt w h c a = true ∧ freeAt w h c v = true ∧ v ≤ a ∧ ∃ r, Answer w h c [a] r ∧ 0 ≤ rd r v ∧ ∀ i, 0 ≤ i → i < v → rd r i < 0 := by
  rcases p with ⟨_, p2⟩ | ⟨p1, r, p2, p3, p4, p5, p6⟩
  · omega
  · have ca := freeCell p1
    exact ⟨p1, label_free p1 p2 ⟨p4, by have := ca.2; omega⟩ p3, p5, r, p2, p3, p6⟩

/-- the home of a cell is v just when v's labels reach it, v a home -/
theorem home_iff {w h : Int} {c : ByteArray} {v x u : Int} {s : List Int} (hv : HomeIs w h c v v) (h0 : 0 ≤ v) (hs : Answer w h c [v] s) (hx : Cell c.size x) (hu : HomeIs w h c x u) : u = v ↔ 0 ≤ rd s x := by
  obtain ⟨fv, _, _, s', hs', sv, low⟩ := home_free hv h0
  obtain rfl := hs'.unique hs
  constructor
  · rintro rfl
    obtain ⟨fx, _, _, r, hr, rv, _⟩ := home_free hu h0
    exact (conn_same fx fv hr hs rv).1
  · intro h1
    have fx := label_free fv hs hx h1
    rcases hu with ⟨e, _⟩ | ⟨_, r, hr, r1, r2, r3, r4⟩
    · rw [fx] at e; cases e
    · obtain ⟨c1, c2⟩ := conn_same fv fx hs hr h1
      rcases Int.lt_or_le u v with a1 | a1
      · have := low u r2 a1
        have := (c2 u ⟨r2, by have := hx.2; omega⟩).2 r1
        omega
      · rcases Int.lt_or_le v u with a2 | a2
        · have := r4 v h0 a2
          have := (c2 v (freeCell fv)).1 sv
          omega
        · omega

/-- what CountIn counts -/
def inPart (n : Nat) (s : List Int) (z : Int) : Bool := decide (0 ≤ z ∧ z < n ∧ 0 ≤ rd s z)

def CountIs (w h : Int) (c : ByteArray) (v : Int) (l : List Int) (n : Int) : Prop :=
  (¬ (HomeIs w h c v v ∧ 0 ≤ v) ∧ n = 0) ∨ ((HomeIs w h c v v ∧ 0 ≤ v) ∧ ∃ s, Answer w h c [v] s ∧ s.length = c.size ∧ n = (l.countP (inPart c.size s) : Int))

theorem CountIs.unique {w h : Int} {c : ByteArray} {v : Int} {l : List Int} {n m : Int} (p : CountIs w h c v l n) (q : CountIs w h c v l m) : n = m := by
  rcases p with ⟨p1, p2⟩ | ⟨p1, s, p2, _, p3⟩
  · rcases q with ⟨q1, q2⟩ | ⟨q1, t, q2, _, q3⟩
    · omega
    · exact absurd q1 p1
  · rcases q with ⟨q1, q2⟩ | ⟨q1, t, q2, _, q3⟩
    · exact absurd p1 q1
    · obtain rfl := p2.unique q2
      omega

theorem count_drop (p : Int → Bool) (l : List Int) (j : Nat) (hj : j < l.length) : ((l.drop j).countP p : Int) = (if p (l.getD j 0) = true then 1 else 0) + ((l.drop (j + 1)).countP p : Int) := by
  rw [drop_cons l j 0 hj, List.countP_cons]
  cases p (l.getD j 0) <;> simp <;> omega

/-! spec.l05All, spec.CountIn -/
theorem sAll_l0 (w h : Int) (c : ByteArray) (hc : c.size ≤ 64) (m : Nat) : ∀ (i : Nat) (acc : List Int), i + m = c.size → acc.length = i → (∀ j : Nat, j < i → HomeIs w h c j (acc.getD j 0)) → ∃ L, Ev (fun k => spec_l05All.l0 k acc i w h c) L ∧ L.length = c.size ∧ ∀ j : Nat, j < c.size → HomeIs w h c j (L.getD j 0) := by
  induction m with
  | zero =>
    intro i acc hi ha hh
    exact ⟨acc, Ev.step (f := fun _ => some acc) (fun k => by rw [spec_l05All.l0, if_neg (by omega)]) (Ev.now _), by omega, fun j hj => hh j (by omega)⟩
  | succ m ih =>
    intro i acc hi ha hh
    have hw3 : wrap64 ((i : Int) + 1) = ((i + 1 : Nat) : Int) := by rw [w64 (by omega) (by omega)]; omega
    obtain ⟨u, hu, hI⟩ := sHomeOf w h c i
    obtain ⟨L, hL, h1⟩ := ih (i + 1) (acc ++ [u]) (by omega) (by simp; omega) (fun j hj => by
      rw [List.getD_eq_getElem?_getD, List.getElem?_append]
      by_cases e : j < acc.length
      · rw [if_pos e, ← List.getD_eq_getElem?_getD]; exact hh j (by omega)
      · rw [if_neg e, show j - acc.length = 0 by omega]
        have : j = i := by omega
        subst this
        exact hI)
    exact ⟨L, Ev.step (fun k => by rw [spec_l05All.l0, if_pos (by omega)]) (Ev.bind hu (Ev.congr (fun k => by rw [if_pos (by omega), hw3]) hL)), h1⟩

theorem sCount_l0 (v : Int) (all s l : List Int) (heq : ∀ z, Cell all.length z → (rd all z = v ↔ 0 ≤ rd s z)) (hl : l.length ≤ 1048576) (m : Nat) : ∀ (j : Nat) (n : Int), j + m = l.length → 0 ≤ n → n ≤ j → Ev (fun k => spec_CountIn.l0 k v l all n j) (n + ((l.drop j).countP (inPart all.length s) : Int)) := by
  induction m with
  | zero =>
    intro j n hj h0 h1
    have e : n + ((l.drop j).countP (inPart all.length s) : Int) = n := by rw [List.drop_eq_nil_of_le (by omega)]; simp
    rw [e]
    exact Ev.step (f := fun _ => some n) (fun k => by rw [spec_CountIn.l0, if_neg (by omega)]) (Ev.now _)
  | succ m ih =>
    intro j n hj h0 h1
    have hw3 : wrap64 ((j : Int) + 1) = ((j + 1 : Nat) : Int) := by rw [w64 (by omega) (by omega)]; omega
    have hw2 : wrap64 (n + 1) = n + 1 := w64 (by omega) (by omega)
    rw [count_drop _ l j (by omega)]
    by_cases a1 : 0 ≤ l.getD j 0
    · by_cases a2 : l.getD j 0 < all.length
      · have hz := heq _ ⟨a1, a2⟩
        by_cases a3 : 0 ≤ rd s (l.getD j 0)
        · have e : inPart all.length s (l.getD j 0) = true := decide_eq_true ⟨a1, a2, a3⟩
          rw [e, if_pos rfl, ← Int.add_assoc]
          exact Ev.step (fun k => by rw [spec_CountIn.l0, if_pos (by omega), if_pos (by omega), rdN l j, if_pos (by omega), if_pos a2, if_pos a1, if_pos (hz.2 a3), hw2, hw3]) (ih (j + 1) (n + 1) (by omega) (by omega) (by omega))
        · have e : inPart all.length s (l.getD j 0) = false := decide_eq_false (fun hh => a3 hh.2.2)
          rw [e, if_neg (by simp), Int.zero_add]
          exact Ev.step (fun k => by rw [spec_CountIn.l0, if_pos (by omega), if_pos (by omega), rdN l j, if_pos (by omega), if_pos a2, if_pos a1, if_neg (fun hh => a3 (hz.1 hh)), hw3]) (ih (j + 1) n (by omega) (by omega) (by omega))
      · have e : inPart all.length s (l.getD j 0) = false := decide_eq_false (fun hh => a2 hh.2.1)
        rw [e, if_neg (by simp), Int.zero_add]
        exact Ev.step (fun k => by rw [spec_CountIn.l0, if_pos (by omega), if_pos (by omega), rdN l j, if_pos (by omega), if_neg a2, hw3]) (ih (j + 1) n (by omega) (by omega) (by omega))
    · have e : inPart all.length s (l.getD j 0) = false := decide_eq_false (fun hh => a1 hh.1)
      rw [e, if_neg (by simp), Int.zero_add]
      exact Ev.step (fun k => by rw [spec_CountIn.l0, if_pos (by omega), if_pos (by omega), rdN l j, if_neg (by omega), hw3]) (ih (j + 1) n (by omega) (by omega) (by omega))

theorem sCountIn (w h : Int) (c : ByteArray) (v : Int) (l : List Int) (hl : l.length ≤ 1048576) : ∃ n, Ev (fun k => spec_CountIn.f k w h c v l) n ∧ CountIs w h c v l n := by
  have hg := sGridOk w h c
  have stop : ∀ b, b = true → Ev (fun k => spec_CountIn.j0 k v l b w h c) 0 := fun b hb => Ev.step (f := fun _ => some 0) (fun k => by rw [spec_CountIn.j0, if_pos hb]) (Ev.now _)
  cases g : gridOk w h c with
  | false =>
    rw [g] at hg
    refine ⟨0, Ev.bind hg (Ev.congr (fun k => by rw [if_neg (by simp)]) (stop true rfl)), .inl ⟨fun hh => ?_, rfl⟩⟩
    have := (freeAt_iff.mp (home_free hh.1 hh.2).1).1
    rw [g] at this; cases this
  | true =>
    rw [g] at hg
    have hc := (gridOk_size g).2
    obtain ⟨u, hu, hi⟩ := sHomeOf w h c v
    by_cases e : u = v
    · subst e
      by_cases h0 : u < 0
      · exact ⟨0, Ev.bind hg (Ev.congr (fun k => by rw [if_pos rfl]) (Ev.bind hu (Ev.congr (fun k => by rw [if_pos rfl, decide_eq_true h0]) (stop true rfl)))), .inl ⟨fun hh => by have := hh.2; omega, rfl⟩⟩
      · obtain ⟨s, hs, hA⟩ := sStepsFrom w h c [u] (by simp)
        have fu := (home_free hi (by omega)).1
        have hlen := (answer_lab hA fu).len
        obtain ⟨all, hall, hal, hah⟩ := sAll_l0 w h c hc c.size 0 [] (Nat.zero_add _) rfl (fun j hj => absurd hj (by omega))
        have := sCount_l0 u all s l (fun z hz => by
          have z0 := hz.1
          have z1 := hz.2
          obtain ⟨j, rfl⟩ := Int.eq_ofNat_of_zero_le z0
          rw [rdN all j]
          exact home_iff hi (by omega) hA ⟨z0, by omega⟩ (hah j (by omega))) hl l.length 0 0 (Nat.zero_add _) (by omega) (by omega)
        rw [List.drop_zero, Int.zero_add, hal, show ((0 : Nat) : Int) = 0 from rfl] at this
        rw [show ((0 : Nat) : Int) = 0 from rfl] at hall
        have hall2 : Ev (fun k => spec_l05All.f k w h c) all := hall
        have fin : Ev (fun k => (spec_l05All.f k w h c).bind fun t => spec_CountIn.l0 k u l t 0 0) ((l.countP (inPart c.size s) : Nat) : Int) := Ev.bind hall2 this
        exact ⟨_, Ev.bind hg (Ev.congr (fun k => by rw [if_pos rfl]) (Ev.bind hu (Ev.congr (fun k => by rw [if_pos rfl, decide_eq_false h0]) (Ev.step (fun k => by rw [spec_CountIn.j0, if_neg (by simp)]) fin)))), .inr ⟨⟨hi, by omega⟩, s, hA, hlen, rfl⟩⟩
    · refine ⟨0, Ev.bind hg (Ev.congr (fun k => by rw [if_pos rfl]) (Ev.bind hu (Ev.congr (fun k => by rw [if_neg e]) (stop true rfl)))), .inl ⟨fun hh => e (hi.unique hh.1), rfl⟩⟩

/-! impl.CountIn -/
theorem iCount_l0 (s l : List Int) (hl : l.length ≤ 1048576) (m : Nat) : ∀ (j : Nat) (n : Int), j + m = l.length → 0 ≤ n → n ≤ j → Ev (fun k => impl_CountIn.l0 k s n l (l.length : Int) j) (n + ((l.drop j).countP (inPart s.length s) : Int)) := by
  induction m with
  | zero =>
    intro j n hj h0 h1
    have e : n + ((l.drop j).countP (inPart s.length s) : Int) = n := by rw [List.drop_eq_nil_of_le (by omega)]; simp
    rw [e]
    exact Ev.step (f := fun _ => some n) (fun k => by rw [impl_CountIn.l0, if_neg (by omega)]) (Ev.now _)
  | succ m ih =>
    intro j n hj h0 h1
    have hw3 : wrap64 ((j : Int) + 1) = ((j + 1 : Nat) : Int) := by rw [w64 (by omega) (by omega)]; omega
    have hw2 : wrap64 (n + 1) = n + 1 := w64 (by omega) (by omega)
    rw [count_drop _ l j (by omega)]
    by_cases a1 : 0 ≤ l.getD j 0
    · by_cases a2 : l.getD j 0 < s.length
      · by_cases a3 : 0 ≤ rd s (l.getD j 0)
        · have e : inPart s.length s (l.getD j 0) = true := decide_eq_true ⟨a1, a2, a3⟩
          rw [e, if_pos rfl, ← Int.add_assoc]
          exact Ev.step (fun k => by rw [impl_CountIn.l0, if_pos (by omega), if_pos (by omega), if_pos (by omega), rdN l j, if_pos (by omega), if_pos a2, if_pos a1, if_pos (by omega), hw2, hw3]) (ih (j + 1) (n + 1) (by omega) (by omega) (by omega))
        · have e : inPart s.length s (l.getD j 0) = false := decide_eq_false (fun hh => a3 hh.2.2)
          rw [e, if_neg (by simp), Int.zero_add]
          exact Ev.step (fun k => by rw [impl_CountIn.l0, if_pos (by omega), if_pos (by omega), if_pos (by omega), rdN l j, if_pos (by omega), if_pos a2, if_pos a1, if_neg (by omega), hw3]) (ih (j + 1) n (by omega) (by omega) (by omega))
      · have e : inPart s.length s (l.getD j 0) = false := decide_eq_false (fun hh => a2 hh.2.1)
        rw [e, if_neg (by simp), Int.zero_add]
        exact Ev.step (fun k => by rw [impl_CountIn.l0, if_pos (by omega), if_pos (by omega), if_pos (by omega), rdN l j, if_pos (by omega), if_neg a2, hw3]) (ih (j + 1) n (by omega) (by omega) (by omega))
    · have e : inPart s.length s (l.getD j 0) = false := decide_eq_false (fun hh => a1 hh.1)
      rw [e, if_neg (by simp), Int.zero_add]
      exact Ev.step (fun k => by rw [impl_CountIn.l0, if_pos (by omega), if_pos (by omega), if_pos (by omega), rdN l j, if_neg (by omega), hw3]) (ih (j + 1) n (by omega) (by omega) (by omega))

theorem iCountIn (w h : Int) (c : ByteArray) (v : Int) (l : List Int) (hl : l.length ≤ 1048576) : ∃ n, Ev (fun k => impl_CountIn.f k w h c v l) n ∧ CountIs w h c v l n := by
  obtain ⟨u, hu, hi⟩ := iHomeOf w h c v
  by_cases e : u = v
  · subst e
    by_cases h0 : u < 0
    · exact ⟨0, Ev.bind hu (Ev.congr (fun k => by rw [if_pos rfl, decide_eq_true h0]) (Ev.step (f := fun _ => some 0) (fun k => by rw [impl_CountIn.j0, if_pos rfl]) (Ev.now _))), .inl ⟨fun hh => by have := hh.2; omega, rfl⟩⟩
    · obtain ⟨s, hs, hA⟩ := iStepsFrom w h c [u] (by simp)
      have fu := (home_free hi (by omega)).1
      have hlen := (answer_lab hA fu).len
      have := iCount_l0 s l hl l.length 0 0 (Nat.zero_add _) (by omega) (by omega)
      rw [List.drop_zero, Int.zero_add, hlen, show ((0 : Nat) : Int) = 0 from rfl] at this
      exact ⟨_, Ev.bind hu (Ev.congr (fun k => by rw [if_pos rfl, decide_eq_false h0]) (Ev.step (fun k => by rw [impl_CountIn.j0, if_neg (by simp)]) (Ev.bind hs this))), .inr ⟨⟨hi, by omega⟩, s, hA, hlen, rfl⟩⟩
  · refine ⟨0, Ev.bind hu (Ev.congr (fun k => by rw [if_neg e]) (Ev.step (f := fun _ => some 0) (fun k => by rw [impl_CountIn.j0, if_pos rfl]) (Ev.now _))), .inl ⟨fun hh => e (hi.unique hh.1), rfl⟩⟩

/-! impl.areFree -/
theorem iAreFree (w h : Int) (c : ByteArray) (l : List Int) (hl : l.length ≤ 1048576) : ∃ b : Bool, Ev (fun k => impl_areFree.f k w h c l) b ∧ (b = true ↔ gridOk w h c = true ∧ ∀ z, z ∈ l → freeAt w h c z = true) := by
  have hg := iGridOk w h c
  cases g : gridOk w h c with
  | false =>
    rw [g] at hg
    exact ⟨false, Ev.bind hg (Ev.of_eq fun k => by rw [if_neg (by simp)]), by simp⟩
  | true =>
    rw [g] at hg
    have h0 := ii_free g l hl l.length 0 (Nat.zero_add _)
    rw [List.drop_zero, show ((0 : Nat) : Int) = 0 from rfl] at h0
    have hF : (∀ z, z ∈ l → freeAt w h c z = true) → Ev (fun k => slices_ContainsFunc_int_int.f k l w h c) false := h0.1
    have hT : (¬ ∀ z, z ∈ l → freeAt w h c z = true) → Ev (fun k => slices_ContainsFunc_int_int.f k l w h c) true := h0.2
    by_cases hall : ∀ z, z ∈ l → freeAt w h c z = true
    · exact ⟨true, Ev.bind hg (Ev.congr (fun k => by rw [if_pos rfl]) (Ev.bind (hF hall) (Ev.now _))), by simp; exact hall⟩
    · exact ⟨false, Ev.bind hg (Ev.congr (fun k => by rw [if_pos rfl]) (Ev.bind (hT hall) (Ev.now _))), by simp only [Bool.false_eq_true, true_and, false_iff]; exact hall⟩

/-! spec.Enough and impl.Enough, side by side -/
theorem both_count (w h : Int) (c : ByteArray) (v : Int) (l : List Int) (hl : l.length ≤ 1048576) : ∃ n, Ev (fun k => spec_CountIn.f k w h c v l) n ∧ Ev (fun k => impl_CountIn.f k w h c v l) n := by
  obtain ⟨n, h1, hv⟩ := sCountIn w h c v l hl
  obtain ⟨m, h2, hu⟩ := iCountIn w h c v l hl
  obtain rfl : m = n := hu.unique hv
  exact ⟨m, h1, h2⟩

theorem enough_l2 (w h : Int) (c : ByteArray) (s d L : List Int) (hs : s.length ≤ 1048576) (hd : d.length ≤ 1048576) (hL : L.length ≤ 1048576) (m : Nat) : ∀ j : Nat, j + m = L.length → ∃ b, Ev (fun k => spec_Enough.l2 k s d L j w h c) b ∧ Ev (fun k => impl_Enough.l0 k s d L (L.length : Int) j w h c) b := by
  induction m with
  | zero =>
    intro j hj
    exact ⟨true, Ev.step (f := fun _ => some true) (fun k => by rw [spec_Enough.l2, if_neg (by omega)]) (Ev.now _), Ev.step (f := fun _ => some true) (fun k => by rw [impl_Enough.l0, if_neg (by omega)]) (Ev.now _)⟩
  | succ m ih =>
    intro j hj
    have hw3 : wrap64 ((j : Int) + 1) = ((j + 1 : Nat) : Int) := by rw [w64 (by omega) (by omega)]; omega
    obtain ⟨x, x1, x2⟩ := both_count w h c (rd L (j : Int)) d hd
    obtain ⟨y, y1, y2⟩ := both_count w h c (rd L (j : Int)) s hs
    by_cases hq : x > y
    · refine ⟨false, Ev.step (fun k => by rw [spec_Enough.l2, if_pos (by omega), if_pos (by omega)]) (Ev.bind x1 ?_), Ev.step (fun k => by rw [impl_Enough.l0, if_pos (by omega), if_pos (by omega), if_pos (by omega)]) (Ev.bind x2 ?_)⟩
      · refine Ev.bind y1 ?_
        exact Ev.of_eq fun k => by rw [if_pos hq]
      · refine Ev.bind y2 ?_
        exact Ev.of_eq fun k => by rw [if_pos hq]
    · obtain ⟨b, b1, b2⟩ := ih (j + 1) (by omega)
      refine ⟨b, Ev.step (fun k => by rw [spec_Enough.l2, if_pos (by omega), if_pos (by omega)]) (Ev.bind x1 ?_), Ev.step (fun k => by rw [impl_Enough.l0, if_pos (by omega), if_pos (by omega), if_pos (by omega)]) (Ev.bind x2 ?_)⟩
      · refine Ev.bind y1 ?_
        exact Ev.congr (fun k => by rw [if_neg hq, hw3]) b1
      · refine Ev.bind y2 ?_
        exact Ev.congr (fun k => by rw [if_neg hq, hw3]) b2

theorem sEnough_l1 (w h : Int) (c : ByteArray) (s d : List Int) (hd : d.length ≤ 1048576) (b : Bool) (next : Ev (fun k => (spec_Homes.f k w h c).bind fun t => spec_Enough.l2 k s d t 0 w h c) b) (m : Nat) : ∀ j : Nat, j + m = d.length → ((∀ z, z ∈ d.drop j → freeAt w h c z = true) → Ev (fun k => spec_Enough.l1 k s d j w h c) b) ∧ ((¬ ∀ z, z ∈ d.drop j → freeAt w h c z = true) → Ev (fun k => spec_Enough.l1 k s d j w h c) false) := by
  induction m with
  | zero =>
    intro j hj
    rw [List.drop_eq_nil_of_le (by omega)]
    exact ⟨fun _ => Ev.step (fun k => by rw [spec_Enough.l1, if_neg (by omega)]) next, fun hn => absurd (fun z hz => by cases hz) hn⟩
  | succ m ih =>
    intro j hj
    have hw3 : wrap64 ((j : Int) + 1) = ((j + 1 : Nat) : Int) := by rw [w64 (by omega) (by omega)]; omega
    have hf := sFreeAt w h c (d.getD j 0)
    rw [drop_cons d j 0 (by omega)]
    have ih' := ih (j + 1) (by omega)
    cases hq : freeAt w h c (d.getD j 0) with
    | true =>
      rw [hq] at hf
      refine ⟨fun hall => ?_, fun hn => ?_⟩
      · exact Ev.step (fun k => by rw [spec_Enough.l1, if_pos (by omega), if_pos (by omega), rdN]) (Ev.bind hf (Ev.congr (fun k => by rw [if_pos rfl, hw3]) (ih'.1 (fun z hz => hall z (List.mem_cons_of_mem _ hz)))))
      · exact Ev.step (fun k => by rw [spec_Enough.l1, if_pos (by omega), if_pos (by omega), rdN]) (Ev.bind hf (Ev.congr (fun k => by rw [if_pos rfl, hw3]) (ih'.2 (fun hh => hn (fun z hz => by
          rcases List.mem_cons.1 hz with e | e
          · rw [e]; exact hq
          · exact hh z e)))))
    | false =>
      rw [hq] at hf
      refine ⟨fun hall => ?_, fun hn => ?_⟩
      · have := hall _ (List.mem_cons_self ..)
        rw [hq] at this; cases this
      · exact Ev.step (fun k => by rw [spec_Enough.l1, if_pos (by omega), if_pos (by omega), rdN]) (Ev.bind hf (Ev.of_eq fun k => by rw [if_neg (by simp)]))

theorem sEnough_l0 (w h : Int) (c : ByteArray) (s d : List Int) (hs : s.length ≤ 1048576) (b : Bool) (next : Ev (fun k => spec_Enough.l1 k s d 0 w h c) b) (m : Nat) : ∀ j : Nat, j + m = s.length → ((∀ z, z ∈ s.drop j → freeAt w h c z = true) → Ev (fun k => spec_Enough.l0 k s d j w h c) b) ∧ ((¬ ∀ z, z ∈ s.drop j → freeAt w h c z = true) → Ev (fun k => spec_Enough.l0 k s d j w h c) false) := by
  induction m with
  | zero =>
    intro j hj
    rw [List.drop_eq_nil_of_le (by omega)]
    exact ⟨fun _ => Ev.step (fun k => by rw [spec_Enough.l0, if_neg (by omega)]) next, fun hn => absurd (fun z hz => by cases hz) hn⟩
  | succ m ih =>
    intro j hj
    have hw3 : wrap64 ((j : Int) + 1) = ((j + 1 : Nat) : Int) := by rw [w64 (by omega) (by omega)]; omega
    have hf := sFreeAt w h c (s.getD j 0)
    rw [drop_cons s j 0 (by omega)]
    have ih' := ih (j + 1) (by omega)
    cases hq : freeAt w h c (s.getD j 0) with
    | true =>
      rw [hq] at hf
      refine ⟨fun hall => ?_, fun hn => ?_⟩
      · exact Ev.step (fun k => by rw [spec_Enough.l0, if_pos (by omega), if_pos (by omega), rdN]) (Ev.bind hf (Ev.congr (fun k => by rw [if_pos rfl, hw3]) (ih'.1 (fun z hz => hall z (List.mem_cons_of_mem _ hz)))))
      · exact Ev.step (fun k => by rw [spec_Enough.l0, if_pos (by omega), if_pos (by omega), rdN]) (Ev.bind hf (Ev.congr (fun k => by rw [if_pos rfl, hw3]) (ih'.2 (fun hh => hn (fun z hz => by
          rcases List.mem_cons.1 hz with e | e
          · rw [e]; exact hq
          · exact hh z e)))))
    | false =>
      rw [hq] at hf
      refine ⟨fun hall => ?_, fun hn => ?_⟩
      · have := hall _ (List.mem_cons_self ..)
        rw [hq] at this; cases this
      · exact Ev.step (fun k => by rw [spec_Enough.l0, if_pos (by omega), if_pos (by omega), rdN]) (Ev.bind hf (Ev.of_eq fun k => by rw [if_neg (by simp)]))

theorem both_enough (w h : Int) (c : ByteArray) (s d : List Int) (hs : s.length ≤ 1048576) (hd : d.length ≤ 1048576) : ∃ b, Ev (fun k => spec_Enough.f k w h c s d) b ∧ Ev (fun k => impl_Enough.f k w h c s d) b := by
  have hg := sGridOk w h c
  obtain ⟨p, p1, p2⟩ := iAreFree w h c s hs
  obtain ⟨q, q1, q2⟩ := iAreFree w h c d hd
  have stop : ∀ x, x = true → Ev (fun k => impl_Enough.j0 k s d x w h c) false := fun x hx => Ev.step (f := fun _ => some false) (fun k => by rw [impl_Enough.j0, if_pos hx]) (Ev.now _)
  have first : p = false → Ev (fun k => impl_Enough.f k w h c s d) false := fun hp => by
    rw [hp] at p1
    exact Ev.bind p1 (Ev.congr (fun k => by rw [if_neg (by simp)]) (stop true rfl))
  have second : p = true → q = false → Ev (fun k => impl_Enough.f k w h c s d) false := fun hp hq => by
    rw [hp] at p1
    rw [hq] at q1
    exact Ev.bind p1 (Ev.congr (fun k => by rw [if_pos rfl]) (Ev.bind q1 (stop _ rfl)))
  cases g : gridOk w h c with
  | false =>
    rw [g] at hg
    refine ⟨false, Ev.bind hg (Ev.of_eq fun k => by rw [if_neg (by simp)]), first ?_⟩
    cases p
    · rfl
    · have := (p2.1 rfl).1
      rw [g] at this; cases this
  | true =>
    rw [g] at hg
    have hfl := freeCells_len w h c
    obtain ⟨L, hxl, r1, r2⟩ := homes_l0 w h c (freeCells w h c) (by omega) (freeCells w h c).length 0 [] (Nat.zero_add _) (Nat.le_refl _)
    have hsL : Ev (fun k => spec_Homes.f k w h c) L := Ev.bind (sFreeCells w h c) r1
    have hiL : Ev (fun k => impl_Homes.f k w h c) L := Ev.bind (iFreeCells w h c) r2
    obtain ⟨b, b1, b2⟩ := enough_l2 w h c s d L hs hd (by omega) L.length 0 (Nat.zero_add _)
    rw [show ((0 : Nat) : Int) = 0 from rfl] at b1 b2
    have n1 := sEnough_l1 w h c s d hd b (Ev.bind hsL b1) d.length 0 (Nat.zero_add _)
    rw [List.drop_zero, show ((0 : Nat) : Int) = 0 from rfl] at n1
    by_cases hS : ∀ z, z ∈ s → freeAt w h c z = true
    · have ep : p = true := p2.2 ⟨g, hS⟩
      by_cases hD : ∀ z, z ∈ d → freeAt w h c z = true
      · have n0 := sEnough_l0 w h c s d hs b (n1.1 hD) s.length 0 (Nat.zero_add _)
        rw [List.drop_zero, show ((0 : Nat) : Int) = 0 from rfl] at n0
        refine ⟨b, Ev.bind hg (Ev.congr (fun k => by rw [if_pos rfl]) (n0.1 hS)), ?_⟩
        have eq : q = true := q2.2 ⟨g, hD⟩
        rw [ep] at p1
        rw [eq] at q1
        exact Ev.bind p1 (Ev.congr (fun k => by rw [if_pos rfl]) (Ev.bind q1 (Ev.step (fun k => by rw [impl_Enough.j0, if_neg (by simp)]) (Ev.bind hiL b2))))
      · have n0 := sEnough_l0 w h c s d hs false (n1.2 hD) s.length 0 (Nat.zero_add _)
        rw [List.drop_zero, show ((0 : Nat) : Int) = 0 from rfl] at n0
        refine ⟨false, Ev.bind hg (Ev.congr (fun k => by rw [if_pos rfl]) (n0.1 hS)), second ep ?_⟩
        cases q
        · rfl
        · exact absurd (q2.1 rfl).2 hD
    · have n1' : ∃ x, Ev (fun k => spec_Enough.l1 k s d 0 w h c) x := by
        by_cases hD : ∀ z, z ∈ d → freeAt w h c z = true
        · exact ⟨_, n1.1 hD⟩
        · exact ⟨_, n1.2 hD⟩
      obtain ⟨x, hx⟩ := n1'
      have n0 := sEnough_l0 w h c s d hs x hx s.length 0 (Nat.zero_add _)
      rw [List.drop_zero, show ((0 : Nat) : Int) = 0 from rfl] at n0
      refine ⟨false, Ev.bind hg (Ev.congr (fun k => by rw [if_pos rfl]) (n0.2 hS)), first ?_⟩
      cases p
      · rfl
      · exact absurd (p2.1 rfl).2 hS

/-! eqIntS: a list equals itself -/
theorem eqIntS_l0 (xs : List Int) (hx : xs.length < 1099511627776) (d : Nat) : ∀ i : Int, 0 ≤ i → i + d = xs.length → Ev (fun k => laws_eqIntS.l0 k xs xs i) true := by
  induction d with
  | zero => intro i h0 h; exact Ev.step (fun k => by rw [laws_eqIntS.l0, if_neg (by omega)]) (Ev.now _)
  | succ d ih =>
    intro i h0 h
    refine Ev.step (fun k => by rw [laws_eqIntS.l0, if_pos (by omega), if_pos h0, if_pos (by omega), if_pos rfl, w64 (by omega) (by omega)]) (ih (i + 1) (by omega) (by omega))

theorem eqIntS_same (xs : List Int) (hx : xs.length < 1099511627776) : Ev (fun k => laws_eqIntS.f k xs xs) true := by
  refine Ev.congr (fun k => by unfold laws_eqIntS.f; rw [if_pos rfl]) ?_
  exact eqIntS_l0 xs hx xs.length 0 (by omega) (by omega)

/-! toIntS: a list is copied -/
theorem toIntS_l0 (xs : List Int) (hx : xs.length ≤ 1048576) (d : Nat) : ∀ (ys : List Int) (i : Int), 0 ≤ i → i + d = xs.length → Copied id xs ys i → Ev (fun k => laws_toIntS.l0 k xs ys i) xs := by
  induction d with
  | zero =>
    intro ys i h0 h1 hc
    have he := hc.end_ (by omega)
    rw [List.map_id] at he
    rw [← he]
    exact Ev.step (f := fun _ => some ys) (fun k => by rw [laws_toIntS.l0, if_neg (by rw [he]; omega)]) (Ev.now _)
  | succ d ih =>
    intro ys i h0 h1 hc
    have hl := hc.1
    refine Ev.step (fun k => by rw [laws_toIntS.l0, if_pos (by omega), if_pos h0, if_pos (by omega), w64 (by omega) (by omega)]; rfl) (ih _ (i + 1) (by omega) (by omega) (hc.step h0 (by omega) 0 rfl))

theorem toIntS_ev (l : List Int) (hl : l.length ≤ 1048576) : Ev (fun k => laws_toIntS.f k l) l := by
  refine Ev.congr (fun k => by unfold laws_toIntS.f; rw [if_pos (by omega), if_pos (by omega)]) ?_
  exact toIntS_l0 l hl l.length _ 0 (by omega) (by omega) (by rw [Int.toNat_natCast]; exact Copied.start id l 0)

end Go.Proofs.Ytabepbkolmimlaa.QFnExactEnough
