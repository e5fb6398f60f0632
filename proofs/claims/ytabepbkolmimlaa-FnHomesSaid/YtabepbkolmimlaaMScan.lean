/- The two searches, state by state: level after level over all cells, and by a queue. -/
import Derived.Test.YtabepbkolmimlaaMSteps
namespace Go.Proofs.Ytabepbkolmimlaa.MScan
open Go.RowKit Go.Proofs.YtabepbkolmimlaaW.PrintWords Go.Proofs.Ytabepbkolmimlaa.MBase Go.Proofs.Ytabepbkolmimlaa.MLists Go.Proofs.Ytabepbkolmimlaa.MSteps
set_option linter.unusedVariables false

def St2 (n : Nat) (A : Int → List Int) (S : Int → Prop) (L : Int) (d : List Int) : Prop :=
  Base n A S d ∧ (∀ z, Cell n z → rd d z ≤ L) ∧ ∀ z, Cell n z → 0 ≤ rd d z → rd d z < L → Done A d z
def St3 (n : Nat) (A : Int → List Int) (S : Int → Prop) (L x : Int) (d : List Int) : Prop :=
  Base n A S d ∧ (∀ z, Cell n z → rd d z ≤ L + 1) ∧ ∀ z, Cell n z → 0 ≤ rd d z → (rd d z < L ∨ (rd d z = L ∧ z < x)) → Done A d z
def St4 (n : Nat) (A : Int → List Int) (S : Int → Prop) (L x : Int) (j : Nat) (d : List Int) : Prop :=
  St3 n A S L x d ∧ rd d x = L ∧ ∀ y, y ∈ (A x).take j → 0 ≤ rd d y

theorem St4.end_ {n : Nat} {A : Int → List Int} {S : Int → Prop} {L x : Int} {j : Nat} {d : List Int} (hA : ∀ x, Cell n x → ∀ y, y ∈ A x → Cell n y) (hx : Cell n x) (h : St4 n A S L x j d) (hj : (A x).length ≤ j) : St3 n A S L (x + 1) d := by
  obtain ⟨⟨b, b1, b2⟩, e, b3⟩ := h
  rw [List.take_of_length_le hj] at b3
  refine ⟨b, b1, fun z hz h0 h1 => ?_⟩
  by_cases hzx : z = x
  · subst hzx
    intro y hy
    have := b1 y (hA z hz y hy)
    exact ⟨b3 y hy, by omega⟩
  · exact b2 z hz h0 (by omega)

theorem take_succ_mem {xs : List Int} {j : Nat} {z : Int} (hj : j < xs.length) (h : z ∈ xs.take (j + 1)) : z ∈ xs.take j ∨ z = xs.getD j 0 := by
  rw [List.take_add_one, List.getElem?_eq_getElem hj, List.mem_append] at h
  rw [List.getD_eq_getElem?_getD, List.getElem?_eq_getElem hj]
  rcases h with h | h
  · exact .inl h
  · exact .inr (by simpa using h)

theorem getD_mem {xs : List Int} {j : Nat} (hj : j < xs.length) : xs.getD j 0 ∈ xs := by
  rw [List.getD_eq_getElem?_getD, List.getElem?_eq_getElem hj]
  exact List.getElem_mem hj

theorem St4.skip {n : Nat} {A : Int → List Int} {S : Int → Prop} {L x : Int} {j : Nat} {d : List Int} (h : St4 n A S L x j d) (hj : j < (A x).length) (hy : 0 ≤ rd d ((A x).getD j 0)) : St4 n A S L x (j + 1) d := by
  obtain ⟨a, e, b⟩ := h
  refine ⟨a, e, fun z hz => ?_⟩
  rcases take_succ_mem hj hz with h1 | h1
  · exact b z h1
  · rw [h1]; exact hy

theorem St4.put {n : Nat} {A : Int → List Int} {S : Int → Prop} {L x : Int} {j : Nat} {d : List Int} (hA : ∀ x, Cell n x → ∀ y, y ∈ A x → Cell n y) (hx : Cell n x) (hL : 0 ≤ L) (h : St4 n A S L x j d) (hj : j < (A x).length) (hy : rd d ((A x).getD j 0) < 0) : St4 n A S L x (j + 1) (d.set ((A x).getD j 0).toNat (L + 1)) := by
  obtain ⟨⟨b, b1, b2⟩, e, b3⟩ := h
  have hyA := getD_mem hj
  generalize hye : (A x).getD j 0 = y at hy hyA ⊢
  have hyc := hA x hx y hyA
  have hs := b.set hx (by omega) hyA hyc hy
  rw [e] at hs
  have hr := fun z hz => rd_set b.len (x := z) hz hyc (L + 1)
  refine ⟨⟨hs, fun z hz => ?_, fun z hz h0 h1 => ?_⟩, ?_, fun z hz => ?_⟩
  · rw [hr z hz]; split
    · omega
    · exact b1 z hz
  · rw [hr z hz] at h0 h1
    by_cases hzy : z = y
    · rw [if_pos hzy] at h1; omega
    · rw [if_neg hzy] at h0 h1
      exact Done.set b hA hyc hy hz h0 (b2 z hz h0 h1) _
  · rw [b.keep hyc hy hx (by omega)]; exact e
  · rcases take_succ_mem hj hz with h1 | h1
    · have := b3 z h1
      rw [b.keep hyc hy (hA x hx z (List.mem_of_mem_take h1)) this]; exact this
    · rw [hye] at h1; rw [h1, hr y hyc, if_pos rfl]; omega


theorem St3.end_ {n : Nat} {A : Int → List Int} {S : Int → Prop} {L : Int} {d : List Int} (h : St3 n A S L n d) : St2 n A S (L + 1) d := by
  obtain ⟨b, b1, b2⟩ := h
  refine ⟨b, b1, fun z hz h0 h1 => b2 z hz h0 ?_⟩
  have := hz.2
  omega

theorem St2.start3 {n : Nat} {A : Int → List Int} {S : Int → Prop} {L : Int} {d : List Int} (h : St2 n A S L d) : St3 n A S L 0 d := by
  obtain ⟨b, b1, b2⟩ := h
  refine ⟨b, fun z hz => ?_, fun z hz h0 h1 => b2 z hz h0 ?_⟩
  · have := b1 z hz; omega
  · have := hz.1; omega

theorem St2.end_ {n : Nat} {A : Int → List Int} {S : Int → Prop} {d : List Int} (h : St2 n A S n d) : Lab n A S d :=
  { h.1 with edge := fun z hz h0 => h.2.2 z hz h0 (h.1.small z hz) }

theorem St3.skip {n : Nat} {A : Int → List Int} {S : Int → Prop} {L x : Int} {d : List Int} (h : St3 n A S L x d) (hx : rd d x ≠ L) : St3 n A S L (x + 1) d := by
  obtain ⟨b, b1, b2⟩ := h
  refine ⟨b, b1, fun z hz h0 h1 => ?_⟩
  by_cases hzx : z = x
  · subst hzx; exact b2 z hz h0 (by omega)
  · exact b2 z hz h0 (by omega)

/-- the queue: who is in it is labelled, who is labelled is in it; labels never fall along it -/
structure Que (n : Nat) (A : Int → List Int) (S : Int → Prop) (i : Nat) (d Q : List Int) : Prop extends Base n A S d where
  inQ : ∀ a : Nat, a < Q.length → Cell n (Q.getD a 0) ∧ 0 ≤ rd d (Q.getD a 0)
  all : ∀ z, Cell n z → 0 ≤ rd d z → ∃ a : Nat, a < Q.length ∧ Q.getD a 0 = z
  mono : ∀ a b : Nat, a ≤ b → b < Q.length → rd d (Q.getD a 0) ≤ rd d (Q.getD b 0)
  done : ∀ a : Nat, a < i → a < Q.length → Done A d (Q.getD a 0)
  room : bare n d + Q.length ≤ n
  near : i < Q.length → ∀ b : Nat, b < Q.length → rd d (Q.getD b 0) ≤ rd d (Q.getD i 0) + 1

theorem Que.len_le {n : Nat} {A : Int → List Int} {S : Int → Prop} {i : Nat} {d Q : List Int} (q : Que n A S i d Q) : Q.length ≤ n := by
  have := q.room
  have := bare_nonneg n d
  omega

theorem Que.lab {n : Nat} {A : Int → List Int} {S : Int → Prop} {i : Nat} {d Q : List Int} (q : Que n A S i d Q) (hi : Q.length ≤ i) : Lab n A S d := by
  refine { q.toBase with edge := ?_ }
  intro z hz h0
  obtain ⟨a, ha, rfl⟩ := q.all z hz h0
  exact q.done a (by omega) ha

theorem getD_push (Q : List Int) (y : Int) (a : Nat) : (Q ++ [y]).getD a 0 = if a < Q.length then Q.getD a 0 else if a = Q.length then y else 0 := by
  rw [List.getD_eq_getElem?_getD, List.getD_eq_getElem?_getD]
  rcases Nat.lt_or_ge a Q.length with h | h
  · rw [if_pos h, List.getElem?_append_left h]
  · rw [if_neg (by omega), List.getElem?_append_right h]
    by_cases e : a = Q.length
    · subst e; simp
    · rw [if_neg e, List.getElem?_eq_none (by simp; omega)]; rfl

/-- a neighbour of the head of the queue gets its label -/
theorem Que.put {n : Nat} {A : Int → List Int} {S : Int → Prop} {i : Nat} {d Q : List Int} (hA : ∀ x, Cell n x → ∀ y, y ∈ A x → Cell n y) (q : Que n A S i d Q) (hi : i < Q.length) {y : Int} (hyA : y ∈ A (Q.getD i 0)) (hy : rd d y < 0) : Que n A S i (d.set y.toNat (rd d (Q.getD i 0) + 1)) (Q ++ [y]) := by
  have hx := q.inQ i hi
  have hyc := hA _ hx.1 y hyA
  have hs := q.toBase.set hx.1 hx.2 hyA hyc hy
  have hnear := q.near hi
  have hr := fun z hz => rd_set q.len (x := z) hz hyc (rd d (Q.getD i 0) + 1)
  have hk := fun (a : Nat) (ha : a < Q.length) => q.toBase.keep hyc hy (q.inQ a ha).1 (q.inQ a ha).2 (rd d (Q.getD i 0) + 1)
  have hnew : rd (d.set y.toNat (rd d (Q.getD i 0) + 1)) y = rd d (Q.getD i 0) + 1 := by rw [hr y hyc, if_pos rfl]
  have hb : bare n (d.set y.toNat (rd d (Q.getD i 0) + 1)) = bare n d - 1 := bare_set q.len hyc hy (by omega)
  have gl : ∀ a : Nat, a < Q.length → (Q ++ [y]).getD a 0 = Q.getD a 0 := fun a ha => by rw [getD_push, if_pos ha]
  have ge : (Q ++ [y]).getD Q.length 0 = y := by rw [getD_push, if_neg (by omega), if_pos rfl]
  have hl : (Q ++ [y]).length = Q.length + 1 := by simp
  have hd := fun (a : Nat) (ha : a < Q.length) (h : Done A d (Q.getD a 0)) => Done.set q.toBase hA hyc hy (q.inQ a ha).1 (q.inQ a ha).2 h (rd d (Q.getD i 0) + 1)
  have hroom := q.room
  have hmono := q.mono
  have hdone := q.done
  have hin := q.inQ
  have hall := q.all
  generalize hX : rd d (Q.getD i 0) + 1 = X at *
  refine { hs with inQ := ?_, all := ?_, mono := ?_, done := ?_, room := ?_, near := ?_ }
  · intro a ha
    by_cases h : a < Q.length
    · rw [gl a h, hk a h]; exact hin a h
    · rw [show a = Q.length by omega, ge, hnew]; exact ⟨hyc, by omega⟩
  · intro z hz h0
    by_cases h : z = y
    · exact ⟨Q.length, by omega, by rw [ge, h]⟩
    · rw [hr z hz, if_neg h] at h0
      obtain ⟨a, ha, e⟩ := hall z hz h0
      exact ⟨a, by omega, by rw [gl a ha]; exact e⟩
  · intro a b hab hbl
    by_cases h : b < Q.length
    · rw [gl a (by omega), gl b h, hk a (by omega), hk b h]; exact hmono a b hab h
    · rw [show b = Q.length by omega, ge, hnew]
      by_cases h2 : a < Q.length
      · rw [gl a h2, hk a h2]; exact hnear a h2
      · rw [show a = Q.length by omega, ge, hnew]; exact Int.le_refl _
  · intro a ha hal
    rw [gl a (by omega)]
    exact hd a (by omega) (hdone a ha (by omega))
  · rw [hb, hl]; omega
  · intro _ b hbl
    rw [gl i hi, hk i hi]
    by_cases h : b < Q.length
    · rw [gl b h, hk b h, hX]; exact hnear b h
    · rw [show b = Q.length by omega, ge, hnew]; omega

/-- the head's neighbours up to the j-th are labelled -/
def Seen (A : Int → List Int) (i j : Nat) (d Q : List Int) : Prop := ∀ y, y ∈ (A (Q.getD i 0)).take j → 0 ≤ rd d y

theorem Que.next {n : Nat} {A : Int → List Int} {S : Int → Prop} {i j : Nat} {d Q : List Int} (hA : ∀ x, Cell n x → ∀ y, y ∈ A x → Cell n y) (q : Que n A S i d Q) (hi : i < Q.length) (hs : Seen A i j d Q) (hj : (A (Q.getD i 0)).length ≤ j) : Que n A S (i + 1) d Q := by
  unfold Seen at hs
  rw [List.take_of_length_le hj] at hs
  have hx := q.inQ i hi
  refine { q with done := ?_, near := ?_ }
  · intro a ha hal
    by_cases h : a = i
    · subst h
      intro y hy
      have h0 := hs y hy
      obtain ⟨b, hb, e⟩ := q.all y (hA _ hx.1 y hy) h0
      have := q.near hi b hb
      rw [e] at this
      exact ⟨h0, this⟩
    · exact q.done a (by omega) hal
  · intro hi1 b hb
    have h1 := q.near hi b hb
    have h2 := q.mono i (i + 1) (by omega) hi1
    omega
end Go.Proofs.Ytabepbkolmimlaa.MScan
