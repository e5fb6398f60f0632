-- Made by the session's wip/pp.py, a changed call of the kit's printer; Lean checks it.
import Derived.Test.YtpmieegflolflaaPFnExactHomesx0
import Derived.Test.YtpmieegflolflaaPFnExactHomesx6
import Derived.Deep.RegionLaw
import Derived.Laws.BitsLemmas
import Derived.Laws.CopyOwn
namespace Go.Proofs.Ytpmieegflolflaa.PFnExactHomes
open Go.RowKit Go.Proofs.YtpmieegflolflaaW.PrintWords Go.Proofs.YtpmieegflolflaaW.PrintLast Go.Proofs.YtpmieegflolflaaW.PrintMore
attribute [local go_sem] max2_int min2_int max_two min_two max_three min_three max_four min_four   -- for this text's walks alone
set_option linter.unusedVariables false
set_option linter.unusedSimpArgs false

/-! ### slices_IndexFunc_int_int: function 55 -/
def slices_IndexFunc_int_int.l0 : Nat → Int → Int → List Int → Option (Int)
  | 0, _, _, _ => none
  | k + 1, x5, x6, x14 => if x6 < x5 then (if 0 ≤ x6 then (if x6 < (x14.length : Int) then (if ((rd x14 x6) < 0) then (slices_IndexFunc_int_int.l0 k x5 (wrap64 (x6 + 1)) x14) else (some x6)) else (none)) else (none)) else (some (-1))
def slices_IndexFunc_int_int.f (k : Nat) (l0 : List Int) : Option (Int) := slices_IndexFunc_int_int.l0 k (l0.length : Int) 0 l0
theorem slices_IndexFunc_int_int.mono_l : ∀ k, (∀ y0 y1 y2, LeO (slices_IndexFunc_int_int.l0 k y0 y1 y2) (slices_IndexFunc_int_int.l0 (k + 1) y0 y1 y2))
  | 0 => fun _ _ _ r h => by simp [slices_IndexFunc_int_int.l0] at h
  | k + 1 => by
    have ih0 := slices_IndexFunc_int_int.mono_l k
    · intro y0 y1 y2
      unfold slices_IndexFunc_int_int.l0
      repeat' first
      | (with_reducible exact ih0 _ _ _)
      | (with_reducible exact LeO.refl _)
      | (with_reducible exact LeO.none _)
      | (with_reducible refine LeO.ite ?_ ?_)
      | (with_reducible refine LeO.bind ?_ (fun _ => ?_))
      | exact ih0 _ _ _
      | exact LeO.none _
      | refine LeO.ite ?_ ?_
      | refine LeO.bind ?_ (fun _ => ?_)
theorem slices_IndexFunc_int_int.mono : ∀ a0 k, LeO (slices_IndexFunc_int_int.f k a0) (slices_IndexFunc_int_int.f (k + 1) a0) := by
  intro a0 k
  have ih0 := slices_IndexFunc_int_int.mono_l k
  unfold slices_IndexFunc_int_int.f
  repeat' first
      | (with_reducible exact ih0 _ _ _)
      | (with_reducible exact LeO.refl _)
      | (with_reducible exact LeO.none _)
      | (with_reducible refine LeO.ite ?_ ?_)
      | (with_reducible refine LeO.bind ?_ (fun _ => ?_))
      | exact ih0 _ _ _
      | exact LeO.none _
      | refine LeO.ite ?_ ?_
      | refine LeO.bind ?_ (fun _ => ?_)
theorem atleast_closure (v : Int) (t : Bool) (w : World) (ht : decide (0 ≤ v) = t) : Calls Try.prog 56 #[.int .i64 v] w fun e w' => e = .returned (.bool t) ∧ Drawn0 w w' := by
  subst ht
  go_enter Try.func56, Try.ntmps56
  go_wp2
  go_ret
  exact ⟨by first | rfl | (simp; done), by repeat (first | exact Drawn0.refl _ | apply Drawn0.step)⟩
set_option maxHeartbeats 8000000 in
set_option maxRecDepth 100000 in
theorem slices_IndexFunc_int_int.calls (k : Nat) (A0 : Option Addr) (c0 : Nat) (l0 : List Int) (r : Int) (w : World) (hr0 : Kd.C (Kd.int .i64) w A0 l0.length l0) (hc0 : l0.length ≤ c0) (h : slices_IndexFunc_int_int.f k l0 = some r) :
    Calls Try.prog 55 #[.slice A0 l0.length c0, .func (.func 56) #[] #[]] w fun e w' => e = .returned (.int .i64 r) ∧ Drawn0 w w' := by
  have HR0 := Aside0.mk hr0
  have HC0 := Aside0.mk hc0
  clear hr0 hc0
  have H : (slices_IndexFunc_int_int.l0 k (l0.length : Int) 0 l0) = some r := h
  clear h
  have H' := Aside0.mk H
  clear H
  go_enter Try.func55, Try.ntmps55
  go_wp2
  go_loopg [8] k (fun kq v8 w' => ∃ (x6_1 : Int), v8 = .int .i64 x6_1 ∧ Aside0 (slices_IndexFunc_int_int.l0 kq (l0.length : Int) x6_1 l0 = some r) ∧ Aside0 (kq ≤ k) ∧ Drawn0 w w')
  case atStart => exact ⟨(0), (by first | rfl | (simp; done) | (simp [*]; done)), H', ⟨Nat.le_refl _⟩, by repeat (first | exact Drawn0.refl _ | apply Drawn0.step)⟩
  case round =>
    clear H'
    obtain ⟨x6_1, rfl, HA, HK1, ⟨m1, rfl⟩⟩ := hrel
    cases gk with
    | zero => exact absurd HA.out (by simp [slices_IndexFunc_int_int.l0])
    | succ k1 =>
      have H := HA.out
      clear HA
      simp only [slices_IndexFunc_int_int.l0] at H
      by_cases c2 : x6_1 < (l0.length : Int)
      · rw [if_pos c2] at H
        have c2b0 : decide (x6_1 < (l0.length : Int)) = true := decide_eq_true c2
        clear c2
        by_cases c3 : 0 ≤ x6_1
        · rw [if_pos c3] at H
          have c3b0 : decide (0 ≤ x6_1) = true := decide_eq_true c3
          clear c3
          by_cases c4 : x6_1 < (l0.length : Int)
          · rw [if_pos c4] at H
            have c4b0 : decide (x6_1 < (l0.length : Int)) = true := decide_eq_true c4
            clear c4
            by_cases c5 : ((rd l0 x6_1) < 0)
            · rw [if_pos c5] at H
              have c5b0 : decide ((rd l0 x6_1) < 0) = true := decide_eq_true c5
              clear c5
              have H' := Aside0.mk H
              clear H
              have p222 : 0 ≤ (x6_1 : Int) := of_decide_eq_true (by first | (with_reducible assumption) | assumption)
              have q222 : x6_1 < (l0.length : Int) := of_decide_eq_true (by first | (with_reducible assumption) | assumption)
              obtain ⟨ad222, e222, hx222_0⟩ := Kd.at_int HR0.out x6_1 p222 q222
              cases e222
              replace p222 := eq_true p222
              replace q222 := eq_true q222
              go_wp2_with (go_at_call 56; (with_reducible refine (atleast_closure (rd l0 x6_1) false _ (decide_eq_false (by have := of_decide_eq_true c5b0; omega))).mono ?_); rintro e w10 ⟨rfl, ⟨nd, rfl⟩⟩)
              go_roundg k1
              case measure => have := HK1.out; omega
              case rel => exact ⟨(wrap64 (x6_1 + 1)), (by first | rfl | (simp; done) | (simp [*]; done)), H', ⟨by have := HK1.out; omega⟩, by repeat (first | exact Drawn0.refl _ | apply Drawn0.step)⟩
            · rw [if_neg c5] at H
              have c5b0 : decide ((rd l0 x6_1) < 0) = false := decide_eq_false c5
              clear c5
              obtain rfl := Option.some.inj H
              have p222 : 0 ≤ (x6_1 : Int) := of_decide_eq_true (by first | (with_reducible assumption) | assumption)
              have q222 : x6_1 < (l0.length : Int) := of_decide_eq_true (by first | (with_reducible assumption) | assumption)
              obtain ⟨ad222, e222, hx222_0⟩ := Kd.at_int HR0.out x6_1 p222 q222
              cases e222
              replace p222 := eq_true p222
              replace q222 := eq_true q222
              go_wp2_with (go_at_call 56; (with_reducible refine (atleast_closure (rd l0 x6_1) true _ (decide_eq_true (by have := of_decide_eq_false c5b0; omega))).mono ?_); rintro e w10 ⟨rfl, ⟨nd, rfl⟩⟩)
              go_ret
              exact ⟨by first | rfl | (simp; done) | (simp [*]; done), by repeat (first | exact Drawn0.refl _ | apply Drawn0.step)⟩
          · rw [if_neg c4] at H
            exact absurd H (by simp)
        · rw [if_neg c3] at H
          exact absurd H (by simp)
      · rw [if_neg c2] at H
        have c2b0 : decide (x6_1 < (l0.length : Int)) = false := decide_eq_false c2
        clear c2
        obtain rfl := Option.some.inj H
        go_wp2
        go_ret
        exact ⟨by first | rfl | (simp; done) | (simp [*]; done), by repeat (first | exact Drawn0.refl _ | apply Drawn0.step)⟩

/-! ### slices_ContainsFunc_int_int: function 52 -/
def slices_ContainsFunc_int_int.l0 : Nat → Int → Int → List Int → Int → Int → ByteArray → Option (Bool)
  | 0, _, _, _, _, _, _ => none
  | k + 1, x5, x6, x14, x224000, x224001, x224002 => if x6 < x5 then (if 0 ≤ x6 then (if x6 < (x14.length : Int) then ((impl_isFree.f x224000 x224001 x224002 (rd x14 x6)).bind fun t225 => (if t225 = true then (slices_ContainsFunc_int_int.l0 k x5 (wrap64 (x6 + 1)) x14 x224000 x224001 x224002) else (some true))) else (none)) else (none)) else (some false)
def slices_ContainsFunc_int_int.f (k : Nat) (l0 : List Int) (a1_0 : Int) (a1_1 : Int) (a1_2 : ByteArray) : Option (Bool) := slices_ContainsFunc_int_int.l0 k (l0.length : Int) 0 l0 a1_0 a1_1 a1_2
theorem slices_ContainsFunc_int_int.mono_l : ∀ k, (∀ y0 y1 y2 y3 y4 y5, LeO (slices_ContainsFunc_int_int.l0 k y0 y1 y2 y3 y4 y5) (slices_ContainsFunc_int_int.l0 (k + 1) y0 y1 y2 y3 y4 y5))
  | 0 => fun _ _ _ _ _ _ r h => by simp [slices_ContainsFunc_int_int.l0] at h
  | k + 1 => by
    have ih0 := slices_ContainsFunc_int_int.mono_l k
    · intro y0 y1 y2 y3 y4 y5
      unfold slices_ContainsFunc_int_int.l0
      repeat' first
      | (with_reducible exact ih0 _ _ _ _ _ _)
      | (with_reducible exact LeO.refl _)
      | (with_reducible exact LeO.none _)
      | (with_reducible refine LeO.ite ?_ ?_)
      | (with_reducible refine LeO.bind ?_ (fun _ => ?_))
      | exact ih0 _ _ _ _ _ _
      | exact LeO.none _
      | refine LeO.ite ?_ ?_
      | refine LeO.bind ?_ (fun _ => ?_)
theorem slices_ContainsFunc_int_int.mono : ∀ a0 a1 a2 a3 k, LeO (slices_ContainsFunc_int_int.f k a0 a1 a2 a3) (slices_ContainsFunc_int_int.f (k + 1) a0 a1 a2 a3) := by
  intro a0 a1 a2 a3 k
  have ih0 := slices_ContainsFunc_int_int.mono_l k
  unfold slices_ContainsFunc_int_int.f
  repeat' first
      | (with_reducible exact ih0 _ _ _ _ _ _)
      | (with_reducible exact LeO.refl _)
      | (with_reducible exact LeO.none _)
      | (with_reducible refine LeO.ite ?_ ?_)
      | (with_reducible refine LeO.bind ?_ (fun _ => ?_))
      | exact ih0 _ _ _ _ _ _
      | exact LeO.none _
      | refine LeO.ite ?_ ?_
      | refine LeO.bind ?_ (fun _ => ?_)
def IdxPost (r : Bool) (w : World) (e : Ending) (w' : World) : Prop := ∃ n : Int, e = .returned (.int .i64 n) ∧ decide (0 ≤ n) = r ∧ Below w.heap.size w w'
set_option maxHeartbeats 2000000 in
set_option maxRecDepth 100000 in
theorem free_closure (g : Nat) (v a b : Int) (c : ByteArray) (t : Bool) (w : World) (ht : impl_isFree.f a b c v = some t) (hbk : w.heap[g]? = some (.cells #[.int .i64 a, .int .i64 b, .string c] 27 (0, 0))) :
    Calls Try.prog 53 #[.int .i64 v, .pointer (some ⟨g, 0, none⟩)] w fun e w' => e = .returned (.bool (!t)) ∧ Below w.heap.size w w' := by
  have hu := Try.underlying27
  have HT := Aside0.mk ht
  have BK := Aside0.mk hbk
  clear ht hbk
  have HB := Aside0.mk (Below.refl w.heap.size w)
  have h0 : w.cell? ⟨g, 0, none⟩ = some (.int .i64 a) := (blk_cell BK.out 0).trans rfl
  have h1 : w.cell? ⟨g, 1, none⟩ = some (.int .i64 b) := (blk_cell BK.out 1).trans rfl
  have h2 : w.cell? ⟨g, 2, none⟩ = some (.string c) := (blk_cell BK.out 2).trans rfl
  go_enter Try.func53, Try.ntmps53
  go_wp2_with (go_at_call 50; (with_reducible refine (impl_isFree.calls a b c v t _ HT.out).mono ?_); rintro e w1 ⟨rfl, hb⟩; have n1_ := Aside0.mk (below_step (by repeat (first | (with_reducible first | exact HB.out | apply below_alloc | apply pw_below_drewN | apply below_drew1) | exact HB.out)) hb); clear HB; have HB := n1_; clear n1_; clear hb)
  go_ret
  exact ⟨by first | rfl | (simp; done), by repeat (first | (with_reducible first | exact HB.out | apply below_alloc | apply pw_below_drewN | apply below_drew1) | exact HB.out)⟩
set_option maxHeartbeats 8000000 in
set_option maxRecDepth 100000 in
theorem index_closure (k : Nat) (A0 : Option Addr) (c0 : Nat) (l0 : List Int) (a1_0 : Int) (a1_1 : Int) (a1_2 : ByteArray) (r : Bool) (g : Nat) (w : World) (hr0 : Kd.C (Kd.int .i64) w A0 l0.length l0) (hc0 : l0.length ≤ c0) (h : slices_ContainsFunc_int_int.f k l0 a1_0 a1_1 a1_2 = some r)
    (hbk : w.heap[g]? = some (.cells #[.int .i64 a1_0, .int .i64 a1_1, .string a1_2] 27 (0, 0))) :
    Calls Try.prog 55 #[.slice A0 l0.length c0, .func (.func 53) #[] #[.pointer (some ⟨g, 0, none⟩)]] w (IdxPost r w) := by
  have HR0 := Aside0.mk hr0
  have HC0 := Aside0.mk hc0
  have BK := Aside0.mk hbk
  clear hr0 hc0 hbk
  have HB := Aside0.mk (Below.refl w.heap.size w)
  have H : (slices_ContainsFunc_int_int.l0 k (l0.length : Int) 0 l0 a1_0 a1_1 a1_2) = some r := h
  clear h
  have H' := Aside0.mk H
  clear H
  go_enter Try.func55, Try.ntmps55
  go_wp2
  go_loopg [8] k (fun kq v8 w' => ∃ (x6_1 : Int), v8 = .int .i64 x6_1 ∧ Aside0 (slices_ContainsFunc_int_int.l0 kq (l0.length : Int) x6_1 l0 a1_0 a1_1 a1_2 = some r) ∧ Aside0 (kq ≤ k) ∧ Aside0 (w'.heap[g]? = some (.cells #[.int .i64 a1_0, .int .i64 a1_1, .string a1_2] 27 (0, 0))) ∧ Aside0 (Below w.heap.size w w'))
  case atStart => exact ⟨(0), (by first | rfl | (simp; done) | (simp [*]; done)), H', ⟨Nat.le_refl _⟩, ⟨by (with_reducible repeat (first | refine blk_drewN ?_ _ | refine blk_drew ?_ | refine blk_alloc ?_ _)); exact BK.out⟩, ⟨by repeat (first | (with_reducible first | exact HB.out | apply below_alloc | apply pw_below_drewN | apply below_drew1) | exact HB.out)⟩⟩
  case round =>
    clear H'
    obtain ⟨x6_1, rfl, HA, HK1, BK, HB⟩ := hrel
    cases gk with
    | zero => exact absurd HA.out (by simp [slices_ContainsFunc_int_int.l0])
    | succ k1 =>
      have H := HA.out
      clear HA
      simp only [slices_ContainsFunc_int_int.l0] at H
      by_cases c4 : x6_1 < (l0.length : Int)
      · rw [if_pos c4] at H
        by_cases c5 : 0 ≤ x6_1
        · rw [if_pos c5, if_pos c4] at H
          have PX := Aside0.mk c5
          have c4b0 : decide (x6_1 < (l0.length : Int)) = true := decide_eq_true c4
          have c5b0 : decide (0 ≤ x6_1) = true := decide_eq_true c5
          replace H := Option.bind_eq_some_iff.mp H
          obtain ⟨t195, A70, H⟩ := H
          replace H : (if t195 = true then (slices_ContainsFunc_int_int.l0 k1 (l0.length : Int) (wrap64 (x6_1 + 1)) l0 a1_0 a1_1 a1_2) else (some true)) = some r := H
          have A7 := Aside0.mk A70
          clear A70
          obtain ⟨ad194, e194, hx194_0⟩ := Kd.at_int HR0.out x6_1 c5 c4
          cases e194
          replace hx194_0 := (HB.out.cell (World.block_lt_of_cell? w _ hx194_0)).trans hx194_0
          have p194 := eq_true c5
          have q194 := eq_true c4
          clear c4 c5
          by_cases c8 : t195 = true
          · subst c8
            have H1 : (slices_ContainsFunc_int_int.l0 k1 (l0.length : Int) (wrap64 (x6_1 + 1)) l0 a1_0 a1_1 a1_2) = some r := by rw [if_pos rfl] at H; exact H
            clear H
            have H' := Aside0.mk H1
            clear H1
            go_wp2_with (go_at_call 53; (with_reducible refine (free_closure g (rd l0 x6_1) a1_0 a1_1 a1_2 true _ A7.out ?side3).mono ?_); (case side3 => (with_reducible repeat (first | refine blk_drewN ?_ _ | refine blk_drew ?_ | refine blk_alloc ?_ _)); exact BK.out); rintro e w10 ⟨rfl, hb⟩; have n0_ := Aside0.mk (blk_below (g := g) (o := .cells #[.int .i64 a1_0, .int .i64 a1_1, .string a1_2] 27 (0, 0)) (by (with_reducible repeat (first | refine blk_drewN ?_ _ | refine blk_drew ?_ | refine blk_alloc ?_ _)); exact BK.out) hb); have n1_ := Aside0.mk (below_step (by repeat (first | (with_reducible first | exact HB.out | apply below_alloc | apply pw_below_drewN | apply below_drew1) | exact HB.out)) hb); clear BK; clear HB; have BK := n0_; have HB := n1_; clear n0_ n1_; clear hb)
            go_roundg k1
            case measure => have := HK1.out; omega
            case rel => exact ⟨(wrap64 (x6_1 + 1)), (by first | rfl | (simp; done) | (simp [*]; done)), H', ⟨by have := HK1.out; omega⟩, ⟨by (with_reducible repeat (first | refine blk_drewN ?_ _ | refine blk_drew ?_ | refine blk_alloc ?_ _)); exact BK.out⟩, ⟨by repeat (first | (with_reducible first | exact HB.out | apply below_alloc | apply pw_below_drewN | apply below_drew1) | exact HB.out)⟩⟩
          · replace c8 := Bool.eq_false_iff.mpr c8
            subst c8
            have H1 : (some true) = some r := by rw [if_neg (show ¬ (false = true) by decide)] at H; exact H
            clear H
            obtain rfl := Option.some.inj H1
            go_wp2_with (go_at_call 53; (with_reducible refine (free_closure g (rd l0 x6_1) a1_0 a1_1 a1_2 false _ A7.out ?side3).mono ?_); (case side3 => (with_reducible repeat (first | refine blk_drewN ?_ _ | refine blk_drew ?_ | refine blk_alloc ?_ _)); exact BK.out); rintro e w10 ⟨rfl, hb⟩; have n1_ := Aside0.mk (below_step (by repeat (first | (with_reducible first | exact HB.out | apply below_alloc | apply pw_below_drewN | apply below_drew1) | exact HB.out)) hb); clear HB; have HB := n1_; clear n1_; clear hb)
            go_ret
            exact ⟨x6_1, by first | rfl | (simp; done), decide_eq_true PX.out, by repeat (first | (with_reducible first | exact HB.out | apply below_alloc | apply pw_below_drewN | apply below_drew1) | exact HB.out)⟩
        · rw [if_neg c5] at H
          exact absurd H (by simp)
      · rw [if_neg c4] at H
        have c4b0 : decide (x6_1 < (l0.length : Int)) = false := decide_eq_false c4
        clear c4
        obtain rfl := Option.some.inj H
        go_wp2
        go_ret
        exact ⟨-1, by first | rfl | (simp; done), rfl, by repeat (first | (with_reducible first | exact HB.out | apply below_alloc | apply pw_below_drewN | apply below_drew1) | exact HB.out)⟩
set_option maxHeartbeats 8000000 in
set_option maxRecDepth 100000 in
theorem slices_ContainsFunc_int_int.calls (k : Nat) (A0 : Option Addr) (c0 : Nat) (l0 : List Int) (a1_0 : Int) (a1_1 : Int) (a1_2 : ByteArray) (r : Bool) (w : World) (hr0 : Kd.C (Kd.int .i64) w A0 l0.length l0) (hc0 : l0.length ≤ c0) (h : slices_ContainsFunc_int_int.f k l0 a1_0 a1_1 a1_2 = some r) {g : Nat}
    (hbk : w.heap[g]? = some (.cells #[.int .i64 a1_0, .int .i64 a1_1, .string a1_2] 27 (0, 0))) :
    Calls Try.prog 52 #[.slice A0 l0.length c0, .func (.func 53) #[] #[.pointer (some ⟨g, 0, none⟩)]] w fun e w' => e = .returned (.bool r) ∧ Below w.heap.size w w' := by
  have HR0 := Aside0.mk hr0
  have HC0 := Aside0.mk hc0
  have BK := Aside0.mk hbk
  have HH := Aside0.mk h
  clear hr0 hc0 hbk h
  have HB := Aside0.mk (Below.refl w.heap.size w)
  go_enter Try.func52, Try.ntmps52
  go_wp2_with (go_at_call 55; (with_reducible refine (index_closure k _ _ l0 a1_0 a1_1 a1_2 r g _ ?side1 HC0.out HH.out ?side3).mono ?_); (case side1 => repeat (first | exact (Kd.C_below HR0.out HB.out) | (with_reducible refine Kd.C_alloc ?_ _) | (with_reducible refine Kd.C_drewN ?_ _) | (with_reducible refine Kd.C_drew ?_))); (case side3 => (with_reducible repeat (first | refine blk_drewN ?_ _ | refine blk_drew ?_ | refine blk_alloc ?_ _)); exact BK.out); rintro e w10 ⟨n, rfl, hn, hb⟩; have HN := Aside0.mk hn; have n1_ := Aside0.mk (below_step (by repeat (first | (with_reducible first | exact HB.out | apply below_alloc | apply pw_below_drewN | apply below_drew1) | exact HB.out)) hb); clear HB; have HB := n1_; clear n1_; clear hb hn)
  go_ret
  exact ⟨by first | rfl | (rw [HN.out]; rfl), by repeat (first | (with_reducible first | exact HB.out | apply below_alloc | apply pw_below_drewN | apply below_drew1) | exact HB.out)⟩

/-! ### bits_Mul32: function 63 -/
def bits_Mul32.f (a0 : Int) (a1 : Int) : Option (Int × Int) := some (((IntKind.u64.wrap ((IntKind.u64.wrap (a0)) * (IntKind.u64.wrap (a1)))) / 4294967296) % 4294967296, (IntKind.u64.wrap ((IntKind.u64.wrap (a0)) * (IntKind.u64.wrap (a1)))) % 4294967296)
set_option maxHeartbeats 8000000 in
set_option maxRecDepth 100000 in
theorem bits_Mul32.calls (a0 : Int) (a1 : Int) (r1 : Int) (r2 : Int) (w : World) (h : bits_Mul32.f a0 a1 = some (r1, r2)) :
    Calls Try.prog 63 #[.int .u32 a0, .int .u32 a1] w fun e w' => e = .returned (.tuple #[.int .u32 r1, .int .u32 r2]) ∧ Drawn0 w w' := by
  have H : (some (((IntKind.u64.wrap ((IntKind.u64.wrap (a0)) * (IntKind.u64.wrap (a1)))) / 4294967296) % 4294967296, (IntKind.u64.wrap ((IntKind.u64.wrap (a0)) * (IntKind.u64.wrap (a1)))) % 4294967296)) = some (r1, r2) := h
  clear h
  simp only [Option.some.injEq, Prod.mk.injEq] at H
  obtain ⟨rfl, rfl⟩ := H
  go_enter Try.func63, Try.ntmps63
  go_wp2
  go_ret2
  exact ⟨by first | rfl | (simp; done) | (simp [*]; done), by repeat (first | exact Drawn0.refl _ | apply Drawn0.step)⟩

/-! ### bits_Mul64: function 64 -/
def bits_Mul64.f (a0 : Int) (a1 : Int) : Option (Int × Int) := some (IntKind.u64.wrap ((IntKind.u64.wrap ((IntKind.u64.wrap ((a0 / 4294967296) * (a1 / 4294967296))) + ((IntKind.u64.wrap ((IntKind.u64.wrap ((a0 / 4294967296) * (Go.bits .and .u64 a1 4294967295))) + ((IntKind.u64.wrap ((Go.bits .and .u64 a0 4294967295) * (Go.bits .and .u64 a1 4294967295))) / 4294967296))) / 4294967296))) + ((IntKind.u64.wrap ((Go.bits .and .u64 (IntKind.u64.wrap ((IntKind.u64.wrap ((a0 / 4294967296) * (Go.bits .and .u64 a1 4294967295))) + ((IntKind.u64.wrap ((Go.bits .and .u64 a0 4294967295) * (Go.bits .and .u64 a1 4294967295))) / 4294967296))) 4294967295) + (IntKind.u64.wrap ((Go.bits .and .u64 a0 4294967295) * (a1 / 4294967296))))) / 4294967296)), IntKind.u64.wrap (a0 * a1))
set_option maxHeartbeats 8000000 in
set_option maxRecDepth 100000 in
theorem bits_Mul64.calls (a0 : Int) (a1 : Int) (r1 : Int) (r2 : Int) (w : World) (h : bits_Mul64.f a0 a1 = some (r1, r2)) :
    Calls Try.prog 64 #[.int .u64 a0, .int .u64 a1] w fun e w' => e = .returned (.tuple #[.int .u64 r1, .int .u64 r2]) ∧ Drawn0 w w' := by
  have H : (some (IntKind.u64.wrap ((IntKind.u64.wrap ((IntKind.u64.wrap ((a0 / 4294967296) * (a1 / 4294967296))) + ((IntKind.u64.wrap ((IntKind.u64.wrap ((a0 / 4294967296) * (Go.bits .and .u64 a1 4294967295))) + ((IntKind.u64.wrap ((Go.bits .and .u64 a0 4294967295) * (Go.bits .and .u64 a1 4294967295))) / 4294967296))) / 4294967296))) + ((IntKind.u64.wrap ((Go.bits .and .u64 (IntKind.u64.wrap ((IntKind.u64.wrap ((a0 / 4294967296) * (Go.bits .and .u64 a1 4294967295))) + ((IntKind.u64.wrap ((Go.bits .and .u64 a0 4294967295) * (Go.bits .and .u64 a1 4294967295))) / 4294967296))) 4294967295) + (IntKind.u64.wrap ((Go.bits .and .u64 a0 4294967295) * (a1 / 4294967296))))) / 4294967296)), IntKind.u64.wrap (a0 * a1))) = some (r1, r2) := h
  clear h
  simp only [Option.some.injEq, Prod.mk.injEq] at H
  obtain ⟨rfl, rfl⟩ := H
  go_enter Try.func64, Try.ntmps64
  go_wp2
  go_ret2
  exact ⟨by first | rfl | (simp; done) | (simp [*]; done), by repeat (first | exact Drawn0.refl _ | apply Drawn0.step)⟩

/-! ### bits_Mul: function 62 -/
def bits_Mul.f (a0 : Int) (a1 : Int) : Option (Int × Int) := (bits_Mul64.f a0 a1).bind fun bt226 => (some (bt226.1, bt226.2))
set_option maxHeartbeats 8000000 in
set_option maxRecDepth 100000 in
theorem bits_Mul.calls (a0 : Int) (a1 : Int) (r1 : Int) (r2 : Int) (w : World) (h : bits_Mul.f a0 a1 = some (r1, r2)) :
    Calls Try.prog 62 #[.int .u64 a0, .int .u64 a1] w fun e w' => e = .returned (.tuple #[.int .u64 r1, .int .u64 r2]) ∧ Drawn0 w w' := by
  have H : ((bits_Mul64.f a0 a1).bind fun bt226 => (some (bt226.1, bt226.2))) = some (r1, r2) := h
  clear h
  replace H := Option.bind_eq_some_iff.mp H
  obtain ⟨⟨t226, t227⟩, A30, H⟩ := H
  replace H : (some (t226, t227)) = some (r1, r2) := H
  have A3 := Aside0.mk A30
  clear A30
  simp only [Option.some.injEq, Prod.mk.injEq] at H
  obtain ⟨rfl, rfl⟩ := H
  go_enter Try.func62, Try.ntmps62
  go_wp2_with (first | ((with_reducible refine gate_callee (f := 64) rfl ?_); refine goesL_ (some 25) rfl rfl Try.func64 (by kernel_rfl) rfl #[.int .u64 a0, .int .u64 a1] rfl (by (try simp only [List.map_toArray, List.map_cons, List.map_nil]); first | done | rfl | (simp only [List.length_drop, List.length_take]; rfl)) ?_; (with_reducible refine (bits_Mul64.calls a0 a1 t226 t227 _ A3.out).mono ?_); rintro e w' ⟨rfl, ⟨nd, rfl⟩⟩; refine ⟨_, rfl, ?_⟩))
  go_ret2
  exact ⟨by first | rfl | (simp; done) | (simp [*]; done), by repeat (first | exact Drawn0.refl _ | apply Drawn0.step)⟩

/-! ### slices_Repeat_int_int: function 54 -/
def slices_Repeat_int_int.l0 : Nat → Int → Int → List Int → Int → Option (List Int)
  | 0, _, _, _, _ => none
  | k + 1, x1, x9, x10, x11 => if x11 < x1 then (if x10.length < 17592186044416 then (slices_Repeat_int_int.l0 k x1 x9 (x10 ++ [x9]) (wrap64 (x11 + 1))) else (none)) else (some x10)
def slices_Repeat_int_int.f (k : Nat) (l0 : List Int) (a1 : Int) : Option (List Int) := if 0 ≤ (wrap64 ((wrap64 ((l0.length : Int) + (l0.length : Int))) - 2)) then (if (wrap64 ((wrap64 ((l0.length : Int) + (l0.length : Int))) - 2)) < (l0.length : Int) then (slices_Repeat_int_int.l0 k a1 (rd l0 (wrap64 ((wrap64 ((l0.length : Int) + (l0.length : Int))) - 2))) ([] : List Int) 0) else (none)) else (none)
theorem slices_Repeat_int_int.mono_l : ∀ k, (∀ y0 y1 y2 y3, LeO (slices_Repeat_int_int.l0 k y0 y1 y2 y3) (slices_Repeat_int_int.l0 (k + 1) y0 y1 y2 y3))
  | 0 => fun _ _ _ _ r h => by simp [slices_Repeat_int_int.l0] at h
  | k + 1 => by
    have ih0 := slices_Repeat_int_int.mono_l k
    · intro y0 y1 y2 y3
      unfold slices_Repeat_int_int.l0
      repeat' first
      | (with_reducible exact ih0 _ _ _ _)
      | (with_reducible exact LeO.refl _)
      | (with_reducible exact LeO.none _)
      | (with_reducible refine LeO.ite ?_ ?_)
      | (with_reducible refine LeO.bind ?_ (fun _ => ?_))
      | exact ih0 _ _ _ _
      | exact LeO.none _
      | refine LeO.ite ?_ ?_
      | refine LeO.bind ?_ (fun _ => ?_)
theorem slices_Repeat_int_int.mono : ∀ a0 a1 k, LeO (slices_Repeat_int_int.f k a0 a1) (slices_Repeat_int_int.f (k + 1) a0 a1) := by
  intro a0 a1 k
  have ih0 := slices_Repeat_int_int.mono_l k
  unfold slices_Repeat_int_int.f
  repeat' first
      | (with_reducible exact ih0 _ _ _ _)
      | (with_reducible exact LeO.refl _)
      | (with_reducible exact LeO.none _)
      | (with_reducible refine LeO.ite ?_ ?_)
      | (with_reducible refine LeO.bind ?_ (fun _ => ?_))
      | exact ih0 _ _ _ _
      | exact LeO.none _
      | refine LeO.ite ?_ ?_
      | refine LeO.bind ?_ (fun _ => ?_)
theorem rpt_size3 : (Try.prog.info? 3).map (·.size) = some 1 := by kernel_rfl
theorem rpt_rep_l0 : ∀ (k : Nat) (x1 x9 : Int) (x10 : List Int) (i : Int) (r : List Int), 0 ≤ i → (x10.length : Int) = i → slices_Repeat_int_int.l0 k x1 x9 x10 i = some r → r = x10 ++ List.replicate (x1 - i).toNat x9 ∧ (x1 ≤ i ∨ x1 ≤ 17592186044416) := by
  intro k
  induction k with
  | zero => intro x1 x9 x10 i r _ _ h; simp [slices_Repeat_int_int.l0] at h
  | succ k ih =>
    intro x1 x9 x10 i r h0 hl h
    rw [slices_Repeat_int_int.l0] at h
    by_cases c : i < x1
    · rw [if_pos c] at h
      by_cases c2 : x10.length < 17592186044416
      · rw [if_pos c2] at h
        have hw : wrap64 (i + 1) = i + 1 := by unfold wrap64; omega
        rw [hw] at h
        obtain ⟨e1, e2⟩ := ih x1 x9 _ (i + 1) r (by omega) (by rw [List.length_append]; simp; omega) h
        refine ⟨?_, by omega⟩
        rw [e1, show (x1 - i).toNat = (x1 - (i + 1)).toNat + 1 by omega, List.replicate_succ, List.append_assoc]
        rfl
      · rw [if_neg c2] at h; exact absurd h (by simp)
    · rw [if_neg c] at h
      refine ⟨?_, .inl (by omega)⟩
      rw [← Option.some.inj h, show (x1 - i).toNat = 0 by omega, List.replicate_zero, List.append_nil]
theorem rpt_u64w (n : Int) (h₀ : 0 ≤ n) (h₁ : n < 9223372036854775808) : IntKind.u64.wrap n = n := by rw [IntKind.wrap_u64]; omega
theorem rpt_mask32 (n : Int) (h₀ : 0 ≤ n) (h₁ : n < 9223372036854775808) : Go.bits .and .u64 n 4294967295 = n % 4294967296 := by
  have h := bits_mask .u64 63 (by decide) (fun n a b => rpt_u64w n a (by simpa using b)) 32 (by decide) n h₀ (by simpa using h₁)
  simpa using h
theorem rpt_mul_one (n : Int) (h₀ : 0 ≤ n) (h₁ : n ≤ 17592186044416) : bits_Mul.f 1 n = some (0, n) := by
  unfold bits_Mul.f bits_Mul64.f
  rw [rpt_mask32 1 (by omega) (by omega), rpt_mask32 n h₀ (by omega), show (1 : Int) / 4294967296 = 0 from rfl, show (1 : Int) % 4294967296 = 1 from rfl]
  have e0 : (n % 4294967296) / 4294967296 = 0 := by omega
  have e1 : (n / 4294967296) / 4294967296 = 0 := by omega
  simp only [Int.zero_mul, Int.one_mul, Int.zero_add, Option.bind_some]
  rw [rpt_u64w 0 (by omega) (by omega), rpt_u64w n h₀ (by omega), rpt_u64w (n % 4294967296) (by omega) (by omega), rpt_u64w (n / 4294967296) (by omega) (by omega)]
  simp only [Int.zero_add, e0]
  have z : IntKind.u64.wrap 0 = 0 := rpt_u64w 0 (by omega) (by omega)
  simp only [z, Int.zero_ediv, rpt_mask32 0 (by omega) (by omega), Int.zero_emod, Int.zero_add, rpt_u64w (n / 4294967296) (by omega) (by omega), e1]
set_option maxHeartbeats 8000000 in
set_option maxRecDepth 100000 in
theorem slices_Repeat_int_int.calls (k : Nat) (A0 : Option Addr) (c0 : Nat) (l0 : List Int) (a1 : Int) (r : List Int) (w : World) (hr0 : Kd.C (Kd.int .i64) w A0 l0.length l0) (hc0 : l0.length ≤ c0) (h : slices_Repeat_int_int.f k l0 a1 = some r)
    (h1 : l0.length = 1) (hp : 0 ≤ a1) :
    Calls Try.prog 54 #[.slice A0 l0.length c0, .int .i64 a1] w fun e w' => ∃ v0_ : Value, e = .returned (v0_) ∧ Kd.R (Kd.int .i64) 3 w' w.heap.size (fun _ => True) v0_ r ∧ Below w.heap.size w w' := by
  obtain ⟨q, rfl⟩ := List.length_eq_one_iff.1 h1
  have hx : wrap64 (wrap64 ((([q] : List Int).length : Int) + (([q] : List Int).length : Int)) - 2) = 0 := by rw [List.length_singleton]; unfold wrap64; omega
  unfold slices_Repeat_int_int.f at h
  rw [hx, if_pos (by omega), if_pos (by simp)] at h
  obtain ⟨hr, hb⟩ := rpt_rep_l0 k a1 _ [] 0 r (by omega) rfl h
  clear h hx
  have e0 : rd [q] 0 = q := rfl
  rw [e0, List.nil_append, Int.sub_zero] at hr
  have hb : a1 ≤ 17592186044416 := by omega
  have HR0 := Aside0.mk hr0
  have HC0 := Aside0.mk hc0
  have MU := Aside0.mk (rpt_mul_one a1 hp hb)
  have c1 : decide (a1 < 0) = false := decide_eq_false (by omega)
  have w1_ : IntKind.u64.wrap a1 = a1 := rpt_u64w a1 hp (by omega)
  have w2_ : IntKind.u64.wrap ((([q] : List Int).length : Int)) = 1 := by rw [List.length_singleton]; exact rpt_u64w 1 (by omega) (by omega)
  clear hr0 hc0
  have HB := Aside0.mk (Below.refl w.heap.size w)
  go_enter Try.func54, Try.ntmps54
  have CB := Aside0.mk (show a1.toNat ≤ 17592186044416 by omega)
  have CP := Aside0.mk hp
  obtain ⟨Z, hZ⟩ : ∃ Z, Z = List.replicate a1.toNat (0 : Int) := ⟨_, rfl⟩
  have NZ := Aside0.mk hZ.symm
  have LZ := Aside0.mk (show Z.length = a1.toNat by rw [hZ, List.length_replicate])
  clear hZ
  obtain ⟨m1, hm1⟩ : ∃ m1, m1 = min 1 Z.length := ⟨_, rfl⟩
  have NM := Aside0.mk hm1.symm
  have hg1 : decide ((0 : Int) > 0) = false := by decide
  have hg2 : decide (a1 > 9223372036854775807) = false := decide_eq_false (by omega)
  have w3_ : IntKind.i64.wrap a1 = a1 := by rw [IntKind.wrap_i64]; omega
  clear hm1
  go_wp2_with (first | (go_at_call 62; (with_reducible refine (bits_Mul.calls 1 a1 0 a1 _ MU.out).mono ?_); rintro e w10 ⟨rfl, ⟨nd, rfl⟩⟩) | ((with_reducible refine gate_dst (N := 30) rfl ?_); refine Kd.R_make (Kd.int .i64) _ 3 rfl (N := 30) rfl 25 _ _ rfl a1 rfl rfl Try.underlying25 (.int .i64 0) 8 info3 rfl (by decide) (by omega) 0 (ok := fun _ => True) (okp := fun _ => True) rfl (fun _ hk => hk) trivial CP.out (Nat.le_trans (Nat.mul_le_mul_right _ CB.out) (by omega)) (Below.refl _ _) (Nat.le_refl _) ?_; intro v165 w4 ho5 hb hg_ hnew_; clear hg_ hnew_; rw [NZ.out] at ho5; have n0_ := Aside0.mk (Kd.R_lower ho5 (below_size (by repeat (first | (with_reducible first | exact HB.out | apply below_alloc | apply pw_below_drewN | apply below_drew1) | exact HB.out)))); have n1_ := Aside0.mk (below_step (by repeat (first | (with_reducible first | exact HB.out | apply below_alloc | apply pw_below_drewN | apply below_drew1) | exact HB.out)) hb); clear HB; have HO166 := n0_; have HB := n1_; clear n0_ n1_; clear hb ho5) | ((with_reducible refine gate_dst (N := 33) rfl ?_); refine Kd.R_copy (0 : Int) w.heap.size rfl (.tmp 31) (.tmp 32) 25 25 3 rfl Try.underlying25 rpt_size3 v165 Z [q] A0 1 c0 (fun _ => True) rfl rfl HO166.out ?side1 HB.out (below_size HB.out) ?_; (case side1 => exact Kd.C_below HR0.out HB.out); intro w5 ho hb hg; rw [NM.out] at ho ⊢; clear hg; clear HO166; clear HB; have HO5 := Aside0.mk ho; have HB := Aside0.mk hb; clear ho hb))
  have hL : (List.take m1 [q] ++ List.drop m1 Z).length = Z.length := by
    have := NM.out
    rw [List.length_append, List.length_take, List.length_drop, List.length_singleton]; omega
  obtain ⟨hl, ho⟩ := Kd.own_of_R HO5.out
  rw [hL] at ho
  clear hl
  clear HO5
  rcases ho with ⟨rfl, hn0⟩ | ⟨g, cap, cur, rfl, hbase, hh, hnc, hcm, hcs, htake⟩
  · obtain rfl : m1 = 0 := by have := NM.out; omega
    have ha0 : a1.toNat = 0 := by have := LZ.out; omega
    go_loopg [8] 0 (fun kq v8 w' => v8 = .int .i64 0 ∧ Aside0 (Below w.heap.size w w'))
    case atStart => exact ⟨rfl, HB⟩
    case round =>
      clear HB
      obtain ⟨rfl, HB⟩ := hrel
      go_wp2
      go_ret
      exact ⟨_, rfl, by rw [hr, ha0]; exact Kd.R_nil _ _ _ _ _, HB.out⟩
  · rw [Nat.mul_one] at hcs htake
    have hX : cur.toList.take m1 = List.replicate m1 (.int .i64 q) := by
      have hm := NM.out
      have e1 : cur.toList.take m1 = (cur.toList.take Z.length).take m1 := by rw [List.take_take, Nat.min_eq_left (by omega)]
      rw [e1, htake]
      obtain rfl | rfl : m1 = 0 ∨ m1 = 1 := by omega
      · rfl
      · rfl
    have HX := Aside0.mk hX
    have HCS := Aside0.mk (show cur.toList.length = cap by rw [Array.length_toList]; exact hcs)
    have HG := Aside0.mk (show w5.heap[g]? = some (.cells cur.toList.toArray 3 (0, 0)) by rw [Array.toArray_toList]; exact hh)
    have NB := Aside0.mk hbase
    have NC := Aside0.mk hnc
    have CM := Aside0.mk hcm
    clear hX hh hnc hcm hcs htake hbase hL
    generalize cur.toList = X0 at HX HCS HG
    clear cur
    go_loopg [8] (Z.length - m1) (fun kq v8 w' => ∃ (x8 : Nat) (X : List Value), v8 = .int .i64 (x8 : Int) ∧ Aside0 (kq + x8 = Z.length ∧ (x8 = Z.length ∨ 1 ≤ x8)) ∧ Aside0 (X.length = cap ∧ X.take x8 = List.replicate x8 (.int .i64 q)) ∧ Aside0 (w'.heap[g]? = some (.cells X.toArray 3 (0, 0))) ∧ Aside0 (Below w.heap.size w w'))
    case atStart => exact ⟨m1, X0, rfl, ⟨by have := NM.out; omega⟩, ⟨HCS.out, HX.out⟩, HG, HB⟩
    case round =>
      clear HB HG HX HCS
      obtain ⟨x8, X, rfl, HI, HX, HG, HB⟩ := hrel
      by_cases c : x8 < Z.length
      · have c37 : decide ((x8 : Int) < (Z.length : Int)) = true := decide_eq_true (by omega)
        have hnc := NC.out
        have hcap := CM.out
        have hx1 : x8 ≤ Z.length := by omega
        have hx2 : x8 ≤ cap := by omega
        have hx3 : x8 < cap := by omega
        obtain ⟨m, hm⟩ : ∃ m, m = Nat.min x8 (Z.length - x8) := ⟨_, rfl⟩
        have hmx : m ≤ x8 ∧ m ≤ Z.length - x8 ∧ 1 ≤ m := by have := HI.out; rw [show Nat.min x8 (Z.length - x8) = min x8 (Z.length - x8) from rfl] at hm; omega
        have hcl : (X.take m).length = m := by have := HX.out.1; rw [List.length_take]; omega
        have hXm : X.take m = List.replicate m (.int .i64 q) := by
          have e1 : X.take m = (X.take x8).take m := by rw [List.take_take, Nat.min_eq_left hmx.1]
          rw [e1, HX.out.2, List.take_replicate, Nat.min_eq_left hmx.1]
        have h1c : ∀ v ∈ X.take m, v.oneCell' = true := by
          intro v hv
          rw [hXm, List.mem_replicate] at hv
          rw [hv.2]; rfl
        have hfit : x8 + (X.take m).length ≤ X.length := by rw [hcl, HX.out.1]; omega
        have hsrc : ∀ (j : Nat) (v : Value), (X.take m)[j]? = some v → wr.drew.cell? ((⟨g, 0, none⟩ : Addr).add j) = some v := by
          intro j v hv
          have hc := cell_of_row wr g (0 + j) X.toArray 3 (0, 0) HG.out
          have hj : X[j]? = some v := by
            rw [List.getElem?_take] at hv
            split at hv
            · exact hv
            · cases hv
          rw [Nat.zero_add] at hc
          rw [add_plain]
          refine Eq.trans (b := X.toArray[j]?) hc ?_
          rw [List.getElem?_toArray]; exact hj
        have hspl : (splice X x8 (X.take m)).length = cap ∧ (splice X x8 (X.take m)).take (x8 + m) = List.replicate (x8 + m) (.int .i64 q) := by
          refine ⟨by rw [length_splice _ _ _ hfit]; exact HX.out.1, ?_⟩
          unfold splice
          rw [← List.append_assoc, HX.out.2, hXm, List.replicate_append_replicate, List.take_append_of_le_length (by rw [List.length_replicate]; exact Nat.le_refl _), List.take_of_length_le (by rw [List.length_replicate]; exact Nat.le_refl _)]
        have hne : ¬ cap = x8 := by omega
        have hw : IntKind.i64.wrap ((x8 : Int) + (m : Int)) = ((x8 + m : Nat) : Int) := by
          have := LZ.out; have := CB.out; rw [IntKind.wrap_i64]; omega
        generalize X.take m = cs at hcl hXm h1c hfit hsrc hspl
        have HS := Aside0.mk hspl
        have HM := Aside0.mk hmx
        have HW := Aside0.mk hw
        have HCL := Aside0.mk hcl
        have HCM := Aside0.mk hm
        clear hspl hmx hw hXm hm hcl
        go_wp2
        go_region_law (refine step_copy_splice rfl (.tmp 41) (.tmp 44) 25 25 rfl 3 Try.underlying25 rpt_size3 (some ⟨g, x8, none⟩) (some ⟨g, 0, none⟩) (Z.length - x8) (cap - x8) x8 cap (by simp [Act.eval, Act.put, hne]) (by simp [Act.eval, Act.put]) g x8 X 3 HG.out cs (HCL.out.trans HCM.out) (fun _ => ⟨rfl, _, rfl, hsrc⟩) hfit h1c w.heap.size w (by repeat (first | exact HB.out | apply pw_below_drewN | apply below_drew1)) NB.out ?_; intro w6 hg6 hb6)
        go_wp2
        go_roundg (gk - m)
        case measure => have := HM.out; have := HI.out; omega
        case rel => exact ⟨x8 + m, splice X x8 cs, by rw [HCL.out, HW.out], ⟨by have := HM.out; have := HI.out; omega⟩, HS, ⟨hg6⟩, ⟨hb6⟩⟩
      · have hx : x8 = Z.length := by have := HI.out; omega
        have c37 : decide ((x8 : Int) < (Z.length : Int)) = false := decide_eq_false (by omega)
        go_wp2
        go_ret
        refine ⟨_, rfl, ?_, HB.out⟩
        refine Kd.R_of_own ?_ (fun _ _ => trivial)
        have hlr : r.length = Z.length := by rw [hr, List.length_replicate, LZ.out]
        rw [hlr]
        refine ⟨?_, .inr ⟨g, cap, X.toArray, rfl, NB.out, HG.out, NC.out, CM.out, ?_, ?_⟩⟩
        · rw [encs_length, hlr, Nat.mul_one]
        · have := HX.out.1; simpa using this
        · have := HX.out.2
          rw [hx] at this
          rw [Nat.mul_one, hr, ← LZ.out]
          refine Eq.trans this ?_
          unfold encs
          rw [List.map_replicate]

end Go.Proofs.Ytpmieegflolflaa.PFnExactHomes
