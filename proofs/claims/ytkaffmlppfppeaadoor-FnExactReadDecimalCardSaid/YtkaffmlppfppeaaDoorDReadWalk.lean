/- The program's signed (between 0 and 1000000000) and ReadDecimal: the library's Atoi at every string, and Decimal. -/
import Derived.Test.YtkaffmlppfppeaaDoorShelf
import Derived.Test.YtkaffmlppfppeaaDoorDLaidAtoi
import Derived.Test.YtkaffmlppfppeaaDoorPureFnExactReadDecimal
import Derived.Stop.LaidErr
import Derived.Lib.AtoiErrMem
import Derived.WalkKit
namespace Go.Proofs.YtkaffmlppfppeaaDoor
open Go.RowKit Go.Proofs.YtkaffmlppfppeaaDoor.MReadDecimal

theorem var_below {w w' : World} {n : String} {x : Array Value} (h : w.var? Tryd.prog n = some x) (hb : Below w.heap.size w w') : w'.var? Tryd.prog n = some x := by
  unfold World.var? at *
  cases hg : Tryd.prog.globalNamed n with
  | none => simp [hg] at h
  | some g =>
    simp only [hg, Option.bind_some] at h ⊢
    have hlt : g < w.heap.size := by
      rcases Nat.lt_or_ge g w.heap.size with h' | h'
      · exact h'
      · rw [Array.getElem?_eq_none h'] at h; simp at h
    rw [hb.block g hlt]
    exact h

/-- What the listed variables give the walks. -/
def Laid (w : World) : Prop :=
  Lib.TabIs Tryd.prog w "internal/strconv.uint64pow10" .u64 Lib.pow10Tab ∧ (∃ tp p, w.var? Tryd.prog "strconv.ErrSyntax" = some #[.iface tp p]) ∧ ∃ tp p, w.var? Tryd.prog "strconv.ErrRange" = some #[.iface tp p]
theorem Laid.on {w w' : World} (h : Laid w) (hb : Below w.heap.size w w') : Laid w' := by
  obtain ⟨h1, ⟨a, b, h2⟩, c, d, h3⟩ := h
  exact ⟨var_below h1 hb, ⟨a, b, var_below h2 hb⟩, c, d, var_below h3 hb⟩

theorem star : "*" ++ "errors.errorString" = "*errors.errorString" := by decide
theorem row120 (u : TypeId) (h : Tryd.prog.typeName? 3 u = some "*errors.errorString") : u = 120 :=
  typeName_ptr_named (nm := "errors.errorString") (by rw [star]; kernel_rfl) (by kernel_rfl) (by decide) u (by rw [star]; exact h)
theorem gES : Tryd.prog.globalNamed "strconv.ErrSyntax" = some 1 := by kernel_rfl
theorem gER : Tryd.prog.globalNamed "strconv.ErrRange" = some 2 := by kernel_rfl
theorem gESType : (Tryd.prog.globals[1]?).map (·.type) = some 62 := by kernel_rfl
theorem gERType : (Tryd.prog.globals[2]?).map (·.type) = some 62 := by kernel_rfl
theorem cells122 : Tryd.prog.cellsOf 122 = 1 := by kernel_rfl
theorem cells9 : Tryd.prog.cellsOf 9 = 1 := by kernel_rfl

theorem laid_of {W : World} {n0 n1 : String} {d0 d1 : DataW Unit} {rest : List (String × DataW Unit)} (hL : laidMet Tryd.prog ((n0, d0) :: (n1, d1) :: ("internal/strconv.uint64pow10", Rows.laid_internal_strconv_uint64pow10) ::
    ("strconv.ErrRange", Rows.laid_strconv_ErrRange) :: ("strconv.ErrSyntax", Rows.laid_strconv_ErrSyntax) :: rest) W) : Laid W := by
  refine ⟨tab_of hL, ?_, ?_⟩
  · obtain ⟨a0, s0, hv0, -, -, -⟩ := laid_sentinel hL.tail.tail.tail.tail gES gESType Tryd.underlying62 row120 Tryd.underlying120 Tryd.underlying122 rfl rfl Tryd.underlying9 cells122 cells9
    exact ⟨_, _, hv0⟩
  · obtain ⟨a0, s0, hv0, -, -, -⟩ := laid_sentinel hL.tail.tail.tail gER gERType Tryd.underlying62 row120 Tryd.underlying120 Tryd.underlying122 rfl rfl Tryd.underlying9 cells122 cells9
    exact ⟨_, _, hv0⟩

set_option maxRecDepth 100000 in
set_option maxHeartbeats 2000000 in
theorem impl_signed (s : ByteArray) (hs : s.size ≤ 281474976710656) (w : World) (htab : Lib.TabBelow Tryd.prog w.heap.size w "internal/strconv.uint64pow10" .u64 Lib.pow10Tab)
    (tp0 tp1 : TypeId) (p0 p1 : Value) (hv0 : w.var? Tryd.prog "strconv.ErrSyntax" = some #[.iface tp0 p0]) (hv1 : w.var? Tryd.prog "strconv.ErrRange" = some #[.iface tp1 p1]) (r0 : Int) (r1 : Bool) (hr : Is s.data.toList (r0, r1)) :
    Calls Tryd.prog 32 #[.string s, .int .i64 0, .int .i64 1000000000] w fun e w' => e = .returned (.tuple #[.int .i64 r0, .bool r1]) ∧ Below w.heap.size w w' := by
  cases h : Lib.atoiAll s.data.toList with
  | ok v =>
    obtain ⟨b0, b1⟩ := Lib.atoiAll_bounds h
    have key : ∀ w1 : World, Below w.heap.size w w1 → Lib.TabIs Tryd.prog w1 "internal/strconv.uint64pow10" .u64 Lib.pow10Tab := fun w1 hb => (htab.on hb).here
    have at1 : ∀ w1 : World, (w1 = w ∨ ∃ t, w1 = Lib.bytesWorld w 5 t) → Below w.heap.size w w1 := by
      rintro w1 (rfl | ⟨t, rfl⟩)
      · exact Below.refl _ _
      · exact Lib.bytesWorld_below _ _ _
    by_cases c1 : v < 0
    · obtain ⟨rfl, rfl⟩ := Prod.mk.inj (Is.unique hr (is_bad h (Or.inl c1)))
      have d1 : decide (v < 0) = true := decide_eq_true c1
      go_enter Tryd.func32, Tryd.ntmps32
      go_wp2_with (first
        | (go_at_call 48; refine (Tryd.strconv_Atoi_ok s (by omega) v h _).mono ?_; rintro e w1 ⟨rfl, hw⟩; have hb1 := at1 _ hw; clear hw))
      all_goals (go_ret2; exact ⟨rfl, hb1⟩)
    · have d1 : decide (v < 0) = false := decide_eq_false c1
      by_cases c2 : v > 1000000000
      · obtain ⟨rfl, rfl⟩ := Prod.mk.inj (Is.unique hr (is_bad h (Or.inr (Or.inl c2))))
        have d2 : decide (1000000000 < v) = true := decide_eq_true c2
        go_enter Tryd.func32, Tryd.ntmps32
        go_wp2_with (first
          | (go_at_call 48; refine (Tryd.strconv_Atoi_ok s (by omega) v h _).mono ?_; rintro e w1 ⟨rfl, hw⟩; have hb1 := at1 _ hw; clear hw))
        all_goals (go_ret2; exact ⟨rfl, hb1⟩)
      · have d2 : decide (1000000000 < v) = false := decide_eq_false c2
        by_cases c3 : Lib.itoa v = s.data.toList
        · obtain ⟨rfl, rfl⟩ := Prod.mk.inj (Is.unique hr (is_ok h c1 c2 c3))
          have hs3 : (Lib.itoa r0 == s.toList) = true := by rw [ByteArray.toList_eq]; exact beq_iff_eq.2 c3
          clear c3
          go_enter Tryd.func32, Tryd.ntmps32
          go_wp2_with (first
            | (go_at_call 48; refine (Tryd.strconv_Atoi_ok s (by omega) r0 h _).mono ?_; rintro e w1 ⟨rfl, hw⟩; have hb1 := at1 _ hw; clear hw)
            | (go_at_call 10; refine (impl_decimal r0 b0 b1 _ (key _ hb1)).mono ?_; rintro e w2 ⟨rfl, hb2⟩))
          all_goals (go_ret2; exact ⟨rfl, hb1.trans (hb2.mono hb1.size)⟩)
        · obtain ⟨rfl, rfl⟩ := Prod.mk.inj (Is.unique hr (is_bad h (Or.inr (Or.inr c3))))
          have hs3 : (Lib.itoa v == s.toList) = false := by rw [ByteArray.toList_eq]; exact beq_eq_false_iff_ne.2 c3
          clear c3
          go_enter Tryd.func32, Tryd.ntmps32
          go_wp2_with (first
            | (go_at_call 48; refine (Tryd.strconv_Atoi_ok s (by omega) v h _).mono ?_; rintro e w1 ⟨rfl, hw⟩; have hb1 := at1 _ hw; clear hw)
            | (go_at_call 10; refine (impl_decimal v b0 b1 _ (key _ hb1)).mono ?_; rintro e w2 ⟨rfl, hb2⟩))
          all_goals (go_ret2; exact ⟨rfl, hb1.trans (hb2.mono hb1.size)⟩)
  | range =>
    obtain ⟨rfl, rfl⟩ := Prod.mk.inj (Is.unique hr (is_err (fun v e => by rw [h] at e; cases e)))
    go_enter Tryd.func32, Tryd.ntmps32
    go_wp2_with (first
      | (go_at_call 48; refine (Tryd.strconv_Atoi_range_var s hs h tp1 p1 _ hv1).mono ?_; rintro e w1 ⟨N, rfl, -, -, hb1⟩))
    all_goals (go_ret2; exact ⟨rfl, hb1⟩)
  | _ =>
    obtain ⟨rfl, rfl⟩ := Prod.mk.inj (Is.unique hr (is_err (fun v e => by rw [h] at e; cases e)))
    go_enter Tryd.func32, Tryd.ntmps32
    go_wp2_with (first
      | (go_at_call 48; refine (Tryd.strconv_Atoi_syntax_var s hs (fun v e => by rw [h] at e; cases e) (fun e => by rw [h] at e; cases e) tp0 p0 _ hv0).mono ?_; rintro e w1 ⟨N, rfl, -, -, hb1⟩))
    all_goals (go_ret2; exact ⟨rfl, hb1⟩)

theorem impl_readDecimal (s : ByteArray) (hs : s.size ≤ 281474976710656) (w : World) (hL : Laid w) (r0 : Int) (r1 : Bool) (hr : Is s.data.toList (r0, r1)) :
    Calls Tryd.prog 12 #[.string s] w fun e w' => e = .returned (.tuple #[.int .i64 r0, .bool r1]) ∧ Below w.heap.size w w' := by
  obtain ⟨h1, ⟨tp0, p0, h2⟩, tp1, p1, h3⟩ := hL
  go_enter Tryd.func12, Tryd.ntmps12
  go_wp2_with (go_at_call 32; refine (impl_signed s hs _ (Lib.tabBelow_of_tabIs h1) tp0 tp1 p0 p1 h2 h3 r0 r1 hr).mono ?_; rintro e w1 ⟨rfl, hb1⟩)
  all_goals (go_ret2; exact ⟨rfl, hb1⟩)
end Go.Proofs.YtkaffmlppfppeaaDoor
