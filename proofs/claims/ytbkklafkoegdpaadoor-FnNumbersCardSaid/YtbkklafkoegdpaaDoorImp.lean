/- What impl.Decimal and impl.ReadDecimal of this seat answer, over the shelf's contracts on strconv.Itoa and strconv.Atoi; what the rows' list of five variables gives; a world that fits. -/
import Derived.Test.YtbkklafkoegdpaaDoorShelf
import Derived.Test.YtbkklafkoegdpaaDoorCards
import Derived.Test.YtbkklafkoegdpaaDoorTie
import Derived.Shelf.Strconv.Itoa3
import Derived.Shelf.Strconv.AtoiAll
import Derived.Shelf.Strconv.ErrVarAll
import Derived.WalkKit
import Derived.ProofKit
import Derived.OpenShut
import Derived.Deep.DeepHandedRow
import Derived.Lib.LaidTab
import Derived.Lib.AppendIntMem
import Derived.Lib.AtoiAllCases
import Derived.Stop.LaidErr
namespace Go.Proofs.YtbkklafkoegdpaaDoor.fnDec
open Go.ChangeShapes Go.WideShapes Go.ChangeAt Go.RowKit

theorem own : ownKnob Tryd.prog.godebug = none := by kernel_rfl
theorem gTab : Tryd.prog.globalNamed "internal/strconv.uint64pow10" = some 3 := by kernel_rfl
theorem gTabType : (Tryd.prog.globals[3]?).map (·.type) = some 83 := by kernel_rfl
theorem cells83 : Tryd.prog.cellsOf 83 = 20 := by kernel_rfl
theorem cells64 : Tryd.prog.cellsOf 64 = 1 := by kernel_rfl
theorem laid_eq : (Rows.laid_internal_strconv_uint64pow10 : DataW Unit) = Lib.tabData .u64 Lib.pow10Tab := by kernel_rfl
theorem gES : Tryd.prog.globalNamed "strconv.ErrSyntax" = some 0 := by kernel_rfl
theorem gESType : (Tryd.prog.globals[0]?).map (·.type) = some 38 := by kernel_rfl
theorem gER : Tryd.prog.globalNamed "strconv.ErrRange" = some 1 := by kernel_rfl
theorem gERType : (Tryd.prog.globals[1]?).map (·.type) = some 38 := by kernel_rfl
theorem cells80 : Tryd.prog.cellsOf 80 = 1 := by kernel_rfl
theorem cells9 : Tryd.prog.cellsOf 9 = 1 := by kernel_rfl
theorem star : "*" ++ "errors.errorString" = "*errors.errorString" := by decide
theorem rowPtr (u : TypeId) (h : Tryd.prog.typeName? 3 u = some "*errors.errorString") : u = 78 :=
  typeName_ptr_named (nm := "errors.errorString") (by rw [star]; kernel_rfl) (by kernel_rfl) (by decide) u (by rw [star]; exact h)
def laidL : List (String × DataW Unit) := [("math/bits.deBruijn32tab", Rows.laid_math_bits_deBruijn32tab), ("math/bits.deBruijn64tab", Rows.laid_math_bits_deBruijn64tab), ("internal/strconv.uint64pow10", Rows.laid_internal_strconv_uint64pow10), ("strconv.ErrRange", Rows.laid_strconv_ErrRange), ("strconv.ErrSyntax", Rows.laid_strconv_ErrSyntax)]
/-- What the list gives. -/
structure Has (W : World) : Prop where
  tab : Lib.TabIs Tryd.prog W "internal/strconv.uint64pow10" .u64 Lib.pow10Tab
  es : ∃ p, W.var? Tryd.prog "strconv.ErrSyntax" = some #[.iface 78 p]
  er : ∃ p, W.var? Tryd.prog "strconv.ErrRange" = some #[.iface 78 p]
theorem has {W : World} (h : laidMetH Tryd.prog laidL W) : Has W := by
  have h' : laidMet Tryd.prog laidL W := h
  unfold laidL at h'
  have h3 := h'.tail.tail
  have h4 := h3.tail
  have h5 := h4.tail
  rw [laid_eq] at h3
  obtain ⟨a0, s0, hv0, -, -, -⟩ := laid_sentinel h5 gES gESType Tryd.underlying38 rowPtr Tryd.underlying78 Tryd.underlying80 rfl rfl Tryd.underlying9 cells80 cells9
  obtain ⟨a1, s1, hv1, -, -, -⟩ := laid_sentinel h4 gER gERType Tryd.underlying38 rowPtr Tryd.underlying78 Tryd.underlying80 rfl rfl Tryd.underlying9 cells80 cells9
  exact ⟨Lib.tabIs_of_head gTab gTabType Tryd.underlying83 Tryd.underlying64 cells64 cells83 h3, ⟨_, hv0⟩, ⟨_, hv1⟩⟩
theorem var_below {W W' : World} (hb : Below W.heap.size W W') {n : String} {cs : Array Value} (h : W.var? Tryd.prog n = some cs) : W'.var? Tryd.prog n = some cs := by
  unfold World.var? at h ⊢
  cases hg : Tryd.prog.globalNamed n with
  | none => simp [hg] at h
  | some g =>
    simp only [hg, Option.bind_some] at h ⊢
    have hlt : g < W.heap.size := by
      rcases Nat.lt_or_ge g W.heap.size with h' | h'
      · exact h'
      · simp [Array.getElem?_eq_none h'] at h
    rw [hb.block g hlt]
    exact h
theorem Has.on {W W' : World} (h : Has W) (hb : Below W.heap.size W W') : Has W' :=
  ⟨var_below hb h.tab, h.es.imp fun _ e => var_below hb e, h.er.imp fun _ e => var_below hb e⟩

/-! ### impl.Decimal, impl.ReadDecimal -/
theorem impl_dec (n : Int) (h0 : -9223372036854775808 ≤ n) (h1 : n ≤ 9223372036854775807) (w : World) (hw : Has w) :
    Calls Tryd.prog 11 #[.int .i64 n] w fun e w' => e = .returned (.string ⟨(Lib.itoa n).toArray⟩) ∧ Below w.heap.size w w' := by
  have ht := hw.tab
  go_enter Tryd.func11, Tryd.ntmps11
  go_wp2_with (go_at_call 22; refine (Any.strconv_Itoa Tryd.laysItoa n h0 h1 _ ht).mono ?_; rintro e w' ⟨rfl, k, os, rfl⟩)
  go_ret
  exact ⟨rfl, Lib.below_grow _ _ (Nat.le_refl _) _ _⟩
theorem atoi_ok (s : ByteArray) (hs : s.size ≤ 281474976710656) (v : Int) (h : Lib.atoiAll s.data.toList = .ok v) (w : World) :
    Calls Tryd.prog 18 #[.string s] w fun e w' => e = .returned (.tuple #[.int .i64 v, .nilIface]) ∧ Below w.heap.size w w' := by
  refine (Any.strconv_Atoi_ok Tryd.laysAtoi s (by omega) v h w).mono ?_
  rintro e w' ⟨rfl, rfl | ⟨t, rfl⟩⟩
  · exact ⟨rfl, Below.refl _ _⟩
  · exact ⟨rfl, Lib.bytesWorld_below _ _ _⟩
theorem atoi_no (s : ByteArray) (hs : s.size ≤ 281474976710656) (h : ∀ v, Lib.atoiAll s.data.toList ≠ .ok v) (w : World) (hw : Has w) :
    Calls Tryd.prog 18 #[.string s] w fun e w' => ∃ n t p, e = .returned (.tuple #[.int .i64 n, .iface t p]) ∧ Below w.heap.size w w' := by
  obtain ⟨p0, h0⟩ := hw.es
  obtain ⟨p1, h1⟩ := hw.er
  cases e : Lib.atoiAll s.data.toList
  · rename_i v
    exact absurd e (h v)
  · refine (Any.strconv_Atoi_syntax_var Tryd.laysAtoi s hs e _ _ w h0).mono ?_
    rintro e w' ⟨N, rfl, -, -, hb⟩
    exact ⟨_, _, _, rfl, hb⟩
  · refine (Any.strconv_Atoi_range_var Tryd.laysAtoi s hs e _ _ w h1).mono ?_
    rintro e w' ⟨N, rfl, -, -, hb⟩
    exact ⟨_, _, _, rfl, hb⟩
/-- What ReadDecimal answers. -/
def readD (s : ByteArray) : Int × Bool :=
  match Lib.atoiAll s.data.toList with
  | .ok n => if 0 ≤ n then (if n ≤ 1000000000 then (if Lib.itoa n = s.toList then (n, true) else (0, false)) else (0, false)) else (0, false)
  | _ => (0, false)
theorem impl_read (s : ByteArray) (hs : s.size ≤ 281474976710656) (w : World) (hw : Has w) :
    Calls Tryd.prog 6 #[.string s] w fun e w' => e = .returned (.tuple #[.int .i64 (readD s).1, .bool (readD s).2]) ∧ Below w.heap.size w w' := by
  by_cases h : ∃ v, Lib.atoiAll s.data.toList = .ok v
  · obtain ⟨n, h⟩ := h
    have hn := Lib.atoiAll_bounds h
    by_cases c1 : 0 ≤ n
    · by_cases c2 : n ≤ 1000000000
      · by_cases c3 : Lib.itoa n = s.toList
        · have er : readD s = (n, true) := by unfold readD; rw [h]; simp only [if_pos c1, if_pos c2, if_pos c3]
          rw [er]
          clear er
          have c1b : decide (0 ≤ n) = true := decide_eq_true c1
          have c2b : decide (n ≤ 1000000000) = true := decide_eq_true c2
          have c3a := beq_iff_eq.mpr c3
          have c3b := bne_eq_false_iff_eq.mpr c3
          go_enter Tryd.func6, Tryd.ntmps6
          go_wp2_with (first
            | (go_at_call 18; refine (atoi_ok s hs n h _).mono ?_; rintro e w1 ⟨rfl, hb1⟩)
            | (go_at_call 11; refine (impl_dec n hn.1 hn.2 _ (hw.on ?_)).mono ?_; exact hb1; rintro e w2 ⟨rfl, hb2⟩)
            | go_in)
          go_ret2
          exact ⟨rfl, hb1.trans (hb2.mono hb1.size)⟩
        · have er : readD s = (0, false) := by unfold readD; rw [h]; simp only [if_pos c1, if_pos c2, if_neg c3]
          rw [er]
          clear er
          have c1b : decide (0 ≤ n) = true := decide_eq_true c1
          have c2b : decide (n ≤ 1000000000) = true := decide_eq_true c2
          have c3a := beq_eq_false_iff_ne.mpr c3
          have c3b := bne_iff_ne.mpr c3
          go_enter Tryd.func6, Tryd.ntmps6
          go_wp2_with (first
            | (go_at_call 18; refine (atoi_ok s hs n h _).mono ?_; rintro e w1 ⟨rfl, hb1⟩)
            | (go_at_call 11; refine (impl_dec n hn.1 hn.2 _ (hw.on ?_)).mono ?_; exact hb1; rintro e w2 ⟨rfl, hb2⟩)
            | go_in)
          go_ret2
          exact ⟨rfl, hb1.trans (hb2.mono hb1.size)⟩
      · have er : readD s = (0, false) := by unfold readD; rw [h]; simp only [if_pos c1, if_neg c2]
        rw [er]
        clear er
        have c1b : decide (0 ≤ n) = true := decide_eq_true c1
        have c2b : decide (n ≤ 1000000000) = false := decide_eq_false c2
        go_enter Tryd.func6, Tryd.ntmps6
        go_wp2_with (first
          | (go_at_call 18; refine (atoi_ok s hs n h _).mono ?_; rintro e w1 ⟨rfl, hb1⟩)
          | go_in)
        go_ret2
        exact ⟨rfl, hb1⟩
    · have er : readD s = (0, false) := by unfold readD; rw [h]; simp only [if_neg c1]
      rw [er]
      clear er
      have c1b : decide (0 ≤ n) = false := decide_eq_false c1
      go_enter Tryd.func6, Tryd.ntmps6
      go_wp2_with (first
        | (go_at_call 18; refine (atoi_ok s hs n h _).mono ?_; rintro e w1 ⟨rfl, hb1⟩)
        | go_in)
      go_ret2
      exact ⟨rfl, hb1⟩
  · have h' : ∀ v, Lib.atoiAll s.data.toList ≠ .ok v := fun v e => h ⟨v, e⟩
    have er : readD s = (0, false) := by
      unfold readD
      cases e : Lib.atoiAll s.data.toList
      · rename_i v
        exact absurd e (h' v)
      · rfl
      · rfl
    rw [er]
    clear er
    go_enter Tryd.func6, Tryd.ntmps6
    go_wp2_with (first
      | (go_at_call 18; refine (atoi_no s hs h' _ hw).mono ?_; rintro e w1 ⟨n, t, p, rfl, hb1⟩)
      | go_in)
    go_ret2
    exact ⟨rfl, hb1⟩
/-! ### a world that fits the list -/
abbrev synS : ByteArray := { data := #[105, 110, 118, 97, 108, 105, 100, 32, 115, 121, 110, 116, 97, 120] }
abbrev ranS : ByteArray := { data := #[118, 97, 108, 117, 101, 32, 111, 117, 116, 32, 111, 102, 32, 114, 97, 110, 103, 101] }
noncomputable def low : Nat := (World.holding Tryd.prog default ⟨#[], #[], []⟩).heap.size
noncomputable def laidWorld (os : Os) : World :=
  let w0 := World.holding Tryd.prog os ⟨#[.cells #[.string synS] 80, .cells #[.string ranS] 80], #[], []⟩
  { w0 with heap := ((((w0.heap.modify 0 fun
      | .cells _ t frozen => .cells #[.iface 78 (.pointer (some ⟨low, 0, none⟩))] t frozen
      | o => o).modify 1 fun
      | .cells _ t frozen => .cells #[.iface 78 (.pointer (some ⟨low + 1, 0, none⟩))] t frozen
      | o => o).modify 3 fun
      | .cells _ t frozen => .cells #[.int .u64 1, .int .u64 10, .int .u64 100, .int .u64 1000, .int .u64 10000, .int .u64 100000, .int .u64 1000000, .int .u64 10000000, .int .u64 100000000, .int .u64 1000000000, .int .u64 10000000000, .int .u64 100000000000, .int .u64 1000000000000, .int .u64 10000000000000, .int .u64 100000000000000, .int .u64 1000000000000000, .int .u64 10000000000000000, .int .u64 100000000000000000, .int .u64 1000000000000000000, .int .u64 10000000000000000000] t frozen
      | o => o).modify 4 fun
      | .cells _ t frozen => .cells #[.int .u8 0, .int .u8 1, .int .u8 28, .int .u8 2, .int .u8 29, .int .u8 14, .int .u8 24, .int .u8 3, .int .u8 30, .int .u8 22, .int .u8 20, .int .u8 15, .int .u8 25, .int .u8 17, .int .u8 4, .int .u8 8, .int .u8 31, .int .u8 27, .int .u8 13, .int .u8 23, .int .u8 21, .int .u8 19, .int .u8 16, .int .u8 7, .int .u8 26, .int .u8 12, .int .u8 18, .int .u8 6, .int .u8 11, .int .u8 5, .int .u8 10, .int .u8 9] t frozen
      | o => o).modify 5 fun
      | .cells _ t frozen => .cells #[.int .u8 0, .int .u8 1, .int .u8 56, .int .u8 2, .int .u8 57, .int .u8 49, .int .u8 28, .int .u8 3, .int .u8 61, .int .u8 58, .int .u8 42, .int .u8 50, .int .u8 38, .int .u8 29, .int .u8 17, .int .u8 4, .int .u8 62, .int .u8 47, .int .u8 59, .int .u8 36, .int .u8 45, .int .u8 43, .int .u8 51, .int .u8 22, .int .u8 53, .int .u8 39, .int .u8 33, .int .u8 30, .int .u8 24, .int .u8 18, .int .u8 12, .int .u8 5, .int .u8 63, .int .u8 55, .int .u8 48, .int .u8 27, .int .u8 60, .int .u8 41, .int .u8 37, .int .u8 16, .int .u8 46, .int .u8 35, .int .u8 44, .int .u8 21, .int .u8 52, .int .u8 32, .int .u8 23, .int .u8 11, .int .u8 54, .int .u8 26, .int .u8 40, .int .u8 15, .int .u8 34, .int .u8 20, .int .u8 31, .int .u8 10, .int .u8 25, .int .u8 14, .int .u8 19, .int .u8 9, .int .u8 13, .int .u8 8, .int .u8 7, .int .u8 6] t frozen
      | o => o }
end Go.Proofs.YtbkklafkoegdpaaDoor.fnDec
