/- For every int n the law FnExactDecimal answers true (spec.Decimal and strconv.Itoa write the same figures); the row's three tables are as the program's text lays them: the tied card. -/
import Derived.Test.YtacnlodcbbhahaaDoorQFnExactDecimalx1
import Derived.Test.YtacnlodcbbhahaaDoorCards
import Derived.Test.YtacnlodcbbhahaaDoorTie
import Derived.Shelf.Strconv.Itoa3
import Derived.Test.YtacnlodcbbhahaaDoorShelf
import Derived.WalkKit
import Derived.ProofKit
import Derived.OpenShut
import Derived.Deep.DeepHandedRow
import Derived.Lib.LaidTab
import Derived.Lib.AppendIntMem
import Derived.Stop.LaidErr
namespace Go.Proofs.YtacnlodcbbhahaaDoor.fnDec
open Go.ChangeShapes Go.WideShapes Go.ChangeAt Go.RowKit QFnExactDecimal

/-! ### the figures -/
def dgt (u : Nat) : ByteArray := ⟨#[UInt8.ofNat (48 + u % 10)]⟩
theorem nums_dgt (u : Nat) (h : u < 10) : strOfNums [(wrap64 (48 + (u : Int))) % 256] = dgt u := by
  have e : (wrap64 (48 + (u : Int))) % 256 = ((48 + u : Nat) : Int) := by unfold wrap64; omega
  rw [e]
  show (⟨([((48 + u : Nat) : Int)].map fun n => UInt8.ofNat n.toNat).toArray⟩ : ByteArray) = _
  rw [dgt, Nat.mod_eq_of_lt h]; rfl
theorem dgt_size (u : Nat) : (dgt u).size = 1 := rfl
theorem fig (u : Nat) (h : u < 10) : spec_l01Figure.f (u : Int) = some ((wrap64 (48 + (u : Int))) % 256) := by
  unfold spec_l01Figure.f; rw [if_pos (by omega)]
theorem step (m : Nat) (x : Int) (b : Bool) (s : ByteArray) (hx : x ≠ 0) (hs : s.size ≤ 1000) (h0 : -9223372036854775808 ≤ x) (h1 : x ≤ 9223372036854775807) :
    spec_Decimal.l0 (m + 1) x b s = spec_Decimal.l0 m (Int.tdiv x 10) b (dgt (x.natAbs % 10) ++ s) := by
  have hq : wrap64 (Int.tdiv x 10) = Int.tdiv x 10 := by
    rcases Int.le_total 0 x with h | h
    · rw [Int.tdiv_eq_ediv_of_nonneg h]; unfold wrap64; omega
    · obtain ⟨y, rfl⟩ : ∃ y, x = -y := ⟨-x, by omega⟩
      rw [Int.neg_tdiv, Int.tdiv_eq_ediv_of_nonneg (by omega)]; unfold wrap64; omega
  have hd : dgt (x.natAbs % 10) = strOfNums [(wrap64 (48 + ((x.natAbs % 10 : Nat) : Int))) % 256] := (nums_dgt _ (by omega)).symm
  have hz : (strOfNums [(wrap64 (48 + ((x.natAbs % 10 : Nat) : Int))) % 256]).size = 1 := by rw [← hd]; rfl
  rw [spec_Decimal.l0, if_neg hx]
  by_cases hn : Int.tmod x 10 < 0
  · have e : wrap64 (-(Int.tmod x 10)) = ((x.natAbs % 10 : Nat) : Int) := by
      obtain ⟨y, rfl⟩ : ∃ y, x = -y := ⟨-x, by omega⟩
      rcases Int.le_total 0 y with h | h
      · rw [Int.neg_tmod, Int.tmod_eq_emod_of_nonneg h]; unfold wrap64; omega
      · rw [Int.tmod_eq_emod_of_nonneg (by omega)] at hn; omega
    rw [if_pos hn, e, fig _ (by omega), Option.bind_some, Option.bind_some, hz, if_pos (by omega), hq, ← hd]
  · have e : Int.tmod x 10 = ((x.natAbs % 10 : Nat) : Int) := by
      rcases Int.le_total 0 x with h | h
      · rw [Int.tmod_eq_emod_of_nonneg h]; omega
      · obtain ⟨y, rfl⟩ : ∃ y, x = -y := ⟨-x, by omega⟩
        rw [Int.neg_tmod, Int.tmod_eq_emod_of_nonneg (by omega)] at hn ⊢; omega
    rw [if_neg hn, e, fig _ (by omega), Option.bind_some, Option.bind_some, hz, if_pos (by omega), hq, ← hd]
theorem tdiv_abs (x : Int) : (Int.tdiv x 10).natAbs = x.natAbs / 10 := by
  rcases Int.le_total 0 x with h | h
  · rw [Int.tdiv_eq_ediv_of_nonneg h]; omega
  · obtain ⟨y, rfl⟩ : ∃ y, x = -y := ⟨-x, by omega⟩
    rw [Int.neg_tdiv, Int.tdiv_eq_ediv_of_nonneg (by omega)]; omega
theorem app_size (a b : ByteArray) : (a ++ b).size = a.size + b.size := ByteArray.size_append
theorem digits : ∀ (u : Nat) (x : Int) (b : Bool) (s : ByteArray) (m : Nat), x.natAbs = u → 0 < u → u ≤ 9223372036854775808 → x ≤ 9223372036854775807 → s.size + Lib.nDigits u ≤ 1000 →
    spec_Decimal.l0 (m + Lib.nDigits u) x b s = spec_Decimal.l0 m 0 b (⟨(Lib.decDigits u).toArray⟩ ++ s) := by
  intro u
  induction u using Nat.strongRecOn with
  | ind u ih =>
    intro x b s m hx hu hb hx1 hs
    have hp := Lib.nDigits_pos u
    obtain ⟨d, hd⟩ : ∃ d, Lib.nDigits u = d + 1 := ⟨Lib.nDigits u - 1, by omega⟩
    rw [hd, ← Nat.add_assoc, step _ x b s (by omega) (by omega) (by omega) hx1, hx]
    by_cases h : u < 10
    · have e0 : Int.tdiv x 10 = 0 := by have := tdiv_abs x; omega
      have : d = 0 := by have := Lib.nDigits_small h; omega
      subst this
      rw [e0, Nat.mod_eq_of_lt h, Nat.add_zero, Lib.decDigits_one h]
      show spec_Decimal.l0 m 0 b (dgt u ++ s) = _
      rw [dgt, Nat.mod_eq_of_lt h]
    · have hd' : Lib.nDigits (u / 10) = d := by have := Lib.nDigits_big h; omega
      have e1 : (Int.tdiv x 10).natAbs = u / 10 := by rw [tdiv_abs, hx]
      have hz : (dgt (u % 10) ++ s).size = 1 + s.size := by rw [app_size, dgt_size]
      rw [← hd', ih (u / 10) (by omega) (Int.tdiv x 10) b (dgt (u % 10) ++ s) m e1 (by omega) (by omega) (by omega) (by rw [hz]; omega)]
      congr 1
      rw [Lib.decDigits.eq_1 u, dif_neg h, dgt]
      apply ByteArray.ext
      simp [ByteArray.data_append]
theorem nd20 (u : Nat) (h : u < 10 ^ 20) : Lib.nDigits u ≤ 20 := by
  by_cases h0 : Lib.nDigits u ≤ 20
  · exact h0
  · exfalso
    have key : ∀ (k v : Nat), v < 10 ^ (k + 1) → Lib.nDigits v ≤ k + 1 := by
      intro k
      induction k with
      | zero => intro v hv; rw [Lib.nDigits_small (by omega)]; omega
      | succ k ih =>
        intro v hv
        by_cases hv10 : v < 10
        · rw [Lib.nDigits_small hv10]; omega
        · rw [Lib.nDigits_big hv10]
          have := ih (v / 10) (by rw [Nat.pow_succ] at hv; omega)
          omega
    exact h0 (key 19 u h)
/-- spec.Decimal writes what strconv.Itoa writes. -/
theorem spec_text (n : Int) (h0 : -9223372036854775808 ≤ n) (h1 : n ≤ 9223372036854775807) : ∃ k, spec_Decimal.f k n = some ⟨(Lib.itoa n).toArray⟩ := by
  by_cases hz : n = 0
  · subst hz
    exact ⟨0, by unfold spec_Decimal.f; rw [if_pos rfl, Lib.itoa, if_neg (by decide), show ((0 : Int).toNat) = 0 from rfl, Lib.decDigits_one (by omega)]; rfl⟩
  · have hl : Lib.nDigits n.natAbs ≤ 20 := nd20 _ (by omega)
    refine ⟨1 + Lib.nDigits n.natAbs, ?_⟩
    unfold spec_Decimal.f
    rw [if_neg hz, digits n.natAbs n _ _ 1 rfl (by omega) (by omega) h1 (by show 0 + _ ≤ _; omega), spec_Decimal.l0, if_pos rfl]
    have hsz : ((⟨(Lib.decDigits n.natAbs).toArray⟩ : ByteArray) ++ (⟨#[]⟩ : ByteArray)).size ≤ 20 := by
      rw [app_size]; show (Lib.decDigits n.natAbs).toArray.size + 0 ≤ 20; simp [Lib.decDigits_length]; exact hl
    have he : (⟨(Lib.decDigits n.natAbs).toArray⟩ : ByteArray) ++ (⟨#[]⟩ : ByteArray) = ⟨(Lib.decDigits n.natAbs).toArray⟩ := by
      apply ByteArray.ext; simp [ByteArray.data_append]
    by_cases hn : n < 0
    · rw [if_pos (decide_eq_true hn), if_pos (by omega), he, Lib.itoa, if_pos hn]
      congr 1
    · rw [if_neg (by simp [hn]), he, Lib.itoa, if_neg hn]
      congr 4
      omega

/-! ### the walks -/
theorem own : ownKnob Tryd.prog.godebug = none := by kernel_rfl
theorem gTab : Tryd.prog.globalNamed "internal/strconv.uint64pow10" = some 0 := by kernel_rfl
theorem gTabType : (Tryd.prog.globals[0]?).map (·.type) = some 49 := by kernel_rfl
theorem cells49 : Tryd.prog.cellsOf 49 = 20 := by kernel_rfl
theorem cells38 : Tryd.prog.cellsOf 38 = 1 := by kernel_rfl
theorem laid_eq : (Rows.laid_internal_strconv_uint64pow10 : DataW Unit) = Lib.tabData .u64 Lib.pow10Tab := by kernel_rfl
theorem row_laid : Rows.fnExactDecimalRow.laid = [("math/bits.deBruijn32tab", Rows.laid_math_bits_deBruijn32tab), ("math/bits.deBruijn64tab", Rows.laid_math_bits_deBruijn64tab), ("internal/strconv.uint64pow10", Rows.laid_internal_strconv_uint64pow10)] := rfl
/-- What the row's list gives: the table of tens. -/
theorem table {W : World} (h : laidMetH Tryd.prog Rows.fnExactDecimalRow.laid W) : Lib.TabIs Tryd.prog W "internal/strconv.uint64pow10" .u64 Lib.pow10Tab := by
  rw [row_laid, laid_eq] at h
  exact Lib.tabIs_of_head (rest := []) gTab gTabType Tryd.underlying49 Tryd.underlying38 cells38 cells49 (h.tail.tail)

theorem grown_of (w : World) (k : Nat) (os : Array Obj) : Below w.heap.size w (Sort.grow (w.drewN k) os) := Lib.below_grow _ _ (Nat.le_refl _) _ _

theorem impl_walk (n : Int) (h0 : -9223372036854775808 ≤ n) (h1 : n ≤ 9223372036854775807) (w : World) (ht : Lib.TabIs Tryd.prog w "internal/strconv.uint64pow10" .u64 Lib.pow10Tab) :
    Calls Tryd.prog 6 #[.int .i64 n] w fun e w' => e = .returned (.string ⟨(Lib.itoa n).toArray⟩) ∧ Below w.heap.size w w' := by
  go_enter Tryd.func6, Tryd.ntmps6
  go_wp2_with (go_at_call 13; go_loud (refine (Any.strconv_Itoa Tryd.laysItoa n h0 h1 _ ht).mono ?_; rintro e w' ⟨rfl, k, os, rfl⟩))
  go_ret
  exact ⟨rfl, grown_of _ _ _⟩
theorem law_walk (n : Int) (h0 : -9223372036854775808 ≤ n) (h1 : n ≤ 9223372036854775807) (w : World) (ht : Lib.TabIs Tryd.prog w "internal/strconv.uint64pow10" .u64 Lib.pow10Tab) :
    Calls Tryd.prog 3 #[.int .i64 n] w fun e w' => e = .returned (.bool true) ∧ Below w.heap.size w w' := by
  obtain ⟨k, hk⟩ := spec_text n h0 h1
  have hT := Lib.tabBelow_of_tabIs ht
  go_enter Tryd.func3, Tryd.ntmps3
  go_wp2_with (first
    | (go_at_call 5; refine (spec_Decimal.calls k n _ _ hk).mono ?_; rintro e w1 ⟨rfl, hb1⟩)
    | (go_at_call 6; refine (impl_walk n h0 h1 _ (hT _ hb1)).mono ?_; rintro e w2 ⟨rfl, hb2⟩))
  go_ret
  exact ⟨rfl, hb1.trans (hb2.mono hb1.size)⟩
/-! ### the row and its card -/
theorem contract (H : Type) (enc : TypeId × Value → H) (W : World) (base : Nat) (args : Array Value) (ds gs : List (DataW H)) (before : List MemPlace)
    (hval : ∀ (j : Nat) t v, Tryd.f3.params[j]? = some t → args[j]? = some v → Value.okWide Tryd.prog W .any base t v)
    (hW : DataW.Whole enc Tryd.prog Tryd.f3.params.toList Rows.fnExactDecimalSpec.vars false W args.toList ds gs before) (hL : laidMetH Tryd.prog Rows.fnExactDecimalRow.laid W) :
    Calls Tryd.prog 3 args W fun e W' => ∃ v, e = .returned v ∧ Rows.fnExactDecimalSpec.post enc Tryd.prog Tryd.f3 false true false false W args v W' := by
  have hW' := hW
  obtain ⟨p, q, hA0, hV, rfl, hfz, hnd⟩ := hW
  have hA : DataW.TrodAll enc Tryd.prog W 0 (fun _ => true) true Tryd.f3.params.toList args.toList ds p := hA0
  rw [Tryd.params3] at hA hval
  obtain ⟨v0, vs0, d0, ds0, p0, q0, hargs, rfl, rfl, h0, r0⟩ := trodAll_cons hA
  obtain ⟨rfl, rfl, rfl⟩ := trodAll_nil r0
  obtain rfl : args = #[v0] := by cases args; simp_all
  obtain ⟨rfl, rfl⟩ := trodVars_none hV
  obtain ⟨n, rfl, rfl, rfl, wn⟩ := open_int Tryd.underlying3 (hval 0 3 v0 rfl rfl) h0
  clear hA0
  have e1 : IntKind.i64.min = -9223372036854775808 := rfl
  have e2 : IntKind.i64.max = 9223372036854775807 := rfl
  have b : -9223372036854775808 ≤ n ∧ n ≤ 9223372036854775807 := by
    have h := wn
    simp [Lit.wf, e1, e2] at h
    omega
  refine (law_walk n b.1 b.2 W (table hL)).mono fun e W' ⟨he, bel⟩ => ?_
  subst he
  exact ⟨_, rfl, _, _, _, [], _, [], hW', trodAll_mk1 (shut_bool Tryd.underlying4 _), (trodAll_cons_mk (shut_int Tryd.underlying3 wn) trodAll_mk0), rfl, bel.frame _, fun h => by cases h⟩

/-- A world for the witness: the settled one, the three tables as their initialisers lay them. -/
noncomputable def laidWorld (os : Os) : World :=
  let w0 := World.holding Tryd.prog os ⟨#[], #[], []⟩
  { w0 with heap := ((w0.heap.modify 0 fun
      | .cells _ t frozen => .cells #[.int .u64 1, .int .u64 10, .int .u64 100, .int .u64 1000, .int .u64 10000, .int .u64 100000, .int .u64 1000000, .int .u64 10000000, .int .u64 100000000, .int .u64 1000000000, .int .u64 10000000000, .int .u64 100000000000, .int .u64 1000000000000, .int .u64 10000000000000, .int .u64 100000000000000, .int .u64 1000000000000000, .int .u64 10000000000000000, .int .u64 100000000000000000, .int .u64 1000000000000000000, .int .u64 10000000000000000000] t frozen
      | o => o).modify 4 fun
      | .cells _ t frozen => .cells #[.int .u8 0, .int .u8 1, .int .u8 28, .int .u8 2, .int .u8 29, .int .u8 14, .int .u8 24, .int .u8 3, .int .u8 30, .int .u8 22, .int .u8 20, .int .u8 15, .int .u8 25, .int .u8 17, .int .u8 4, .int .u8 8, .int .u8 31, .int .u8 27, .int .u8 13, .int .u8 23, .int .u8 21, .int .u8 19, .int .u8 16, .int .u8 7, .int .u8 26, .int .u8 12, .int .u8 18, .int .u8 6, .int .u8 11, .int .u8 5, .int .u8 10, .int .u8 9] t frozen
      | o => o).modify 5 fun
      | .cells _ t frozen => .cells #[.int .u8 0, .int .u8 1, .int .u8 56, .int .u8 2, .int .u8 57, .int .u8 49, .int .u8 28, .int .u8 3, .int .u8 61, .int .u8 58, .int .u8 42, .int .u8 50, .int .u8 38, .int .u8 29, .int .u8 17, .int .u8 4, .int .u8 62, .int .u8 47, .int .u8 59, .int .u8 36, .int .u8 45, .int .u8 43, .int .u8 51, .int .u8 22, .int .u8 53, .int .u8 39, .int .u8 33, .int .u8 30, .int .u8 24, .int .u8 18, .int .u8 12, .int .u8 5, .int .u8 63, .int .u8 55, .int .u8 48, .int .u8 27, .int .u8 60, .int .u8 41, .int .u8 37, .int .u8 16, .int .u8 46, .int .u8 35, .int .u8 44, .int .u8 21, .int .u8 52, .int .u8 32, .int .u8 23, .int .u8 11, .int .u8 54, .int .u8 26, .int .u8 40, .int .u8 15, .int .u8 34, .int .u8 20, .int .u8 31, .int .u8 10, .int .u8 25, .int .u8 14, .int .u8 19, .int .u8 9, .int .u8 13, .int .u8 8, .int .u8 7, .int .u8 6] t frozen
      | o => o }
theorem laid_met (os : Os) : laidMet Tryd.prog Rows.fnExactDecimalRow.laid ((laidWorld os).forCall (fun _ _ => 0) ⟨#[], #[.int .i64 0], []⟩).memory :=
  laidMet_of_run' 8 (by kernel_rfl) (by kernel_rfl)
theorem reads (os : Os) {H : Type} (enc : TypeId × Value → H) : ∃ places, DataW.whole enc Tryd.prog ((laidWorld os).forCall (fun _ _ => 0) ⟨#[], #[.int .i64 0], []⟩).memory Tryd.f3.params.toList Rows.fnExactDecimalSpec.vars false #[Value.int .i64 0].toList 8 = some ([.lit (.int .i64 0)], [], places) :=
  ⟨[], by kernel_rfl⟩
set_option maxRecDepth 100000 in
theorem lifted (os : Os) (started : os.Started) (H : Type) (enc : TypeId × Value → H) (F : Stop.Interp) :
    ReturnsInHanded {} Tryd.checked os 3 .any ((OpenSpec.ofChange Rows.fnExactDecimalSpec).preRow enc Tryd.prog Tryd.f3 Rows.fnExactDecimalRow.domain false Rows.fnExactDecimalRow.laid) (((OpenSpec.ofChange Rows.fnExactDecimalSpec).at F).post enc Tryd.prog Tryd.f3 false true false false) := by
  obtain ⟨places, hx⟩ := reads os enc
  refine returnsInHanded_of_row (C := Tryd.checked) (s := OpenSpec.ofChange Rows.fnExactDecimalSpec) own started (by kernel_rfl) Tryd.func3
    (witness_row_at (enc := enc) (C := Tryd.checked) false (laidWorld os) #[.int .i64 0] rfl (by kernel_rfl) (by kernel_rfl) (by kernel_rfl)
      (OpenSpec.preRow_of_cond 8 hx (by kernel_rfl) (fun k hk => by cases hk) (by kernel_rfl) (laid_met os))) ?_
  intro W base args ds gs before hval hW _ _ _ hL _ _
  exact contract H enc W base args ds gs before hval hW hL
theorem said : Rows.FnExactDecimalSaid :=
  OpenClaim.holds_of_cond 3 Tryd.f3 rfl rfl rfl rfl rfl rfl rfl ⟨rfl, rfl, rfl, rfl, rfl⟩ rfl rfl rfl rfl rfl (by kernel_rfl) Tryd.func3 (by kernel_rfl)
    (of_decide_eq_true (by kernel_rfl)) (by unfold Func.isWrapper; first | (rw [if_pos (by decide +kernel)]; kernel_rfl) | (rw [if_neg (by decide +kernel)]; exact ⟨rfl, rfl⟩))
    (fun os started H enc _ F => by rw [OpenClaim.pre_eq_preRow]; exact lifted os started H enc F)
/-- No parameter wants a stand-in; the program's own looks are off. -/
theorem plain (f : FuncId) (fn : Func) (hf : Tryd.pinned.checked.prog.funcNamed "loop.example/g00130/laws.FnExactDecimal" = some f) (hfn : Tryd.pinned.checked.prog.funcs[f]? = some fn) :
    false = Tryd.pinned.checked.prog.looks [] ∧ ∀ (j : Nat) t, fn.params[j]? = some t → Tryd.pinned.checked.prog.wantsStandIn t = false := by
  obtain rfl : f = 3 := Option.some.inj ((show Tryd.prog.funcNamed "loop.example/g00130/laws.FnExactDecimal" = some 3 by kernel_rfl).symm.trans hf) |>.symm
  obtain rfl : fn = Tryd.f3 := (Option.some.inj (Tryd.func3.symm.trans hfn)).symm
  refine ⟨by kernel_rfl, fun j t ht => ?_⟩
  rw [Tryd.params3] at ht
  obtain rfl : t = 3 := by simpa using Array.mem_of_getElem? ht
  exact (show Tryd.prog.wantsStandIn 3 = false by kernel_rfl)
theorem card : Rows.FnExactDecimalCardSaid :=
  Claim7.holds_tied_plain_at .later [] _ _ _ _ said (fun _ h => by cases h) (by kernel_rfl) (fun _ h => by cases h) fnExactDecimal_row_tie rfl ⟨rfl, rfl⟩ (by kernel_rfl) rfl plain (by kernel_rfl)
#print axioms card
end Go.Proofs.YtacnlodcbbhahaaDoor.fnDec
namespace Go.Proofs.YtacnlodcbbhahaaDoor
/-- The tied card, under a short name, for the claim. -/
theorem fnExactDecimal_holds : Rows.FnExactDecimalCardSaid := fnDec.card
end Go.Proofs.YtacnlodcbbhahaaDoor
