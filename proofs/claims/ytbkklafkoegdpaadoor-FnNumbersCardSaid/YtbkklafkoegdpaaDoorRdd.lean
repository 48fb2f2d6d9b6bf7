/- For every text of at most 1048576 bytes (and past them by the law's own first row) the law FnExactReadDecimal answers true; the row's five variables are as the program's text lays them: the tied card. -/
import Derived.Test.YtbkklafkoegdpaaDoorImp
import Derived.Test.YtbkklafkoegdpaaDoorQFnExactReadDecimalx1
import Derived.ShutString
namespace Go.Proofs.YtbkklafkoegdpaaDoor.fnRdd
open Go.ChangeShapes Go.WideShapes Go.ChangeAt Go.RowKit QFnExactReadDecimal fnDec Go.Proofs.YtbkklafkoegdpaaDoorW.PrintWords
open Go.ChangeMaps (open_string shut_string)

/-! ### the figures -/
def dgt (u : Nat) : ByteArray := ⟨#[UInt8.ofNat (48 + u % 10)]⟩
theorem nums_dgt (u : Nat) (h : u < 10) : strOfNums [(wrap64 (48 + (u : Int))) % 256] = dgt u := by
  have e : (wrap64 (48 + (u : Int))) % 256 = ((48 + u : Nat) : Int) := by unfold wrap64; omega
  rw [e]
  show (⟨([((48 + u : Nat) : Int)].map fun n => UInt8.ofNat n.toNat).toArray⟩ : ByteArray) = _
  rw [dgt, Nat.mod_eq_of_lt h]; rfl
theorem dgt_size (u : Nat) : (dgt u).size = 1 := rfl
theorem fig (u : Nat) (h : u < 10) : spec_l01Figure.f (u : Int) = some ((wrap64 (48 + (u : Int))) % 256) := by
  unfold spec_l01Figure.f; rw [if_pos (by omega)]
theorem step (m : Nat) (x : Int) (b : Bool) (s : ByteArray) (hx : x ≠ 0) (hs : s.size ≤ 1000) (h0 : -9223372036854775808 ≤ x) (h1 : x ≤ 9223372036854775807) :
    spec_Decimal.l0 (m + 1) x b s = spec_Decimal.l0 m (Int.tdiv x 10) b (dgt (x.natAbs % 10) ++ s) := by
  have hq : wrap64 (Int.tdiv x 10) = Int.tdiv x 10 := by
    rcases Int.le_total 0 x with h | h
    · rw [Int.tdiv_eq_ediv_of_nonneg h]; unfold wrap64; omega
    · obtain ⟨y, rfl⟩ : ∃ y, x = -y := ⟨-x, by omega⟩
      rw [Int.neg_tdiv, Int.tdiv_eq_ediv_of_nonneg (by omega)]; unfold wrap64; omega
  have hd : dgt (x.natAbs % 10) = strOfNums [(wrap64 (48 + ((x.natAbs % 10 : Nat) : Int))) % 256] := (nums_dgt _ (by omega)).symm
  have hz : (strOfNums [(wrap64 (48 + ((x.natAbs % 10 : Nat) : Int))) % 256]).size = 1 := by rw [← hd]; rfl
  rw [spec_Decimal.l0, if_neg hx]
  by_cases hn : Int.tmod x 10 < 0
  · have e : wrap64 (-(Int.tmod x 10)) = ((x.natAbs % 10 : Nat) : Int) := by
      obtain ⟨y, rfl⟩ : ∃ y, x = -y := ⟨-x, by omega⟩
      rcases Int.le_total 0 y with h | h
      · rw [Int.neg_tmod, Int.tmod_eq_emod_of_nonneg h]; unfold wrap64; omega
      · rw [Int.tmod_eq_emod_of_nonneg (by omega)] at hn; omega
    rw [if_pos hn, e, fig _ (by omega), Option.bind_some, Option.bind_some, hz, if_pos (by omega), hq, ← hd]
  · have e : Int.tmod x 10 = ((x.natAbs % 10 : Nat) : Int) := by
      rcases Int.le_total 0 x with h | h
      · rw [Int.tmod_eq_emod_of_nonneg h]; omega
      · obtain ⟨y, rfl⟩ : ∃ y, x = -y := ⟨-x, by omega⟩
        rw [Int.neg_tmod, Int.tmod_eq_emod_of_nonneg (by omega)] at hn ⊢; omega
    rw [if_neg hn, e, fig _ (by omega), Option.bind_some, Option.bind_some, hz, if_pos (by omega), hq, ← hd]
theorem tdiv_abs (x : Int) : (Int.tdiv x 10).natAbs = x.natAbs / 10 := by
  rcases Int.le_total 0 x with h | h
  · rw [Int.tdiv_eq_ediv_of_nonneg h]; omega
  · obtain ⟨y, rfl⟩ : ∃ y, x = -y := ⟨-x, by omega⟩
    rw [Int.neg_tdiv, Int.tdiv_eq_ediv_of_nonneg (by omega)]; omega
theorem app_size (a b : ByteArray) : (a ++ b).size = a.size + b.size := ByteArray.size_append
theorem digits : ∀ (u : Nat) (x : Int) (b : Bool) (s : ByteArray) (m : Nat), x.natAbs = u → 0 < u → u ≤ 9223372036854775808 → x ≤ 9223372036854775807 → s.size + Lib.nDigits u ≤ 1000 →
    spec_Decimal.l0 (m + Lib.nDigits u) x b s = spec_Decimal.l0 m 0 b (⟨(Lib.decDigits u).toArray⟩ ++ s) := by
  intro u
  induction u using Nat.strongRecOn with
  | ind u ih =>
    intro x b s m hx hu hb hx1 hs
    have hp := Lib.nDigits_pos u
    obtain ⟨d, hd⟩ : ∃ d, Lib.nDigits u = d + 1 := ⟨Lib.nDigits u - 1, by omega⟩
    rw [hd, ← Nat.add_assoc, step _ x b s (by omega) (by omega) (by omega) hx1, hx]
    by_cases h : u < 10
    · have e0 : Int.tdiv x 10 = 0 := by have := tdiv_abs x; omega
      have : d = 0 := by have := Lib.nDigits_small h; omega
      subst this
      rw [e0, Nat.mod_eq_of_lt h, Nat.add_zero, Lib.decDigits_one h]
      show spec_Decimal.l0 m 0 b (dgt u ++ s) = _
      rw [dgt, Nat.mod_eq_of_lt h]
    · have hd' : Lib.nDigits (u / 10) = d := by have := Lib.nDigits_big h; omega
      have e1 : (Int.tdiv x 10).natAbs = u / 10 := by rw [tdiv_abs, hx]
      have hz : (dgt (u % 10) ++ s).size = 1 + s.size := by rw [app_size, dgt_size]
      rw [← hd', ih (u / 10) (by omega) (Int.tdiv x 10) b (dgt (u % 10) ++ s) m e1 (by omega) (by omega) (by omega) (by rw [hz]; omega)]
      congr 1
      rw [Lib.decDigits.eq_1 u, dif_neg h, dgt]
      apply ByteArray.ext
      simp [ByteArray.data_append]
theorem nd20 (u : Nat) (h : u < 10 ^ 20) : Lib.nDigits u ≤ 20 := by
  by_cases h0 : Lib.nDigits u ≤ 20
  · exact h0
  · exfalso
    have key : ∀ (k v : Nat), v < 10 ^ (k + 1) → Lib.nDigits v ≤ k + 1 := by
      intro k
      induction k with
      | zero => intro v hv; rw [Lib.nDigits_small (by omega)]; omega
      | succ k ih =>
        intro v hv
        by_cases hv10 : v < 10
        · rw [Lib.nDigits_small hv10]; omega
        · rw [Lib.nDigits_big hv10]
          have := ih (v / 10) (by rw [Nat.pow_succ] at hv; omega)
          omega
    exact h0 (key 19 u h)
/-- spec.Decimal writes what strconv.Itoa writes. -/
theorem spec_text (n : Int) (h0 : -9223372036854775808 ≤ n) (h1 : n ≤ 9223372036854775807) : ∃ k, spec_Decimal.f k n = some ⟨(Lib.itoa n).toArray⟩ := by
  by_cases hz : n = 0
  · subst hz
    exact ⟨0, by unfold spec_Decimal.f; rw [if_pos rfl, Lib.itoa, if_neg (by decide), show ((0 : Int).toNat) = 0 from rfl, Lib.decDigits_one (by omega)]; rfl⟩
  · have hl : Lib.nDigits n.natAbs ≤ 20 := nd20 _ (by omega)
    refine ⟨1 + Lib.nDigits n.natAbs, ?_⟩
    unfold spec_Decimal.f
    rw [if_neg hz, digits n.natAbs n _ _ 1 rfl (by omega) (by omega) h1 (by show 0 + _ ≤ _; omega), spec_Decimal.l0, if_pos rfl]
    have hsz : ((⟨(Lib.decDigits n.natAbs).toArray⟩ : ByteArray) ++ (⟨#[]⟩ : ByteArray)).size ≤ 20 := by
      rw [app_size]; show (Lib.decDigits n.natAbs).toArray.size + 0 ≤ 20; simp [Lib.decDigits_length]; exact hl
    have he : (⟨(Lib.decDigits n.natAbs).toArray⟩ : ByteArray) ++ (⟨#[]⟩ : ByteArray) = ⟨(Lib.decDigits n.natAbs).toArray⟩ := by
      apply ByteArray.ext; simp [ByteArray.data_append]
    by_cases hn : n < 0
    · rw [if_pos (decide_eq_true hn), if_pos (by omega), he, Lib.itoa, if_pos hn]
      congr 1
    · rw [if_neg (by simp [hn]), he, Lib.itoa, if_neg hn]
      congr 4
      omega


/-! ### the number that a text spells -/
def scan : List UInt8 → Nat → Option Nat
  | [], acc => some acc
  | c :: r, acc => if 48 ≤ c.toNat ∧ c.toNat ≤ 57 then scan r (acc * 10 + (c.toNat - 48)) else none
theorem scan_app : ∀ (l r : List UInt8) (acc : Nat), scan (l ++ r) acc = (scan l acc).bind (scan r)
  | [], r, acc => rfl
  | c :: l, r, acc => by
    simp only [List.cons_append, scan]
    by_cases h : 48 ≤ c.toNat ∧ c.toNat ≤ 57
    · rw [if_pos h, if_pos h]; exact scan_app l r _
    · rw [if_neg h, if_neg h]; rfl
theorem dig_nat (d : Nat) (h : d < 10) : (UInt8.ofNat (48 + d)).toNat = 48 + d := by
  simp [UInt8.toNat_ofNat']; omega
theorem scan_dec (u : Nat) : scan (Lib.decDigits u) 0 = some u := by
  induction u using Nat.strongRecOn with
  | ind u ih =>
    by_cases h : u < 10
    · rw [Lib.decDigits_one h]
      simp only [scan]
      rw [dig_nat u h, if_pos (by omega)]
      congr 1; omega
    · rw [Lib.decDigits.eq_1 u, dif_neg h, scan_app, ih (u / 10) (by omega), Option.bind_some]
      simp only [scan]
      rw [dig_nat (u % 10) (by omega), if_pos (by omega)]
      congr 1; omega
theorem scan_ge : ∀ (l : List UInt8) (acc v : Nat), scan l acc = some v → acc ≤ v
  | [], acc, v, h => by simp only [scan] at h; injection h with h; omega
  | c :: r, acc, v, h => by
    simp only [scan] at h
    split at h
    · have := scan_ge r _ v h; omega
    · cases h
theorem scan_parse : ∀ (l : List UInt8) (acc v : Nat), scan l acc = some v → v < 18446744073709551616 → Lib.parseUint10 acc l = .ok v
  | [], acc, v, h, _ => by simp only [scan] at h; injection h with h; rw [Lib.parseUint10, h]
  | c :: r, acc, v, h, hv => by
    simp only [scan] at h
    split at h
    · rename_i hc
      have hg := scan_ge r _ v h
      rw [Lib.parseUint10, if_pos hc, if_neg (by omega), if_neg (by omega)]
      exact scan_parse r _ v h hv
    · cases h
theorem dec_ne (u : Nat) : Lib.decDigits u ≠ [] := by
  intro e
  have h1 := Lib.decDigits_length u
  have h2 := Lib.nDigits_pos u
  rw [e] at h1
  simp at h1
  omega
theorem dec_head (u : Nat) : ∀ c r, Lib.decDigits u = c :: r → 48 ≤ c.toNat ∧ c.toNat ≤ 57 := by
  intro c r e
  have h := scan_dec u
  rw [e] at h
  simp only [scan] at h
  split at h
  · assumption
  · cases h
theorem atoi_dec (u : Nat) (h : u ≤ 1000000000) : Lib.atoiAll (Lib.decDigits u) = .ok (u : Int) := by
  have hp : Lib.parseMag (Lib.decDigits u) = .ok u := by
    unfold Lib.parseMag
    rw [if_neg (dec_ne u)]
    exact scan_parse _ 0 u (scan_dec u) (by omega)
  cases e : Lib.decDigits u with
  | nil => exact absurd e (dec_ne u)
  | cons c r =>
    have hc := dec_head u c r e
    rw [e] at hp
    rw [Lib.atoiAll_plain c r (by omega) (by omega), hp]
    unfold Lib.signless
    simp only
    rw [if_neg (by omega)]
theorem bt_data (s : ByteArray) (i : Nat) (h : i < s.size) : bt s (i : Int) = ((s.data.toList[i]'(by simpa using h)).toNat : Int) := by
  rw [← bt_at s i h]
  rfl
theorem wr_step (a c : Nat) (ha : a < 1000000000) (h0 : 48 ≤ c) (h1 : c ≤ 57) : wrap64 ((wrap64 ((wrap64 (10 * (a : Int))) + (wrap64 (c : Int)))) - 48) = ((a * 10 + (c - 48) : Nat) : Int) := by
  have e1 : wrap64 (10 * (a : Int)) = 10 * a := by unfold wrap64; omega
  have e2 : wrap64 (c : Int) = c := by unfold wrap64; omega
  have e3 : wrap64 (10 * (a : Int) + c) = 10 * a + c := by unfold wrap64; omega
  have e4 : wrap64 (10 * (a : Int) + c - 48) = 10 * a + c - 48 := by unfold wrap64; omega
  rw [e1, e2, e3, e4]
  omega
theorem wr_one (i : Nat) (h : i ≤ 10) : wrap64 ((i : Int) + 1) = ((i + 1 : Nat) : Int) := by unfold wrap64; omega
theorem loop : ∀ (l : List UInt8) (s : ByteArray) (acc i K : Nat), s.data.toList.drop i = l → i + l.length = s.size → acc < 10 ^ i → s.size ≤ 10 →
    spec_ReadDecimal.l0 (l.length + (K + 1)) s (acc : Int) (i : Int) = match scan l acc with
      | none => some (0, false)
      | some v => spec_ReadDecimal.l0 (K + 1) s (v : Int) (s.size : Int)
  | [], s, acc, i, K, hd, hl, ha, hs => by
    have e : i = s.size := by simpa using hl
    simp only [scan, List.length_nil, Nat.zero_add]
    rw [e]
  | c :: r, s, acc, i, K, hd, hl, ha, hs => by
    have hi : i < s.size := by simp at hl; omega
    have hp : 10 ^ i ≤ 10 ^ 9 := Nat.pow_le_pow_right (by omega) (by omega)
    have hlen : i < s.data.toList.length := by simpa using hi
    have hc : s.data.toList[i]'hlen = c := by
      have := List.drop_eq_getElem_cons hlen
      rw [hd] at this
      injection this with h1 _
      exact h1.symm
    have hr : s.data.toList.drop (i + 1) = r := by
      have := List.drop_eq_getElem_cons hlen
      rw [hd] at this
      injection this with _ h2
      exact h2.symm
    have hb : bt s (i : Int) = (c.toNat : Int) := by rw [bt_data s i hi, hc]
    have hlt := c.toNat_lt
    rw [List.length_cons, show r.length + 1 + (K + 1) = (r.length + (K + 1)) + 1 by omega, spec_ReadDecimal.l0, if_pos (by omega), if_pos (by omega), hb]
    simp only [scan]
    by_cases h1 : 48 ≤ c.toNat ∧ c.toNat ≤ 57
    · rw [if_neg (by omega), if_neg (by omega), if_pos h1]
      have e1 := wr_step acc c.toNat (Nat.lt_of_lt_of_le ha hp) h1.1 h1.2
      have e2 := wr_one i (by omega)
      rw [e1, e2]
      exact loop r s _ (i + 1) K hr (by simp at hl; omega) (by rw [Nat.pow_succ]; omega) hs
    · rw [if_neg h1]
      by_cases h2 : (c.toNat : Int) < 48
      · rw [if_pos h2]
      · rw [if_neg h2, if_pos (by omega)]
theorem at_end (s : ByteArray) (v : Nat) (hv : v ≤ 9999999999) : ∃ K, ∀ J, K ≤ J → spec_ReadDecimal.l0 (J + 1) s (v : Int) (s.size : Int) =
    (if (v : Int) > 1000000000 then some (0, false) else if Lib.decDigits v = s.toList then some ((v : Int), true) else some (0, false)) := by
  obtain ⟨K, hK⟩ := spec_text v (by omega) (by omega)
  have up : ∀ d, spec_Decimal.f (K + d) v = some ⟨(Lib.itoa v).toArray⟩ := by
    intro d
    induction d with
    | zero => exact hK
    | succ d ih => exact spec_Decimal.mono v (K + d) _ ih
  refine ⟨K, fun J hJ => ?_⟩
  obtain ⟨d, rfl⟩ : ∃ d, J = K + d := ⟨J - K, by omega⟩
  rw [spec_ReadDecimal.l0, if_neg (by omega)]
  by_cases h1 : (v : Int) > 1000000000
  · rw [if_pos h1, if_pos h1]
  · rw [if_neg h1, if_neg h1, up d, Option.bind_some, Lib.itoa_nonneg]
    have e : (⟨(Lib.decDigits v).toArray⟩ : ByteArray).toList = Lib.decDigits v := by rw [Go.Lib.toList_data]
    rw [e]
theorem scan_lt : ∀ (l : List UInt8) (acc v : Nat), scan l acc = some v → v < (acc + 1) * 10 ^ l.length
  | [], acc, v, h => by simp only [scan] at h; injection h with h; simp; omega
  | c :: r, acc, v, h => by
    simp only [scan] at h
    split at h
    · rename_i hc
      have := scan_lt r _ v h
      have h3 : (acc * 10 + (c.toNat - 48) + 1) * 10 ^ r.length ≤ ((acc + 1) * 10) * 10 ^ r.length := Nat.mul_le_mul_right _ (by omega)
      rw [List.length_cons, Nat.pow_succ]
      calc v < _ := this
        _ ≤ _ := h3
        _ = _ := by rw [Nat.mul_assoc, Nat.mul_comm 10]
    · cases h
/-- spec.ReadDecimal answers what impl.ReadDecimal answers. -/
theorem spec_read (s : ByteArray) : ∃ k, spec_ReadDecimal.f k s = some ((readD s).1, (readD s).2) := by
  have hl : s.data.toList.length = s.size := by simp
  by_cases hg : ∃ u : Nat, u ≤ 1000000000 ∧ Lib.decDigits u = s.toList
  · obtain ⟨u, hu, e⟩ := hg
    have e' : Lib.decDigits u = s.data.toList := by rw [e, Go.Lib.toList_data]
    have er : readD s = ((u : Int), true) := by
      unfold readD
      rw [← e', atoi_dec u hu]
      simp only
      rw [if_pos (by omega), if_pos (by omega), Lib.itoa_nonneg, if_pos e]
    have hs : s.size ≤ 10 := by
      have h1 := Lib.decDigits_length u
      have h2 : Lib.nDigits u ≤ 10 := by
        by_cases h10 : u < 10
        · rw [Lib.nDigits_small h10]; omega
        · have key : ∀ (k v : Nat), v < 10 ^ (k + 1) → Lib.nDigits v ≤ k + 1 := by
            intro k
            induction k with
            | zero => intro v hv; rw [Lib.nDigits_small (by omega)]; omega
            | succ k ih =>
              intro v hv
              by_cases hv10 : v < 10
              · rw [Lib.nDigits_small hv10]; omega
              · rw [Lib.nDigits_big hv10]
                have := ih (v / 10) (by rw [Nat.pow_succ] at hv; omega)
                omega
          exact key 9 u (by omega)
      rw [e', hl] at h1
      omega
    obtain ⟨K, hK⟩ := at_end s u (by omega)
    refine ⟨s.data.toList.length + (K + 1), ?_⟩
    unfold spec_ReadDecimal.f
    rw [if_neg (by omega)]
    have := loop s.data.toList s 0 0 K rfl (by rw [hl]; omega) (by omega) hs
    rw [show ((0 : Nat) : Int) = 0 from rfl] at this
    rw [this, ← e', scan_dec u]
    simp only
    rw [hK K (Nat.le_refl _), if_neg (by omega), if_pos e, er]
  · have er : readD s = (0, false) := by
      unfold readD
      cases h : Lib.atoiAll s.data.toList
      · rename_i n
        simp only
        by_cases c1 : 0 ≤ n
        · rw [if_pos c1]
          by_cases c2 : n ≤ 1000000000
          · rw [if_pos c2, if_neg]
            intro c3
            apply hg
            refine ⟨n.toNat, by omega, ?_⟩
            rw [← c3, Lib.itoa, if_neg (by omega)]
          · rw [if_neg c2]
        · rw [if_neg c1]
      · rfl
      · rfl
    rw [er]
    by_cases hs : s.size ≤ 10
    · cases hc : scan s.data.toList 0 with
      | none =>
        refine ⟨s.data.toList.length + (0 + 1), ?_⟩
        unfold spec_ReadDecimal.f
        rw [if_neg (by omega)]
        have := loop s.data.toList s 0 0 0 rfl (by rw [hl]; omega) (by omega) hs
        rw [show ((0 : Nat) : Int) = 0 from rfl, hc] at this
        exact this
      | some v =>
        have hv := scan_lt _ 0 v hc
        have hp : 10 ^ s.data.toList.length ≤ 10 ^ 10 := Nat.pow_le_pow_right (by omega) (by omega)
        obtain ⟨K, hK⟩ := at_end s v (by omega)
        refine ⟨s.data.toList.length + (K + 1), ?_⟩
        unfold spec_ReadDecimal.f
        rw [if_neg (by omega)]
        have := loop s.data.toList s 0 0 K rfl (by rw [hl]; omega) (by omega) hs
        rw [show ((0 : Nat) : Int) = 0 from rfl, hc] at this
        simp only at this
        rw [this, hK K (Nat.le_refl _)]
        by_cases h1 : (v : Int) > 1000000000
        · rw [if_pos h1]
        · rw [if_neg h1, if_neg (fun e => hg ⟨v, by omega, e⟩)]
    · refine ⟨0, ?_⟩
      unfold spec_ReadDecimal.f
      rw [if_pos (by omega)]
/-! ### the walk, the row and its card -/
theorem law_walk (s : ByteArray) (hs : s.size ≤ 9223372036854775807) (w : World) (hw : Has w) :
    Calls Tryd.prog 3 #[.string s] w fun e w' => e = .returned (.bool true) ∧ Below w.heap.size w w' := by
  by_cases c : (s.size : Int) > 1048576
  · have cb : decide (1048576 < (s.size : Int)) = true := decide_eq_true c
    go_enter Tryd.func3, Tryd.ntmps3
    go_wp2
    go_ret
    exact ⟨rfl, Below.refl _ _⟩
  · have cb : decide (1048576 < (s.size : Int)) = false := decide_eq_false c
    obtain ⟨k, hk⟩ := spec_read s
    have hi : ∀ w1, Has w1 → Calls Tryd.prog 6 #[.string s] w1 fun e w' => e = .returned (.tuple #[.int .i64 (readD s).1, .bool (readD s).2]) ∧ Below w1.heap.size w1 w' := fun w1 hw1 => impl_read s (by omega) w1 hw1
    generalize (readD s).1 = r1 at hk hi
    generalize (readD s).2 = r2 at hk hi
    go_enter Tryd.func3, Tryd.ntmps3
    go_wp2_with (first
      | (go_at_call 5; refine (spec_ReadDecimal.calls k s r1 r2 _ hk).mono ?_; rintro e w1 ⟨rfl, hb1⟩)
      | (go_at_call 6; refine (hi _ (hw.on ?_)).mono ?_; exact hb1; rintro e w2 ⟨rfl, hb2⟩))
    go_ret
    exact ⟨rfl, hb1.trans (hb2.mono hb1.size)⟩
theorem contract (H : Type) (enc : TypeId × Value → H) (W : World) (base : Nat) (args : Array Value) (ds gs : List (DataW H)) (before : List MemPlace)
    (hval : ∀ (j : Nat) t v, Tryd.f3.params[j]? = some t → args[j]? = some v → Value.okWide Tryd.prog W .any base t v)
    (hW : DataW.Whole enc Tryd.prog Tryd.f3.params.toList Rows.fnExactReadDecimalSpec.vars false W args.toList ds gs before) (hL : laidMetH Tryd.prog Rows.fnExactReadDecimalRow.laid W) :
    Calls Tryd.prog 3 args W fun e W' => ∃ v, e = .returned v ∧ Rows.fnExactReadDecimalSpec.post enc Tryd.prog Tryd.f3 false true false false W args v W' := by
  have hW' := hW
  obtain ⟨p, q, hA0, hV, rfl, hfz, hnd⟩ := hW
  have hA : DataW.TrodAll enc Tryd.prog W 0 (fun _ => true) true Tryd.f3.params.toList args.toList ds p := hA0
  rw [Tryd.params3] at hA hval
  obtain ⟨v0, vs0, d0, ds0, p0, q0, hargs, rfl, rfl, h0, r0⟩ := trodAll_cons hA
  obtain ⟨rfl, rfl, rfl⟩ := trodAll_nil r0
  obtain rfl : args = #[v0] := by cases args; simp_all
  obtain ⟨rfl, rfl⟩ := trodVars_none hV
  obtain ⟨s, rfl, rfl, rfl, ws⟩ := open_string Tryd.underlying9 (hval 0 9 v0 rfl rfl) h0
  clear hA0
  refine (law_walk s (by unfold maxLen at ws; omega) W (has hL)).mono fun e W' ⟨he, bel⟩ => ?_
  subst he
  exact ⟨_, rfl, _, _, _, [], _, [], hW', trodAll_mk1 (shut_bool Tryd.underlying4 _), (trodAll_cons_mk (shut_string Tryd.underlying9 ws) trodAll_mk0), rfl, bel.frame _, fun h => by cases h⟩
theorem laid_met (os : Os) : laidMet Tryd.prog Rows.fnExactReadDecimalRow.laid ((laidWorld os).forCall (fun _ _ => 0) ⟨#[], #[.string ⟨#[]⟩], []⟩).memory :=
  laidMet_of_run' 8 (by kernel_rfl) (by kernel_rfl)
theorem reads (os : Os) {H : Type} (enc : TypeId × Value → H) : ∃ places, DataW.whole enc Tryd.prog ((laidWorld os).forCall (fun _ _ => 0) ⟨#[], #[.string ⟨#[]⟩], []⟩).memory Tryd.f3.params.toList Rows.fnExactReadDecimalSpec.vars false #[Value.string ⟨#[]⟩].toList 8 = some ([.lit (.string [])], [], places) :=
  ⟨[], by kernel_rfl⟩
set_option maxRecDepth 100000 in
theorem lifted (os : Os) (started : os.Started) (H : Type) (enc : TypeId × Value → H) (F : Stop.Interp) :
    ReturnsInHanded {} Tryd.checked os 3 .any ((OpenSpec.ofChange Rows.fnExactReadDecimalSpec).preRow enc Tryd.prog Tryd.f3 Rows.fnExactReadDecimalRow.domain false Rows.fnExactReadDecimalRow.laid) (((OpenSpec.ofChange Rows.fnExactReadDecimalSpec).at F).post enc Tryd.prog Tryd.f3 false true false false) := by
  obtain ⟨places, hx⟩ := reads os enc
  refine returnsInHanded_of_row (C := Tryd.checked) (s := OpenSpec.ofChange Rows.fnExactReadDecimalSpec) own started (by kernel_rfl) Tryd.func3
    (witness_row_at (enc := enc) (C := Tryd.checked) false (laidWorld os) #[.string ⟨#[]⟩] rfl (by kernel_rfl) (by kernel_rfl) (by kernel_rfl)
      (OpenSpec.preRow_of_cond 8 hx (by kernel_rfl) (fun k hk => by cases hk) (by kernel_rfl) (laid_met os))) ?_
  intro W base args ds gs before hval hW _ _ _ hL _ _
  exact contract H enc W base args ds gs before hval hW hL
theorem said : Rows.FnExactReadDecimalSaid :=
  OpenClaim.holds_of_cond 3 Tryd.f3 rfl rfl rfl rfl rfl rfl rfl ⟨rfl, rfl, rfl, rfl, rfl⟩ rfl rfl rfl rfl rfl (by kernel_rfl) Tryd.func3 (by kernel_rfl)
    (of_decide_eq_true (by kernel_rfl)) (by unfold Func.isWrapper; first | (rw [if_pos (by decide +kernel)]; kernel_rfl) | (rw [if_neg (by decide +kernel)]; exact ⟨rfl, rfl⟩))
    (fun os started H enc _ F => by rw [OpenClaim.pre_eq_preRow]; exact lifted os started H enc F)
/-- No parameter wants a stand-in; the program's own looks are off. -/
theorem plain (f : FuncId) (fn : Func) (hf : Tryd.pinned.checked.prog.funcNamed "loop.example/g00130/laws.FnExactReadDecimal" = some f) (hfn : Tryd.pinned.checked.prog.funcs[f]? = some fn) :
    true = Tryd.pinned.checked.prog.looks [] ∧ ∀ (j : Nat) t, fn.params[j]? = some t → Tryd.pinned.checked.prog.wantsStandIn t = false := by
  obtain rfl : f = 3 := Option.some.inj ((show Tryd.prog.funcNamed "loop.example/g00130/laws.FnExactReadDecimal" = some 3 by kernel_rfl).symm.trans hf) |>.symm
  obtain rfl : fn = Tryd.f3 := (Option.some.inj (Tryd.func3.symm.trans hfn)).symm
  refine ⟨by kernel_rfl, fun j t ht => ?_⟩
  rw [Tryd.params3] at ht
  obtain rfl : t = 9 := by simpa using Array.mem_of_getElem? ht
  exact (show Tryd.prog.wantsStandIn 9 = false by kernel_rfl)
theorem card : Rows.FnExactReadDecimalCardSaid :=
  Claim7.holds_tied_plain_at .later [] _ _ _ _ said (fun _ h => by cases h) (by kernel_rfl) (fun _ h => by cases h) fnExactReadDecimal_row_tie rfl ⟨rfl, rfl⟩ (by kernel_rfl) rfl plain (by kernel_rfl)
#print axioms card
end Go.Proofs.YtbkklafkoegdpaaDoor.fnRdd
namespace Go.Proofs.YtbkklafkoegdpaaDoor
/-- The tied card, under a short name, for the claim. -/
theorem fnExactReadDecimal_holds : Rows.FnExactReadDecimalCardSaid := fnRdd.card
end Go.Proofs.YtbkklafkoegdpaaDoor
