/- For every text and place ReadShort of the program and of the reference tell the same. No condition is laid beside the statement. -/
import Derived.Test.YtgjnolnaajopmaaPFnExactReadShortx2
import Derived.Laws.BitsLemmas
import Derived.Lib.Bytes
import Derived.OpenShut
namespace Go.Proofs.Ytgjnolnaajopmaa.Pure
open Go.RowKit Go.Proofs.Ytgjnolnaajopmaa.PFnExactReadShort Go.Proofs.YtgjnolnaajopmaaW.PrintWords Go.Proofs.YtgjnolnaajopmaaW.PrintLast
set_option linter.unusedVariables false
set_option linter.unusedSimpArgs false


theorem wrap_id {i : Int} (h0 : -9223372036854775808 ≤ i) (h1 : i ≤ 9223372036854775807) : wrap64 i = i := by unfold wrap64; omega
theorem toList_eq {a b : ByteArray} (h : a = b) : a.toList = b.toList := by rw [h]

/-! strings as numbers -/
theorem toList_data' (s : ByteArray) : s.toList = s.data.toList := Go.Lib.toList_data s
theorem str_ext {a b : ByteArray} (h : a.toList = b.toList) : a = b := by
  rw [toList_data', toList_data'] at h
  cases a; cases b
  simp at h
  rw [h]
theorem toList_iff {a b : ByteArray} : a.toList = b.toList ↔ a = b := ⟨str_ext, fun h => by rw [h]⟩
def Byt (l : List Int) : Prop := ∀ x ∈ l, 0 ≤ x ∧ x < 256
theorem bytesOf_byt (s : ByteArray) : Byt (bytesOf s) := by
  intro x hx
  unfold bytesOf at hx
  simp at hx
  obtain ⟨b, _, rfl⟩ := hx
  have := b.toNat_lt
  omega
theorem bytesOf_str {l : List Int} (h : Byt l) : bytesOf (strOfNums l) = l := by
  unfold bytesOf strOfNums
  simp
  apply List.ext_getElem
  · simp
  · intro i h1 h2
    have := h l[i] (List.getElem_mem h2)
    simp
    omega
theorem str_bytesOf (s : ByteArray) : strOfNums (bytesOf s) = s := by
  unfold bytesOf strOfNums
  cases s with
  | mk d =>
    simp
    apply Array.ext'
    simp
    apply List.ext_getElem
    · simp
    · intro i h1 h2
      simp
theorem bytesOf_inj {a b : ByteArray} (h : bytesOf a = bytesOf b) : a = b := by rw [← str_bytesOf a, h, str_bytesOf]
theorem bytesOf_append (a b : ByteArray) : bytesOf (a ++ b) = bytesOf a ++ bytesOf b := by
  unfold bytesOf
  simp [ByteArray.data_append]
theorem bytesOf_extract (s : ByteArray) (a b : Nat) : bytesOf (s.extract a b) = ((bytesOf s).drop a).take (b - a) := by
  unfold bytesOf
  simp [ByteArray.data_extract, List.map_take, List.map_drop]
theorem bt_get (s : ByteArray) (i : Int) : bt s i = (bytesOf s).getD i.toNat 0 := (rd_bytesOf s i).symm
theorem str_size (l : List Int) : (strOfNums l).size = l.length := by
  show (strOfNums l).data.size = _
  unfold strOfNums
  simp

/-! numbers in bytes -/
def varL (n : Nat) : List Int := if h : n > 127 then ((n % 128 + 128 : Nat) : Int) :: varL (n / 128) else [(n : Int)]
termination_by n
decreasing_by omega
theorem varL_big {n : Nat} (h : n > 127) : varL n = ((n % 128 + 128 : Nat) : Int) :: varL (n / 128) := by rw [varL, dif_pos h]
theorem varL_small {n : Nat} (h : ¬ n > 127) : varL n = [(n : Int)] := by rw [varL, dif_neg h]
theorem varL_len (n : Nat) : (varL n).length ≤ n + 1 := by
  induction n using Nat.strongRecOn with
  | ind n ih =>
    by_cases h : n > 127
    · rw [varL_big h]; have := ih (n / 128) (by omega); simp; omega
    · rw [varL_small h]; simp
theorem var_ev (n : Nat) : ∀ (acc : List Int), n ≤ 1000000000 → acc.length + n ≤ 3000000000 →
    Ev (fun k => spec_l01Var.l0 k (n : Int) acc) (strOfNums (acc ++ varL n)) := by
  induction n using Nat.strongRecOn with
  | ind n ih =>
    intro acc hn hl
    by_cases h : n > 127
    · have e1 : wrap64 (Int.tdiv (n : Int) 128) = ((n / 128 : Nat) : Int) := by
        rw [Int.tdiv_eq_ediv_of_nonneg (by omega)]; unfold wrap64; omega
      have e2 : (wrap64 ((Int.tmod (n : Int) 128) + 128)) % 256 = ((n % 128 + 128 : Nat) : Int) := by
        rw [Int.tmod_eq_emod_of_nonneg (by omega)]; unfold wrap64; omega
      refine Ev.step (fun k => by rw [spec_l01Var.l0, if_pos (by omega), if_pos (by omega), e1, e2]) ?_
      have := ih (n / 128) (by omega) (acc ++ [((n % 128 + 128 : Nat) : Int)]) (by omega) (by simp; omega)
      rw [varL_big h]
      rw [List.append_assoc, List.singleton_append] at this
      exact this
    · refine Ev.step (fun k => by rw [spec_l01Var.l0, if_neg (by omega), if_pos (by omega)]) ?_
      have e : (n : Int) % 256 = n := by omega
      rw [varL_small h, e]
      exact Ev.now _
theorem spec_l01Var_ev {x : Int} (h0 : 0 ≤ x) (h1 : x ≤ 1000000000) : Ev (fun k => spec_l01Var.f k x) (strOfNums (varL x.toNat)) := by
  obtain ⟨n, rfl⟩ := Int.eq_ofNat_of_zero_le h0
  simp only [spec_l01Var.f]
  exact var_ev n [] (by omega) (by simp; omega)

/-! reading numbers -/
def val : List Int → Int
  | [] => 0
  | c :: l => c % 128 + 128 * val l
theorem val_nonneg : ∀ l, 0 ≤ val l
  | [] => by simp [val]
  | c :: l => by have := val_nonneg l; simp only [val]; omega
theorem val_snoc (b : Int) : ∀ l, val (l ++ [b]) = val l + b % 128 * 128 ^ l.length
  | [] => by simp [val]
  | c :: l => by
    simp only [List.cons_append, val, val_snoc b l, List.length_cons, Int.pow_succ]
    rw [Int.mul_add, ← Int.mul_assoc, Int.mul_comm 128 (b % 128), Int.mul_assoc (b % 128), Int.mul_comm 128 (128 ^ _)]
    omega
theorem varL_val (b : Int) (h0 : 0 ≤ b) (h1 : b < 128) : ∀ l : List Int, (∀ c ∈ l, 128 ≤ c ∧ c ≤ 255) → (varL (val (l ++ [b])).toNat = l ++ [b] ↔ (l = [] ∨ b ≠ 0))
  | [], _ => by
    have e : (val ([] ++ [b])).toNat = b.toNat := by simp [val]; omega
    rw [e, varL_small (by omega)]
    simp
    omega
  | c :: l, h => by
    have hc := h c (by simp)
    have ih := varL_val b h0 h1 l (fun x hx => h x (by simp [hx]))
    have hn := val_nonneg (l ++ [b])
    have e : (val (c :: l ++ [b])).toNat = (c % 128).toNat + 128 * (val (l ++ [b])).toNat := by
      simp only [List.cons_append, val]; omega
    rw [e]
    by_cases hz : val (l ++ [b]) = 0
    · rw [hz]
      rw [varL_small (by omega)]
      constructor
      · intro hh; simp at hh
      · intro hh
        rcases hh with hh | hh
        · cases hh
        · exfalso
          rw [val_snoc] at hz
          have := val_nonneg l
          have hp : (0 : Int) < 128 ^ l.length := Int.pow_pos (by omega)
          have : 0 < b % 128 * 128 ^ l.length := Int.mul_pos (by omega) hp
          omega
    · rw [varL_big (by omega)]
      have e1 : ((c % 128).toNat + 128 * (val (l ++ [b])).toNat) / 128 = (val (l ++ [b])).toNat := by omega
      have e2 : ((((c % 128).toNat + 128 * (val (l ++ [b])).toNat) % 128 + 128 : Nat) : Int) = c := by omega
      rw [e1, e2]
      have : (c :: varL (val (l ++ [b])).toNat = c :: l ++ [b]) ↔ (varL (val (l ++ [b])).toNat = l ++ [b]) := by simp
      rw [this, ih]
      constructor
      · intro hh
        rcases hh with hh | hh
        · subst hh
          right
          intro hb
          subst hb
          simp [val] at hz
        · exact Or.inr hh
      · intro hh
        rcases hh with hh | hh
        · cases hh
        · exact Or.inr hh
theorem varL_byt (n : Nat) : Byt (varL n) := by
  induction n using Nat.strongRecOn with
  | ind n ih =>
    by_cases h : n > 127
    · rw [varL_big h]
      intro x hx
      rcases List.mem_cons.mp hx with rfl | hx
      · omega
      · exact ih (n / 128) (by omega) x hx
    · rw [varL_small h]
      intro x hx
      simp at hx
      omega
def rvP (s : ByteArray) (at_ : Int) : Nat → Int → Int → Int → Int × Int × Bool
  | 0, _, _, _ => (0, 0, false)
  | d + 1, i, n, u => if i < s.size then (if bt s i < 128 then (if (bt s i = 0 ∧ i > at_) ∨ n + bt s i % 128 * u > 1000000000 then (0, 0, false) else (n + bt s i % 128 * u, i + 1, true)) else rvP s at_ d (i + 1) (n + bt s i % 128 * u) (u * 128)) else (0, 0, false)
def U5 : Nat → Int
  | 0 => 34359738368
  | 1 => 268435456
  | 2 => 2097152
  | 3 => 16384
  | 4 => 128
  | _ => 1
theorem wrap_bt (s : ByteArray) (i : Int) : wrap64 (bt s i) = bt s i := by
  have := bt_range s i
  unfold wrap64; omega
theorem tmod_bt (s : ByteArray) (i : Int) : Int.tmod (bt s i) 128 = bt s i % 128 := Int.tmod_eq_emod_of_nonneg (bt_range s i).1
theorem rv_step {s : ByteArray} {i n : Int} {d : Nat} (hd : d < 5) (hn : 0 ≤ n) (hu : n < U5 (d + 1)) :
    0 ≤ n + bt s i % 128 * U5 (d + 1) ∧ n + bt s i % 128 * U5 (d + 1) < U5 d ∧ U5 (d + 1) * 128 = U5 d ∧ wrap64 (bt s i % 128 * U5 (d + 1)) = bt s i % 128 * U5 (d + 1) ∧ wrap64 (n + bt s i % 128 * U5 (d + 1)) = n + bt s i % 128 * U5 (d + 1) ∧ wrap64 (U5 (d + 1) * 128) = U5 (d + 1) * 128 := by
  have hb : 0 ≤ bt s i % 128 ∧ bt s i % 128 ≤ 127 := by omega
  generalize bt s i % 128 = q at hb ⊢
  have : d = 0 ∨ d = 1 ∨ d = 2 ∨ d = 3 ∨ d = 4 := by omega
  rcases this with rfl | rfl | rfl | rfl | rfl <;> simp only [U5, Nat.zero_add, Nat.reduceAdd, wrap64] at hu ⊢ <;> omega
theorem impl_rv_ev (s : ByteArray) (at_ : Int) (hs : s.size ≤ 140737488351232) (h0 : 0 ≤ at_) (h1 : at_ ≤ s.size) : ∀ (d : Nat) (i n : Int), d ≤ 5 → at_ ≤ i → i ≤ s.size → at_ + 5 - i = d → 0 ≤ n → n < U5 d →
    Ev (fun k => impl_ReadVar.l0 k s at_ n (U5 d) i) (rvP s at_ d i n (U5 d)) := by
  intro d
  have ew : wrap64 (at_ + 5) = at_ + 5 := by unfold wrap64; omega
  induction d with
  | zero =>
    intro i n hd5 hi hi2 hd hn hu
    by_cases hlt : i < s.size
    · refine Ev.step (fun k => by rw [impl_ReadVar.l0, if_pos hlt, ew, decide_eq_false (by omega)]) ?_
      refine Ev.step (fun k => by rw [impl_ReadVar.j1, if_neg (by simp)]) ?_
      exact Ev.now _
    · refine Ev.step (fun k => by rw [impl_ReadVar.l0, if_neg hlt]) ?_
      refine Ev.step (fun k => by rw [impl_ReadVar.j1, if_neg (by simp)]) ?_
      exact Ev.now _
  | succ d ih =>
    intro i n hd5 hi hi2 hd hn hu
    obtain ⟨r1, r2, r3, r4, r5, r6⟩ := rv_step (s := s) (i := i) (by omega) hn hu
    by_cases hlt : i < s.size
    · have ei : wrap64 (i + 1) = i + 1 := by unfold wrap64; omega
      refine Ev.step (fun k => by rw [impl_ReadVar.l0, if_pos hlt, ew, decide_eq_true (by omega)]) ?_
      refine Ev.step (fun k => by rw [impl_ReadVar.j1, if_pos rfl, if_pos (by omega), if_pos hlt, wrap_bt, tmod_bt, r4, r5, r6, ei]) ?_
      rw [rvP, if_pos hlt]
      by_cases hb : bt s i < 128
      · simp only [if_pos hb]
        by_cases hz : bt s i = 0
        · by_cases hg : i > at_
          · simp only [if_pos hz, if_pos hg]
            rw [if_pos (Or.inl ⟨hz, hg⟩)]
            exact Ev.now _
          · simp only [if_pos hz, if_neg hg]
            by_cases hm : n + bt s i % 128 * U5 (d + 1) > 1000000000
            · simp only [if_pos hm]
              rw [if_pos (Or.inr hm)]
              exact Ev.now _
            · simp only [if_neg hm]
              rw [if_neg (by intro hh; rcases hh with hh | hh; exact hg hh.2; exact hm hh)]
              exact Ev.now _
        · simp only [if_neg hz]
          by_cases hm : n + bt s i % 128 * U5 (d + 1) > 1000000000
          · simp only [if_pos hm]
            rw [if_pos (Or.inr hm)]
            exact Ev.now _
          · simp only [if_neg hm]
            rw [if_neg (by intro hh; rcases hh with hh | hh; exact hz hh.1; exact hm hh)]
            exact Ev.now _
      · simp only [if_neg hb]
        rw [r3]
        exact ih (i + 1) _ (by omega) (by omega) (by omega) (by omega) r1 r2
    · refine Ev.step (fun k => by rw [impl_ReadVar.l0, if_neg hlt]) ?_
      refine Ev.step (fun k => by rw [impl_ReadVar.j1, if_neg (by simp)]) ?_
      rw [rvP, if_neg hlt]
      exact Ev.now _
theorem spec_rv_ev (s : ByteArray) (at_ : Int) (hs : s.size ≤ 140737488351232) (h0 : 0 ≤ at_) (h1 : at_ ≤ s.size) : ∀ (d : Nat) (i : Int) (l : List Int), d ≤ 5 → at_ ≤ i → i ≤ s.size → at_ + 5 - i = d →
    l = ((bytesOf s).drop at_.toNat).take (i - at_).toNat → (∀ c ∈ l, 128 ≤ c ∧ c ≤ 255) → (128 : Int) ^ l.length = U5 d → val l < U5 d →
    Ev (fun k => spec_ReadVar.l0 k s at_ (val l) (U5 d) i) (rvP s at_ d i (val l) (U5 d)) := by
  intro d
  have ew : wrap64 (at_ + 5) = at_ + 5 := by unfold wrap64; omega
  induction d with
  | zero =>
    intro i l hd5 hi hi2 hd hl hc hp hu
    by_cases hlt : i < s.size
    · refine Ev.step (fun k => by rw [spec_ReadVar.l0, if_pos hlt, ew, decide_eq_false (by omega)]) ?_
      refine Ev.step (fun k => by rw [spec_ReadVar.j1, if_neg (by simp)]) ?_
      exact Ev.now _
    · refine Ev.step (fun k => by rw [spec_ReadVar.l0, if_neg hlt]) ?_
      refine Ev.step (fun k => by rw [spec_ReadVar.j1, if_neg (by simp)]) ?_
      exact Ev.now _
  | succ d ih =>
    intro i l hd5 hi hi2 hd hl hc hp hu
    obtain ⟨r1, r2, r3, r4, r5, r6⟩ := rv_step (s := s) (i := i) (by omega) (val_nonneg l) hu
    by_cases hlt : i < s.size
    · have ei : wrap64 (i + 1) = i + 1 := by unfold wrap64; omega
      have hbr := bt_range s i
      have hsz : (bytesOf s).length = s.size := bytesOf_length s
      have hll : l.length = (i - at_).toNat := by rw [hl, List.length_take, List.length_drop]; omega
      have hsn : l ++ [bt s i] = ((bytesOf s).drop at_.toNat).take (i + 1 - at_).toNat := by
        have e : (i + 1 - at_).toNat = (i - at_).toNat + 1 := by omega
        have hlen : (i - at_).toNat < ((bytesOf s).drop at_.toNat).length := by rw [List.length_drop]; omega
        rw [e, List.take_succ_eq_append_getElem hlen, ← hl, bt_get]
        congr 2
        rw [List.getElem_drop, List.getD_eq_getElem?_getD, List.getElem?_eq_getElem (by omega)]
        simp
        congr 1
        omega
      have hv : val (l ++ [bt s i]) = val l + bt s i % 128 * U5 (d + 1) := by rw [val_snoc, hp]
      refine Ev.step (fun k => by rw [spec_ReadVar.l0, if_pos hlt, ew, decide_eq_true (by omega)]) ?_
      refine Ev.step (fun k => by rw [spec_ReadVar.j1, if_pos rfl, if_pos (by omega), if_pos hlt, wrap_bt, tmod_bt, r4, r5, r6, ei]) ?_
      rw [rvP, if_pos hlt]
      by_cases hb : bt s i < 128
      · simp only [if_pos hb]
        by_cases hm : val l + bt s i % 128 * U5 (d + 1) > 1000000000
        · simp only [if_pos hm]
          rw [if_pos (Or.inr hm)]
          exact Ev.now _
        · simp only [if_neg hm]
          refine Ev.bind (spec_l01Var_ev r1 (by omega)) ?_
          have hx : (strOfNums (varL (val l + bt s i % 128 * U5 (d + 1)).toNat)).toList = (s.extract at_.toNat (i + 1).toNat).toList ↔ (l = [] ∨ bt s i ≠ 0) := by
            rw [toList_iff, ← hv, ← varL_val (bt s i) hbr.1 hb l hc]
            constructor
            · intro hh
              have := congrArg bytesOf hh
              rw [bytesOf_str (varL_byt _), bytesOf_extract] at this
              rw [this, hsn]
              congr 1
              omega
            · intro hh
              apply bytesOf_inj
              rw [bytesOf_str (varL_byt _), bytesOf_extract, hh, hsn]
              congr 1
              omega
          simp only [if_pos h0, if_pos (show at_ ≤ i + 1 by omega), if_pos (show i + 1 ≤ (s.size : Int) by omega)]
          have hle : l = [] ↔ ¬ i > at_ := by
            rw [← List.length_eq_zero_iff, hll]; omega
          by_cases hq : (bt s i = 0 ∧ i > at_)
          · rw [if_pos (Or.inl hq)]
            have : ¬ (strOfNums (varL (val l + bt s i % 128 * U5 (d + 1)).toNat)).toList = (s.extract at_.toNat (i + 1).toNat).toList := by
              rw [hx, hle]; omega
            simp only [if_neg this]
            exact Ev.now _
          · rw [if_neg (show ¬ ((bt s i = 0 ∧ i > at_) ∨ val l + bt s i % 128 * U5 (d + 1) > 1000000000) by intro hh; rcases hh with hh | hh; exact hq hh; exact hm hh)]
            have : (strOfNums (varL (val l + bt s i % 128 * U5 (d + 1)).toNat)).toList = (s.extract at_.toNat (i + 1).toNat).toList := by
              rw [hx, hle]; omega
            simp only [if_pos this]
            exact Ev.now _
      · simp only [if_neg hb]
        rw [r3, ← hv]
        refine ih (i + 1) _ (by omega) (by omega) (by omega) (by omega) hsn ?_ ?_ ?_
        · intro c hcm
          rcases List.mem_append.mp hcm with h | h
          · exact hc c h
          · simp at h; omega
        · rw [List.length_append, List.length_singleton, Int.pow_succ, hp, r3]
        · rw [hv]; exact r2
    · refine Ev.step (fun k => by rw [spec_ReadVar.l0, if_neg hlt]) ?_
      refine Ev.step (fun k => by rw [spec_ReadVar.j1, if_neg (by simp)]) ?_
      rw [rvP, if_neg hlt]
      exact Ev.now _
def readVar (s : ByteArray) (at_ : Int) : Int × Int × Bool := if 0 ≤ at_ ∧ at_ ≤ s.size then rvP s at_ 5 at_ 0 1 else (0, 0, false)
theorem impl_ReadVar_ev (s : ByteArray) (at_ : Int) (hs : s.size ≤ 140737488351232) : Ev (fun k => impl_ReadVar.f k s at_) (readVar s at_) := by
  simp only [impl_ReadVar.f, impl_in.f, readVar]
  by_cases h0 : 0 ≤ at_
  · by_cases h1 : at_ ≤ s.size
    · simp only [ge_iff_le, if_pos h0, Option.bind_some, decide_eq_true h1, if_true]
      rw [if_pos ⟨h0, h1⟩]
      exact impl_rv_ev s at_ hs h0 h1 5 at_ 0 (by omega) (by omega) h1 (by omega) (by omega) (by simp [U5])
    · simp only [ge_iff_le, if_pos h0, Option.bind_some, decide_eq_false h1]
      rw [if_neg (by omega)]
      exact Ev.now _
  · simp only [ge_iff_le, if_neg h0, Option.bind_some]
    rw [if_neg (by omega)]
    exact Ev.now _
theorem spec_ReadVar_ev (s : ByteArray) (at_ : Int) (hs : s.size ≤ 140737488351232) : Ev (fun k => spec_ReadVar.f k s at_) (readVar s at_) := by
  simp only [spec_ReadVar.f, spec_l01In.f, readVar]
  by_cases h0 : 0 ≤ at_
  · by_cases h1 : at_ ≤ s.size
    · simp only [ge_iff_le, if_pos h0, Option.bind_some, decide_eq_true h1, if_true]
      rw [if_pos ⟨h0, h1⟩]
      exact spec_rv_ev s at_ hs h0 h1 5 at_ [] (by omega) (by omega) h1 (by omega) (by simp) (by simp) (by simp [U5]) (by simp [val, U5])
    · simp only [ge_iff_le, if_pos h0, Option.bind_some, decide_eq_false h1]
      rw [if_neg (by omega)]
      exact Ev.now _
  · simp only [ge_iff_le, if_neg h0, Option.bind_some]
    rw [if_neg (by omega)]
    exact Ev.now _

/-- What a number that was read is. -/
theorem rvP_ok (s : ByteArray) (at_ : Int) : ∀ (d : Nat) (i n u : Int), at_ ≤ i → i ≤ s.size → 0 ≤ n → 0 ≤ u → (rvP s at_ d i n u).2.2 = true → 0 ≤ (rvP s at_ d i n u).1 ∧ (rvP s at_ d i n u).1 ≤ 1000000000 ∧ i < (rvP s at_ d i n u).2.1 ∧ (rvP s at_ d i n u).2.1 ≤ s.size
  | 0, _, _, _, _, _, _, _, h => by simp [rvP] at h
  | d + 1, i, n, u, h1, h2, h3, h4, h => by
    have hp : 0 ≤ bt s i % 128 * u := Int.mul_nonneg (by omega) h4
    rw [rvP] at h ⊢
    split
    · rename_i hlt
      rw [if_pos hlt] at h
      split
      · rename_i hb
        rw [if_pos hb] at h
        split
        · rename_i hc; rw [if_pos hc] at h; simp at h
        · rename_i hc
          have : ¬ n + bt s i % 128 * u > 1000000000 := fun hh => hc (Or.inr hh)
          simp only
          omega
      · rename_i hb
        rw [if_neg hb] at h
        have := rvP_ok s at_ d (i + 1) _ _ (by omega) (by omega) (by omega) (by omega) h
        omega
    · rename_i hlt; rw [if_neg hlt] at h; simp at h
theorem readVar_ok {s : ByteArray} {at_ : Int} (h : (readVar s at_).2.2 = true) : 0 ≤ at_ ∧ 0 ≤ (readVar s at_).1 ∧ (readVar s at_).1 ≤ 1000000000 ∧ at_ < (readVar s at_).2.1 ∧ (readVar s at_).2.1 ≤ s.size := by
  unfold readVar at h ⊢
  split
  · rename_i hc
    rw [if_pos hc] at h
    have := rvP_ok s at_ 5 at_ 0 1 (by omega) (by omega) (by omega) (by omega) h
    omega
  · rename_i hc; rw [if_neg hc] at h; simp at h

def readShort (s : ByteArray) (at_ : Int) : ByteArray × Int × Bool :=
  let b := readVar s at_
  if b.2.2 = true then (if b.1 > 20000 then ((⟨#[]⟩ : ByteArray), 0, false) else (if b.1 > (s.size : Int) - b.2.1 then ((⟨#[]⟩ : ByteArray), 0, false) else (s.extract b.2.1.toNat (b.2.1 + b.1).toNat, b.2.1 + b.1, true))) else ((⟨#[]⟩ : ByteArray), 0, false)
theorem impl_ReadShort_ev (s : ByteArray) (at_ : Int) (hs : s.size ≤ 140737488351232) : Ev (fun k => impl_ReadShort.f k s at_) (readShort s at_) := by
  simp only [impl_ReadShort.f]
  refine Ev.bind (impl_ReadVar_ev s at_ hs) ?_
  unfold readShort
  by_cases h : (readVar s at_).2.2 = true
  · have hk := readVar_ok h
    have e1 : wrap64 ((s.size : Int) - (readVar s at_).2.1) = (s.size : Int) - (readVar s at_).2.1 := by unfold wrap64; omega
    have e2 : wrap64 ((readVar s at_).2.1 + (readVar s at_).1) = (readVar s at_).2.1 + (readVar s at_).1 := by unfold wrap64; omega
    simp only [if_pos h, e1, e2]
    by_cases h1 : (readVar s at_).1 > 20000
    · simp only [if_pos h1]; exact Ev.now _
    · by_cases h2 : (readVar s at_).1 > (s.size : Int) - (readVar s at_).2.1
      · simp only [if_neg h1, if_pos h2]; exact Ev.now _
      · simp only [if_neg h1, if_neg h2, if_pos (show 0 ≤ (readVar s at_).2.1 by omega), if_pos (show (readVar s at_).2.1 ≤ (readVar s at_).2.1 + (readVar s at_).1 by omega), if_pos (show (readVar s at_).2.1 + (readVar s at_).1 ≤ (s.size : Int) by omega)]
        exact Ev.now _
  · simp only [if_neg h]; exact Ev.now _
theorem spec_ReadShort_ev (s : ByteArray) (at_ : Int) (hs : s.size ≤ 140737488351232) : Ev (fun k => spec_ReadShort.f k s at_) (readShort s at_) := by
  simp only [spec_ReadShort.f]
  refine Ev.bind (spec_ReadVar_ev s at_ hs) ?_
  unfold readShort
  by_cases h : (readVar s at_).2.2 = true
  · have hk := readVar_ok h
    have e1 : wrap64 ((s.size : Int) - (readVar s at_).2.1) = (s.size : Int) - (readVar s at_).2.1 := by unfold wrap64; omega
    have e2 : wrap64 ((readVar s at_).2.1 + (readVar s at_).1) = (readVar s at_).2.1 + (readVar s at_).1 := by unfold wrap64; omega
    simp only [if_pos h, e1, e2]
    by_cases h1 : (readVar s at_).1 > 20000
    · simp only [if_pos h1]; exact Ev.now _
    · by_cases h2 : (readVar s at_).1 > (s.size : Int) - (readVar s at_).2.1
      · simp only [if_neg h1, if_pos h2]; exact Ev.now _
      · simp only [if_neg h1, if_neg h2, if_pos (show 0 ≤ (readVar s at_).2.1 by omega), if_pos (show (readVar s at_).2.1 ≤ (readVar s at_).2.1 + (readVar s at_).1 by omega), if_pos (show (readVar s at_).2.1 + (readVar s at_).1 ≤ (s.size : Int) by omega)]
        exact Ev.now _
  · simp only [if_neg h]; exact Ev.now _

theorem FnExactReadShort : laws_FnExactReadShort.Pure := by
  intro a0 a1 h0 h1
  refine Ev.rounds (g := fun k => laws_FnExactReadShort.f k a0 a1) ?_
  simp only [laws_FnExactReadShort.f]
  by_cases h : (a0.size : Int) > 1048576
  · simp only [if_pos h]; exact Ev.now _
  · simp only [if_neg h]
    refine Ev.bind (spec_ReadShort_ev a0 a1 h0) ?_
    refine Ev.bind (impl_ReadShort_ev a0 a1 h0) ?_
    simp only [if_true, bne_self_eq_false, Bool.false_eq_true, if_false]
    exact Ev.now _

end Go.Proofs.Ytgjnolnaajopmaa.Pure
