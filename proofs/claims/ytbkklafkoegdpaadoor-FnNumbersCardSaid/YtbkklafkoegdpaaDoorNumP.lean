/- Numbers and texts there and back: what VarText, ShortText and Hex wrote, ReadVar, ReadShort and Unhex read again. -/
import Derived.Test.YtbkklafkoegdpaaDoorQFnNumbersx1
import Derived.Lib.Strings
namespace Go.Proofs.YtbkklafkoegdpaaDoor.fnNum
open Go.RowKit Go.Proofs.YtbkklafkoegdpaaDoorW.PrintWords Go.Proofs.YtbkklafkoegdpaaDoorW.PrintLast Go.Proofs.YtbkklafkoegdpaaDoorW.PrintMore QFnNumbers
set_option linter.unusedVariables false
theorem wrap_succ {i n : Nat} (h : i < n) (hn : n ≤ 4611686018427387904) : wrap64 ((i : Int) + 1) = ((i + 1 : Nat) : Int) := by unfold wrap64; omega
theorem Ev.loopR {σ β : Type} {L : Nat → σ → Int → Option β} {n : Nat} (R : Nat → σ → β) (I : Nat → σ → Prop)
    (hstep : ∀ (i : Nat) s, i < n → I i s → Ev (fun k => L k s i) (R i s) ∨ ∃ s', I (i + 1) s' ∧ R i s = R (i + 1) s' ∧ ∀ r, Ev (fun k => L k s' ((i + 1 : Nat) : Int)) r → Ev (fun k => L k s i) r)
    (hend : ∀ s, I n s → Ev (fun k => L k s n) (R n s)) : ∀ (d i : Nat) (s : σ), i + d = n → I i s → Ev (fun k => L k s i) (R i s) := by
  intro d
  induction d with
  | zero =>
    intro i s hi hI
    have : i = n := by omega
    subst this
    exact hend s hI
  | succ d ih =>
    intro i s hi hI
    rcases hstep i s (by omega) hI with h | ⟨s', h1, h2, h3⟩
    · exact h
    · rw [h2]
      exact h3 _ (ih (i + 1) s' (by omega) h1)
/-- A loop that writes every element of a row. -/
theorem Ev.setloop' {β γ : Type} {L : Nat → List γ → Int → Option β} {n : Nat} (g : Nat → γ) (x0 : List γ) (h0 : x0.length = n) (fin : List γ → β)
    (hstep : ∀ (i : Nat) x r, i < n → x.length = n → Ev (fun k => L k (x.set i (g i)) ((i + 1 : Nat) : Int)) r → Ev (fun k => L k x i) r)
    (hend : ∀ x, x.length = n → Ev (fun k => L k x n) (fin x)) : Ev (fun k => L k x0 0) (fin ((List.range n).map g)) := by
  have key := Ev.loopR (L := L) (n := n) (fun _ _ => fin ((List.range n).map g)) (fun i x => x.length = n ∧ ∀ j, j < i → x[j]? = some (g j)) (by
    intro i x hi hx
    right
    refine ⟨x.set i (g i), ⟨by rw [List.length_set]; exact hx.1, fun j hj => ?_⟩, rfl, fun r hr => hstep i x r hi hx.1 hr⟩
    by_cases hji : j = i
    · subst hji
      rw [List.getElem?_set_self (by omega)]
    · rw [List.getElem?_set_ne (by omega)]
      exact hx.2 j (by omega)) (by
    intro x hx
    have hxe : x = (List.range n).map g := by
      apply List.ext_getElem?
      intro j
      by_cases hj : j < n
      · rw [hx.2 j hj]; simp [hj]
      · rw [List.getElem?_eq_none (by omega), List.getElem?_eq_none (by simp; omega)]
    rw [← hxe]
    exact hend x hx.1)
  exact key n 0 _ (by omega) ⟨h0, fun j hj => by omega⟩
/-- A loop that fills what was made. -/
theorem Ev.setloop {β γ : Type} {L : Nat → List γ → Int → Option β} {n : Nat} (g : Nat → γ) (z : γ) (fin : List γ → β)
    (hstep : ∀ (i : Nat) x r, i < n → x.length = n → Ev (fun k => L k (x.set i (g i)) ((i + 1 : Nat) : Int)) r → Ev (fun k => L k x i) r)
    (hend : ∀ x, x.length = n → Ev (fun k => L k x n) (fin x)) : Ev (fun k => L k (List.replicate n z) 0) (fin ((List.range n).map g)) :=
  Ev.setloop' g _ (by simp) fin hstep hend
theorem and255 (x : Int) : 0 ≤ Go.bits .and .i64 x 255 ∧ Go.bits .and .i64 x 255 ≤ 255 := by
  simp only [Go.bits, BitVec.toNat_and]
  have h : (BitVec.ofInt Go.IntKind.i64.bits x).toNat &&& (BitVec.ofInt Go.IntKind.i64.bits 255).toNat ≤ 255 := Nat.le_trans Nat.and_le_right (by decide)
  rw [Go.IntKind.wrap_i64]
  omega
theorem l01Byte_some (l : List Int) (p s : Int) (hp : 0 ≤ p) (hl : l.length ≤ 4611686018427387904) : ∃ v q t, spec_l01Byte.f l p s = some (v, q, t) ∧ 0 ≤ v ∧ v ≤ 255 ∧ 0 ≤ q := by
  unfold spec_l01Byte.f
  by_cases h : p < (l.length : Int)
  · rw [if_pos h, if_pos hp]
    refine ⟨_, _, _, rfl, (and255 _).1, (and255 _).2, ?_⟩
    unfold wrap64; omega
  · rw [if_neg h]
    exact ⟨_, _, _, rfl, (and255 _).1, (and255 _).2, hp⟩
theorem l01Below_some (l : List Int) (p s a : Int) (hp : 0 ≤ p) (hl : l.length ≤ 4611686018427387904) (ha : 1 ≤ a) (ha2 : a ≤ 256) : ∃ v q t, spec_l01Below.f l p s a = some (v, q, t) ∧ 0 ≤ v ∧ v < a ∧ 0 ≤ q := by
  unfold spec_l01Below.f
  obtain ⟨v, q, t, h1, h2, h3, h4⟩ := l01Byte_some l p s hp hl
  rw [if_neg (by omega), if_pos ha2, h1, Option.bind_some, if_neg (by omega)]
  refine ⟨_, _, _, rfl, Int.tmod_nonneg _ h2, Int.tmod_lt_of_pos _ (by omega), h4⟩
theorem spec_l01New_ev (l : List Int) (hl : l.length ≤ 4611686018427387904) : ∃ s, Ev (fun k => spec_l01New.f k l) (l, 0, s) := by
  have key : ∀ (d i : Nat) (s : Int), i + d = l.length → ∃ s', Ev (fun k => spec_l01New.l0 k l s i) (l, 0, s') := by
    intro d
    induction d with
    | zero =>
      intro i s hi
      refine ⟨s, Ev.step (fun k => by rw [spec_l01New.l0, if_neg (by omega)]) ?_⟩
      exact Ev.now _
    | succ d ih =>
      intro i s hi
      by_cases h : (i : Int) < 4000
      · obtain ⟨s', hs⟩ := ih (i + 1) _ (by omega)
        refine ⟨s', Ev.step (fun k => by rw [spec_l01New.l0, if_pos (by omega), if_pos h, if_pos (by omega), wrap_succ (show i < l.length by omega) hl]) hs⟩
      · refine ⟨s, Ev.step (fun k => by rw [spec_l01New.l0, if_pos (by omega), if_neg h]) ?_⟩
        exact Ev.now _
  exact key l.length 0 _ (by omega)
def Byt (l : List Int) : Prop := ∀ x ∈ l, 0 ≤ x ∧ x < 256
theorem bytesOf_byt (s : ByteArray) : Byt (bytesOf s) := by
  intro x hx
  unfold bytesOf at hx
  simp at hx
  obtain ⟨b, _, rfl⟩ := hx
  have := b.toNat_lt
  omega
theorem bytesOf_str {l : List Int} (h : Byt l) : bytesOf (strOfNums l) = l := by
  unfold bytesOf strOfNums
  simp
  apply List.ext_getElem
  · simp
  · intro i h1 h2
    have := h l[i] (List.getElem_mem h2)
    simp
    omega
theorem str_bytesOf (s : ByteArray) : strOfNums (bytesOf s) = s := by
  unfold bytesOf strOfNums
  cases s with
  | mk d =>
    simp
    apply Array.ext'
    simp
    apply List.ext_getElem
    · simp
    · intro i h1 h2
      simp
theorem bytesOf_inj {a b : ByteArray} (h : bytesOf a = bytesOf b) : a = b := by rw [← str_bytesOf a, h, str_bytesOf]
theorem bytesOf_append (a b : ByteArray) : bytesOf (a ++ b) = bytesOf a ++ bytesOf b := by
  unfold bytesOf
  simp [ByteArray.data_append]
theorem bytesOf_extract (s : ByteArray) (a b : Nat) : bytesOf (s.extract a b) = ((bytesOf s).drop a).take (b - a) := by
  unfold bytesOf
  simp [ByteArray.data_extract, List.map_take, List.map_drop]
theorem bt_get (s : ByteArray) (i : Int) : bt s i = (bytesOf s).getD i.toNat 0 := (rd_bytesOf s i).symm
theorem str_size (l : List Int) : (strOfNums l).size = l.length := by
  show (strOfNums l).data.size = _
  unfold strOfNums
  simp
theorem l01Below_big (l : List Int) (p s a : Int) (hp : 0 ≤ p) (hl : l.length ≤ 4611686018427387904) (ha : 256 < a) (ha2 : a ≤ 1000000) : ∃ v q t, spec_l01Below.f l p s a = some (v, q, t) ∧ 0 ≤ v ∧ v < a ∧ 0 ≤ q := by
  unfold spec_l01Below.f
  obtain ⟨v1, q1, t1, h1, a1, b1, c1⟩ := l01Byte_some l p s hp hl
  obtain ⟨v2, q2, t2, h2, a2, b2, c2⟩ := l01Byte_some l q1 t1 c1 hl
  obtain ⟨v3, q3, t3, h3, a3, b3, c3⟩ := l01Byte_some l q2 t2 c2 hl
  obtain ⟨v4, q4, t4, h4, a4, b4, c4⟩ := l01Byte_some l q3 t3 c3 hl
  rw [if_neg (by omega), if_neg (by omega)]
  simp only [h1, h2, h3, h4, Option.bind_some]
  rw [if_neg (by omega)]
  have w1 : wrap64 (v1 * 16777216) = v1 * 16777216 := by unfold wrap64; omega
  have w2 : wrap64 (v2 * 65536) = v2 * 65536 := by unfold wrap64; omega
  have w3 : wrap64 (v3 * 256) = v3 * 256 := by unfold wrap64; omega
  have w4 : wrap64 (v1 * 16777216 + v2 * 65536) = v1 * 16777216 + v2 * 65536 := by unfold wrap64; omega
  have w5 : wrap64 (v1 * 16777216 + v2 * 65536 + v3 * 256) = v1 * 16777216 + v2 * 65536 + v3 * 256 := by unfold wrap64; omega
  have w6 : wrap64 (v1 * 16777216 + v2 * 65536 + v3 * 256 + v4) = v1 * 16777216 + v2 * 65536 + v3 * 256 + v4 := by unfold wrap64; omega
  rw [w1, w2, w3, w4, w5, w6]
  exact ⟨_, _, _, rfl, Int.tmod_nonneg _ (by omega), Int.tmod_lt_of_pos _ (by omega), c4⟩
theorem spec_l01Long_ev (n : Nat) (x : Int) (hn : n ≤ 1000000) : Ev (fun k => spec_l01Long.f k n x) (strOfNums (List.replicate n x)) := by
  simp only [spec_l01Long.f, if_pos (show (0 : Int) ≤ n by omega), Int.toNat_natCast, if_pos (show n ≤ 281474976710656 by omega)]
  have := Ev.setloop (L := fun k y i => spec_l01Long.l0 k n x y i) (n := n) (fun _ => x) 0 strOfNums (by
    intro i y r hi hy h
    refine Ev.step (fun k => by rw [spec_l01Long.l0, if_pos (by omega), if_pos (by omega), if_pos (by omega), Int.toNat_natCast, wrap_succ hi (by omega)]) ?_
    exact h) (by
    intro y hy
    refine Ev.step (fun k => by rw [spec_l01Long.l0, if_neg (by omega)]) ?_
    exact Ev.now _)
  have e : (List.range n).map (fun _ => x) = List.replicate n x := by simp [List.map_const']
  rw [e] at this
  exact this
theorem spec_l01Text_ev (l : List Int) (p s : Int) (n : Int) (hp : 0 ≤ p) (hl : l.length ≤ 4611686018427387904) (hn : n ≤ 5000) : ∃ t q u, Ev (fun k => spec_l01Text.f k l p s n) (t, q, u) ∧ t.size ≤ 5000 ∧ 0 ≤ q := by
  have key : ∀ (d i : Nat) (acc : List Int) (q u : Int), (n.toNat - i) = d → i ≤ 5000 → acc.length = i → 0 ≤ q → ∃ t q' u', Ev (fun k => spec_l01Text.l0 k n acc i l q u) (t, q', u') ∧ t.size ≤ 5000 ∧ 0 ≤ q' := by
    intro d
    induction d with
    | zero =>
      intro i acc q u hi hi2 ha hq
      refine ⟨strOfNums acc, q, u, Ev.step (fun k => by rw [spec_l01Text.l0, if_neg (by omega)]) (Ev.now _), by rw [str_size]; omega, hq⟩
    | succ d ih =>
      intro i acc q u hi hi2 ha hq
      obtain ⟨v, q2, u2, g1, _, _, g4⟩ := l01Byte_some l q u hq hl
      obtain ⟨t, q', u', h1, h2, h3⟩ := ih (i + 1) (acc ++ [v % 256]) q2 u2 (by omega) (by omega) (by simp; omega) g4
      refine ⟨t, q', u', Ev.step (fun k => by rw [spec_l01Text.l0, if_pos (by omega), g1, Option.bind_some, if_pos (by omega), wrap_succ (show i < 5000 by omega) (by omega)]) h1, h2, h3⟩
  obtain ⟨t, q, u, h1, h2, h3⟩ := key n.toNat 0 [] p s (by omega) (by omega) rfl hp
  refine ⟨t, q, u, ?_, h2, h3⟩
  simp only [spec_l01Text.f, if_neg (show ¬ n > 5000 by omega)]
  refine Ev.step (fun k => by rw [spec_l01Text.j0]) ?_
  exact h1
theorem spec_DrawHex_ev (l : List Int) (hl : l.length ≤ 4611686018427387904) : ∃ t, Ev (fun k => spec_DrawHex.f k l) t ∧ t.size ≤ 20001 := by
  obtain ⟨s, hs⟩ := spec_l01New_ev l hl
  obtain ⟨v, q, t, h1, h2, h3, h4⟩ := l01Below_some l 0 s 60 (by omega) hl (by omega) (by omega)
  by_cases c : (v == 0) = true
  · obtain ⟨v2, q2, t2, g1, g2, g3, g4⟩ := l01Below_some l q t 2 h4 hl (by omega) (by omega)
    have hw : wrap64 (20000 + v2) = ((20000 + v2.toNat : Nat) : Int) := by unfold wrap64; omega
    have hL := spec_l01Long_ev (20000 + v2.toNat) 200 (by omega)
    refine ⟨strOfNums (List.replicate (20000 + v2.toNat) 200), ?_, by rw [str_size, List.length_replicate]; omega⟩
    simp only [spec_DrawHex.f]
    refine Ev.bind hs ?_
    simp only [spec_l01Once.f, h1, Option.bind_some, c, if_true, g1, hw]
    exact Ev.bind hL (Ev.now _)
  · obtain ⟨v2, q2, t2, g1, g2, g3, g4⟩ := l01Below_some l q t 30 h4 hl (by omega) (by omega)
    obtain ⟨x, q3, u3, k1, k2, k3⟩ := spec_l01Text_ev l q2 t2 v2 g4 hl (by omega)
    refine ⟨x, ?_, by omega⟩
    simp only [spec_DrawHex.f]
    refine Ev.bind hs ?_
    simp only [spec_l01Once.f, h1, Option.bind_some, Bool.eq_false_iff.2 c, Bool.false_eq_true, if_false, g1]
    exact Ev.bind k1 (Ev.now _)
def varL (n : Nat) : List Int := if h : n > 127 then ((n % 128 + 128 : Nat) : Int) :: varL (n / 128) else [(n : Int)]
termination_by n
decreasing_by omega
theorem varL_big {n : Nat} (h : n > 127) : varL n = ((n % 128 + 128 : Nat) : Int) :: varL (n / 128) := by rw [varL, dif_pos h]
theorem varL_small {n : Nat} (h : ¬ n > 127) : varL n = [(n : Int)] := by rw [varL, dif_neg h]
theorem varL_len (n : Nat) : (varL n).length ≤ n + 1 := by
  induction n using Nat.strongRecOn with
  | ind n ih =>
    by_cases h : n > 127
    · rw [varL_big h]; have := ih (n / 128) (by omega); simp; omega
    · rw [varL_small h]; simp
theorem ivar_ev (n : Nat) : ∀ (acc : List Int), n ≤ 1000000000 → acc.length + n ≤ 3000000000 →
    Ev (fun k => impl_VarText.l0 k (n : Int) acc) (strOfNums (acc ++ varL n), true) := by
  induction n using Nat.strongRecOn with
  | ind n ih =>
    intro acc hn hl
    by_cases h : n > 127
    · have e1 : wrap64 (Int.tdiv (n : Int) 128) = ((n / 128 : Nat) : Int) := by
        rw [Int.tdiv_eq_ediv_of_nonneg (by omega)]; unfold wrap64; omega
      have e2 : (wrap64 ((Int.tmod (n : Int) 128) + 128)) % 256 = ((n % 128 + 128 : Nat) : Int) := by
        rw [Int.tmod_eq_emod_of_nonneg (by omega)]; unfold wrap64; omega
      refine Ev.step (fun k => by rw [impl_VarText.l0, if_pos (by omega), if_pos (by omega), e1, e2]) ?_
      have := ih (n / 128) (by omega) (acc ++ [((n % 128 + 128 : Nat) : Int)]) (by omega) (by simp; omega)
      rw [varL_big h]
      rw [List.append_assoc, List.singleton_append] at this
      exact this
    · refine Ev.step (fun k => by rw [impl_VarText.l0, if_neg (by omega), if_pos (by omega)]) ?_
      have e : (n : Int) % 256 = n := by omega
      rw [varL_small h, e]
      exact Ev.now _
theorem impl_VarText_ev {x : Int} (h0 : 0 ≤ x) (h1 : x ≤ 1000000000) : Ev (fun k => impl_VarText.f k x) (strOfNums (varL x.toNat), true) := by
  obtain ⟨n, rfl⟩ := Int.eq_ofNat_of_zero_le h0
  simp only [impl_VarText.f, impl_in.f, if_pos h0, Option.bind_some, decide_eq_true h1, if_true]
  exact ivar_ev n [] (by omega) (by simp; omega)
def val : List Int → Int
  | [] => 0
  | c :: l => c % 128 + 128 * val l
theorem varL_byt (n : Nat) : Byt (varL n) := by
  induction n using Nat.strongRecOn with
  | ind n ih =>
    by_cases h : n > 127
    · rw [varL_big h]
      intro x hx
      rcases List.mem_cons.mp hx with rfl | hx
      · omega
      · exact ih (n / 128) (by omega) x hx
    · rw [varL_small h]
      intro x hx
      simp at hx
      omega
def rvP (s : ByteArray) (at_ : Int) : Nat → Int → Int → Int → Int × Int × Bool
  | 0, _, _, _ => (0, 0, false)
  | d + 1, i, n, u => if i < s.size then (if bt s i < 128 then (if (bt s i = 0 ∧ i > at_) ∨ n + bt s i % 128 * u > 1000000000 then (0, 0, false) else (n + bt s i % 128 * u, i + 1, true)) else rvP s at_ d (i + 1) (n + bt s i % 128 * u) (u * 128)) else (0, 0, false)
def U5 : Nat → Int
  | 0 => 34359738368
  | 1 => 268435456
  | 2 => 2097152
  | 3 => 16384
  | 4 => 128
  | _ => 1
theorem wrap_bt (s : ByteArray) (i : Int) : wrap64 (bt s i) = bt s i := by
  have := bt_range s i
  unfold wrap64; omega
theorem tmod_bt (s : ByteArray) (i : Int) : Int.tmod (bt s i) 128 = bt s i % 128 := Int.tmod_eq_emod_of_nonneg (bt_range s i).1
theorem rv_step {s : ByteArray} {i n : Int} {d : Nat} (hd : d < 5) (hn : 0 ≤ n) (hu : n < U5 (d + 1)) :
    0 ≤ n + bt s i % 128 * U5 (d + 1) ∧ n + bt s i % 128 * U5 (d + 1) < U5 d ∧ U5 (d + 1) * 128 = U5 d ∧ wrap64 (bt s i % 128 * U5 (d + 1)) = bt s i % 128 * U5 (d + 1) ∧ wrap64 (n + bt s i % 128 * U5 (d + 1)) = n + bt s i % 128 * U5 (d + 1) ∧ wrap64 (U5 (d + 1) * 128) = U5 (d + 1) * 128 := by
  have hb : 0 ≤ bt s i % 128 ∧ bt s i % 128 ≤ 127 := by omega
  generalize bt s i % 128 = q at hb ⊢
  have : d = 0 ∨ d = 1 ∨ d = 2 ∨ d = 3 ∨ d = 4 := by omega
  rcases this with rfl | rfl | rfl | rfl | rfl <;> simp only [U5, Nat.zero_add, Nat.reduceAdd, wrap64] at hu ⊢ <;> omega
theorem impl_rv_ev (s : ByteArray) (at_ : Int) (hs : s.size ≤ 140737488351232) (h0 : 0 ≤ at_) (h1 : at_ ≤ s.size) : ∀ (d : Nat) (i n : Int), d ≤ 5 → at_ ≤ i → i ≤ s.size → at_ + 5 - i = d → 0 ≤ n → n < U5 d →
    Ev (fun k => impl_ReadVar.l0 k s at_ n (U5 d) i) (rvP s at_ d i n (U5 d)) := by
  intro d
  have ew : wrap64 (at_ + 5) = at_ + 5 := by unfold wrap64; omega
  induction d with
  | zero =>
    intro i n hd5 hi hi2 hd hn hu
    by_cases hlt : i < s.size
    · refine Ev.step (fun k => by rw [impl_ReadVar.l0, if_pos hlt, ew, decide_eq_false (by omega)]) ?_
      refine Ev.step (fun k => by rw [impl_ReadVar.j1, if_neg (by simp)]) ?_
      exact Ev.now _
    · refine Ev.step (fun k => by rw [impl_ReadVar.l0, if_neg hlt]) ?_
      refine Ev.step (fun k => by rw [impl_ReadVar.j1, if_neg (by simp)]) ?_
      exact Ev.now _
  | succ d ih =>
    intro i n hd5 hi hi2 hd hn hu
    obtain ⟨r1, r2, r3, r4, r5, r6⟩ := rv_step (s := s) (i := i) (by omega) hn hu
    by_cases hlt : i < s.size
    · have ei : wrap64 (i + 1) = i + 1 := by unfold wrap64; omega
      refine Ev.step (fun k => by rw [impl_ReadVar.l0, if_pos hlt, ew, decide_eq_true (by omega)]) ?_
      refine Ev.step (fun k => by rw [impl_ReadVar.j1, if_pos rfl, if_pos (by omega), if_pos hlt, wrap_bt, tmod_bt, r4, r5, r6, ei]) ?_
      rw [rvP, if_pos hlt]
      by_cases hb : bt s i < 128
      · simp only [if_pos hb]
        by_cases hz : bt s i = 0
        · by_cases hg : i > at_
          · simp only [if_pos hz, if_pos hg]
            rw [if_pos (Or.inl ⟨hz, hg⟩)]
            exact Ev.now _
          · simp only [if_pos hz, if_neg hg]
            by_cases hm : n + bt s i % 128 * U5 (d + 1) > 1000000000
            · simp only [if_pos hm]
              rw [if_pos (Or.inr hm)]
              exact Ev.now _
            · simp only [if_neg hm]
              rw [if_neg (by intro hh; rcases hh with hh | hh; exact hg hh.2; exact hm hh)]
              exact Ev.now _
        · simp only [if_neg hz]
          by_cases hm : n + bt s i % 128 * U5 (d + 1) > 1000000000
          · simp only [if_pos hm]
            rw [if_pos (Or.inr hm)]
            exact Ev.now _
          · simp only [if_neg hm]
            rw [if_neg (by intro hh; rcases hh with hh | hh; exact hz hh.1; exact hm hh)]
            exact Ev.now _
      · simp only [if_neg hb]
        rw [r3]
        exact ih (i + 1) _ (by omega) (by omega) (by omega) (by omega) r1 r2
    · refine Ev.step (fun k => by rw [impl_ReadVar.l0, if_neg hlt]) ?_
      refine Ev.step (fun k => by rw [impl_ReadVar.j1, if_neg (by simp)]) ?_
      rw [rvP, if_neg hlt]
      exact Ev.now _
def readVar (s : ByteArray) (at_ : Int) : Int × Int × Bool := if 0 ≤ at_ ∧ at_ ≤ s.size then rvP s at_ 5 at_ 0 1 else (0, 0, false)
theorem impl_ReadVar_ev (s : ByteArray) (at_ : Int) (hs : s.size ≤ 140737488351232) : Ev (fun k => impl_ReadVar.f k s at_) (readVar s at_) := by
  simp only [impl_ReadVar.f, impl_in.f, readVar]
  by_cases h0 : 0 ≤ at_
  · by_cases h1 : at_ ≤ s.size
    · simp only [ge_iff_le, if_pos h0, Option.bind_some, decide_eq_true h1, if_true]
      rw [if_pos ⟨h0, h1⟩]
      exact impl_rv_ev s at_ hs h0 h1 5 at_ 0 (by omega) (by omega) h1 (by omega) (by omega) (by simp [U5])
    · simp only [ge_iff_le, if_pos h0, Option.bind_some, decide_eq_false h1]
      rw [if_neg (by omega)]
      exact Ev.now _
  · simp only [ge_iff_le, if_neg h0, Option.bind_some]
    rw [if_neg (by omega)]
    exact Ev.now _
/-- What a number that was read is. -/
theorem rvP_ok (s : ByteArray) (at_ : Int) : ∀ (d : Nat) (i n u : Int), at_ ≤ i → i ≤ s.size → 0 ≤ n → 0 ≤ u → (rvP s at_ d i n u).2.2 = true → 0 ≤ (rvP s at_ d i n u).1 ∧ (rvP s at_ d i n u).1 ≤ 1000000000 ∧ i < (rvP s at_ d i n u).2.1 ∧ (rvP s at_ d i n u).2.1 ≤ s.size
  | 0, _, _, _, _, _, _, _, h => by simp [rvP] at h
  | d + 1, i, n, u, h1, h2, h3, h4, h => by
    have hp : 0 ≤ bt s i % 128 * u := Int.mul_nonneg (by omega) h4
    rw [rvP] at h ⊢
    split
    · rename_i hlt
      rw [if_pos hlt] at h
      split
      · rename_i hb
        rw [if_pos hb] at h
        split
        · rename_i hc; rw [if_pos hc] at h; simp at h
        · rename_i hc
          have : ¬ n + bt s i % 128 * u > 1000000000 := fun hh => hc (Or.inr hh)
          simp only
          omega
      · rename_i hb
        rw [if_neg hb] at h
        have := rvP_ok s at_ d (i + 1) _ _ (by omega) (by omega) (by omega) (by omega) h
        omega
    · rename_i hlt; rw [if_neg hlt] at h; simp at h
theorem readVar_ok {s : ByteArray} {at_ : Int} (h : (readVar s at_).2.2 = true) : 0 ≤ at_ ∧ 0 ≤ (readVar s at_).1 ∧ (readVar s at_).1 ≤ 1000000000 ∧ at_ < (readVar s at_).2.1 ∧ (readVar s at_).2.1 ≤ s.size := by
  unfold readVar at h ⊢
  split
  · rename_i hc
    rw [if_pos hc] at h
    have := rvP_ok s at_ 5 at_ 0 1 (by omega) (by omega) (by omega) (by omega) h
    omega
  · rename_i hc; rw [if_neg hc] at h; simp at h
def shortP (s : ByteArray) : ByteArray × Bool := if (s.size : Int) > 20000 then ((⟨#[]⟩ : ByteArray), false) else (strOfNums (varL s.size) ++ s, true)
theorem str_size' (l : List Int) : (strOfNums l).size = l.length := by
  show (strOfNums l).data.size = _
  unfold strOfNums
  simp
theorem impl_ShortText_ev (s : ByteArray) : Ev (fun k => impl_ShortText.f k s) (shortP s) := by
  simp only [impl_ShortText.f]
  unfold shortP
  by_cases h : (s.size : Int) > 20000
  · simp only [if_pos h]; exact Ev.now _
  · simp only [if_neg h]
    refine Ev.bind (impl_VarText_ev (by omega) (by omega)) ?_
    have := varL_len s.size
    simp only [Int.toNat_natCast, str_size', if_pos (show (varL s.size).length + s.size ≤ 9223372036854775807 by omega)]
    exact Ev.now _
def readShort (s : ByteArray) (at_ : Int) : ByteArray × Int × Bool :=
  let b := readVar s at_
  if b.2.2 = true then (if b.1 > 20000 then ((⟨#[]⟩ : ByteArray), 0, false) else (if b.1 > (s.size : Int) - b.2.1 then ((⟨#[]⟩ : ByteArray), 0, false) else (s.extract b.2.1.toNat (b.2.1 + b.1).toNat, b.2.1 + b.1, true))) else ((⟨#[]⟩ : ByteArray), 0, false)
theorem impl_ReadShort_ev (s : ByteArray) (at_ : Int) (hs : s.size ≤ 140737488351232) : Ev (fun k => impl_ReadShort.f k s at_) (readShort s at_) := by
  simp only [impl_ReadShort.f]
  refine Ev.bind (impl_ReadVar_ev s at_ hs) ?_
  unfold readShort
  by_cases h : (readVar s at_).2.2 = true
  · have hk := readVar_ok h
    have e1 : wrap64 ((s.size : Int) - (readVar s at_).2.1) = (s.size : Int) - (readVar s at_).2.1 := by unfold wrap64; omega
    have e2 : wrap64 ((readVar s at_).2.1 + (readVar s at_).1) = (readVar s at_).2.1 + (readVar s at_).1 := by unfold wrap64; omega
    simp only [if_pos h, e1, e2]
    by_cases h1 : (readVar s at_).1 > 20000
    · simp only [if_pos h1]; exact Ev.now _
    · by_cases h2 : (readVar s at_).1 > (s.size : Int) - (readVar s at_).2.1
      · simp only [if_neg h1, if_pos h2]; exact Ev.now _
      · simp only [if_neg h1, if_neg h2, if_pos (show 0 ≤ (readVar s at_).2.1 by omega), if_pos (show (readVar s at_).2.1 ≤ (readVar s at_).2.1 + (readVar s at_).1 by omega), if_pos (show (readVar s at_).2.1 + (readVar s at_).1 ≤ (s.size : Int) by omega)]
        exact Ev.now _
  · simp only [if_neg h]; exact Ev.now _
def fig (x : Int) : Int := if x < 10 then 48 + x else 87 + x
def figs : ByteArray := ⟨#[48, 49, 50, 51, 52, 53, 54, 55, 56, 57, 97, 98, 99, 100, 101, 102]⟩
theorem figs_at {x : Int} (h0 : 0 ≤ x) (h1 : x < 16) : bt figs x = fig x := by
  have : x = 0 ∨ x = 1 ∨ x = 2 ∨ x = 3 ∨ x = 4 ∨ x = 5 ∨ x = 6 ∨ x = 7 ∨ x = 8 ∨ x = 9 ∨ x = 10 ∨ x = 11 ∨ x = 12 ∨ x = 13 ∨ x = 14 ∨ x = 15 := by omega
  rcases this with rfl | rfl | rfl | rfl | rfl | rfl | rfl | rfl | rfl | rfl | rfl | rfl | rfl | rfl | rfl | rfl <;> rfl
def hexAt (s : ByteArray) : Nat → Int → List Int → List Int
  | 0, _, acc => acc
  | d + 1, i, acc => hexAt s d (i + 1) (acc ++ [fig (bt s i / 16), fig (bt s i % 16)])
theorem u8_and15' {x : Int} (h0 : 0 ≤ x) (h1 : x ≤ 255) : Go.bits .and .u8 x 15 = x % 16 := Go.u8_and15 _ h0 (by omega)
def hexP (s : ByteArray) : ByteArray × Bool := if (s.size : Int) > 20000 then ((⟨#[]⟩ : ByteArray), false) else (strOfNums (hexAt s s.size 0 []), true)
theorem impl_hex_ev (s : ByteArray) (hs : s.size ≤ 20000) : ∀ (d : Nat) (i : Int) (acc : List Int), 0 ≤ i → (s.size : Int) - i = d → acc.length ≤ 2 * i →
    Ev (fun k => impl_Hex.l0 k s acc s.size i) (strOfNums (hexAt s d i acc), true) := by
  intro d
  induction d with
  | zero =>
    intro i acc hi hd hl
    refine Ev.step (fun k => by rw [impl_Hex.l0, if_neg (by omega)]) ?_
    exact Ev.now _
  | succ d ih =>
    intro i acc hi hd hl
    have hb := bt_range s i
    have ea := u8_and15' hb.1 hb.2
    have e3 : wrap64 (i + 1) = i + 1 := by unfold wrap64; omega
    refine Ev.step (fun k => by rw [impl_Hex.l0, if_pos (by omega), if_pos hi, if_pos (by omega), ea, e3, if_pos (by omega), if_pos (by omega), if_pos (by omega), if_pos (by omega), Option.bind_some, if_pos (by simp; omega)]) ?_
    have f1 := figs_at (x := bt s i / 16) (by omega) (by omega)
    have f2 := figs_at (x := bt s i % 16) (by omega) (by omega)
    unfold figs at f1 f2
    rw [f1, f2]
    exact ih (i + 1) _ (by omega) (by omega) (by simp; omega)
theorem impl_Hex_ev (s : ByteArray) : Ev (fun k => impl_Hex.f k s) (hexP s) := by
  simp only [impl_Hex.f]
  unfold hexP
  by_cases h : (s.size : Int) > 20000
  · simp only [if_pos h]; exact Ev.now _
  · simp only [if_neg h]
    exact impl_hex_ev s (by omega) s.size 0 [] (by omega) (by omega) (by simp)
def unfig (x : Int) : Int := if 48 ≤ x ∧ x ≤ 57 then x - 48 else if 97 ≤ x ∧ x ≤ 102 then x - 87 else -1
theorem unfig_place : ∀ n : Fin 256, Lib.indexByte (⟨#[48, 49, 50, 51, 52, 53, 54, 55, 56, 57, 97, 98, 99, 100, 101, 102]⟩ : ByteArray).data.toList ((n.val : Int).toNat.toUInt8) = unfig (n.val : Int) := by decide +kernel
theorem place_eq {x : Int} (h0 : 0 ≤ x) (h1 : x ≤ 255) : strings_IndexByte.f (⟨#[48, 49, 50, 51, 52, 53, 54, 55, 56, 57, 97, 98, 99, 100, 101, 102]⟩ : ByteArray) x = some (unfig x) := by
  obtain ⟨n, rfl⟩ := Int.eq_ofNat_of_zero_le h0
  have := unfig_place ⟨n, by omega⟩
  rw [strings_IndexByte.f, this]
def unhexAt (s : ByteArray) : Nat → Int → List Int → ByteArray × Bool
  | 0, _, acc => (strOfNums acc, true)
  | d + 1, i, acc => if unfig (bt s i) < 0 then ((⟨#[]⟩ : ByteArray), false) else if unfig (bt s (i + 1)) < 0 then ((⟨#[]⟩ : ByteArray), false) else unhexAt s d (i + 2) (acc ++ [(wrap64 (wrap64 (16 * unfig (bt s i)) + unfig (bt s (i + 1)))) % 256])
def unhexP (s : ByteArray) : ByteArray × Bool := if (s.size : Int) > 40000 ∨ ¬ (s.size : Int) % 2 = 0 then ((⟨#[]⟩ : ByteArray), false) else unhexAt s (s.size / 2) 0 []
theorem impl_unhex_ev (s : ByteArray) (hs : s.size ≤ 40000) : ∀ (d : Nat) (i : Int) (acc : List Int), 0 ≤ i → (s.size : Int) - i = 2 * d → acc.length ≤ i →
    Ev (fun k => impl_Unhex.l0 k s acc i) (unhexAt s d i acc) := by
  intro d
  induction d with
  | zero =>
    intro i acc hi hd hl
    refine Ev.step (fun k => by rw [impl_Unhex.l0, if_neg (by omega)]) ?_
    exact Ev.now _
  | succ d ih =>
    intro i acc hi hd hl
    have hb := bt_range s i
    have hb2 := bt_range s (i + 1)
    have e1 : wrap64 (i + 1) = i + 1 := by unfold wrap64; omega
    have e2 : wrap64 (i + 2) = i + 2 := by unfold wrap64; omega
    refine Ev.step (fun k => by rw [impl_Unhex.l0, if_pos (by omega), if_pos hi, place_eq hb.1 (by omega), Option.bind_some, e1, e2, if_pos (by omega), if_pos (by omega), place_eq hb2.1 (by omega), Option.bind_some]) ?_
    rw [unhexAt]
    by_cases c1 : unfig (bt s i) < 0
    · simp only [if_pos c1]; exact Ev.now _
    · simp only [if_neg c1]
      by_cases c2 : unfig (bt s (i + 1)) < 0
      · simp only [if_pos c2]; exact Ev.now _
      · simp only [if_neg c2, if_pos (show acc.length < 140737488355328 by omega)]
        exact ih (i + 2) _ (by omega) (by omega) (by simp; omega)
theorem unhexP_long {s : ByteArray} (h : (s.size : Int) > 40000) : unhexP s = ((⟨#[]⟩ : ByteArray), false) := by unfold unhexP; rw [if_pos (.inl h)]
theorem unhexP_odd {s : ByteArray} (h : ¬ (s.size : Int) % 2 = 0) : unhexP s = ((⟨#[]⟩ : ByteArray), false) := by unfold unhexP; rw [if_pos (.inr h)]
theorem unhexP_go {s : ByteArray} (h : ¬ (s.size : Int) > 40000) (h2 : (s.size : Int) % 2 = 0) : unhexP s = unhexAt s (s.size / 2) 0 [] := by unfold unhexP; rw [if_neg (fun c => c.elim h (fun c => c h2))]
theorem impl_Unhex_ev (s : ByteArray) : Ev (fun k => impl_Unhex.f k s) (unhexP s) := by
  by_cases h2 : (s.size : Int) % 2 = 0
  · simp only [impl_Unhex.f, if_pos h2]
    by_cases h : (s.size : Int) > 40000
    · rw [unhexP_long h]
      refine Ev.step (fun k => by rw [impl_Unhex.j0, if_pos (decide_eq_true h)]) ?_
      exact Ev.now _
    · rw [unhexP_go h h2]
      refine Ev.step (fun k => by rw [impl_Unhex.j0, if_neg (by simpa using h)]) ?_
      exact impl_unhex_ev s (by omega) _ 0 [] (by omega) (by omega) (by simp)
  · rw [unhexP_odd h2]
    simp only [impl_Unhex.f, if_neg h2]
    refine Ev.step (fun k => by rw [impl_Unhex.j0, if_pos rfl]) ?_
    exact Ev.now _
/-! there and back -/
theorem drop_cons {L : List Int} {j : Nat} {c : Int} {l : List Int} (h : L.drop j = c :: l) : j < L.length ∧ L.getD j 0 = c ∧ L.drop (j + 1) = l := by
  have hj : j < L.length := by
    rcases Nat.lt_or_ge j L.length with h' | h'
    · exact h'
    · rw [List.drop_eq_nil_of_le h'] at h; cases h
  have e := List.drop_eq_getElem_cons hj
  rw [h] at e
  injection e with e1 e2
  refine ⟨hj, ?_, e2.symm⟩
  rw [List.getD_eq_getElem?_getD, List.getElem?_eq_getElem hj]
  exact e1.symm
theorem rv_back : ∀ (d n : Nat) (s : ByteArray) (at_ v u : Int) (i : Nat) (rest : List Int), n < 128 ^ d → 1 ≤ d → (bytesOf s).drop i = varL n ++ rest → 0 ≤ v → 0 ≤ u → v + n * u ≤ 1000000000 → (n ≠ 0 ∨ (i : Int) ≤ at_) →
    rvP s at_ d i v u = (v + n * u, (i : Int) + (varL n).length, true)
  | 0, n, s, at_, v, u, i, rest, h, hd, _, _, _, _, _ => by omega
  | d + 1, n, s, at_, v, u, i, rest, h, hd, hb, hv, hu, hm, hz => by
    have hlen : (bytesOf s).length = s.size := bytesOf_length s
    by_cases hn : n > 127
    · rw [varL_big hn, List.cons_append] at hb
      obtain ⟨h1, h2, h3⟩ := drop_cons hb
      have e : bt s (i : Int) = ((n % 128 + 128 : Nat) : Int) := by rw [bt_get, Int.toNat_natCast]; exact h2
      have hd1 : 1 ≤ d := by
        rcases Nat.eq_zero_or_pos d with rfl | h'
        · simp at h; omega
        · exact h'
      have hq : n / 128 < 128 ^ d := by rw [Nat.pow_succ] at h; omega
      have e2 : bt s (i : Int) % 128 = ((n % 128 : Nat) : Int) := by rw [e]; omega
      have hnn : (n : Int) = ((n / 128 : Nat) : Int) * 128 + ((n % 128 : Nat) : Int) := by omega
      have hu2 : (n : Int) * u = ((n % 128 : Nat) : Int) * u + ((n / 128 : Nat) : Int) * (u * 128) := by
        rw [hnn, Int.add_mul, Int.mul_assoc, Int.mul_comm 128 u]; omega
      have hp1 : 0 ≤ ((n % 128 : Nat) : Int) * u := Int.mul_nonneg (by omega) hu
      have ih := rv_back d (n / 128) s at_ (v + ((n % 128 : Nat) : Int) * u) (u * 128) (i + 1) rest hq hd1 h3 (by omega) (by omega) (by omega) (.inl (by omega))
      rw [rvP, if_pos (by omega), if_neg (by rw [e]; omega), e2, show ((i : Int) + 1) = ((i + 1 : Nat) : Int) by omega, ih, varL_big hn]
      refine Prod.ext ?_ (Prod.ext ?_ rfl)
      · show v + ((n % 128 : Nat) : Int) * u + ((n / 128 : Nat) : Int) * (u * 128) = v + n * u; omega
      · show ((i + 1 : Nat) : Int) + ((varL (n / 128)).length : Int) = (i : Int) + ((_ :: varL (n / 128)).length : Int)
        rw [List.length_cons]; omega
    · rw [varL_small hn, List.singleton_append] at hb
      obtain ⟨h1, h2, h3⟩ := drop_cons hb
      have e : bt s (i : Int) = (n : Int) := by rw [bt_get, Int.toNat_natCast]; exact h2
      have e2 : (n : Int) % 128 = n := by omega
      rw [rvP, if_pos (by omega), e, if_pos (by omega), e2, if_neg (by intro hh; rcases hh with hh | hh; omega; omega), varL_small hn]
      rfl
theorem readVar_back (s : ByteArray) (at_ n : Nat) (rest : List Int) (hn : n ≤ 1000000000) (h : (bytesOf s).drop at_ = varL n ++ rest) : readVar s at_ = ((n : Int), (at_ : Int) + (varL n).length, true) := by
  have hlen : (bytesOf s).length = s.size := bytesOf_length s
  have hlt : at_ ≤ s.size := by
    rcases Nat.lt_or_ge at_ (bytesOf s).length with h' | h'
    · omega
    · rw [List.drop_eq_nil_of_le h'] at h
      have := congrArg List.length h
      simp only [List.length_nil, List.length_append] at this
      have hv : varL n ≠ [] := by rw [varL]; split <;> simp
      have : (varL n).length ≠ 0 := fun e => hv (List.length_eq_zero_iff.1 e)
      omega
  unfold readVar
  rw [if_pos (by omega), rv_back 5 n s at_ 0 1 at_ rest (by omega) (by omega) h (by omega) (by omega) (by omega) (.inr (by omega))]
  rw [Int.mul_one, Int.zero_add]
theorem varL_len5 : ∀ (d n : Nat), 1 ≤ d → n < 128 ^ d → (varL n).length ≤ d
  | 0, _, h, _ => by omega
  | d + 1, n, _, h => by
    by_cases hn : n > 127
    · have hd1 : 1 ≤ d := by
        rcases Nat.eq_zero_or_pos d with rfl | h'
        · simp at h; omega
        · exact h'
      rw [varL_big hn, List.length_cons]
      have := varL_len5 d (n / 128) hd1 (by rw [Nat.pow_succ] at h; omega)
      omega
    · rw [varL_small hn]; simp
theorem var_back (n : Nat) (hn : n ≤ 1000000000) : readVar (((⟨#[120]⟩ : ByteArray) ++ strOfNums (varL n)) ++ (⟨#[121]⟩ : ByteArray)) 1 = ((n : Int), ((strOfNums (varL n)).size : Int) + 1, true) := by
  have h := readVar_back (((⟨#[120]⟩ : ByteArray) ++ strOfNums (varL n)) ++ (⟨#[121]⟩ : ByteArray)) 1 n (bytesOf (⟨#[121]⟩ : ByteArray)) hn (by
    rw [bytesOf_append, bytesOf_append, bytesOf_str (varL_byt _)]
    rfl)
  rw [str_size]
  rw [show ((1 : Nat) : Int) = 1 from rfl] at h
  rw [h]
  refine Prod.ext rfl (Prod.ext ?_ rfl)
  show (1 : Int) + _ = _ + 1
  omega
theorem short_back (t : ByteArray) (ht : t.size ≤ 20000) : readShort (strOfNums (varL t.size) ++ t) 0 = (t, ((strOfNums (varL t.size) ++ t).size : Int), true) := by
  have hz : (strOfNums (varL t.size) ++ t).size = (varL t.size).length + t.size := by rw [ByteArray.size_append, str_size]
  have h := readVar_back (strOfNums (varL t.size) ++ t) 0 t.size (bytesOf t) (by omega) (by
    rw [bytesOf_append, bytesOf_str (varL_byt _), List.drop_zero])
  rw [show ((0 : Nat) : Int) = 0 from rfl, Int.zero_add] at h
  unfold readShort
  simp only
  rw [h]
  simp only
  rw [if_pos trivial, if_neg (by omega), if_neg (by rw [hz]; omega)]
  refine Prod.ext ?_ (Prod.ext ?_ rfl)
  · show (strOfNums (varL t.size) ++ t).extract _ _ = t
    apply bytesOf_inj
    rw [bytesOf_extract, bytesOf_append, bytesOf_str (varL_byt _)]
    rw [Int.toNat_natCast, List.drop_left, show (((varL t.size).length : Int) + (t.size : Int)).toNat - (varL t.size).length = t.size by omega]
    rw [← bytesOf_length t, List.take_length]
  · show ((varL t.size).length : Int) + (t.size : Int) = ((strOfNums (varL t.size) ++ t).size : Int)
    omega
def hexL : List Int → List Int
  | [] => []
  | b :: l => fig (b / 16) :: fig (b % 16) :: hexL l
theorem hexL_length : ∀ l : List Int, (hexL l).length = 2 * l.length
  | [] => rfl
  | b :: l => by simp [hexL, hexL_length l]; omega
theorem hexAt_list (s : ByteArray) : ∀ (d i : Nat) (acc : List Int), i + d = s.size → hexAt s d i acc = acc ++ hexL ((bytesOf s).drop i)
  | 0, i, acc, h => by
    have hlen : (bytesOf s).length = s.size := bytesOf_length s
    rw [hexAt, List.drop_eq_nil_of_le (by omega), hexL, List.append_nil]
  | d + 1, i, acc, h => by
    have hlen : (bytesOf s).length = s.size := bytesOf_length s
    have hi : i < (bytesOf s).length := by omega
    have e := List.drop_eq_getElem_cons hi
    have hb : bt s (i : Int) = (bytesOf s)[i] := by
      rw [bt_get, Int.toNat_natCast, List.getD_eq_getElem?_getD, List.getElem?_eq_getElem hi]; rfl
    rw [hexAt, show ((i : Int) + 1) = ((i + 1 : Nat) : Int) by omega, hexAt_list s d (i + 1) _ (by omega), e, hexL, hb, List.append_assoc]
    rfl
theorem fig_range {x : Int} (h0 : 0 ≤ x) (h1 : x < 16) : 0 ≤ fig x ∧ fig x < 256 ∧ unfig (fig x) = x := by
  unfold fig unfig
  by_cases c : x < 10
  · rw [if_pos c, if_pos (by omega)]; omega
  · rw [if_neg c, if_neg (by omega), if_pos (by omega)]; omega
theorem hexL_byt : ∀ l : List Int, Byt l → Byt (hexL l)
  | [], _ => by intro x hx; cases hx
  | b :: l, h => by
    have hb := h b (by simp)
    intro x hx
    rcases List.mem_cons.1 hx with rfl | hx
    · have := fig_range (x := b / 16) (by omega) (by omega); omega
    rcases List.mem_cons.1 hx with rfl | hx
    · have := fig_range (x := b % 16) (by omega) (by omega); omega
    · exact hexL_byt l (fun y hy => h y (by simp [hy])) x hx
theorem unhex_back (s : ByteArray) : ∀ (l : List Int) (j : Nat) (acc : List Int), Byt l → (bytesOf s).drop j = hexL l → unhexAt s l.length j acc = (strOfNums (acc ++ l), true)
  | [], j, acc, _, _ => by rw [List.append_nil]; rfl
  | b :: l, j, acc, hB, h => by
    have hb := hB b (by simp)
    rw [hexL] at h
    obtain ⟨_, g1, g2⟩ := drop_cons h
    obtain ⟨_, g3, g4⟩ := drop_cons g2
    have e1 : bt s (j : Int) = fig (b / 16) := by rw [bt_get, Int.toNat_natCast]; exact g1
    have e2 : bt s ((j : Int) + 1) = fig (b % 16) := by rw [show ((j : Int) + 1) = ((j + 1 : Nat) : Int) by omega, bt_get, Int.toNat_natCast]; exact g3
    have f1 := fig_range (x := b / 16) (by omega) (by omega)
    have f2 := fig_range (x := b % 16) (by omega) (by omega)
    rw [List.length_cons, unhexAt, e1, e2, f1.2.2, f2.2.2, if_neg (by omega), if_neg (by omega), show ((j : Int) + 2) = ((j + 1 + 1 : Nat) : Int) by omega,
      unhex_back s l (j + 1 + 1) _ (fun y hy => hB y (by simp [hy])) g4]
    have e3 : (wrap64 ((wrap64 (16 * (b / 16))) + b % 16)) % 256 = b := by unfold wrap64; omega
    rw [e3, List.append_assoc, List.singleton_append]
theorem hex_back (t : ByteArray) (ht : t.size ≤ 20000) : ∃ h, hexP t = (h, true) ∧ unhexP h = (t, true) := by
  have hlen : (bytesOf t).length = t.size := bytesOf_length t
  have e := hexAt_list t t.size 0 [] (by omega)
  rw [List.drop_zero, List.nil_append, show ((0 : Nat) : Int) = 0 from rfl] at e
  refine ⟨strOfNums (hexL (bytesOf t)), ?_, ?_⟩
  · unfold hexP
    rw [if_neg (by omega), e]
  · have hz : (strOfNums (hexL (bytesOf t))).size = 2 * t.size := by rw [str_size, hexL_length, hlen]
    rw [unhexP_go (by rw [hz]; omega) (by rw [hz]; omega), hz, show 2 * t.size / 2 = (bytesOf t).length by omega]
    have := unhex_back (strOfNums (hexL (bytesOf t))) (bytesOf t) 0 [] (bytesOf_byt t) (by rw [bytesOf_str (hexL_byt _ (bytesOf_byt t)), List.drop_zero])
    rw [show ((0 : Nat) : Int) = 0 from rfl, List.nil_append, str_bytesOf] at this
    exact this
-- impl_VarText_ev impl_ReadVar_ev impl_ShortText_ev impl_ReadShort_ev impl_Hex_ev impl_Unhex_ev l01Byte_some l01Below_some l01Below_big spec_l01New_ev spec_DrawHex_ev shortP
theorem l01Below_huge (l : List Int) (p s a : Int) (hp : 0 ≤ p) (hl : l.length ≤ 4611686018427387904) (ha : 256 < a) (ha2 : a ≤ 1000000000) : ∃ v q t, spec_l01Below.f l p s a = some (v, q, t) ∧ 0 ≤ v ∧ v < a ∧ 0 ≤ q := by
  unfold spec_l01Below.f
  obtain ⟨v1, q1, t1, h1, a1, b1, c1⟩ := l01Byte_some l p s hp hl
  obtain ⟨v2, q2, t2, h2, a2, b2, c2⟩ := l01Byte_some l q1 t1 c1 hl
  obtain ⟨v3, q3, t3, h3, a3, b3, c3⟩ := l01Byte_some l q2 t2 c2 hl
  obtain ⟨v4, q4, t4, h4, a4, b4, c4⟩ := l01Byte_some l q3 t3 c3 hl
  rw [if_neg (by omega), if_neg (by omega)]
  simp only [h1, h2, h3, h4, Option.bind_some]
  rw [if_neg (by omega)]
  have w1 : wrap64 (v1 * 16777216) = v1 * 16777216 := by unfold wrap64; omega
  have w2 : wrap64 (v2 * 65536) = v2 * 65536 := by unfold wrap64; omega
  have w3 : wrap64 (v3 * 256) = v3 * 256 := by unfold wrap64; omega
  have w4 : wrap64 (v1 * 16777216 + v2 * 65536) = v1 * 16777216 + v2 * 65536 := by unfold wrap64; omega
  have w5 : wrap64 (v1 * 16777216 + v2 * 65536 + v3 * 256) = v1 * 16777216 + v2 * 65536 + v3 * 256 := by unfold wrap64; omega
  have w6 : wrap64 (v1 * 16777216 + v2 * 65536 + v3 * 256 + v4) = v1 * 16777216 + v2 * 65536 + v3 * 256 + v4 := by unfold wrap64; omega
  rw [w1, w2, w3, w4, w5, w6]
  exact ⟨_, _, _, rfl, Int.tmod_nonneg _ (by omega), Int.tmod_lt_of_pos _ (by omega), c4⟩
theorem pick_some (l : List Int) (p s : Int) (hp : 0 ≤ p) (hl : l.length ≤ 4611686018427387904) (xs : List Int) (h1 : 1 ≤ xs.length) (h2 : xs.length ≤ 256) : ∃ v q t, spec_l01PickInt.f l p s xs = some (v, q, t) := by
  unfold spec_l01PickInt.f
  obtain ⟨v, q, t, g1, g2, g3, g4⟩ := l01Below_some l p s (xs.length : Int) hp hl (by omega) (by omega)
  simp only [g1, Option.bind_some, if_pos g2, if_pos g3]
  exact ⟨_, _, _, rfl⟩
theorem draw_var (l : List Int) (hl : l.length ≤ 4611686018427387904) : ∃ n, Ev (fun k => spec_DrawVarText.f k l) n := by
  obtain ⟨s, hs⟩ := spec_l01New_ev l hl
  have hn : ∃ v q t, spec_l01Number.f l 0 s = some (v, q, t) := by
    unfold spec_l01Number.f
    obtain ⟨v, q, t, g1, g2, g3, g4⟩ := l01Below_some l 0 s 4 (by omega) hl (by omega) (by omega)
    simp only [g1, Option.bind_some]
    by_cases c : v = 0
    · rw [if_pos c]
      obtain ⟨v2, q2, t2, k1⟩ := pick_some l q t g4 hl [(-1), 0, 127, 128, 16383, 16384, 1000000000, 1000000001, 9223372036854775807, (-9223372036854775808)] (by simp) (by simp)
      rw [k1, Option.bind_some]
      exact ⟨_, _, _, rfl⟩
    · rw [if_neg c]
      by_cases c1 : v = 1
      · rw [if_pos c1]
        obtain ⟨v2, q2, t2, k1, _⟩ := l01Below_huge l q t 1000000000 g4 hl (by omega) (by omega)
        rw [k1, Option.bind_some]
        exact ⟨_, _, _, rfl⟩
      · rw [if_neg c1]
        obtain ⟨v2, q2, t2, k1, _⟩ := l01Below_huge l q t 400 g4 hl (by omega) (by omega)
        rw [k1, Option.bind_some]
        exact ⟨_, _, _, rfl⟩
  obtain ⟨v, q, t, hn⟩ := hn
  refine ⟨v, ?_⟩
  simp only [spec_DrawVarText.f]
  refine Ev.bind hs ?_
  simp only [hn, Option.bind_some]
  exact Ev.now _
end Go.Proofs.YtbkklafkoegdpaaDoor.fnNum
