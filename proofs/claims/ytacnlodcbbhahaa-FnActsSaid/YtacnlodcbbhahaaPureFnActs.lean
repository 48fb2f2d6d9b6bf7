/- Of drawn acts what they leave one by one is what they leave all at once, what is added stands behind, what is dropped is gone, and cut off they leave what the reference says. No condition is laid beside the statement. -/
import Derived.Test.YtacnlodcbbhahaaQFnActsx24
import Derived.Laws.BitsLemmas
import Derived.Lib.Bytes
import Derived.OpenShut
namespace Go.Proofs.Ytacnlodcbbhahaa.Pure
open Go.RowKit Go.Proofs.Ytacnlodcbbhahaa.QFnActs Go.Proofs.YtacnlodcbbhahaaW.PrintWords Go.Proofs.YtacnlodcbbhahaaW.PrintLast
set_option linter.unusedVariables false
set_option linter.unusedSimpArgs false
theorem toList_data' (s : ByteArray) : s.toList = s.data.toList := Go.Lib.toList_data s
theorem str_ext {a b : ByteArray} (h : a.toList = b.toList) : a = b := by
 rw [toList_data', toList_data'] at h
 cases a; cases b
 simp at h
 rw [h]
theorem str_size (l : List Int) : (strOfNums l).size = l.length := by
 show (strOfNums l).data.size = _
 unfold strOfNums
 simp
theorem wrap_succ {i n : Nat} (h : i < n) (hn : n ≤ 4611686018427387904) : wrap64 ((i : Int) + 1) = ((i + 1 : Nat) : Int) := by unfold wrap64; omega
theorem Ev.loopR {σ β : Type} {L : Nat → σ → Int → Option β} {n : Nat} (R : Nat → σ → β) (I : Nat → σ → Prop)
  (hstep : ∀ (i : Nat) s, i < n → I i s → Ev (fun k => L k s i) (R i s) ∨ ∃ s', I (i + 1) s' ∧ R i s = R (i + 1) s' ∧ ∀ r, Ev (fun k => L k s' ((i + 1 : Nat) : Int)) r → Ev (fun k => L k s i) r)
  (hend : ∀ s, I n s → Ev (fun k => L k s n) (R n s)) : ∀ (d i : Nat) (s : σ), i + d = n → I i s → Ev (fun k => L k s i) (R i s) := by
 intro d
 induction d with
 | zero =>
  intro i s hi hI
  have : i = n := by omega
  subst this
  exact hend s hI
 | succ d ih =>
  intro i s hi hI
  rcases hstep i s (by omega) hI with h | ⟨s', h1, h2, h3⟩
  ·exact h
  ·rw [h2]
   exact h3 _ (ih (i + 1) s' (by omega) h1)
theorem Ev.apploop {β γ : Type} {L : Nat → List γ → Int → Option β} {n : Nat} (g : Nat → List γ) (fin : List γ → β) (a0 : List γ)
  (hstep : ∀ (i : Nat) x r, i < n → x = a0 ++ (List.range i).flatMap g → Ev (fun k => L k (x ++ g i) ((i + 1 : Nat) : Int)) r → Ev (fun k => L k x i) r)
  (hend : ∀ x, x = a0 ++ (List.range n).flatMap g → Ev (fun k => L k x n) (fin x)) : Ev (fun k => L k a0 0) (fin (a0 ++ (List.range n).flatMap g)) := by
 have key := Ev.loopR (L := L) (n := n) (fun _ _ => fin (a0 ++ (List.range n).flatMap g)) (fun i x => x = a0 ++ (List.range i).flatMap g) (by
  intro i x hi hx
  right
  refine ⟨x ++ g i, by rw [hx, List.range_succ, List.flatMap_append]; simp, rfl, fun r hr => hstep i x r hi hx hr⟩) (by
  intro x hx
  have := hend x hx
  rw [hx] at this ⊢
  exact this)
 exact key n 0 a0 (by omega) (by simp)
theorem Ev.setloop' {β γ : Type} {L : Nat → List γ → Int → Option β} {n : Nat} (g : Nat → γ) (x0 : List γ) (h0 : x0.length = n) (fin : List γ → β)
  (hstep : ∀ (i : Nat) x r, i < n → x.length = n → Ev (fun k => L k (x.set i (g i)) ((i + 1 : Nat) : Int)) r → Ev (fun k => L k x i) r)
  (hend : ∀ x, x.length = n → Ev (fun k => L k x n) (fin x)) : Ev (fun k => L k x0 0) (fin ((List.range n).map g)) := by
 have key := Ev.loopR (L := L) (n := n) (fun _ _ => fin ((List.range n).map g)) (fun i x => x.length = n ∧ ∀ j, j < i → x[j]? = some (g j)) (by
  intro i x hi hx
  right
  refine ⟨x.set i (g i), ⟨by rw [List.length_set]; exact hx.1, fun j hj => ?_⟩, rfl, fun r hr => hstep i x r hi hx.1 hr⟩
  by_cases hji : j = i
  ·subst hji
   rw [List.getElem?_set_self (by omega)]
  ·rw [List.getElem?_set_ne (by omega)]
   exact hx.2 j (by omega)) (by
  intro x hx
  have hxe : x = (List.range n).map g := by
   apply List.ext_getElem?
   intro j
   by_cases hj : j < n
   ·rw [hx.2 j hj]; simp [hj]
   ·rw [List.getElem?_eq_none (by omega), List.getElem?_eq_none (by simp; omega)]
  rw [← hxe]
  exact hend x hx.1)
 exact key n 0 _ (by omega) ⟨h0, fun j hj => by omega⟩
theorem Ev.setloop {β γ : Type} {L : Nat → List γ → Int → Option β} {n : Nat} (g : Nat → γ) (z : γ) (fin : List γ → β)
  (hstep : ∀ (i : Nat) x r, i < n → x.length = n → Ev (fun k => L k (x.set i (g i)) ((i + 1 : Nat) : Int)) r → Ev (fun k => L k x i) r)
  (hend : ∀ x, x.length = n → Ev (fun k => L k x n) (fin x)) : Ev (fun k => L k (List.replicate n z) 0) (fin ((List.range n).map g)) :=
 Ev.setloop' g _ (by simp) fin hstep hend
theorem Ev.allloop {β : Type} {L : Nat → Int → Option β} {n : Nat} (p : Nat → Bool) (c fin : β)
  (hstep : ∀ (i : Nat) r, i < n → p i = true → Ev (fun k => L k ((i + 1 : Nat) : Int)) r → Ev (fun k => L k i) r)
  (hno : ∀ (i : Nat), i < n → p i = false → Ev (fun k => L k i) c)
  (hend : Ev (fun k => L k n) fin) : Ev (fun k => L k 0) (if (List.range n).all p then fin else c) := by
 have key := Ev.loopR (σ := Unit) (L := fun k _ i => L k i) (n := n) (fun i _ => if (List.range' i (n - i)).all p then fin else c) (fun _ _ => True) (by
  intro i _ hi _
  have e : List.range' i (n - i) = i :: List.range' (i + 1) (n - (i + 1)) := by
   have : n - i = (n - (i + 1)) + 1 := by omega
   rw [this, List.range'_succ]
  cases hp : p i with
  | true => right; exact ⟨(), trivial, by rw [e, List.all_cons, hp, Bool.true_and], fun r hr => hstep i r hi hp hr⟩
  | false => left; rw [e, List.all_cons, hp, Bool.false_and]; exact hno i hi hp) (by
  intro _ _
  simpa using hend)
 have := key n 0 () (by omega) trivial
 rw [List.range_eq_range']
 simpa using this
theorem range_map_getD {α β : Type} (l : List α) (d : α) (h : α → β) : (List.range l.length).map (fun i => h (l.getD i d)) = l.map h := by
 apply List.ext_getElem
 ·simp
 ·intro i h1 h2
  simp at h1 h2
  simp [List.getD_eq_getElem?_getD, List.getElem?_eq_getElem h2]
theorem range_flatMap_getD {α β : Type} (l : List α) (d : α) (h : α → List β) : (List.range l.length).flatMap (fun i => h (l.getD i d)) = l.flatMap h := by
 have := congrArg List.flatten (range_map_getD l d h)
 rw [List.flatMap_def, List.flatMap_def]; exact this
theorem flatMap_single {α β : Type} (l : List α) (g : α → β) : l.flatMap (fun x => [g x]) = l.map g := by
 induction l with
 | nil => rfl
 | cons a l ih => simp [ih]
def findR {β : Type} (p : Nat → Bool) (c : Nat → β) (fin : β) : Nat → Nat → β
 | 0, _ => fin
 | d + 1, i => if p i then c i else findR p c fin d (i + 1)
theorem Ev.findloop {β : Type} {L : Nat → Int → Option β} {n : Nat} (p : Nat → Bool) (c : Nat → β) (fin : β)
  (hstep : ∀ (i : Nat) r, i < n → p i = false → Ev (fun k => L k ((i + 1 : Nat) : Int)) r → Ev (fun k => L k i) r)
  (hhit : ∀ (i : Nat), i < n → p i = true → Ev (fun k => L k i) (c i))
  (hend : Ev (fun k => L k n) fin) : Ev (fun k => L k 0) (findR p c fin n 0) := by
 have key := Ev.loopR (σ := Unit) (L := fun k _ i => L k i) (n := n) (fun i _ => findR p c fin (n - i) i) (fun _ _ => True) (by
  intro i _ hi _
  have e : findR p c fin (n - i) i = if p i then c i else findR p c fin (n - (i + 1)) (i + 1) := by
   have : n - i = (n - (i + 1)) + 1 := by omega
   rw [this, findR]
  cases hp : p i with
  | false => right; exact ⟨(), trivial, by rw [e, hp]; rfl, fun r hr => hstep i r hi hp hr⟩
  | true => left; rw [e, hp]; exact hhit i hi hp) (by
  intro _ _
  simpa [findR] using hend)
 have := key n 0 () (by omega) trivial
 simpa using this
theorem findR_range (p : Nat → Bool) : ∀ (d i : Nat), findR p (fun i => (i : Int)) (-1) d i = -1 ∨ ((i : Int) ≤ findR p (fun i => (i : Int)) (-1) d i ∧ findR p (fun i => (i : Int)) (-1) d i < ((i + d : Nat) : Int) ∧ p (findR p (fun i => (i : Int)) (-1) d i).toNat = true)
 | 0, _ => Or.inl rfl
 | d + 1, i => by
  rw [findR]
  split
  ·rename_i h; right; exact ⟨Int.le_refl _, by omega, by simpa using h⟩
  ·rcases findR_range p d (i + 1) with h | h
   ·exact Or.inl h
   ·right; exact ⟨by omega, by omega, h.2.2⟩
theorem and255 (x : Int) : 0 ≤ Go.bits .and .i64 x 255 ∧ Go.bits .and .i64 x 255 ≤ 255 := by
 simp only [Go.bits, BitVec.toNat_and]
 have h : (BitVec.ofInt Go.IntKind.i64.bits x).toNat &&& (BitVec.ofInt Go.IntKind.i64.bits 255).toNat ≤ 255 := Nat.le_trans Nat.and_le_right (by decide)
 rw [Go.IntKind.wrap_i64]
 omega
theorem l01Byte_some (l : List Int) (p s : Int) (hp : 0 ≤ p) (hl : l.length ≤ 4611686018427387904) : ∃ v q t, spec_l01Byte.f l p s = some (v, q, t) ∧ 0 ≤ v ∧ v ≤ 255 ∧ 0 ≤ q := by
 unfold spec_l01Byte.f
 by_cases h : p < (l.length : Int)
 ·rw [if_pos h, if_pos hp]
  refine ⟨_, _, _, rfl, (and255 _).1, (and255 _).2, ?_⟩
  unfold wrap64; omega
 ·rw [if_neg h]
  exact ⟨_, _, _, rfl, (and255 _).1, (and255 _).2, hp⟩
theorem l01Below_some (l : List Int) (p s a : Int) (hp : 0 ≤ p) (hl : l.length ≤ 4611686018427387904) (ha : 1 ≤ a) (ha2 : a ≤ 256) : ∃ v q t, spec_l01Below.f l p s a = some (v, q, t) ∧ 0 ≤ v ∧ v < a ∧ 0 ≤ q := by
 unfold spec_l01Below.f
 obtain ⟨v, q, t, h1, h2, h3, h4⟩ := l01Byte_some l p s hp hl
 rw [if_neg (by omega), if_pos ha2, h1, Option.bind_some, if_neg (by omega)]
 refine ⟨_, _, _, rfl, Int.tmod_nonneg _ h2, Int.tmod_lt_of_pos _ (by omega), h4⟩
theorem spec_l01New_ev (l : List Int) (hl : l.length ≤ 4611686018427387904) : ∃ s, Ev (fun k => spec_l01New.f k l) (l, 0, s) := by
 have key : ∀ (d i : Nat) (s : Int), i + d = l.length → ∃ s', Ev (fun k => spec_l01New.l0 k l s i) (l, 0, s') := by
  intro d
  induction d with
  | zero =>
   intro i s hi
   refine ⟨s, Ev.step (fun k => by rw [spec_l01New.l0, if_neg (by omega)]) ?_⟩
   exact Ev.now _
  | succ d ih =>
   intro i s hi
   by_cases h : (i : Int) < 4000
   ·obtain ⟨s', hs⟩ := ih (i + 1) _ (by omega)
    refine ⟨s', Ev.step (fun k => by rw [spec_l01New.l0, if_pos (by omega), if_pos h, if_pos (by omega), wrap_succ (show i < l.length by omega) hl]) hs⟩
   ·refine ⟨s, Ev.step (fun k => by rw [spec_l01New.l0, if_pos (by omega), if_neg h]) ?_⟩
    exact Ev.now _
 exact key l.length 0 _ (by omega)
theorem l01Below_big (l : List Int) (p s a : Int) (hp : 0 ≤ p) (hl : l.length ≤ 4611686018427387904) (ha : 256 < a) (ha2 : a ≤ 1000000) : ∃ v q t, spec_l01Below.f l p s a = some (v, q, t) ∧ 0 ≤ v ∧ v < a ∧ 0 ≤ q := by
 unfold spec_l01Below.f
 obtain ⟨v1, q1, t1, h1, a1, b1, c1⟩ := l01Byte_some l p s hp hl
 obtain ⟨v2, q2, t2, h2, a2, b2, c2⟩ := l01Byte_some l q1 t1 c1 hl
 obtain ⟨v3, q3, t3, h3, a3, b3, c3⟩ := l01Byte_some l q2 t2 c2 hl
 obtain ⟨v4, q4, t4, h4, a4, b4, c4⟩ := l01Byte_some l q3 t3 c3 hl
 rw [if_neg (by omega), if_neg (by omega)]
 simp only [h1, h2, h3, h4, Option.bind_some]
 rw [if_neg (by omega)]
 have w1 : wrap64 (v1 * 16777216) = v1 * 16777216 := by unfold wrap64; omega
 have w2 : wrap64 (v2 * 65536) = v2 * 65536 := by unfold wrap64; omega
 have w3 : wrap64 (v3 * 256) = v3 * 256 := by unfold wrap64; omega
 have w4 : wrap64 (v1 * 16777216 + v2 * 65536) = v1 * 16777216 + v2 * 65536 := by unfold wrap64; omega
 have w5 : wrap64 (v1 * 16777216 + v2 * 65536 + v3 * 256) = v1 * 16777216 + v2 * 65536 + v3 * 256 := by unfold wrap64; omega
 have w6 : wrap64 (v1 * 16777216 + v2 * 65536 + v3 * 256 + v4) = v1 * 16777216 + v2 * 65536 + v3 * 256 + v4 := by unfold wrap64; omega
 rw [w1, w2, w3, w4, w5, w6]
 exact ⟨_, _, _, rfl, Int.tmod_nonneg _ (by omega), Int.tmod_lt_of_pos _ (by omega), c4⟩
theorem spec_l01Long_ev (n : Nat) (x : Int) (hn : n ≤ 1000000) : Ev (fun k => spec_l01Long.f k n x) (strOfNums (List.replicate n x)) := by
 simp only [spec_l01Long.f, if_pos (show (0 : Int) ≤ n by omega), Int.toNat_natCast, if_pos (show n ≤ 281474976710656 by omega)]
 have := Ev.setloop (L := fun k y i => spec_l01Long.l0 k n x y i) (n := n) (fun _ => x) 0 strOfNums (by
  intro i y r hi hy h
  refine Ev.step (fun k => by rw [spec_l01Long.l0, if_pos (by omega), if_pos (by omega), if_pos (by omega), Int.toNat_natCast, wrap_succ hi (by omega)]) ?_
  exact h) (by
  intro y hy
  refine Ev.step (fun k => by rw [spec_l01Long.l0, if_neg (by omega)]) ?_
  exact Ev.now _)
 have e : (List.range n).map (fun _ => x) = List.replicate n x := by simp [List.map_const']
 rw [e] at this
 exact this
theorem spec_l01Text_ev (l : List Int) (p s : Int) (n : Int) (hp : 0 ≤ p) (hl : l.length ≤ 4611686018427387904) (hn : n ≤ 5000) : ∃ t q u, Ev (fun k => spec_l01Text.f k l p s n) (t, q, u) ∧ t.size ≤ 5000 ∧ 0 ≤ q := by
 have key : ∀ (d i : Nat) (acc : List Int) (q u : Int), (n.toNat - i) = d → i ≤ 5000 → acc.length = i → 0 ≤ q → ∃ t q' u', Ev (fun k => spec_l01Text.l0 k n acc i l q u) (t, q', u') ∧ t.size ≤ 5000 ∧ 0 ≤ q' := by
  intro d
  induction d with
  | zero =>
   intro i acc q u hi hi2 ha hq
   refine ⟨strOfNums acc, q, u, Ev.step (fun k => by rw [spec_l01Text.l0, if_neg (by omega)]) (Ev.now _), by rw [str_size]; omega, hq⟩
  | succ d ih =>
   intro i acc q u hi hi2 ha hq
   obtain ⟨v, q2, u2, g1, _, _, g4⟩ := l01Byte_some l q u hq hl
   obtain ⟨t, q', u', h1, h2, h3⟩ := ih (i + 1) (acc ++ [v % 256]) q2 u2 (by omega) (by omega) (by simp; omega) g4
   refine ⟨t, q', u', Ev.step (fun k => by rw [spec_l01Text.l0, if_pos (by omega), g1, Option.bind_some, if_pos (by omega), wrap_succ (show i < 5000 by omega) (by omega)]) h1, h2, h3⟩
 obtain ⟨t, q, u, h1, h2, h3⟩ := key n.toNat 0 [] p s (by omega) (by omega) rfl hp
 refine ⟨t, q, u, ?_, h2, h3⟩
 simp only [spec_l01Text.f, if_neg (show ¬ n > 5000 by omega)]
 refine Ev.step (fun k => by rw [spec_l01Text.j0]) ?_
 exact h1
theorem spec_in_eq (a b c : Int) : spec_l01In.f a b c = some (decide (b ≤ a ∧ a ≤ c)) := by
 unfold spec_l01In.f
 by_cases h : a ≥ b
 ·have h' : b ≤ a := h
  simp [h']
 ·have h' : ¬ b ≤ a := h
  simp [h']
theorem impl_in_eq (a b c : Int) : impl_in.f a b c = some (decide (b ≤ a ∧ a ≤ c)) := by
 unfold impl_in.f
 by_cases h : a ≥ b
 ·have h' : b ≤ a := h
  simp [h']
 ·have h' : ¬ b ≤ a := h
  simp [h']
def nameLess (a b : ByteArray) : Bool := Op.bytesLess a.toList b.toList
def fileOk (l : List S99) (i : Nat) : Bool :=
 decide ((1 ≤ ((l.getD i z99).f0.size : Int) ∧ ((l.getD i z99).f0.size : Int) ≤ 8)) && (!decide (((l.getD i z99).f1.size : Int) > 20000)) && decide (0 ≤ (l.getD i z99).f2 ∧ (l.getD i z99).f2 ≤ ((l.getD i z99).f1.size : Int)) && (decide (i = 0) || nameLess (l.getD (i - 1) z99).f0 (l.getD i z99).f0)
def diskOk (l : List S99) : Bool := (List.range l.length).all (fileOk l) && decide ((l.length : Int) ≤ 30)
theorem spec_l03Name_eq (a : ByteArray) : spec_l03Name.f a = some (decide (1 ≤ (a.size : Int) ∧ (a.size : Int) ≤ 8)) := by
 simp [spec_l03Name.f, spec_in_eq]
theorem spec_DiskOk_ev (l : List S99) : Ev (fun k => spec_DiskOk.f k l) (diskOk l) := by
 simp only [spec_DiskOk.f, diskOk]
 by_cases hl : (l.length : Int) > 30
 ·simp only [if_pos hl]
  rw [decide_eq_false (by omega), Bool.and_false]
  exact Ev.now _
 ·simp only [if_neg hl]
  rw [decide_eq_true (by omega), Bool.and_true]
  have := Ev.allloop (L := fun k i => spec_DiskOk.l0 k i l) (n := l.length) (fileOk l) false true ?_ ?_ ?_
  ·have e : (if (List.range l.length).all (fileOk l) = true then true else false) = (List.range l.length).all (fileOk l) := by cases (List.range l.length).all (fileOk l) <;> rfl
   rw [← e]; exact this
  ·intro i r hi hp h
   simp only [fileOk, Bool.and_eq_true, Bool.or_eq_true, Bool.not_eq_true', decide_eq_true_eq, decide_eq_false_iff_not] at hp
   refine Ev.step (fun k => by rw [spec_DiskOk.l0, if_pos (by omega), if_pos (by omega)]) ?_
   simp only [rd_T99, Int.toNat_natCast]
   simp only [spec_l03Name_eq, Option.bind_some]
   simp only [decide_eq_true hp.1.1.1, if_true, if_neg hp.1.1.2, spec_in_eq, Option.bind_some, decide_eq_true hp.1.2, wrap_succ hi (show l.length ≤ 4611686018427387904 by omega)]
   by_cases hz : (i : Int) > 0
   ·have e : wrap64 ((i : Int) - 1) = ((i - 1 : Nat) : Int) := by unfold wrap64; omega
    have hq : nameLess (l.getD (i - 1) z99).f0 (l.getD i z99).f0 = true := by
     rcases hp.2 with h0 | h0
     ·omega
     ·exact h0
    unfold nameLess at hq
    simp only [if_pos hz, e, if_pos (show (0 : Int) ≤ ((i - 1 : Nat) : Int) by omega), if_pos (show ((i - 1 : Nat) : Int) < (l.length : Int) by omega), Int.toNat_natCast, if_pos hq]
    exact h
   ·simp only [if_neg hz]
    exact h
  ·intro i hi hp
   refine Ev.step (fun k => by rw [spec_DiskOk.l0, if_pos (by omega), if_pos (by omega)]) ?_
   simp only [rd_T99, Int.toNat_natCast]
   simp only [spec_l03Name_eq, Option.bind_some]
   simp only [spec_in_eq, Option.bind_some]
   by_cases c1 : (1 ≤ ((l.getD i z99).f0.size : Int) ∧ ((l.getD i z99).f0.size : Int) ≤ 8)
   ·simp only [decide_eq_true c1, if_true]
    by_cases c2 : ((l.getD i z99).f1.size : Int) > 20000
    ·simp only [if_pos c2]; exact Ev.now _
    ·simp only [if_neg c2]
     by_cases c3 : 0 ≤ (l.getD i z99).f2 ∧ (l.getD i z99).f2 ≤ ((l.getD i z99).f1.size : Int)
     ·simp only [decide_eq_true c3, if_true]
      simp only [fileOk, decide_eq_true c1, decide_eq_false c2, decide_eq_true c3, Bool.true_and, Bool.not_false, Bool.or_eq_false_iff] at hp
      have hz : (i : Int) > 0 := by have := of_decide_eq_false hp.1; omega
      have e : wrap64 ((i : Int) - 1) = ((i - 1 : Nat) : Int) := by unfold wrap64; omega
      have hq := hp.2
      unfold nameLess at hq
      simp only [if_pos hz, e, if_pos (show (0 : Int) ≤ ((i - 1 : Nat) : Int) by omega), if_pos (show ((i - 1 : Nat) : Int) < (l.length : Int) by omega), Int.toNat_natCast, hq, Bool.false_eq_true, if_false]
      exact Ev.now _
     ·simp only [decide_eq_false c3, Bool.false_eq_true, if_false]; exact Ev.now _
   ·simp only [decide_eq_false c1, Bool.false_eq_true, if_false]; exact Ev.now _
  ·refine Ev.step (fun k => by rw [spec_DiskOk.l0, if_neg (by omega)]) ?_
   exact Ev.now _
theorem impl_DiskOk_ev (l : List S99) (hl : l.length ≤ 4611686018427387904) : Ev (fun k => impl_DiskOk.f k l) (diskOk l) := by
 simp only [impl_DiskOk.f, diskOk]
 have := Ev.allloop (L := fun k i => impl_DiskOk.l0 k l l.length i l) (n := l.length) (fileOk l) false (decide ((l.length : Int) ≤ 30)) ?_ ?_ ?_
 ·have e : ((List.range l.length).all (fileOk l) && decide ((l.length : Int) ≤ 30)) = if (List.range l.length).all (fileOk l) = true then decide ((l.length : Int) ≤ 30) else false := by
   cases (List.range l.length).all (fileOk l) <;> rfl
  rw [e]; exact this
 ·intro i r hi hp h
  simp only [fileOk, Bool.and_eq_true, Bool.or_eq_true, Bool.not_eq_true', decide_eq_true_eq, decide_eq_false_iff_not] at hp
  refine Ev.step (fun k => by rw [impl_DiskOk.l0, if_pos (by omega), if_pos (by omega), if_pos (by omega)]) ?_
  simp only [rd_T99, Int.toNat_natCast]
  simp only [impl_in_eq, Option.bind_some]
  simp only [decide_eq_true hp.1.1.1, if_true, if_neg hp.1.1.2, impl_in_eq, Option.bind_some, decide_eq_true hp.1.2, wrap_succ hi hl]
  by_cases hz : (i : Int) > 0
  ·have e : wrap64 ((i : Int) - 1) = ((i - 1 : Nat) : Int) := by unfold wrap64; omega
   have hq : nameLess (l.getD (i - 1) z99).f0 (l.getD i z99).f0 = true := by
    rcases hp.2 with h0 | h0
    ·omega
    ·exact h0
   unfold nameLess at hq
   simp only [if_pos hz, e, if_pos (show (0 : Int) ≤ ((i - 1 : Nat) : Int) by omega), if_pos (show ((i - 1 : Nat) : Int) < (l.length : Int) by omega), Int.toNat_natCast, if_pos hq]
   exact h
  ·simp only [if_neg hz]
   exact h
 ·intro i hi hp
  refine Ev.step (fun k => by rw [impl_DiskOk.l0, if_pos (by omega), if_pos (by omega), if_pos (by omega)]) ?_
  simp only [rd_T99, Int.toNat_natCast]
  simp only [impl_in_eq, Option.bind_some]
  by_cases c1 : (1 ≤ ((l.getD i z99).f0.size : Int) ∧ ((l.getD i z99).f0.size : Int) ≤ 8)
  ·simp only [decide_eq_true c1, if_true]
   by_cases c2 : ((l.getD i z99).f1.size : Int) > 20000
   ·simp only [if_pos c2]; exact Ev.now _
   ·simp only [if_neg c2]
    by_cases c3 : 0 ≤ (l.getD i z99).f2 ∧ (l.getD i z99).f2 ≤ ((l.getD i z99).f1.size : Int)
    ·simp only [decide_eq_true c3, if_true]
     simp only [fileOk, decide_eq_true c1, decide_eq_false c2, decide_eq_true c3, Bool.true_and, Bool.not_false, Bool.or_eq_false_iff] at hp
     have hz : (i : Int) > 0 := by have := of_decide_eq_false hp.1; omega
     have e : wrap64 ((i : Int) - 1) = ((i - 1 : Nat) : Int) := by unfold wrap64; omega
     have hq := hp.2
     unfold nameLess at hq
     simp only [if_pos hz, e, if_pos (show (0 : Int) ≤ ((i - 1 : Nat) : Int) by omega), if_pos (show ((i - 1 : Nat) : Int) < (l.length : Int) by omega), Int.toNat_natCast, hq, Bool.false_eq_true, if_false]
     exact Ev.now _
    ·simp only [decide_eq_false c3, Bool.false_eq_true, if_false]; exact Ev.now _
  ·simp only [decide_eq_false c1, Bool.false_eq_true, if_false]; exact Ev.now _
 ·refine Ev.step (fun k => by rw [impl_DiskOk.l0, if_neg (by omega)]) ?_
  exact Ev.now _
def nameAt (l : List S99) (a : ByteArray) (i : Nat) : Bool := decide ((l.getD i z99).f0.toList = a.toList)
def fileAtI (l : List S99) (a : ByteArray) : Int := findR (nameAt l a) (fun i => (i : Int)) (-1) l.length 0
theorem spec_l03At_ev (l : List S99) (a : ByteArray) (hl : l.length ≤ 4611686018427387904) : Ev (fun k => spec_l03At.f k l a) (fileAtI l a) := by
 simp only [spec_l03At.f, fileAtI]
 refine Ev.findloop (L := fun k i => spec_l03At.l0 k a i l) (n := l.length) (nameAt l a) (fun i => (i : Int)) (-1) ?_ ?_ ?_
 ·intro i r hi hp h
  simp only [nameAt, decide_eq_false_iff_not] at hp
  refine Ev.step (fun k => by rw [spec_l03At.l0, if_pos (by omega), if_pos (by omega), rd_T99, Int.toNat_natCast, if_neg hp, wrap_succ hi hl]) ?_
  exact h
 ·intro i hi hp
  simp only [nameAt, decide_eq_true_eq] at hp
  refine Ev.step (fun k => by rw [spec_l03At.l0, if_pos (by omega), if_pos (by omega), rd_T99, Int.toNat_natCast, if_pos hp]) ?_
  exact Ev.now _
 ·refine Ev.step (fun k => by rw [spec_l03At.l0, if_neg (by omega)]) ?_
  exact Ev.now _
theorem impl_fileAt_ev (l : List S99) (a : ByteArray) (hl : l.length ≤ 4611686018427387904) : Ev (fun k => impl_fileAt.f k l a) (fileAtI l a) := by
 simp only [impl_fileAt.f, fileAtI]
 refine Ev.findloop (L := fun k i => impl_fileAt.l0 k a l l.length i) (n := l.length) (nameAt l a) (fun i => (i : Int)) (-1) ?_ ?_ ?_
 ·intro i r hi hp h
  simp only [nameAt, decide_eq_false_iff_not] at hp
  refine Ev.step (fun k => by rw [impl_fileAt.l0, if_pos (by omega), if_pos (by omega), if_pos (by omega), rd_T99, Int.toNat_natCast, if_neg hp, wrap_succ hi hl]) ?_
  exact h
 ·intro i hi hp
  simp only [nameAt, decide_eq_true_eq] at hp
  refine Ev.step (fun k => by rw [impl_fileAt.l0, if_pos (by omega), if_pos (by omega), if_pos (by omega), rd_T99, Int.toNat_natCast, if_pos hp]) ?_
  exact Ev.now _
 ·refine Ev.step (fun k => by rw [impl_fileAt.l0, if_neg (by omega)]) ?_
  exact Ev.now _
theorem fileAtI_range (l : List S99) (a : ByteArray) : fileAtI l a = -1 ∨ (0 ≤ fileAtI l a ∧ fileAtI l a < l.length ∧ nameAt l a (fileAtI l a).toNat = true) := by
 rcases findR_range (nameAt l a) l.length 0 with h | h
 ·exact Or.inl h
 ·right; exact ⟨by have := h.1; unfold fileAtI; omega, by have := h.2.1; unfold fileAtI; omega, h.2.2⟩
def fileAtP (l : List S99) (a : ByteArray) : ByteArray × Bool := if fileAtI l a < 0 then ((⟨#[]⟩ : ByteArray), false) else ((l.getD (fileAtI l a).toNat z99).f1, true)
theorem impl_FileAt_ev (l : List S99) (a : ByteArray) (hl : l.length ≤ 4611686018427387904) : Ev (fun k => impl_FileAt.f k l a) (fileAtP l a) := by
 simp only [impl_FileAt.f]
 refine Ev.bind (impl_fileAt_ev l a hl) ?_
 unfold fileAtP
 by_cases h : fileAtI l a < 0
 ·simp only [if_pos h]; exact Ev.now _
 ·rcases fileAtI_range l a with h1 | ⟨h1, h2, _⟩
  ·omega
  ·simp only [if_neg h, if_pos h1, if_pos h2, rd_T99]; exact Ev.now _
theorem Ev.modloop {β γ : Type} {L : Nat → List γ → Int → Option β} (l : List γ) (z : γ) (g : Nat → γ → γ) (fin : List γ → β)
  (hstep : ∀ (i : Nat) x r, i < l.length → x.length = l.length → x.getD i z = l.getD i z → Ev (fun k => L k (x.set i (g i (l.getD i z))) ((i + 1 : Nat) : Int)) r → Ev (fun k => L k x i) r)
  (hend : ∀ x, x.length = l.length → Ev (fun k => L k x l.length) (fin x)) : Ev (fun k => L k l 0) (fin ((List.range l.length).map (fun i => g i (l.getD i z)))) := by
 have key := Ev.loopR (L := L) (n := l.length) (fun _ _ => fin ((List.range l.length).map (fun i => g i (l.getD i z)))) (fun i x => x.length = l.length ∧ (∀ j, j < i → x[j]? = some (g j (l.getD j z))) ∧ ∀ j, i ≤ j → x[j]? = l[j]?) (by
  intro i x hi hx
  right
  refine ⟨x.set i (g i (l.getD i z)), ⟨by rw [List.length_set]; exact hx.1, fun j hj => ?_, fun j hj => ?_⟩, rfl, fun r hr => hstep i x r hi hx.1 ?_ hr⟩
  ·by_cases hji : j = i
   ·subst hji
    rw [List.getElem?_set_self (by omega)]
   ·rw [List.getElem?_set_ne (by omega)]
    exact hx.2.1 j (by omega)
  ·rw [List.getElem?_set_ne (by omega)]
   exact hx.2.2 j (by omega)
  ·rw [List.getD_eq_getElem?_getD, List.getD_eq_getElem?_getD, hx.2.2 i (by omega)]) (by
  intro x hx
  have hxe : x = (List.range l.length).map (fun i => g i (l.getD i z)) := by
   apply List.ext_getElem?
   intro j
   by_cases hj : j < l.length
   ·rw [hx.2.1 j hj]; simp [hj]
   ·rw [List.getElem?_eq_none (by omega), List.getElem?_eq_none (by simp; omega)]
  rw [← hxe]
  exact hend x hx.1)
 exact key l.length 0 _ (by omega) ⟨rfl, fun j hj => by omega, fun j _ => rfl⟩
theorem getD_set_self' {α : Type} {l : List α} {i : Nat} {v d : α} (h : i < l.length) : (l.set i v).getD i d = v := by
 rw [List.getD_eq_getElem?_getD, List.getElem?_set_self h]; rfl
def lostN (f : S99) (n : Int) : Int := max (min (max n 0) (f.f1.size : Int)) f.f2
def lostF (f : S99) (n : Int) : S99 := ⟨f.f0, f.f1.extract 0 (lostN f n).toNat, lostN f n⟩
def leftAt (left : List Int) (i : Nat) : Int := if i < left.length then left.getD i 0 else 0
def lostL (l : List S99) (left : List Int) : List S99 := (List.range l.length).map (fun i => lostF (l.getD i z99) (leftAt left i))
def loseP (l : List S99) (left : List Int) : List S99 × Bool := if diskOk l = true then (lostL l left, true) else ([], false)
theorem lostL_len (l : List S99) (left : List Int) : (lostL l left).length = l.length := by simp [lostL]
theorem diskOk_len {l : List S99} (h : diskOk l = true) : l.length ≤ 30 := by
 simp only [diskOk, Bool.and_eq_true, decide_eq_true_eq] at h
 omega
theorem loseP_len (l : List S99) (left : List Int) : (loseP l left).1.length ≤ 30 := by
 unfold loseP
 by_cases h : diskOk l = true
 ·rw [if_pos h, lostL_len]; exact diskOk_len h
 ·rw [if_neg h]; simp
theorem diskOk_keptAt {l : List S99} (h : diskOk l = true) {i : Nat} (hi : i < l.length) : 0 ≤ (l.getD i z99).f2 ∧ (l.getD i z99).f2 ≤ ((l.getD i z99).f1.size : Int) := by
 simp only [diskOk, Bool.and_eq_true, List.all_eq_true, List.mem_range] at h
 have := h.1 i hi
 simp only [fileOk, Bool.and_eq_true, decide_eq_true_eq] at this
 exact this.1.2
theorem lostN_range {f : S99} (h0 : 0 ≤ f.f2) (h1 : f.f2 ≤ (f.f1.size : Int)) (n : Int) : 0 ≤ lostN f n ∧ lostN f n ≤ (f.f1.size : Int) ∧ f.f2 ≤ lostN f n := by
 unfold lostN; omega
theorem extract_size (s : ByteArray) {n : Int} (h0 : 0 ≤ n) (h1 : n ≤ (s.size : Int)) : ((s.extract 0 n.toNat).size : Int) = n := by
 rw [ByteArray.size_extract]; omega
theorem impl_copyDisk_eq (l : List S99) (hl : l.length ≤ 1048576) : impl_copyDisk.f l = some l := by
 simp only [impl_copyDisk.f, List.length_nil, Nat.zero_add, List.nil_append, if_pos (show l.length < 3518437208883 by omega)]
theorem impl_LoseDisk_ev (l : List S99) (left : List Int) (hl : l.length ≤ 1048576) : Ev (fun k => impl_LoseDisk.f k l left) (loseP l left) := by
 simp only [impl_LoseDisk.f]
 refine Ev.bind (impl_DiskOk_ev l (by omega)) ?_
 unfold loseP
 by_cases h : diskOk l = true
 ·simp only [if_pos h, impl_copyDisk_eq l hl, Option.bind_some]
  refine Ev.modloop (L := fun k x i => impl_LoseDisk.l0 k left l.length i x) l z99 (fun i f => lostF f (leftAt left i)) (fun x => (x, true)) ?_ ?_
  ·intro i x r hi hx hxi hr
   obtain ⟨k0, k1⟩ := diskOk_keptAt h hi
   obtain ⟨f, hf⟩ : ∃ f, f = l.getD i z99 := ⟨_, rfl⟩
   rw [← hf] at k0 k1 hr hxi
   have hrd : rd_T99 x (i : Int) = f := by rw [rd_T99, Int.toNat_natCast, hxi]
   obtain ⟨q0, q1, q2⟩ := lostN_range k0 k1 (leftAt left i)
   have fin : ∀ m : Int, m = lostN f (leftAt left i) → Ev (fun k => if 0 ≤ m then (if m ≤ (f.f1.size : Int) then ((some (x.set (i : Int).toNat (⟨f.f0, f.f1.extract 0 m.toNat, f.f2⟩ : S99) : List (S99))).bind fun y => (impl_LoseDisk.l0 k left (l.length : Int) ((i + 1 : Nat) : Int) (y.set (i : Int).toNat (⟨(rd_T99 y i).f0, (rd_T99 y i).f1, (((rd_T99 y i).f1).size : Int)⟩ : S99)))) else none) else none) r := by
    intro m hm
    subst hm
    simp only [if_pos q0, if_pos q1, Option.bind_some, rd_T99, Int.toNat_natCast, List.set_set, getD_set_self' (show i < x.length by omega), extract_size _ q0 q1]
    exact hr
   by_cases c : (i : Int) < (left.length : Int)
   ·refine Ev.step (fun k => by rw [impl_LoseDisk.l0, if_pos (by omega), if_pos (by omega), if_pos (by omega), if_pos c, hrd, wrap_succ hi (by omega)]) ?_
    refine fin _ ?_
    unfold lostN leftAt mx mn rd
    rw [if_pos (show i < left.length by omega), Int.toNat_natCast]
    repeat' split
    all_goals omega
   ·refine Ev.step (fun k => by rw [impl_LoseDisk.l0, if_pos (by omega), if_pos (by omega), if_pos (by omega), if_neg c, hrd, wrap_succ hi (by omega)]) ?_
    refine fin _ ?_
    unfold lostN leftAt mx
    rw [if_neg (show ¬ i < left.length by omega)]
    split
    all_goals omega
  ·intro x hx
   refine Ev.step (fun k => by rw [impl_LoseDisk.l0, if_neg (by omega)]) ?_
   exact Ev.now _
 ·simp only [if_neg h]; exact Ev.now _
theorem lose_j1_ev (left : List Int) (i : Int) (n : Int) (l x : List S99) (f : S99) (h0 : 0 ≤ f.f2) (h1 : f.f2 ≤ (f.f1.size : Int)) (hx : x.length < 3518437208883) (r : List S99 × Bool)
  (h : Ev (fun k => spec_LoseDisk.l0 k left (wrap64 (i + 1)) l (x ++ [lostF f n])) r) : Ev (fun k => spec_LoseDisk.j1 k left i n l x f.f0 f.f1 f.f2) r := by
 obtain ⟨q0, q1, q2⟩ := lostN_range h0 h1 n
 unfold lostF at h
 by_cases c1 : n > (f.f1.size : Int)
 ·by_cases c2 : (f.f1.size : Int) < f.f2
  ·omega
  ·have e : lostN f n = (f.f1.size : Int) := by unfold lostN; omega
   rw [e, Int.toNat_natCast, show f.f1.extract 0 f.f1.size = f.f1 by simp] at h
   refine Ev.step (fun k => by rw [spec_LoseDisk.j1, if_pos c1, if_neg c2, if_pos (by omega), if_pos (by omega), if_pos hx]) ?_
   exact h
 ·by_cases c2 : n < f.f2
  ·have e : lostN f n = f.f2 := by unfold lostN; omega
   rw [e] at h
   refine Ev.step (fun k => by rw [spec_LoseDisk.j1, if_neg c1, if_pos c2, if_pos (by omega), if_pos (by omega), if_pos hx]) ?_
   exact h
  ·have e : lostN f n = n := by unfold lostN; omega
   rw [e] at h
   refine Ev.step (fun k => by rw [spec_LoseDisk.j1, if_neg c1, if_neg c2, if_pos (by omega), if_pos (by omega), if_pos hx]) ?_
   exact h
theorem spec_LoseDisk_ev (l : List S99) (left : List Int) : Ev (fun k => spec_LoseDisk.f k l left) (loseP l left) := by
 simp only [spec_LoseDisk.f]
 refine Ev.bind (spec_DiskOk_ev l) ?_
 unfold loseP
 by_cases h : diskOk l = true
 ·have hl := diskOk_len h
  simp only [if_pos h]
  have := Ev.apploop (L := fun k x i => spec_LoseDisk.l0 k left i l x) (n := l.length) (fun i => [lostF (l.getD i z99) (leftAt left i)]) (fun x => (x, true)) [] ?_ ?_
  ·rw [List.nil_append, flatMap_single] at this
   exact this
  ·intro i x r hi hx hr
   obtain ⟨k0, k1⟩ := diskOk_keptAt h hi
   have hxl : x.length = i := by rw [hx, List.nil_append, flatMap_single]; simp
   rw [← wrap_succ hi (by omega)] at hr
   by_cases c : (i : Int) < (left.length : Int)
   ·refine Ev.step (fun k => by rw [spec_LoseDisk.l0, if_pos (by omega), if_pos (by omega), if_pos c, rd_T99, Int.toNat_natCast]) ?_
    refine lose_j1_ev left i _ l x (l.getD i z99) k0 k1 (by omega) r ?_
    unfold leftAt at hr
    rw [if_pos (show i < left.length by omega)] at hr
    rw [rd, Int.toNat_natCast]
    exact hr
   ·refine Ev.step (fun k => by rw [spec_LoseDisk.l0, if_pos (by omega), if_pos (by omega), if_neg c, rd_T99, Int.toNat_natCast]) ?_
    refine lose_j1_ev left i 0 l x (l.getD i z99) k0 k1 (by omega) r ?_
    unfold leftAt at hr
    rw [if_neg (show ¬ i < left.length by omega)] at hr
    exact hr
  ·intro x hx
   refine Ev.step (fun k => by rw [spec_LoseDisk.l0, if_neg (by omega)]) ?_
   exact Ev.now _
 ·simp only [if_neg h]; exact Ev.now _
theorem less_irrefl : ∀ x : List UInt8, Op.bytesLess x x = false
 | [] => rfl
 | a :: x => by
  have := less_irrefl x
  simp [Op.bytesLess, this, UInt8.lt_irrefl]
theorem less_trans : ∀ {x y z : List UInt8}, Op.bytesLess x y = true → Op.bytesLess y z = true → Op.bytesLess x z = true
 | [], [], _, h, _ => by simp [Op.bytesLess] at h
 | [], _ :: _, [], _, h => by simp [Op.bytesLess] at h
 | [], _ :: _, _ :: _, _, _ => by simp [Op.bytesLess]
 | _ :: _, [], _, h, _ => by simp [Op.bytesLess] at h
 | _ :: _, _ :: _, [], _, h => by simp [Op.bytesLess] at h
 | a :: x, b :: y, c :: z, h1, h2 => by
  simp only [Op.bytesLess, Bool.or_eq_true, Bool.and_eq_true, decide_eq_true_eq, beq_iff_eq] at h1 h2 ⊢
  rcases h1 with h1 | ⟨rfl, h1⟩
  ·rcases h2 with h2 | ⟨rfl, h2⟩
   ·exact Or.inl (UInt8.lt_trans h1 h2)
   ·exact Or.inl h1
  ·rcases h2 with h2 | ⟨rfl, h2⟩
   ·exact Or.inl h2
   ·exact Or.inr ⟨rfl, less_trans h1 h2⟩
theorem less_total : ∀ {x y : List UInt8}, Op.bytesLess x y = false → x ≠ y → Op.bytesLess y x = true
 | [], [], _, h => absurd rfl h
 | [], _ :: _, h, _ => by simp [Op.bytesLess] at h
 | _ :: _, [], _, _ => by simp [Op.bytesLess]
 | a :: x, b :: y, h, hne => by
  simp only [Op.bytesLess, Bool.or_eq_false_iff, Bool.and_eq_false_iff, decide_eq_false_iff_not, beq_eq_false_iff_ne] at h
  simp only [Op.bytesLess, Bool.or_eq_true, Bool.and_eq_true, decide_eq_true_eq, beq_iff_eq]
  by_cases e : a = b
  ·subst e
   refine Or.inr ⟨rfl, less_total ?_ (fun e => hne (by rw [e]))⟩
   rcases h.2 with h2 | h2
   ·exact absurd rfl h2
   ·exact h2
  ·refine Or.inl ?_
   have h1 := h.1
   rcases Nat.lt_trichotomy a.toNat b.toNat with h3 | h3 | h3
   ·exact absurd h3 h1
   ·exact absurd (UInt8.toNat.inj h3) e
   ·exact h3
theorem flat_le {α : Type} {g : Nat → List α} (h : ∀ i, (g i).length ≤ 1) : ∀ i, ((List.range i).flatMap g).length ≤ i
 | 0 => by simp
 | i + 1 => by
  rw [List.range_succ, List.flatMap_append, List.length_append]
  have := flat_le h i
  have := h i
  simp only [List.flatMap_cons, List.flatMap_nil, List.append_nil]
  omega
theorem flatMap_filter {α : Type} (p : α → Bool) : ∀ l : List α, l.flatMap (fun x => if p x = true then [x] else []) = l.filter p
 | [] => rfl
 | a :: l => by
  rw [List.flatMap_cons, flatMap_filter p l]
  by_cases h : p a = true
  ·rw [if_pos h, List.filter_cons_of_pos h]; rfl
  ·rw [if_neg h, List.filter_cons_of_neg h]; rfl
def putL (l : List S99) (f : S99) : List S99 := l.filter (fun e => nameLess e.f0 f.f0) ++ [f] ++ l.filter (fun e => !(nameLess e.f0 f.f0 || (e.f0.toList == f.f0.toList)))
theorem spec_l03Put_ev (l : List S99) (f : S99) (hl : l.length ≤ 1048576) : Ev (fun k => spec_l03Put.f k l f.f0 f.f1 f.f2) (putL l f) := by
 simp only [spec_l03Put.f]
 have h := Ev.apploop (L := fun k x i => spec_l03Put.l0 k i l f.f0 f.f1 f.f2 x) (n := l.length) (fun i => if nameLess (l.getD i z99).f0 f.f0 = true then [l.getD i z99] else []) (fun x => x ++ [f] ++ l.filter (fun e => !(nameLess e.f0 f.f0 || (e.f0.toList == f.f0.toList)))) [] ?_ ?_
 ·have e := range_flatMap_getD l z99 (fun x : S99 => if nameLess x.f0 f.f0 = true then [x] else [])
  rw [flatMap_filter (fun x : S99 => nameLess x.f0 f.f0)] at e
  rw [e, List.nil_append] at h
  exact h
 ·intro i x r hi hx hr
  have hxl : x.length ≤ i := by
   rw [hx, List.nil_append]
   exact flat_le (fun j => by split <;> simp) i
  by_cases c : nameLess (l.getD i z99).f0 f.f0 = true
  ·simp only [if_pos c] at hr
   unfold nameLess at c
   refine Ev.step (fun k => by rw [spec_l03Put.l0, if_pos (by omega), if_pos (by omega), rd_T99, Int.toNat_natCast, if_pos c, if_pos (by omega), wrap_succ hi (by omega)]) ?_
   exact hr
  ·simp only [if_neg c, List.append_nil] at hr
   unfold nameLess at c
   refine Ev.step (fun k => by rw [spec_l03Put.l0, if_pos (by omega), if_pos (by omega), rd_T99, Int.toNat_natCast, if_neg c, wrap_succ hi (by omega)]) ?_
   exact hr
 ·intro x hx
  have hxl : x.length ≤ l.length := by
   rw [hx, List.nil_append]
   exact flat_le (fun j => by split <;> simp) _
  refine Ev.step (fun k => by rw [spec_l03Put.l0, if_neg (by omega), if_pos (by omega)]) ?_
  have h2 := Ev.apploop (L := fun k y i => spec_l03Put.l1 k i l f.f0 f.f1 f.f2 y) (n := l.length) (fun i => if (!(nameLess (l.getD i z99).f0 f.f0 || ((l.getD i z99).f0.toList == f.f0.toList))) = true then [l.getD i z99] else []) (fun y => y) (x ++ [f]) ?_ ?_
  ·have e := range_flatMap_getD l z99 (fun x : S99 => if (!(nameLess x.f0 f.f0 || (x.f0.toList == f.f0.toList))) = true then [x] else [])
   rw [flatMap_filter (fun x : S99 => !(nameLess x.f0 f.f0 || (x.f0.toList == f.f0.toList)))] at e
   rw [e] at h2
   exact h2
  ·intro i y r hi hy hr
   have hyl : y.length ≤ l.length + 1 + i := by
    rw [hy, List.length_append, List.length_append, List.length_singleton]
    have := flat_le (g := fun i => if (!(nameLess (l.getD i z99).f0 f.f0 || ((l.getD i z99).f0.toList == f.f0.toList))) = true then [l.getD i z99] else []) (fun j => by split <;> simp) i
    omega
   by_cases c : (nameLess (l.getD i z99).f0 f.f0 || ((l.getD i z99).f0.toList == f.f0.toList)) = true
   ·simp only [c, Bool.not_true, Bool.false_eq_true, if_false, List.append_nil] at hr
    unfold nameLess at c
    refine Ev.step (fun k => by rw [spec_l03Put.l1, if_pos (by omega), if_pos (by omega), rd_T99, Int.toNat_natCast, if_pos c, wrap_succ hi (by omega)]) ?_
    exact hr
   ·simp only [Bool.eq_false_iff.2 c, Bool.not_false, if_true] at hr
    unfold nameLess at c
    refine Ev.step (fun k => by rw [spec_l03Put.l1, if_pos (by omega), if_pos (by omega), rd_T99, Int.toNat_natCast, if_neg c, if_pos (by omega), wrap_succ hi (by omega)]) ?_
    exact hr
  ·intro y hy
   refine Ev.step (fun k => by rw [spec_l03Put.l1, if_neg (by omega)]) ?_
   exact Ev.now _
def fileGood (f : S99) : Prop := 1 ≤ f.f0.size ∧ f.f0.size ≤ 8 ∧ f.f1.size ≤ 20000 ∧ 0 ≤ f.f2 ∧ f.f2 ≤ (f.f1.size : Int)
def diskGood (l : List S99) : Prop := l.Pairwise (fun a b => nameLess a.f0 b.f0 = true) ∧ ∀ e ∈ l, fileGood e
theorem diskGood_of {l : List S99} (h : diskOk l = true) : diskGood l := by
 have hl := h
 simp only [diskOk, Bool.and_eq_true, List.all_eq_true, List.mem_range] at hl
 have at_ : ∀ i (hi : i < l.length), l.getD i z99 = l[i] := fun i hi => by simp [List.getD_eq_getElem?_getD, List.getElem?_eq_getElem hi]
 have file : ∀ i (hi : i < l.length), fileGood l[i] ∧ (i = 0 ∨ nameLess (l.getD (i - 1) z99).f0 l[i].f0 = true) := fun i hi => by
  have := hl.1 i hi
  simp only [fileOk, Bool.and_eq_true, Bool.or_eq_true, Bool.not_eq_true', decide_eq_true_eq, decide_eq_false_iff_not, at_ i hi] at this
  exact ⟨⟨by omega, by omega, by omega, this.1.2.1, this.1.2.2⟩, this.2⟩
 refine ⟨?_, fun e he => ?_⟩
 ·rw [List.pairwise_iff_getElem]
  have key : ∀ (d i : Nat) (hi : i < l.length) (hj : i + d + 1 < l.length), nameLess l[i].f0 l[i + d + 1].f0 = true := by
   intro d
   induction d with
   | zero =>
    intro i hi hj
    rcases (file (i + 0 + 1) hj).2 with h0 | h0
    ·omega
    ·rw [show i + 0 + 1 - 1 = i by omega, at_ i hi] at h0; exact h0
   | succ d ih =>
    intro i hi hj
    have h1 := ih i hi (by omega)
    rcases (file (i + (d + 1) + 1) hj).2 with h0 | h0
    ·omega
    ·rw [show i + (d + 1) + 1 - 1 = i + d + 1 by omega, at_ (i + d + 1) (by omega)] at h0
     exact less_trans h1 h0
  intro i j hi hj hij
  have := key (j - i - 1) i hi (by omega)
  simpa [show i + (j - i - 1) + 1 = j by omega] using this
 ·obtain ⟨i, hi, rfl⟩ := List.mem_iff_getElem.1 he
  exact (file i hi).1
theorem putL_len (l : List S99) (f : S99) : (putL l f).length ≤ l.length + 1 := by
 unfold putL
 have e : l.filter (fun e => !(nameLess e.f0 f.f0 || (e.f0.toList == f.f0.toList))) = (l.filter (fun e => !nameLess e.f0 f.f0)).filter (fun e => !(e.f0.toList == f.f0.toList)) := by
  rw [List.filter_filter]
  congr 1
  funext x
  cases nameLess x.f0 f.f0 <;> cases (x.f0.toList == f.f0.toList) <;> rfl
 rw [List.length_append, List.length_append, List.length_singleton, e]
 have h1 := List.length_filter_le (fun e => !(e.f0.toList == f.f0.toList)) (l.filter (fun e => !nameLess e.f0 f.f0))
 have h2 : (l.filter (fun e => nameLess e.f0 f.f0)).length + (l.filter (fun e => !nameLess e.f0 f.f0)).length = l.length := by
  clear h1 e
  induction l with
  | nil => rfl
  | cons a l ih =>
   by_cases c : nameLess a.f0 f.f0 = true
   ·rw [List.filter_cons_of_pos (p := fun e : S99 => nameLess e.f0 f.f0) c, List.filter_cons_of_neg (p := fun e : S99 => !nameLess e.f0 f.f0) (by simp [c])]
    simp only [List.length_cons]; omega
   ·rw [List.filter_cons_of_neg (p := fun e : S99 => nameLess e.f0 f.f0) c, List.filter_cons_of_pos (p := fun e : S99 => !nameLess e.f0 f.f0) (by simp [c])]
    simp only [List.length_cons]; omega
 omega
def sortedD (l : List S99) : Prop := l.Pairwise (fun a b => nameLess a.f0 b.f0 = true)
def afterL (l : List S99) (f : S99) : List S99 := l.filter (fun e => !(nameLess e.f0 f.f0 || (e.f0.toList == f.f0.toList)))
theorem less_asymm {x y : List UInt8} (h : Op.bytesLess x y = true) : Op.bytesLess y x = false := by
 cases h2 : Op.bytesLess y x with
 | false => rfl
 | true => have := less_trans h h2; rw [less_irrefl] at this; cases this
theorem less_ne {x y : List UInt8} (h : Op.bytesLess x y = true) : ¬ y = x := by
 intro e; rw [e, less_irrefl] at h; cases h
theorem split_less {l : List S99} {f : S99} (h : sortedD l) {i : Nat} (hi : i ≤ l.length) (hl : ∀ j (hj : j < i), nameLess (l.getD j z99).f0 f.f0 = true) (hr : i < l.length → nameLess (l.getD i z99).f0 f.f0 = false) :
  l.filter (fun e => nameLess e.f0 f.f0) = l.take i ∧ afterL l f = afterL (l.drop i) f := by
 have e : l = l.take i ++ l.drop i := (List.take_append_drop i l).symm
 have h1 : ∀ a ∈ l.take i, nameLess a.f0 f.f0 = true := by
  intro a ha
  obtain ⟨j, hj, rfl⟩ := List.mem_iff_getElem.1 ha
  rw [List.length_take] at hj
  have := hl j (by omega)
  rw [List.getD_eq_getElem?_getD, List.getElem?_eq_getElem (show j < l.length by omega)] at this
  rw [List.getElem_take]
  exact this
 have h2 : ∀ a ∈ l.drop i, nameLess a.f0 f.f0 = false := by
  intro a ha
  obtain ⟨j, hj, rfl⟩ := List.mem_iff_getElem.1 ha
  rw [List.length_drop] at hj
  rw [List.getElem_drop]
  have hr' := hr (by omega)
  rw [List.getD_eq_getElem?_getD, List.getElem?_eq_getElem (show i < l.length by omega)] at hr'
  by_cases c : j = 0
  ·subst c; exact hr'
  ·cases hc : nameLess l[i + j].f0 f.f0 with
   | false => rfl
   | true =>
    have := List.pairwise_iff_getElem.1 h i (i + j) (by omega) (by omega) (by omega)
    have h3 := less_trans this hc
    have hr2 : nameLess l[i].f0 f.f0 = false := hr'
    unfold nameLess at hr2
    rw [h3] at hr2
    cases hr2
 constructor
 ·conv => lhs; rw [e]
  rw [List.filter_append, List.filter_eq_self.2 h1, List.filter_eq_nil_iff.2 (fun a ha => by rw [h2 a ha]; simp), List.append_nil]
 ·unfold afterL
  conv => lhs; rw [e]
  rw [List.filter_append, List.filter_eq_nil_iff.2 (fun a ha => by rw [h1 a ha]; simp), List.nil_append]
theorem after_cons {e : S99} {r : List S99} {f : S99} (h : sortedD (e :: r)) (hn : nameLess e.f0 f.f0 = false) : afterL (e :: r) f = if e.f0.toList = f.f0.toList then r else e :: r := by
 unfold sortedD at h
 rw [List.pairwise_cons] at h
 unfold afterL
 by_cases c : e.f0.toList = f.f0.toList
 ·rw [if_pos c, List.filter_cons_of_neg (by simp [c])]
  rw [List.filter_eq_self]
  intro b hb
  have hlt : Op.bytesLess f.f0.toList b.f0.toList = true := by have := h.1 b hb; unfold nameLess at this; rw [c] at this; exact this
  have h1 : nameLess b.f0 f.f0 = false := less_asymm hlt
  rw [h1]
  simp only [Bool.false_or, Bool.not_eq_true', beq_eq_false_iff_ne]
  exact less_ne hlt
 ·rw [if_neg c]
  have hlt0 : Op.bytesLess f.f0.toList e.f0.toList = true := less_total hn c
  rw [List.filter_eq_self]
  intro b hb
  have hlt : Op.bytesLess f.f0.toList b.f0.toList = true := by
   rcases List.mem_cons.1 hb with rfl | hb
   ·exact hlt0
   ·exact less_trans hlt0 (h.1 b hb)
  have h1 : nameLess b.f0 f.f0 = false := less_asymm hlt
  rw [h1]
  simp only [Bool.false_or, Bool.not_eq_true', beq_eq_false_iff_ne]
  exact less_ne hlt
theorem sorted_drop {l : List S99} (h : sortedD l) (i : Nat) : sortedD (l.drop i) := List.Pairwise.sublist (List.drop_sublist i l) h
theorem impl_put_j1_ev (l : List S99) (f : S99) (h : sortedD l) (hlen : l.length ≤ 1048576) {i : Nat} (hi : i ≤ l.length) (hl : ∀ j (hj : j < i), nameLess (l.getD j z99).f0 f.f0 = true) (hr : i < l.length → nameLess (l.getD i z99).f0 f.f0 = false) :
  Ev (fun k => impl_Disk_put.j1 k i l f.f0 f.f1 f.f2) (putL l f) := by
 obtain ⟨e1, e2⟩ := split_less h hi hl hr
 have hp : putL l f = l.take i ++ [f] ++ afterL (l.drop i) f := by rw [← e2, ← e1]; rfl
 rw [hp]
 have hs := sorted_drop h i
 have hdl : (l.drop i).length = l.length - i := List.length_drop
 have htl : (l.take i).length ≤ i := by rw [List.length_take]; omega
 refine Ev.step (fun k => by rw [impl_Disk_put.j1, if_pos (by omega), if_pos (by omega)]) ?_
 simp only [Option.bind_some, List.nil_append, List.length_nil, Nat.zero_add, Int.toNat_natCast, if_pos (show (l.drop i).length < 3518437208883 by omega), if_pos (show (l.take i).length < 3518437208883 by omega), List.length_append, List.length_singleton, if_pos (show (l.take i).length + 1 < 3518437208883 by omega)]
 cases hq : l.drop i with
 | nil =>
  simp only [List.length_nil, if_neg (show ¬ (((0 : Nat) : Int) > 0) by omega), Nat.add_zero, if_pos (show (l.take i).length + 1 < 3518437208883 by omega)]
  exact Ev.now _
 | cons e r =>
  have hq2 := hdl
  rw [hq] at hs hq2
  simp only [List.length_cons] at hq2
  have hie : nameLess e.f0 f.f0 = false := by
   have h1 := hr (by omega)
   have h2 : l.getD i z99 = e := by
    have h3 : (l.drop i)[0]? = some e := by rw [hq]; rfl
    rw [List.getElem?_drop, Nat.add_zero] at h3
    rw [List.getD_eq_getElem?_getD, h3]; rfl
   rw [h2] at h1
   exact h1
  rw [after_cons hs hie]
  have hrd : rd_T99 (e :: r) 0 = e := rfl
  simp only [List.length_cons, if_pos (show (((r.length + 1 : Nat) : Int) > 0) by omega), if_pos (show ((0 : Int) < ((r.length + 1 : Nat) : Int)) by omega), hrd]
  by_cases c : e.f0.toList = f.f0.toList
  ·have h1 : (e :: r).drop (1 : Int).toNat = r := rfl
   simp only [if_pos c, if_pos (show ((1 : Int) ≤ ((r.length + 1 : Nat) : Int)) by omega), h1, if_pos (show (l.take i).length + 1 + r.length < 3518437208883 by omega)]
   exact Ev.now _
  ·simp only [if_neg c, if_pos (show (l.take i).length + 1 + (r.length + 1) < 3518437208883 by omega)]
   exact Ev.now _
theorem impl_put_ev (l : List S99) (f : S99) (h : sortedD l) (hlen : l.length ≤ 1048576) : Ev (fun k => impl_Disk_put.f k l f.f0 f.f1 f.f2) (putL l f) := by
 simp only [impl_Disk_put.f]
 have key : ∀ (d i : Nat), i + d = l.length → (∀ j, j < i → nameLess (l.getD j z99).f0 f.f0 = true) → Ev (fun k => impl_Disk_put.l0 k i l f.f0 f.f1 f.f2) (putL l f) := by
  intro d
  induction d with
  | zero =>
   intro i hi hl
   refine Ev.step (fun k => by rw [impl_Disk_put.l0, if_neg (by omega)]) ?_
   exact impl_put_j1_ev l f h hlen (by omega) hl (fun hh => by omega)
  | succ d ih =>
   intro i hi hl
   by_cases c : Op.bytesLess (l.getD i z99).f0.toList f.f0.toList = true
   ·refine Ev.step (fun k => by rw [impl_Disk_put.l0, if_pos (by omega), if_pos (by omega), rd_T99, Int.toNat_natCast, if_pos c, wrap_succ (show i < l.length by omega) (by omega)]) ?_
    refine ih (i + 1) (by omega) (fun j hj => ?_)
    by_cases hji : j = i
    ·rw [hji]; exact c
    ·exact hl j (by omega)
   ·refine Ev.step (fun k => by rw [impl_Disk_put.l0, if_pos (by omega), if_pos (by omega), rd_T99, Int.toNat_natCast, if_neg c]) ?_
    exact impl_put_j1_ev l f h hlen (by omega) hl (fun _ => Bool.eq_false_iff.2 c)
 exact key l.length 0 (by omega) (fun j hj => by omega)
def dropL (l : List S99) (i : Nat) : List S99 := l.take i ++ l.drop (i + 1)
theorem impl_drop_eq (l : List S99) {i : Nat} (hi : i < l.length) (hlen : l.length ≤ 1048576) : impl_Disk_drop.f l (i : Int) = some (dropL l i) := by
 have e := wrap_succ hi (by omega)
 have htl : (l.take i).length = i := by rw [List.length_take]; omega
 have hdl : (l.drop (i + 1)).length = l.length - (i + 1) := List.length_drop
 simp only [impl_Disk_drop.f, e, if_pos (show (0 : Int) ≤ (i : Int) by omega), if_pos (show (i : Int) ≤ (l.length : Int) by omega), Option.bind_some, Int.toNat_natCast, List.nil_append, List.length_nil, Nat.zero_add, if_pos (show (l.take i).length < 3518437208883 by omega), if_pos (show (0 : Int) ≤ ((i + 1 : Nat) : Int) by omega), if_pos (show ((i + 1 : Nat) : Int) ≤ (l.length : Int) by omega), if_pos (show (l.take i).length + (l.drop (i + 1)).length < 3518437208883 by omega)]
 rfl
theorem dropL_sub (l : List S99) (i : Nat) : (dropL l i).Sublist l := by
 unfold dropL
 rw [← List.eraseIdx_eq_take_drop_succ]
 exact List.eraseIdx_sublist l i
theorem dropL_len (l : List S99) (i : Nat) : (dropL l i).length ≤ l.length := (dropL_sub l i).length_le
theorem dropL_sorted {l : List S99} (h : sortedD l) (i : Nat) : sortedD (dropL l i) := List.Pairwise.sublist (dropL_sub l i) h
theorem without_eq {l : List S99} (h : sortedD l) {a : ByteArray} {i : Nat} (hi : i < l.length) (ha : nameAt l a i = true) : l.filter (fun e => !(e.f0.toList == a.toList)) = dropL l i := by
 have ha' : (l[i]).f0.toList = a.toList := by
  simp only [nameAt, decide_eq_true_eq, List.getD_eq_getElem?_getD, List.getElem?_eq_getElem hi, Option.getD_some] at ha
  exact ha
 have e : l = l.take i ++ l[i] :: l.drop (i + 1) := by rw [List.getElem_cons_drop, List.take_append_drop]
 have h1 : ∀ b ∈ l.take i, (!(b.f0.toList == a.toList)) = true := by
  intro b hb
  obtain ⟨j, hj, rfl⟩ := List.mem_iff_getElem.1 hb
  rw [List.length_take] at hj
  rw [List.getElem_take]
  have := List.pairwise_iff_getElem.1 h j i (by omega) hi (by omega)
  unfold nameLess at this
  rw [ha'] at this
  simp only [Bool.not_eq_true', beq_eq_false_iff_ne]
  intro e2
  exact less_ne this e2.symm
 have h2 : ∀ b ∈ l.drop (i + 1), (!(b.f0.toList == a.toList)) = true := by
  intro b hb
  obtain ⟨j, hj, rfl⟩ := List.mem_iff_getElem.1 hb
  rw [List.length_drop] at hj
  rw [List.getElem_drop]
  have := List.pairwise_iff_getElem.1 h i (i + 1 + j) hi (by omega) (by omega)
  unfold nameLess at this
  rw [ha'] at this
  simp only [Bool.not_eq_true', beq_eq_false_iff_ne]
  exact less_ne this
 conv => lhs; rw [e]
 rw [List.filter_append, List.filter_eq_self.2 h1, List.filter_cons_of_neg (by simp [ha']), List.filter_eq_self.2 h2]
 rfl
theorem spec_l03Without_ev (l : List S99) (a : ByteArray) (hl : l.length ≤ 1048576) : Ev (fun k => spec_l03Without.f k l a) (l.filter (fun e => !(e.f0.toList == a.toList))) := by
 simp only [spec_l03Without.f]
 have h := Ev.apploop (L := fun k x i => spec_l03Without.l0 k a i l x) (n := l.length) (fun i => if (!((l.getD i z99).f0.toList == a.toList)) = true then [l.getD i z99] else []) (fun x => x) [] ?_ ?_
 ·have e := range_flatMap_getD l z99 (fun x : S99 => if (!(x.f0.toList == a.toList)) = true then [x] else [])
  rw [flatMap_filter (fun x : S99 => !(x.f0.toList == a.toList))] at e
  rw [e, List.nil_append] at h
  exact h
 ·intro i x r hi hx hr
  have hxl : x.length ≤ i := by
   rw [hx, List.nil_append]
   exact flat_le (fun j => by split <;> simp) i
  by_cases c : (l.getD i z99).f0.toList = a.toList
  ·simp only [c, beq_self_eq_true, Bool.not_true, Bool.false_eq_true, if_false, List.append_nil] at hr
   refine Ev.step (fun k => by rw [spec_l03Without.l0, if_pos (by omega), if_pos (by omega), rd_T99, Int.toNat_natCast, if_pos c, wrap_succ hi (by omega)]) ?_
   exact hr
  ·have c2 : (!((l.getD i z99).f0.toList == a.toList)) = true := by simp only [Bool.not_eq_true', beq_eq_false_iff_ne]; exact c
   simp only [if_pos c2] at hr
   refine Ev.step (fun k => by rw [spec_l03Without.l0, if_pos (by omega), if_pos (by omega), rd_T99, Int.toNat_natCast, if_neg c, if_pos (by omega), wrap_succ hi (by omega)]) ?_
   exact hr
 ·intro x hx
  refine Ev.step (fun k => by rw [spec_l03Without.l0, if_neg (by omega)]) ?_
  exact Ev.now _
theorem l01Below_any (l : List Int) (p s a : Int) (hp : 0 ≤ p) (hl : l.length ≤ 4611686018427387904) (ha : 1 ≤ a) (ha2 : a ≤ 1000000) : ∃ v q t, spec_l01Below.f l p s a = some (v, q, t) ∧ 0 ≤ v ∧ v < a ∧ 0 ≤ q := by
 by_cases h : a ≤ 256
 ·exact l01Below_some l p s a hp hl ha h
 ·exact l01Below_big l p s a hp hl (by omega) ha2
def names8 : List ByteArray := [(⟨#[97]⟩ : ByteArray), (⟨#[98]⟩ : ByteArray), (⟨#[99]⟩ : ByteArray), (⟨#[108, 111, 103]⟩ : ByteArray), (⟨#[108, 111, 103, 43]⟩ : ByteArray), (⟨#[120]⟩ : ByteArray), (⟨#[121]⟩ : ByteArray), (⟨#[122]⟩ : ByteArray)]
theorem names8_size : ∀ m : Fin 8, 1 ≤ (names8.getD m.val ByteArray.empty).size ∧ (names8.getD m.val ByteArray.empty).size ≤ 8 := by decide
theorem spec_l03Named_some (l : List Int) (p s : Int) (hp : 0 ≤ p) (hl : l.length ≤ 4611686018427387904) : ∃ v q t, spec_l03Named.f l p s = some (v, q, t) ∧ 1 ≤ v.size ∧ v.size ≤ 8 ∧ 0 ≤ q := by
 obtain ⟨v, q, t, h1, h2, h3, h4⟩ := l01Below_some l p s 8 hp hl (by omega) (by omega)
 have hz := names8_size ⟨v.toNat, by omega⟩
 have hl8 : (names8.length : Int) = 8 := rfl
 refine ⟨rdOf ByteArray.empty names8 v, q, t, ?_, hz.1, hz.2, h4⟩
 have : spec_l01Pick.f l p s names8 = some (rdOf ByteArray.empty names8 v, q, t) := by
  simp only [spec_l01Pick.f, hl8, h1, Option.bind_some, if_pos h2, if_pos h3]
 show ((spec_l01Pick.f l p s names8).bind fun bt179 => (some (bt179.1, bt179.2.1, bt179.2.2))) = _
 rw [this]
 rfl
def newFile (a : ByteArray) : S99 := ⟨a, (⟨#[]⟩ : ByteArray), 0⟩
def fileOf (l : List S99) (a : ByteArray) : S99 := if fileAtI l a < 0 then newFile a else l.getD (fileAtI l a).toNat z99
def finish (o : List S99) : List S99 × Bool := if diskOk o = true then (o, true) else ([], false)
def actOut (l : List S99) (kind : Int) (name text dst : ByteArray) (j : Int) (f : S99) : List S99 × Bool :=
 if kind = 1 then finish (putL l ⟨f.f0, f.f1 ++ text, f.f2⟩)
 else if j < 0 then ([], false)
 else if kind = 2 then finish (putL l ⟨f.f0, f.f1, (f.f1.size : Int)⟩)
 else if kind = 3 then (if f.f2 < (f.f1.size : Int) ∨ dst.toList = name.toList then ([], false) else finish (putL (dropL l j.toNat) ⟨dst, f.f1, f.f2⟩))
 else if kind = 4 then finish (dropL l j.toNat) else ([], false)
noncomputable def actP (l : List S99) (kind : Int) (name text dst : ByteArray) : List S99 × Bool :=
 if diskOk l = true ∧ (dst.toList = [] ∨ kind = 3) ∧ (text.toList = [] ∨ kind = 1) then actOut l kind name text dst (fileAtI l name) (fileOf l name) else ([], false)
theorem finish_len (o : List S99) : (finish o).1.length ≤ 30 := by
 unfold finish
 by_cases h : diskOk o = true
 ·rw [if_pos h]; exact diskOk_len h
 ·rw [if_neg h]; simp
theorem actP_len (l : List S99) (kind : Int) (name text dst : ByteArray) : (actP l kind name text dst).1.length ≤ 30 := by
 unfold actP actOut
 repeat' split
 all_goals first | exact finish_len _ | simp
theorem finish_bad {l : List S99} {f : S99} (h : ¬ fileGood f) : finish (putL l f) = ([], false) := by
 unfold finish
 rw [if_neg]
 intro hk
 refine h ((diskGood_of hk).2 f ?_)
 unfold putL
 simp
theorem fileOf_size {l : List S99} (h : diskOk l = true) (a : ByteArray) : (fileOf l a).f1.size ≤ 20000 := by
 unfold fileOf
 by_cases c : fileAtI l a < 0
 ·rw [if_pos c]; show 0 ≤ 20000; omega
 ·rw [if_neg c]
  rcases fileAtI_range l a with h1 | ⟨h1, h2, _⟩
  ·omega
  ·have := (diskGood_of h).2 _ (List.getElem_mem (show (fileAtI l a).toNat < l.length by omega))
   rw [List.getD_eq_getElem?_getD, List.getElem?_eq_getElem (show (fileAtI l a).toNat < l.length by omega)]
   exact this.2.2.1
theorem impl_finish_ev (o : List S99) (hl : o.length ≤ 1048577) : Ev (fun k => (impl_DiskOk.f k o).bind fun t => (if t = true then (some (o, true)) else (some (([] : List S99), false)))) (finish o) := by
 refine Ev.bind (impl_DiskOk_ev o (by omega)) ?_
 unfold finish
 by_cases h : diskOk o = true
 ·simp only [if_pos h]; exact Ev.now _
 ·simp only [if_neg h]; exact Ev.now _
theorem impl_act_j2_ev (l : List S99) (h : sortedD l) (hl : l.length ≤ 1048576) (i : Nat) (hi : i < l.length) (b : Bool) (kind : Int) (name text dst : ByteArray) (f : S99) :
  Ev (fun k => impl_DoAct.j2 k i b kind name text dst l f.f0 f.f1 f.f2) (if b = true then finish (putL (dropL l i) ⟨dst, f.f1, f.f2⟩) else if kind = 4 then finish (dropL l i) else ([], false)) := by
 have hd := dropL_len l i
 cases b with
 | true =>
  refine Ev.step (fun k => by rw [impl_DoAct.j2, if_pos rfl, impl_drop_eq l hi hl, Option.bind_some]) ?_
  refine Ev.bind (impl_put_ev (dropL l i) ⟨dst, f.f1, f.f2⟩ (dropL_sorted h i) (by omega)) ?_
  rw [if_pos rfl]
  have := putL_len (dropL l i) ⟨dst, f.f1, f.f2⟩
  exact impl_finish_ev _ (by omega)
 | false =>
  by_cases c : kind = 4
  ·refine Ev.step (fun k => by rw [impl_DoAct.j2, if_neg (by simp), if_pos c, impl_drop_eq l hi hl, Option.bind_some]) ?_
   rw [if_neg (by simp), if_pos c]
   exact impl_finish_ev _ (by omega)
  ·refine Ev.step (fun k => by rw [impl_DoAct.j2, if_neg (by simp), if_neg c]) ?_
   rw [if_neg (by simp), if_neg c]
   exact Ev.now _
theorem impl_act_j1_ev (l : List S99) (h : diskOk l = true) (j : Int) (kind : Int) (hj : kind = 1 ∨ (0 ≤ j ∧ j < (l.length : Int))) (name text dst : ByteArray) (ht : text.size ≤ 1048576) (f : S99) (hf : f.f1.size ≤ 20000) (hk : kind ≠ 1 → f.f2 ≤ (f.f1.size : Int)) :
  Ev (fun k => impl_DoAct.j1 k j kind name text dst l f.f0 f.f1 f.f2) (actOut l kind name text dst j f) := by
 have hs := (diskGood_of h).1
 have hl := diskOk_len h
 unfold actOut
 by_cases c1 : kind = 1
 ·refine Ev.step (fun k => by rw [impl_DoAct.j1, if_pos c1, if_pos (by omega)]) ?_
  rw [if_pos c1]
  refine Ev.bind (impl_put_ev l ⟨f.f0, f.f1 ++ text, f.f2⟩ hs (by omega)) ?_
  have := putL_len l ⟨f.f0, f.f1 ++ text, f.f2⟩
  exact impl_finish_ev _ (by omega)
 ·rcases hj with hj | ⟨hj0, hj1⟩
  ·exact absurd hj c1
  ·obtain ⟨i, rfl⟩ := Int.eq_ofNat_of_zero_le hj0
   have hi : i < l.length := by omega
   rw [if_neg c1, if_neg (by omega), Int.toNat_natCast]
   by_cases c2 : kind = 2
   ·refine Ev.step (fun k => by rw [impl_DoAct.j1, if_neg c1, if_pos c2]) ?_
    rw [if_pos c2]
    refine Ev.bind (impl_put_ev l ⟨f.f0, f.f1, (f.f1.size : Int)⟩ hs (by omega)) ?_
    have := putL_len l ⟨f.f0, f.f1, (f.f1.size : Int)⟩
    exact impl_finish_ev _ (by omega)
   ·rw [if_neg c2]
    by_cases c3 : kind = 3
    ·rw [if_pos c3]
     by_cases c4 : dst.toList = name.toList
     ·refine Ev.step (fun k => by rw [impl_DoAct.j1, if_neg c1, if_neg c2, if_pos c3, if_pos c4]) ?_
      have := impl_act_j2_ev l hs (by omega) i hi false kind name text dst f
      rw [if_neg (by simp), if_neg (by omega)] at this
      rw [if_pos (Or.inr c4)]
      exact this
     ·refine Ev.step (fun k => by rw [impl_DoAct.j1, if_neg c1, if_neg c2, if_pos c3, if_neg c4]) ?_
      have := impl_act_j2_ev l hs (by omega) i hi (f.f2 == (f.f1.size : Int)) kind name text dst f
      by_cases c5 : f.f2 = (f.f1.size : Int)
      ·rw [if_pos (by simp [c5])] at this
       rw [if_neg (fun hh => by rcases hh with hh | hh; omega; exact c4 hh)]
       exact this
      ·rw [if_neg (by simp [c5]), if_neg (by omega)] at this
       rw [if_pos (Or.inl (by have := hk c1; omega))]
       exact this
    ·refine Ev.step (fun k => by rw [impl_DoAct.j1, if_neg c1, if_neg c2, if_neg c3]) ?_
     have := impl_act_j2_ev l hs (by omega) i hi false kind name text dst f
     rw [if_neg (by simp)] at this
     rw [if_neg c3]
     exact this
theorem impl_act_j0_ev (l : List S99) (h : diskOk l = true) (kind : Int) (name text dst : ByteArray) (ht : text.size ≤ 1048576) :
  Ev (fun k => impl_DoAct.j0 k false l kind name text dst) (actOut l kind name text dst (fileAtI l name) (fileOf l name)) := by
 have hl := diskOk_len h
 have hsz := fileOf_size h name
 refine Ev.step (fun k => by rw [impl_DoAct.j0, if_neg (by simp), impl_copyDisk_eq l (by omega), Option.bind_some]) ?_
 refine Ev.bind (impl_fileAt_ev l name (by omega)) ?_
 by_cases c : fileAtI l name < 0
 ·have hf : fileOf l name = newFile name := by unfold fileOf; rw [if_pos c]
  rw [hf] at hsz ⊢
  simp only [if_neg (show ¬ fileAtI l name ≥ 0 by omega)]
  by_cases c1 : kind = 1
  ·simp only [if_pos c1]
   exact impl_act_j1_ev l h (fileAtI l name) kind (Or.inl c1) name text dst ht (newFile name) hsz (fun hh => absurd c1 hh)
  ·simp only [if_neg c1]
   unfold actOut
   rw [if_neg c1, if_pos c]
   exact Ev.now _
 ·rcases fileAtI_range l name with h1 | ⟨h1, h2, _⟩
  ·omega
  ·have hf : fileOf l name = l.getD (fileAtI l name).toNat z99 := by unfold fileOf; rw [if_neg c]
   simp only [if_pos (show fileAtI l name ≥ 0 by omega), if_pos h1, if_pos h2]
   have hk := diskOk_keptAt h (show (fileAtI l name).toNat < l.length by omega)
   rw [← hf] at hk
   have := impl_act_j1_ev l h (fileAtI l name) kind (Or.inr ⟨h1, h2⟩) name text dst ht (fileOf l name) hsz (fun _ => hk.2)
   rw [hf] at this ⊢
   exact this
theorem impl_DoAct_ev (l : List S99) (kind : Int) (name text dst : ByteArray) (hl : l.length ≤ 1048576) (ht : text.size ≤ 1048576) : Ev (fun k => impl_DoAct.f k l kind name text dst) (actP l kind name text dst) := by
 have bad : Ev (fun k => impl_DoAct.j0 k true l kind name text dst) (([] : List S99), false) := by
  refine Ev.step (fun k => by rw [impl_DoAct.j0, if_pos rfl]) ?_
  exact Ev.now _
 simp only [impl_DoAct.f]
 refine Ev.bind (impl_DiskOk_ev l (by omega)) ?_
 unfold actP
 by_cases h : diskOk l = true
 ·have good := impl_act_j0_ev l h kind name text dst ht
  simp only [if_pos h]
  by_cases c1 : dst.toList = []
  ·simp only [if_pos c1]
   by_cases c2 : text.toList = []
   ·simp only [if_pos c2]
    rw [if_pos ⟨h, Or.inl c1, Or.inl c2⟩]
    exact good
   ·simp only [if_neg c2]
    by_cases c3 : kind = 1
    ·have e : (kind != 1) = false := by simp [c3]
     rw [if_pos ⟨h, Or.inl c1, Or.inr c3⟩]
     simp only [e]
     exact good
    ·have e : (kind != 1) = true := by simp [c3]
     rw [if_neg (fun hh => by rcases hh.2.2 with hh | hh; exact c2 hh; exact c3 hh)]
     simp only [e]
     exact bad
  ·simp only [if_neg c1]
   by_cases c4 : kind = 3
   ·simp only [if_pos c4]
    by_cases c2 : text.toList = []
    ·simp only [if_pos c2]
     rw [if_pos ⟨h, Or.inr c4, Or.inl c2⟩]
     exact good
    ·simp only [if_neg c2]
     have e : (kind != 1) = true := by simp [c4]
     rw [if_neg (fun hh => by rcases hh.2.2 with hh | hh; exact c2 hh; omega)]
     simp only [e]
     exact bad
   ·simp only [if_neg c4]
    rw [if_neg (fun hh => by rcases hh.2.1 with hh | hh; exact c1 hh; exact c4 hh)]
    exact bad
 ·simp only [if_neg h]
  rw [if_neg (fun hh => h hh.1)]
  exact bad
theorem spec_finish_ev (o : List S99) : Ev (fun k => (spec_DiskOk.f k o).bind fun t => (if t = true then (some (o, true)) else (some (([] : List S99), false)))) (finish o) := by
 refine Ev.bind (spec_DiskOk_ev o) ?_
 unfold finish
 by_cases h : diskOk o = true
 ·simp only [if_pos h]; exact Ev.now _
 ·simp only [if_neg h]; exact Ev.now _
theorem spec_act_j1_ev (l : List S99) (h : diskOk l = true) (j : Int) (kind : Int) (name text dst : ByteArray) (hj : j < 0 ∨ (0 ≤ j ∧ j < (l.length : Int) ∧ nameAt l name j.toNat = true)) (ht : text.size ≤ 1048576) (f : S99) (hf : f.f1.size ≤ 20000) :
  Ev (fun k => spec_DoAct.j1 k j l kind name text dst f.f0 f.f1 f.f2) (actOut l kind name text dst j f) := by
 have hs := (diskGood_of h).1
 have hl := diskOk_len h
 have bad : Ev (fun k => spec_DoAct.j2 k true l kind name text dst f.f0 f.f1 f.f2) (([] : List S99), false) := by
  refine Ev.step (fun k => by rw [spec_DoAct.j2, if_pos rfl]) ?_
  exact Ev.now _
 unfold actOut
 by_cases c1 : kind = 1
 ·refine Ev.step (fun k => by rw [spec_DoAct.j1, if_pos c1, if_pos (by omega)]) ?_
  rw [if_pos c1]
  refine Ev.bind (spec_l03Put_ev l ⟨f.f0, f.f1 ++ text, f.f2⟩ (by omega)) ?_
  exact spec_finish_ev _
 ·rw [if_neg c1]
  by_cases cj : j < 0
  ·refine Ev.step (fun k => by rw [spec_DoAct.j1, if_neg c1, if_pos cj]) ?_
   rw [if_pos cj]
   exact Ev.now _
  ·rw [if_neg cj]
   rcases hj with hj | ⟨hj0, hj1, hjn⟩
   ·exact absurd hj cj
   ·obtain ⟨i, rfl⟩ := Int.eq_ofNat_of_zero_le hj0
    have hi : i < l.length := by omega
    rw [Int.toNat_natCast] at hjn ⊢
    have hw := without_eq hs hi hjn
    have hwe := spec_l03Without_ev l name (by omega)
    rw [hw] at hwe
    have hd := dropL_len l i
    by_cases c2 : kind = 2
    ·refine Ev.step (fun k => by rw [spec_DoAct.j1, if_neg c1, if_neg cj, if_pos c2]) ?_
     rw [if_pos c2]
     refine Ev.bind (spec_l03Put_ev l ⟨f.f0, f.f1, (f.f1.size : Int)⟩ (by omega)) ?_
     exact spec_finish_ev _
    ·rw [if_neg c2]
     by_cases c3 : kind = 3
     ·rw [if_pos c3]
      by_cases c5 : f.f2 < (f.f1.size : Int)
      ·refine Ev.step (fun k => by rw [spec_DoAct.j1, if_neg c1, if_neg cj, if_neg c2, if_pos c3, if_pos c5]) ?_
       rw [if_pos (Or.inl c5)]
       exact bad
      ·by_cases c4 : dst.toList = name.toList
       ·refine Ev.step (fun k => by rw [spec_DoAct.j1, if_neg c1, if_neg cj, if_neg c2, if_pos c3, if_neg c5, if_pos c4]) ?_
        rw [if_pos (Or.inr c4)]
        exact bad
       ·rw [if_neg (fun hh => by rcases hh with hh | hh; exact c5 hh; exact c4 hh)]
        refine Ev.step (fun k => by rw [spec_DoAct.j1, if_neg c1, if_neg cj, if_neg c2, if_pos c3, if_neg c5, if_neg c4, spec_l03Name_eq, Option.bind_some]) ?_
        by_cases cn : 1 ≤ (dst.size : Int) ∧ (dst.size : Int) ≤ 8
        ·rw [decide_eq_true cn]
         refine Ev.step (fun k => by rw [spec_DoAct.j2, if_neg (by simp)]) ?_
         refine Ev.bind hwe ?_
         refine Ev.bind (spec_l03Put_ev (dropL l i) ⟨dst, f.f1, f.f2⟩ (by omega)) ?_
         exact spec_finish_ev _
        ·rw [decide_eq_false cn, finish_bad (fun hg => cn (by have h1 := hg.1; have h2 := hg.2.1; exact ⟨by simp only at h1; omega, by simp only at h2; omega⟩))]
         exact bad
     ·rw [if_neg c3]
      by_cases c6 : kind = 4
      ·refine Ev.step (fun k => by rw [spec_DoAct.j1, if_neg c1, if_neg cj, if_neg c2, if_neg c3, if_pos c6]) ?_
       rw [if_pos c6]
       refine Ev.bind hwe ?_
       exact spec_finish_ev _
      ·refine Ev.step (fun k => by rw [spec_DoAct.j1, if_neg c1, if_neg cj, if_neg c2, if_neg c3, if_neg c6]) ?_
       rw [if_neg c6]
       exact Ev.now _
theorem spec_act_j0_ev (l : List S99) (h : diskOk l = true) (kind : Int) (name text dst : ByteArray) (ht : text.size ≤ 1048576) :
  Ev (fun k => spec_DoAct.j0 k false l kind name text dst) (actOut l kind name text dst (fileAtI l name) (fileOf l name)) := by
 have hl := diskOk_len h
 have hsz := fileOf_size h name
 refine Ev.step (fun k => by rw [spec_DoAct.j0, if_neg (by simp)]) ?_
 refine Ev.bind (spec_l03At_ev l name (by omega)) ?_
 by_cases c : fileAtI l name < 0
 ·have hf : fileOf l name = newFile name := by unfold fileOf; rw [if_pos c]
  rw [hf] at hsz ⊢
  simp only [if_neg (show ¬ fileAtI l name ≥ 0 by omega)]
  exact spec_act_j1_ev l h (fileAtI l name) kind name text dst (Or.inl c) ht (newFile name) hsz
 ·rcases fileAtI_range l name with h1 | ⟨h1, h2, h3⟩
  ·omega
  ·have hf : fileOf l name = l.getD (fileAtI l name).toNat z99 := by unfold fileOf; rw [if_neg c]
   simp only [if_pos (show fileAtI l name ≥ 0 by omega), if_pos h1, if_pos h2]
   have := spec_act_j1_ev l h (fileAtI l name) kind name text dst (Or.inr ⟨h1, h2, h3⟩) ht (fileOf l name) hsz
   rw [hf] at this ⊢
   exact this
theorem act_badname {l : List S99} (h : diskOk l = true) (kind : Int) {name : ByteArray} (text dst : ByteArray) (hn : ¬ (1 ≤ (name.size : Int) ∧ (name.size : Int) ≤ 8)) : actOut l kind name text dst (fileAtI l name) (fileOf l name) = ([], false) := by
 have c : fileAtI l name < 0 := by
  rcases fileAtI_range l name with h1 | ⟨h1, h2, h3⟩
  ·omega
  ·exfalso
   have hg := (diskGood_of h).2 _ (List.getElem_mem (show (fileAtI l name).toNat < l.length by omega))
   simp only [nameAt, decide_eq_true_eq, List.getD_eq_getElem?_getD, List.getElem?_eq_getElem (show (fileAtI l name).toNat < l.length by omega), Option.getD_some] at h3
   have := str_ext h3
   rw [← this] at hn
   exact hn ⟨by have := hg.1; omega, by have := hg.2.1; omega⟩
 have hf : fileOf l name = newFile name := by unfold fileOf; rw [if_pos c]
 rw [hf]
 unfold actOut
 by_cases c1 : kind = 1
 ·rw [if_pos c1]
  refine finish_bad (fun hg => hn ?_)
  have h1 := hg.1
  have h2 := hg.2.1
  simp only [newFile] at h1 h2
  omega
 ·rw [if_neg c1, if_pos c]
theorem spec_DoAct_ev (l : List S99) (kind : Int) (name text dst : ByteArray) (ht : text.size ≤ 1048576) : Ev (fun k => spec_DoAct.f k l kind name text dst) (actP l kind name text dst) := by
 have bad : Ev (fun k => spec_DoAct.j0 k true l kind name text dst) (([] : List S99), false) := by
  refine Ev.step (fun k => by rw [spec_DoAct.j0, if_pos rfl]) ?_
  exact Ev.now _
 simp only [spec_DoAct.f]
 refine Ev.bind (spec_DiskOk_ev l) ?_
 unfold actP
 by_cases h : diskOk l = true
 ·have good := spec_act_j0_ev l h kind name text dst ht
  simp only [if_pos h, spec_l03Name_eq, Option.bind_some]
  by_cases cn : 1 ≤ (name.size : Int) ∧ (name.size : Int) ≤ 8
  ·simp only [decide_eq_true cn, if_true]
   by_cases c4 : kind = 3
   ·simp only [if_pos c4]
    by_cases c3 : kind = 1
    ·omega
    ·simp only [if_neg c3]
     by_cases c2 : text.toList = []
     ·have e : (text.toList != []) = false := by simp [c2]
      rw [if_pos ⟨h, Or.inr c4, Or.inl c2⟩]
      simp only [e]
      exact good
     ·have e : (text.toList != []) = true := by simp [c2]
      rw [if_neg (fun hh => by rcases hh.2.2 with hh | hh; exact c2 hh; exact c3 hh)]
      simp only [e]
      exact bad
   ·simp only [if_neg c4]
    by_cases c1 : dst.toList = []
    ·simp only [if_pos c1]
     by_cases c3 : kind = 1
     ·simp only [if_pos c3]
      rw [if_pos ⟨h, Or.inl c1, Or.inr c3⟩]
      exact good
     ·simp only [if_neg c3]
      by_cases c2 : text.toList = []
      ·have e : (text.toList != []) = false := by simp [c2]
       rw [if_pos ⟨h, Or.inl c1, Or.inl c2⟩]
       simp only [e]
       exact good
      ·have e : (text.toList != []) = true := by simp [c2]
       rw [if_neg (fun hh => by rcases hh.2.2 with hh | hh; exact c2 hh; exact c3 hh)]
       simp only [e]
       exact bad
    ·simp only [if_neg c1]
     rw [if_neg (fun hh => by rcases hh.2.1 with hh | hh; exact c1 hh; exact c4 hh)]
     exact bad
  ·simp only [decide_eq_false cn, Bool.false_eq_true, if_false]
   have e := act_badname h kind text dst cn
   rw [e]
   have : (if diskOk l = true ∧ (dst.toList = [] ∨ kind = 3) ∧ (text.toList = [] ∨ kind = 1) then ((([] : List S99), false)) else ([], false)) = ([], false) := by split <;> rfl
   rw [this]
   exact bad
 ·simp only [if_neg h]
  rw [if_neg (fun hh => h hh.1)]
  exact bad
noncomputable def actsR (list : List S60) : Nat → Nat → List S99 → List S99 × Int
 | 0, _, d => (d, (list.length : Int))
 | n + 1, i, d => if (actP d (list.getD i z60).f0 (list.getD i z60).f1 (list.getD i z60).f2 (list.getD i z60).f3).2 = true then actsR list n (i + 1) (actP d (list.getD i z60).f0 (list.getD i z60).f1 (list.getD i z60).f2 (list.getD i z60).f3).1 else (d, (i : Int))
noncomputable def actsP (d : List S99) (list : List S60) : List S99 × Int := actsR list list.length 0 d
theorem actsR_len (list : List S60) : ∀ (n i : Nat) (d : List S99), d.length ≤ 1048576 → (actsR list n i d).1.length ≤ 1048576
 | 0, _, d, h => h
 | n + 1, i, d, h => by
  rw [actsR]
  split
  ·exact actsR_len list n (i + 1) _ (by have := actP_len d (list.getD i z60).f0 (list.getD i z60).f1 (list.getD i z60).f2 (list.getD i z60).f3; omega)
  ·exact h
theorem spec_DoActs_ev (d : List S99) (list : List S60) (hd : d.length ≤ 1048576) (hl : list.length ≤ 1048576) (hs : ∀ a ∈ list, a.f2.size ≤ 1048576) : Ev (fun k => spec_DoActs.f k d list) (actsP d list) := by
 have key : ∀ (n i : Nat) (d : List S99), i + n = list.length → Ev (fun k => spec_DoActs.l0 k list i d) (actsR list n i d) := by
  intro n
  induction n with
  | zero =>
   intro i d hi
   refine Ev.step (fun k => by rw [spec_DoActs.l0, if_neg (by omega)]) ?_
   exact Ev.now _
  | succ n ih =>
   intro i d hi
   have hi' : i < list.length := by omega
   have hm : (list.getD i z60).f2.size ≤ 1048576 := by
    rw [List.getD_eq_getElem?_getD, List.getElem?_eq_getElem hi']
    exact hs _ (List.getElem_mem hi')
   refine Ev.step (fun k => by rw [spec_DoActs.l0, if_pos (by omega), if_pos (by omega), rd_T60, Int.toNat_natCast]) ?_
   refine Ev.bind (spec_DoAct_ev d _ _ _ _ hm) ?_
   rw [actsR]
   by_cases c : (actP d (list.getD i z60).f0 (list.getD i z60).f1 (list.getD i z60).f2 (list.getD i z60).f3).2 = true
   ·simp only [if_pos c, wrap_succ hi' (show list.length ≤ 4611686018427387904 by omega)]
    exact ih (i + 1) _ (by omega)
   ·simp only [if_neg c]
    exact Ev.now _
 simp only [spec_DoActs.f, Option.bind_some, List.length_nil, Nat.zero_add, List.nil_append, if_pos (show d.length < 3518437208883 by omega)]
 exact key list.length 0 d (by omega)
theorem impl_DoActs_ev (d : List S99) (list : List S60) (hd : d.length ≤ 1048576) (hl : list.length ≤ 1048576) (hs : ∀ a ∈ list, a.f2.size ≤ 1048576) : Ev (fun k => impl_DoActs.f k d list) (actsP d list) := by
 have key : ∀ (n i : Nat) (d : List S99), i + n = list.length → d.length ≤ 1048576 → Ev (fun k => impl_DoActs.l0 k list list (list.length : Int) i d) (actsR list n i d) := by
  intro n
  induction n with
  | zero =>
   intro i d hi hd
   refine Ev.step (fun k => by rw [impl_DoActs.l0, if_neg (by omega)]) ?_
   exact Ev.now _
  | succ n ih =>
   intro i d hi hd
   have hi' : i < list.length := by omega
   have hm : (list.getD i z60).f2.size ≤ 1048576 := by
    rw [List.getD_eq_getElem?_getD, List.getElem?_eq_getElem hi']
    exact hs _ (List.getElem_mem hi')
   have hal := actP_len d (list.getD i z60).f0 (list.getD i z60).f1 (list.getD i z60).f2 (list.getD i z60).f3
   refine Ev.step (fun k => by rw [impl_DoActs.l0, if_pos (by omega), if_pos (by omega), if_pos (by omega), rd_T60, Int.toNat_natCast]) ?_
   refine Ev.bind (impl_DoAct_ev d _ _ _ _ hd hm) ?_
   rw [actsR]
   by_cases c : (actP d (list.getD i z60).f0 (list.getD i z60).f1 (list.getD i z60).f2 (list.getD i z60).f3).2 = true
   ·simp only [if_pos c, wrap_succ hi' (show list.length ≤ 4611686018427387904 by omega)]
    exact ih (i + 1) _ (by omega) (by omega)
   ·simp only [if_neg c]
    exact Ev.now _
 simp only [impl_DoActs.f, impl_copyDisk_eq d hd, Option.bind_some]
 exact key list.length 0 d (by omega) hd
noncomputable def cutP (d : List S99) (list : List S60) (whole : Int) (left : List Int) : List S99 × Bool :=
 if 0 ≤ whole ∧ whole ≤ (list.length : Int) then (if (actsP d (list.take whole.toNat)).2 < whole then ([], false) else loseP (actsP d (list.take whole.toNat)).1 left) else ([], false)
theorem cutP_len (d : List S99) (list : List S60) (whole : Int) (left : List Int) : (cutP d list whole left).1.length ≤ 30 := by
 unfold cutP
 by_cases c : 0 ≤ whole ∧ whole ≤ (list.length : Int)
 ·rw [if_pos c]
  by_cases c2 : (actsP d (list.take whole.toNat)).2 < whole
  ·rw [if_pos c2]; simp
  ·rw [if_neg c2]; exact loseP_len _ _
 ·rw [if_neg c]; simp
theorem take_small {list : List S60} (hs : ∀ a ∈ list, a.f2.size ≤ 1048576) (n : Nat) : ∀ a ∈ list.take n, a.f2.size ≤ 1048576 := fun a ha => hs a (List.mem_of_mem_take ha)
theorem take_len {list : List S60} (hl : list.length ≤ 1048576) (n : Nat) : (list.take n).length ≤ 1048576 := by rw [List.length_take]; omega
theorem spec_CutActs_ev (d : List S99) (list : List S60) (whole : Int) (left : List Int) (hd : d.length ≤ 1048576) (hl : list.length ≤ 1048576) (hs : ∀ a ∈ list, a.f2.size ≤ 1048576) : Ev (fun k => spec_CutActs.f k d list whole left) (cutP d list whole left) := by
 simp only [spec_CutActs.f, spec_in_eq, Option.bind_some]
 unfold cutP
 by_cases c : 0 ≤ whole ∧ whole ≤ (list.length : Int)
 ·simp only [decide_eq_true c, if_true, if_pos c, if_pos c.1, if_pos c.2]
  refine Ev.bind (spec_DoActs_ev d (list.take whole.toNat) hd (take_len hl _) (take_small hs _)) ?_
  by_cases c2 : (actsP d (list.take whole.toNat)).2 < whole
  ·simp only [if_pos c2]; exact Ev.now _
  ·simp only [if_neg c2]
   refine Ev.bind (spec_LoseDisk_ev _ left) ?_
   exact Ev.now _
 ·simp only [decide_eq_false c, Bool.false_eq_true, if_false, if_neg c]
  exact Ev.now _
theorem impl_CutActs_ev (d : List S99) (list : List S60) (whole : Int) (left : List Int) (hd : d.length ≤ 1048576) (hl : list.length ≤ 1048576) (hs : ∀ a ∈ list, a.f2.size ≤ 1048576) : Ev (fun k => impl_CutActs.f k d list whole left) (cutP d list whole left) := by
 simp only [impl_CutActs.f, impl_in_eq, Option.bind_some]
 unfold cutP
 by_cases c : 0 ≤ whole ∧ whole ≤ (list.length : Int)
 ·simp only [decide_eq_true c, if_true, if_pos c, if_pos c.1, if_pos c.2]
  refine Ev.bind (impl_DoActs_ev d (list.take whole.toNat) hd (take_len hl _) (take_small hs _)) ?_
  by_cases c2 : (actsP d (list.take whole.toNat)).2 < whole
  ·simp only [if_pos c2]; exact Ev.now _
  ·simp only [if_neg c2]
   refine Ev.bind (impl_LoseDisk_ev _ left (actsR_len _ _ _ _ hd)) ?_
   exact Ev.now _
 ·simp only [decide_eq_false c, Bool.false_eq_true, if_false, if_neg c]
  exact Ev.now _
theorem pickInt_some (l : List Int) (p s : Int) (L : List Int) (hp : 0 ≤ p) (hl : l.length ≤ 4611686018427387904) (h1 : 1 ≤ L.length) (h2 : L.length ≤ 256) : ∃ v q t, spec_l01PickInt.f l p s L = some (v, q, t) ∧ 0 ≤ q := by
 obtain ⟨v, q, t, g1, g2, g3, g4⟩ := l01Below_some l p s (L.length : Int) hp hl (by omega) (by omega)
 exact ⟨_, _, _, by simp only [spec_l01PickInt.f, g1, Option.bind_some, if_pos g2, if_pos g3]; rfl, g4⟩
theorem pick_some (l : List Int) (p s : Int) (L : List ByteArray) (hp : 0 ≤ p) (hl : l.length ≤ 4611686018427387904) (h1 : 1 ≤ L.length) (h2 : L.length ≤ 256) : ∃ v q t, spec_l01Pick.f l p s L = some (v, q, t) ∧ 0 ≤ q := by
 obtain ⟨v, q, t, g1, g2, g3, g4⟩ := l01Below_some l p s (L.length : Int) hp hl (by omega) (by omega)
 exact ⟨_, _, _, by simp only [spec_l01Pick.f, g1, Option.bind_some, if_pos g2, if_pos g3]; rfl, g4⟩
theorem place_some2 (l : List Int) (p s : Int) (hp : 0 ≤ p) (hl : l.length ≤ 4611686018427387904) (a : Int) (ha : 1 ≤ a) (ha2 : a ≤ 256) : ∃ v q t, spec_l01Place.f l p s a = some (v, q, t) ∧ 0 ≤ q := by
 obtain ⟨v, q, t, h1, h2, h3, h4⟩ := l01Below_some l p s 15 hp hl (by omega) (by omega)
 simp only [spec_l01Place.f, spec_l01Once.f, h1, Option.bind_some]
 by_cases c : (v == 0) = true
 ·obtain ⟨v2, q2, t2, g1, g2⟩ := pickInt_some l q t [(-1), a, wrap64 (a + 1), 9223372036854775807, (-9223372036854775808)] h4 hl (by simp) (by simp)
  rw [if_pos c, g1, Option.bind_some]
  exact ⟨_, _, _, rfl, g2⟩
 ·obtain ⟨v2, q2, t2, g1, g2, g3, g4⟩ := l01Below_some l q t a h4 hl ha ha2
  rw [if_neg c, g1, Option.bind_some]
  exact ⟨_, _, _, rfl, g4⟩
theorem figure_some (d : Int) : ∃ v, spec_l01Figure.f d = some v := by
 unfold spec_l01Figure.f
 split
 ·exact ⟨_, rfl⟩
 ·exact ⟨_, rfl⟩
theorem dec_l0 : ∀ (n : Nat) (x : Int) (s : ByteArray), 0 ≤ x → x ≤ n → (s.size : Int) + x ≤ 1000000 → ∃ t, Ev (fun k => spec_Decimal.l0 k x false s) t ∧ t.size ≤ 1000000
 | 0, x, s, h0, h1, h2 => by
  have : x = 0 := by omega
  subst this
  refine ⟨s, Ev.step (fun k => by rw [spec_Decimal.l0, if_pos rfl, if_neg (by simp)]) (Ev.now _), by omega⟩
 | n + 1, x, s, h0, h1, h2 => by
  by_cases hx : x = 0
  ·subst hx
   refine ⟨s, Ev.step (fun k => by rw [spec_Decimal.l0, if_pos rfl, if_neg (by simp)]) (Ev.now _), by omega⟩
  ·obtain ⟨v, hv⟩ := figure_some (Int.tmod x 10)
   have e := Int.mul_tdiv_add_tmod x 10
   have m0 := Int.tmod_nonneg 10 h0
   have m1 := Int.tmod_lt_of_pos x (show (0 : Int) < 10 by omega)
   have hq : wrap64 (Int.tdiv x 10) = Int.tdiv x 10 := by unfold wrap64; omega
   have hs : (strOfNums [v]).size = 1 := by rw [str_size]; rfl
   have hz : (strOfNums [v] ++ s).size = 1 + s.size := by rw [ByteArray.size_append, hs]
   obtain ⟨t, ht, hts⟩ := dec_l0 n (Int.tdiv x 10) (strOfNums [v] ++ s) (by omega) (by omega) (by omega)
   refine ⟨t, Ev.step (fun k => by rw [spec_Decimal.l0, if_neg hx, if_neg (by omega), hv, Option.bind_some, Option.bind_some, if_pos (by omega), hq]) ht, hts⟩
theorem spec_Decimal_some (x : Int) (h0 : 1 ≤ x) (h1 : x ≤ 1000) : ∃ t, Ev (fun k => spec_Decimal.f k x) t ∧ t.size ≤ 1000000 := by
 obtain ⟨t, ht, hts⟩ := dec_l0 1000 x (⟨#[]⟩ : ByteArray) (by omega) (by omega) (by show ((0 : Nat) : Int) + x ≤ 1000000; omega)
 refine ⟨t, ?_, hts⟩
 simp only [spec_Decimal.f, if_neg (show ¬ x = 0 by omega), decide_eq_false (show ¬ x < 0 by omega)]
 exact ht
theorem disk_l1 (l : List Int) (hl : l.length ≤ 4611686018427387904) : ∀ (m i : Nat) (p t : Int) (d : List S99), i + m = 31 → 0 ≤ p → d.length ≤ i → ∃ d' q u, Ev (fun k => spec_l03Disk.l1 k (i : Int) l p t d) (d', q, u) ∧ 0 ≤ q ∧ d'.length ≤ 40 := by
 intro m
 induction m with
 | zero =>
  intro i p t d hi hp hd
  obtain ⟨v, q, u, h1, h2, h3, h4⟩ := l01Below_some l p t 2 hp hl (by omega) (by omega)
  have hw : wrap64 (30 + v) = 30 + v := by unfold wrap64; omega
  exact ⟨d, q, u, Ev.step (fun k => by rw [spec_l03Disk.l1, h1, Option.bind_some, if_neg (by rw [hw]; omega)]) (Ev.now _), h4, by omega⟩
 | succ m ih =>
  intro i p t d hi hp hd
  obtain ⟨v, q, u, h1, h2, h3, h4⟩ := l01Below_some l p t 2 hp hl (by omega) (by omega)
  have hw : wrap64 (30 + v) = 30 + v := by unfold wrap64; omega
  by_cases c : (i : Int) < 30 + v
  ·have hw2 : wrap64 (100 + (i : Int)) = 100 + i := by unfold wrap64; omega
   obtain ⟨s, hs, hss⟩ := spec_Decimal_some (100 + (i : Int)) (by omega) (by omega)
   obtain ⟨d', q', u', e1, e2, e3⟩ := ih (i + 1) q u (d ++ [⟨(⟨#[102]⟩ : ByteArray) ++ s, (⟨#[]⟩ : ByteArray), 0⟩]) (by omega) h4 (by simp; omega)
   refine ⟨d', q', u', Ev.step (fun k => by rw [spec_l03Disk.l1, h1, Option.bind_some, if_pos (by rw [hw]; exact c), hw2]) ?_, e2, e3⟩
   refine Ev.bind hs ?_
   simp only [if_pos (show 1 + s.size ≤ 9223372036854775807 by omega), if_pos (show d.length < 3518437208883 by omega), wrap_succ (show i < 31 by omega) (show 31 ≤ 4611686018427387904 by omega)]
   exact e1
  ·exact ⟨d, q, u, Ev.step (fun k => by rw [spec_l03Disk.l1, h1, Option.bind_some, if_neg (by rw [hw]; exact c)]) (Ev.now _), h4, by omega⟩
theorem spec_l03Disk_some (l : List Int) (p s : Int) (hp : 0 ≤ p) (hl : l.length ≤ 4611686018427387904) : ∃ d q u, Ev (fun k => spec_l03Disk.f k l p s) (d, q, u) ∧ 0 ≤ q ∧ d.length ≤ 40 := by
 have fin : ∀ (i : Nat) (p t : Int) (d : List S99) (v q u : Int), spec_l01Below.f l p t 6 = some (v, q, u) → 0 ≤ q → d.length ≤ 6 → ¬ (i : Int) < v → ∃ d' q' u', Ev (fun k => spec_l03Disk.l0 k (i : Int) l p t d) (d', q', u') ∧ 0 ≤ q' ∧ d'.length ≤ 40 := by
  intro i p t d v q u h1 hq hd hv
  by_cases c0 : (d.length : Int) = 0
  ·exact ⟨d, q, u, Ev.step (fun k => by rw [spec_l03Disk.l0, h1, Option.bind_some, if_neg hv, if_pos c0]) (Ev.now _), hq, by omega⟩
  ·obtain ⟨x, q1, u1, g1, g2, g3, g4⟩ := l01Below_some l q u (d.length : Int) hq hl (by omega) (by omega)
   obtain ⟨sw, q2, u2, k1, k2, k3, k4⟩ := l01Below_some l q1 u1 40 g4 hl (by omega) (by omega)
   by_cases c1 : sw = 0
   ·obtain ⟨w, q3, u3, m1, m2⟩ := pickInt_some l q2 u2 [(-1), wrap64 ((((rd_T99 d x).f1).size : Int) + 1)] k4 hl (by simp) (by simp)
    exact ⟨_, _, _, Ev.step (fun k => by rw [spec_l03Disk.l0, h1, Option.bind_some, if_neg hv, if_neg c0, g1, Option.bind_some, k1, Option.bind_some, if_pos c1, if_pos g2, if_pos g3, m1, Option.bind_some]) (Ev.now _), m2, by rw [List.length_set]; omega⟩
   ·by_cases c2 : sw = 1
    ·exact ⟨_, _, _, Ev.step (fun k => by rw [spec_l03Disk.l0, h1, Option.bind_some, if_neg hv, if_neg c0, g1, Option.bind_some, k1, Option.bind_some, if_neg c1, if_pos c2, if_pos g2, if_pos g3, if_pos (by omega)]) (Ev.now _), k4, by rw [List.length_append, List.length_singleton]; omega⟩
    ·by_cases c3 : sw = 2
     ·obtain ⟨w, q3, u3, m1, m2⟩ := pick_some l q2 u2 [(⟨#[]⟩ : ByteArray), (⟨#[49, 50, 51, 52, 53, 54, 55, 56]⟩ : ByteArray), (⟨#[49, 50, 51, 52, 53, 54, 55, 56, 57]⟩ : ByteArray)] k4 hl (by simp) (by simp)
      exact ⟨_, _, _, Ev.step (fun k => by rw [spec_l03Disk.l0, h1, Option.bind_some, if_neg hv, if_neg c0, g1, Option.bind_some, k1, Option.bind_some, if_neg c1, if_neg c2, if_pos c3, m1, Option.bind_some, if_pos g2, if_pos g3]) (Ev.now _), m2, by rw [List.length_set]; omega⟩
     ·by_cases c4 : sw = 3
      ·obtain ⟨d', q', u', m1, m2, m3⟩ := disk_l1 l hl 31 0 q2 u2 [] (by omega) k4 (by simp)
       exact ⟨d', q', u', Ev.step (fun k => by rw [spec_l03Disk.l0, h1, Option.bind_some, if_neg hv, if_neg c0, g1, Option.bind_some, k1, Option.bind_some, if_neg c1, if_neg c2, if_neg c3, if_pos c4]) (show Ev (fun k => spec_l03Disk.l1 k 0 l q2 u2 []) (d', q', u') from m1), m2, m3⟩
      ·by_cases c5 : sw = 4
       ·obtain ⟨y, q3, u3, m1, m2, m3, m4⟩ := l01Below_some l q2 u2 3 k4 hl (by omega) (by omega)
        have hw : wrap64 (19999 + y) = ((19999 + y.toNat : Nat) : Int) := by unfold wrap64; omega
        have hL := spec_l01Long_ev (19999 + y.toNat) 65 (by omega)
        refine ⟨d.set x.toNat ⟨(rd_T99 d x).f0, strOfNums (List.replicate (19999 + y.toNat) 65), (rd_T99 d x).f2⟩, q3, u3, Ev.step (fun k => by rw [spec_l03Disk.l0, h1, Option.bind_some, if_neg hv, if_neg c0, g1, Option.bind_some, k1, Option.bind_some, if_neg c1, if_neg c2, if_neg c3, if_neg c4, if_pos c5, m1, Option.bind_some, hw]) (Ev.bind hL (by simp only [if_pos g2, if_pos g3]; exact Ev.now _)), m4, by rw [List.length_set]; omega⟩
       ·exact ⟨d, q2, u2, Ev.step (fun k => by rw [spec_l03Disk.l0, h1, Option.bind_some, if_neg hv, if_neg c0, g1, Option.bind_some, k1, Option.bind_some, if_neg c1, if_neg c2, if_neg c3, if_neg c4, if_neg c5]) (Ev.now _), k4, by omega⟩
 have key : ∀ (m i : Nat) (p t : Int) (d : List S99), i + m = 6 → 0 ≤ p → d.length ≤ i → ∃ d' q u, Ev (fun k => spec_l03Disk.l0 k (i : Int) l p t d) (d', q, u) ∧ 0 ≤ q ∧ d'.length ≤ 40 := by
  intro m
  induction m with
  | zero =>
   intro i p t d hi hp hd
   obtain ⟨v, q, u, h1, h2, h3, h4⟩ := l01Below_some l p t 6 hp hl (by omega) (by omega)
   exact fin i p t d v q u h1 h4 (by omega) (by omega)
  | succ m ih =>
   intro i p t d hi hp hd
   obtain ⟨v, q, u, h1, h2, h3, h4⟩ := l01Below_some l p t 6 hp hl (by omega) (by omega)
   by_cases c : (i : Int) < v
   ·obtain ⟨v2, q2, u2, g1, g2, g3, g4⟩ := l01Below_some l q u 9 h4 hl (by omega) (by omega)
    obtain ⟨x, q3, u3, k1, k2, k3⟩ := spec_l01Text_ev l q2 u2 v2 g4 hl (by omega)
    obtain ⟨nm, q4, u4, n1, n2, n3, n4⟩ := spec_l03Named_some l q3 u3 k3 hl
    obtain ⟨v5, q5, u5, m1, m2, m3, m4⟩ := l01Below_any l q4 u4 ((x.size : Int) + 1) n4 hl (by omega) (by omega)
    have hpl := putL_len d ⟨nm, x, v5⟩
    obtain ⟨d', q', u', e1, e2, e3⟩ := ih (i + 1) q5 u5 (putL d ⟨nm, x, v5⟩) (by omega) m4 (by omega)
    refine ⟨d', q', u', Ev.step (fun k => by rw [spec_l03Disk.l0, h1, Option.bind_some, if_pos c, g1, Option.bind_some]) ?_, e2, e3⟩
    refine Ev.bind k1 ?_
    simp only [n1, Option.bind_some, show wrap64 ((x.size : Int) + 1) = (x.size : Int) + 1 by unfold wrap64; omega, m1]
    refine Ev.bind (spec_l03Put_ev d ⟨nm, x, v5⟩ (by omega)) ?_
    simp only [wrap_succ (show i < 6 by omega) (show 6 ≤ 4611686018427387904 by omega)]
    exact e1
   ·exact fin i p t d v q u h1 h4 (by omega) c
 exact key 6 0 p s [] (by omega) hp (by simp)
theorem spec_l03Act_some (l : List Int) (p s : Int) (hp : 0 ≤ p) (hl : l.length ≤ 4611686018427387904) : ∃ a b c d q u, Ev (fun k => spec_l03Act.f k l p s) (a, b, c, d, q, u) ∧ 0 ≤ q ∧ c.size ≤ 5000 := by
 have j0 : ∀ (p t a : Int) (b c d : ByteArray), 0 ≤ p → c.size ≤ 5000 → ∃ a' b' c' d' q u, Ev (fun k => spec_l03Act.j0 k l p t a b c d) (a', b', c', d', q, u) ∧ 0 ≤ q ∧ c'.size ≤ 5000 := by
  intro p t a b c d hp hc
  obtain ⟨sw, q2, u2, k1, k2, k3, k4⟩ := l01Below_some l p t 40 hp hl (by omega) (by omega)
  by_cases c1 : sw = 0
  ·obtain ⟨w, q3, u3, m1, m2⟩ := pickInt_some l q2 u2 [0, 5] k4 hl (by simp) (by simp)
   exact ⟨_, _, _, _, _, _, Ev.step (fun k => by rw [spec_l03Act.j0, k1, Option.bind_some, if_pos c1, m1, Option.bind_some]) (Ev.now _), m2, hc⟩
  ·by_cases c2 : sw = 1
   ·obtain ⟨w, q3, u3, m1, m2⟩ := pick_some l q2 u2 [(⟨#[]⟩ : ByteArray), (⟨#[49, 50, 51, 52, 53, 54, 55, 56, 57]⟩ : ByteArray), (⟨#[110, 101, 119]⟩ : ByteArray)] k4 hl (by simp) (by simp)
    exact ⟨_, _, _, _, _, _, Ev.step (fun k => by rw [spec_l03Act.j0, k1, Option.bind_some, if_neg c1, if_pos c2, m1, Option.bind_some]) (Ev.now _), m2, hc⟩
   ·by_cases c3 : sw = 2
    ·exact ⟨_, _, _, _, _, _, Ev.step (fun k => by rw [spec_l03Act.j0, k1, Option.bind_some, if_neg c1, if_neg c2, if_pos c3]) (Ev.now _), k4, hc⟩
    ·by_cases c4 : sw = 3
     ·exact ⟨_, _, _, _, _, _, Ev.step (fun k => by rw [spec_l03Act.j0, k1, Option.bind_some, if_neg c1, if_neg c2, if_neg c3, if_pos c4]) (Ev.now _), k4, by show 1 ≤ 5000; omega⟩
     ·exact ⟨_, _, _, _, _, _, Ev.step (fun k => by rw [spec_l03Act.j0, k1, Option.bind_some, if_neg c1, if_neg c2, if_neg c3, if_neg c4]) (Ev.now _), k4, hc⟩
 obtain ⟨v, q, u, h1, h2, h3, h4⟩ := l01Below_some l p s 4 hp hl (by omega) (by omega)
 obtain ⟨nm, q4, u4, n1, n2, n3, n4⟩ := spec_l03Named_some l q u h4 hl
 simp only [spec_l03Act.f, h1, n1, Option.bind_some]
 by_cases c1 : wrap64 (1 + v) = 1
 ·obtain ⟨v2, q2, u2, g1, g2, g3, g4⟩ := l01Below_some l q4 u4 6 n4 hl (by omega) (by omega)
  obtain ⟨x, q3, u3, k1, k2, k3⟩ := spec_l01Text_ev l q2 u2 v2 g4 hl (by omega)
  obtain ⟨a', b', c', d', q', u', e1, e2, e3⟩ := j0 q3 u3 (wrap64 (1 + v)) nm x (⟨#[]⟩ : ByteArray) k3 k2
  refine ⟨a', b', c', d', q', u', ?_, e2, e3⟩
  simp only [if_pos c1, g1, Option.bind_some]
  exact Ev.bind k1 e1
 ·by_cases c2 : wrap64 (1 + v) = 3
  ·obtain ⟨nm2, q2, u2, m1, m2, m3, m4⟩ := spec_l03Named_some l q4 u4 n4 hl
   obtain ⟨a', b', c', d', q', u', e1, e2, e3⟩ := j0 q2 u2 (wrap64 (1 + v)) nm (⟨#[]⟩ : ByteArray) nm2 m4 (by show 0 ≤ 5000; omega)
   refine ⟨a', b', c', d', q', u', ?_, e2, e3⟩
   simp only [if_neg c1, if_pos c2, m1, Option.bind_some]
   exact e1
  ·obtain ⟨a', b', c', d', q', u', e1, e2, e3⟩ := j0 q4 u4 (wrap64 (1 + v)) nm (⟨#[]⟩ : ByteArray) (⟨#[]⟩ : ByteArray) n4 (by show 0 ≤ 5000; omega)
   refine ⟨a', b', c', d', q', u', ?_, e2, e3⟩
   simp only [if_neg c1, if_neg c2]
   exact e1
theorem spec_l03Acts_some (l : List Int) (p s : Int) (d : List S99) (hp : 0 ≤ p) (hl : l.length ≤ 4611686018427387904) : ∃ a q u, Ev (fun k => spec_l03Acts.f k l p s d) (a, q, u) ∧ 0 ≤ q ∧ a.length ≤ 9 ∧ ∀ x ∈ a, x.f2.size ≤ 5000 := by
 have key : ∀ (m i : Nat) (p t : Int) (a : List S60) (d : List S99), i + m = 9 → 0 ≤ p → a.length ≤ i → (∀ x ∈ a, x.f2.size ≤ 5000) → ∃ a' q u, Ev (fun k => spec_l03Acts.l0 k a (i : Int) l p t d) (a', q, u) ∧ 0 ≤ q ∧ a'.length ≤ 9 ∧ ∀ x ∈ a', x.f2.size ≤ 5000 := by
  intro m
  induction m with
  | zero =>
   intro i p t a d hi hp ha hs
   obtain ⟨v, q, u, h1, h2, h3, h4⟩ := l01Below_some l p t 9 hp hl (by omega) (by omega)
   exact ⟨a, q, u, Ev.step (fun k => by rw [spec_l03Acts.l0, h1, Option.bind_some, if_neg (by omega)]) (Ev.now _), h4, by omega, hs⟩
  | succ m ih =>
   intro i p t a d hi hp ha hs
   obtain ⟨v, q, u, h1, h2, h3, h4⟩ := l01Below_some l p t 9 hp hl (by omega) (by omega)
   by_cases c : (i : Int) < v
   ·obtain ⟨b0, b1, b2, b3, q2, u2, g1, g2, g3⟩ := spec_l03Act_some l q u h4 hl
    have hsn : ∀ x ∈ a ++ [(⟨b0, b1, b2, b3⟩ : S60)], x.f2.size ≤ 5000 := fun x hx => by
     rcases List.mem_append.1 hx with hx | hx
     ·exact hs x hx
     ·rw [List.mem_singleton.1 hx]; exact g3
    have hln : (a ++ [(⟨b0, b1, b2, b3⟩ : S60)]).length ≤ i + 1 := by rw [List.length_append, List.length_singleton]; omega
    have hdo := spec_DoAct_ev d b0 b1 b2 b3 (by omega)
    by_cases c2 : (actP d b0 b1 b2 b3).2 = true
    ·obtain ⟨a', q', u', e1, e2, e3, e4⟩ := ih (i + 1) q2 u2 (a ++ [⟨b0, b1, b2, b3⟩]) (actP d b0 b1 b2 b3).1 (by omega) g2 hln hsn
     refine ⟨a', q', u', Ev.step (fun k => by rw [spec_l03Acts.l0, h1, Option.bind_some, if_pos c]) (Ev.bind g1 (Ev.bind hdo ?_)), e2, e3, e4⟩
     simp only [if_pos c2, if_pos (show a.length < 2513169434916 by omega), wrap_succ (show i < 9 by omega) (show 9 ≤ 4611686018427387904 by omega)]
     exact e1
    ·obtain ⟨v3, q3, u3, m1, m2, m3, m4⟩ := l01Below_some l q2 u2 20 g2 hl (by omega) (by omega)
     by_cases c3 : (v3 == 0) = true
     ·obtain ⟨a', q', u', e1, e2, e3, e4⟩ := ih (i + 1) q3 u3 (a ++ [⟨b0, b1, b2, b3⟩]) (actP d b0 b1 b2 b3).1 (by omega) m4 hln hsn
      refine ⟨a', q', u', Ev.step (fun k => by rw [spec_l03Acts.l0, h1, Option.bind_some, if_pos c]) (Ev.bind g1 (Ev.bind hdo ?_)), e2, e3, e4⟩
      simp only [if_neg c2, spec_l01Once.f, m1, Option.bind_some, if_pos c3, if_pos (show a.length < 2513169434916 by omega), wrap_succ (show i < 9 by omega) (show 9 ≤ 4611686018427387904 by omega)]
      exact e1
     ·obtain ⟨a', q', u', e1, e2, e3, e4⟩ := ih (i + 1) q3 u3 a d (by omega) m4 (by omega) hs
      refine ⟨a', q', u', Ev.step (fun k => by rw [spec_l03Acts.l0, h1, Option.bind_some, if_pos c]) (Ev.bind g1 (Ev.bind hdo ?_)), e2, e3, e4⟩
      simp only [if_neg c2, spec_l01Once.f, m1, Option.bind_some, if_neg c3, wrap_succ (show i < 9 by omega) (show 9 ≤ 4611686018427387904 by omega)]
      exact e1
   ·exact ⟨a, q, u, Ev.step (fun k => by rw [spec_l03Acts.l0, h1, Option.bind_some, if_neg c]) (Ev.now _), h4, by omega, hs⟩
 exact key 9 0 p s [] d (by omega) hp (by simp) (fun x hx => by cases hx)
theorem spec_l03Left_some (l : List Int) (p s : Int) (hp : 0 ≤ p) (hl : l.length ≤ 4611686018427387904) : ∃ a q u, Ev (fun k => spec_l03Left.f k l p s) (a, q, u) ∧ 0 ≤ q := by
 have key : ∀ (m i : Nat) (p t : Int) (a : List Int), i + m = 6 → 0 ≤ p → a.length ≤ i → ∃ a' q u, Ev (fun k => spec_l03Left.l0 k a (i : Int) l p t) (a', q, u) ∧ 0 ≤ q := by
  intro m
  induction m with
  | zero =>
   intro i p t a hi hp ha
   obtain ⟨v, q, u, h1, h2, h3, h4⟩ := l01Below_some l p t 6 hp hl (by omega) (by omega)
   exact ⟨a, q, u, Ev.step (fun k => by rw [spec_l03Left.l0, h1, Option.bind_some, if_neg (by omega)]) (Ev.now _), h4⟩
  | succ m ih =>
   intro i p t a hi hp ha
   obtain ⟨v, q, u, h1, h2, h3, h4⟩ := l01Below_some l p t 6 hp hl (by omega) (by omega)
   by_cases c : (i : Int) < v
   ·obtain ⟨w, q3, u3, m1, m2⟩ := pickInt_some l q u [0, 1, 2, 3, 5, 9, 40, 200, (-1), 9223372036854775807] h4 hl (by simp) (by simp)
    obtain ⟨a', q', u', e1, e2⟩ := ih (i + 1) q3 u3 (a ++ [w]) (by omega) m2 (by simp; omega)
    exact ⟨a', q', u', Ev.step (fun k => by rw [spec_l03Left.l0, h1, Option.bind_some, if_pos c, m1, Option.bind_some, if_pos (by omega), wrap_succ (show i < 6 by omega) (by omega)]) e1, e2⟩
   ·exact ⟨a, q, u, Ev.step (fun k => by rw [spec_l03Left.l0, h1, Option.bind_some, if_neg c]) (Ev.now _), h4⟩
 exact key 6 0 p s [] (by omega) hp (by simp)
theorem spec_DrawCutActs_some (l : List Int) (hl : l.length ≤ 4611686018427387904) : ∃ d a w f, Ev (fun k => spec_DrawCutActs.f k l) (d, a, w, f) ∧ d.length ≤ 40 ∧ a.length ≤ 9 ∧ ∀ x ∈ a, x.f2.size ≤ 5000 := by
 obtain ⟨s, hs⟩ := spec_l01New_ev l hl
 obtain ⟨d, q, u, h1, h2, h3⟩ := spec_l03Disk_some l 0 s (by omega) hl
 obtain ⟨a, q2, u2, g1, g2, g3, g4⟩ := spec_l03Acts_some l q u d h2 hl
 have hw : wrap64 ((a.length : Int) + 1) = (a.length : Int) + 1 := by unfold wrap64; omega
 obtain ⟨w, q3, u3, k1, k2⟩ := place_some2 l q2 u2 g2 hl ((a.length : Int) + 1) (by omega) (by omega)
 obtain ⟨f, q4, u4, m1, m2⟩ := spec_l03Left_some l q3 u3 k2 hl
 refine ⟨d, a, w, f, ?_, h3, g3, g4⟩
 simp only [spec_DrawCutActs.f]
 refine Ev.bind hs (Ev.bind h1 (Ev.bind g1 ?_))
 simp only [hw, k1, Option.bind_some]
 exact Ev.bind m1 (Ev.now _)
theorem findR_hit1 {p : Nat → Bool} {i0 : Nat} : ∀ (d i : Nat), i ≤ i0 → i0 < i + d → p i0 = true → (∀ k, i ≤ k → k < i0 → p k = false) → findR p (fun i => (i : Int)) (-1) d i = (i0 : Int)
 | 0, i, h1, h2, _, _ => by omega
 | d + 1, i, h1, h2, h3, h4 => by
  rw [findR]
  by_cases e : i = i0
  ·subst e; rw [if_pos h3]
  ·rw [if_neg (by rw [h4 i (Nat.le_refl _) (by omega)]; simp)]
   exact findR_hit1 d (i + 1) (by omega) (by omega) h3 (fun k hk hk2 => h4 k (by omega) hk2)
theorem findR_miss1 {p : Nat → Bool} : ∀ (d i : Nat), (∀ k, i ≤ k → k < i + d → p k = false) → findR p (fun i => (i : Int)) (-1) d i = -1
 | 0, i, _ => rfl
 | d + 1, i, h => by
  rw [findR, if_neg (by rw [h i (Nat.le_refl _) (by omega)]; simp)]
  exact findR_miss1 d (i + 1) (fun k hk hk2 => h k (by omega) (by omega))
theorem fileAt_put (l : List S99) (f : S99) {a : ByteArray} (ha : f.f0.toList = a.toList) : fileAtP (putL l f) a = (f.f1, true) := by
 have hlen : (l.filter (fun e => nameLess e.f0 f.f0)).length < (putL l f).length := by
  unfold putL; simp only [List.length_append, List.length_singleton]; omega
 have hat : (putL l f).getD (l.filter (fun e => nameLess e.f0 f.f0)).length z99 = f := by
  unfold putL
  rw [List.getD_eq_getElem?_getD, List.append_assoc, List.getElem?_append_right (Nat.le_refl _), Nat.sub_self]; rfl
 have hi : fileAtI (putL l f) a = ((l.filter (fun e => nameLess e.f0 f.f0)).length : Int) := by
  unfold fileAtI
  refine findR_hit1 _ _ (Nat.zero_le _) (by omega) ?_ (fun k _ hk => ?_)
  ·unfold nameAt; rw [hat]; exact decide_eq_true ha
  ·unfold nameAt
   refine decide_eq_false (fun e => ?_)
   have hg : (putL l f).getD k z99 = (l.filter (fun e => nameLess e.f0 f.f0))[k] := by
    unfold putL
    rw [List.getD_eq_getElem?_getD, List.append_assoc, List.getElem?_append_left hk, List.getElem?_eq_getElem hk]; rfl
   have hm := List.getElem_mem hk
   rw [List.mem_filter] at hm
   rw [hg] at e
   exact less_ne hm.2 (ha.trans e.symm)
 unfold fileAtP
 rw [hi, if_neg (by omega), Int.toNat_natCast, hat]
theorem fileAt_drop {l : List S99} (h : sortedD l) {a : ByteArray} {i : Nat} (hi : i < l.length) (ha : nameAt l a i = true) : (fileAtP (dropL l i) a).2 = false := by
 have hI : fileAtI (dropL l i) a = -1 := by
  unfold fileAtI
  refine findR_miss1 _ _ (fun k _ hk => ?_)
  have hk' : k < (dropL l i).length := by omega
  have hm := List.getElem_mem hk'
  have e := without_eq h hi ha
  have hm2 : (dropL l i)[k] ∈ l.filter (fun e => !(e.f0.toList == a.toList)) := by rw [e]; exact hm
  rw [List.mem_filter] at hm2
  unfold nameAt
  refine decide_eq_false (fun e2 => ?_)
  rw [List.getD_eq_getElem?_getD, List.getElem?_eq_getElem hk', Option.getD_some] at e2
  have := hm2.2
  rw [e2] at this
  simp at this
 unfold fileAtP
 rw [hI, if_pos (by omega)]
theorem finish_ok {o : List S99} (h : (finish o).2 = true) : (finish o).1 = o ∧ diskOk o = true := by
 unfold finish at h ⊢
 by_cases c : diskOk o = true
 ·rw [if_pos c]; exact ⟨rfl, c⟩
 ·rw [if_neg c] at h; cases h
theorem actP_open {l : List S99} {kind : Int} {name text dst : ByteArray} (h : (actP l kind name text dst).2 = true) : diskOk l = true ∧ actP l kind name text dst = actOut l kind name text dst (fileAtI l name) (fileOf l name) := by
 unfold actP at h ⊢
 by_cases c : diskOk l = true ∧ (dst.toList = [] ∨ kind = 3) ∧ (text.toList = [] ∨ kind = 1)
 ·rw [if_pos c]; exact ⟨c.1, rfl⟩
 ·rw [if_neg c] at h; cases h
theorem fileOf_at (l : List S99) (a : ByteArray) : (fileOf l a).f0.toList = a.toList ∧ (fileAtP l a).1 = (fileOf l a).f1 := by
 unfold fileOf fileAtP
 by_cases c : fileAtI l a < 0
 ·rw [if_pos c, if_pos c]; exact ⟨rfl, rfl⟩
 ·rw [if_neg c, if_neg c]
  rcases fileAtI_range l a with h1 | ⟨h1, h2, h3⟩
  ·omega
  ·exact ⟨by simpa [nameAt] using h3, rfl⟩
theorem act_add {l : List S99} {name text dst : ByteArray} (h : (actP l 1 name text dst).2 = true) : fileAtP (actP l 1 name text dst).1 name = ((fileAtP l name).1 ++ text, true) ∧ ((fileAtP l name).1 ++ text).size ≤ 20000 := by
 obtain ⟨_, he⟩ := actP_open h
 rw [he] at h ⊢
 unfold actOut at h ⊢
 rw [if_pos rfl] at h ⊢
 obtain ⟨h1, h2⟩ := finish_ok h
 obtain ⟨f1, f2⟩ := fileOf_at l name
 rw [h1, f2]
 refine ⟨fileAt_put l _ f1, ?_⟩
 exact ((diskGood_of h2).2 ⟨(fileOf l name).f0, (fileOf l name).f1 ++ text, (fileOf l name).f2⟩ (by unfold putL; simp)).2.2.1
theorem act_drop {l : List S99} {name text dst : ByteArray} (h : (actP l 4 name text dst).2 = true) : (fileAtP (actP l 4 name text dst).1 name).2 = false := by
 obtain ⟨hd, he⟩ := actP_open h
 rw [he] at h ⊢
 unfold actOut at h ⊢
 rw [if_neg (by omega)] at h ⊢
 by_cases c : fileAtI l name < 0
 ·rw [if_pos c] at h; cases h
 ·rw [if_neg c, if_neg (by omega), if_neg (by omega), if_pos rfl] at h ⊢
  obtain ⟨h1, h2⟩ := finish_ok h
  rw [h1]
  rcases fileAtI_range l name with k1 | ⟨k1, k2, k3⟩
  ·omega
  ·exact fileAt_drop (diskGood_of hd).1 (by omega) k3
theorem laws_sameDisk_refl (l : List S99) (hl : l.length ≤ 1048576) : Ev (fun k => laws_sameDisk.f k l l) true := by
 simp only [laws_sameDisk.f, if_true]
 have := Ev.allloop (L := fun k i => laws_sameDisk.l0 k i l l) (n := l.length) (fun _ => true) false true (by
  intro i r hi _ h
  refine Ev.step (fun k => by rw [laws_sameDisk.l0, if_pos (by omega), if_pos (by omega), if_pos (by omega), if_neg (by simp), wrap_succ hi (by omega)]) ?_
  exact h) (by intro i _ h; cases h) (by
  refine Ev.step (fun k => by rw [laws_sameDisk.l0, if_neg (by omega)]) ?_
  exact Ev.now _)
 simpa using this
theorem acts_end (d : List S99) (a : List S60) (w : Int) (f : List Int) (hd : d.length ≤ 40) (ha : a.length ≤ 9) (hs : ∀ x ∈ a, x.f2.size ≤ 1048576) {R : List S99 × Int} {i : Int} (hi : ¬ i < R.2) {one : List S99} (h1 : one = R.1) (hR : R.1.length ≤ 1048576) :
  Ev (fun k => laws_FnActs.l0 k a w f R.2 i d R.1 one) true := by
 subst h1
 have hcl := cutP_len d a w f
 refine Ev.step (fun k => by rw [laws_FnActs.l0, if_neg hi]) ?_
 refine Ev.bind (impl_CutActs_ev d a w f (by omega) (by omega) hs) ?_
 refine Ev.bind (spec_CutActs_ev d a w f (by omega) (by omega) hs) ?_
 simp only [beq_self_eq_true, if_true]
 refine Ev.bind (laws_sameDisk_refl _ (by omega)) ?_
 simp only [if_true]
 by_cases c : R.2 = 0
 ·simp only [if_pos c]; exact Ev.now _
 ·simp only [if_neg c]
  refine Ev.bind (laws_sameDisk_refl _ hR) ?_
  exact Ev.now _
theorem acts_loop (d : List S99) (a : List S60) (w : Int) (f : List Int) (hd : d.length ≤ 40) (ha : a.length ≤ 9) (hs : ∀ x ∈ a, x.f2.size ≤ 1048576) : ∀ (n i : Nat) (one : List S99), i + n = a.length → one.length ≤ 1048576 → Ev (fun k => laws_FnActs.l0 k a w f (actsR a n i one).2 i d (actsR a n i one).1 one) true := by
 intro n
 induction n with
 | zero =>
  intro i one hi ho
  exact acts_end d a w f hd ha hs (R := (one, (a.length : Int))) (by simp only; omega) rfl ho
 | succ n ih =>
  intro i one hi ho
  have hi' : i < a.length := by omega
  have hm : (a.getD i z60).f2.size ≤ 1048576 := by
   rw [List.getD_eq_getElem?_getD, List.getElem?_eq_getElem hi']
   exact hs _ (List.getElem_mem hi')
  have hal := actP_len one (a.getD i z60).f0 (a.getD i z60).f1 (a.getD i z60).f2 (a.getD i z60).f3
  rw [actsR]
  generalize hx : a.getD i z60 = x at hm hal
  by_cases c : (actP one x.f0 x.f1 x.f2 x.f3).2 = true
  ·simp only [if_pos c]
   have hrec := ih (i + 1) (actP one x.f0 x.f1 x.f2 x.f3).1 (by omega) (by omega)
   have hge : ∀ (n i : Nat) (e : List S99), i + n = a.length → (i : Int) ≤ (actsR a n i e).2 := by
    intro n
    induction n with
    | zero => intro i e h; simp only [actsR]; omega
    | succ n ih2 =>
     intro i e h
     rw [actsR]
     split
     ·have := ih2 (i + 1) (actP e (a.getD i z60).f0 (a.getD i z60).f1 (a.getD i z60).f2 (a.getD i z60).f3).1 (by omega); omega
     ·exact Int.le_refl _
   have hlt := hge n (i + 1) (actP one x.f0 x.f1 x.f2 x.f3).1 (by omega)
   generalize actsR a n (i + 1) (actP one x.f0 x.f1 x.f2 x.f3).1 = R at hrec hlt
   have hr : rd_T60 a (i : Int) = x := by rw [rd_T60, Int.toNat_natCast]; exact hx
   refine Ev.step (fun k => by rw [laws_FnActs.l0, if_pos (by omega), if_pos (by omega), if_pos (by omega), hr]) ?_
   refine Ev.bind (impl_DoAct_ev one x.f0 x.f1 x.f2 x.f3 ho hm) ?_
   simp only [if_pos c]
   refine Ev.bind (impl_FileAt_ev one x.f1 (by omega)) ?_
   refine Ev.bind (impl_FileAt_ev (actP one x.f0 x.f1 x.f2 x.f3).1 x.f1 (by omega)) ?_
   by_cases c1 : x.f0 = 1
   ·obtain ⟨x0, x1, x2, x3⟩ := x
    simp only at c1
    subst c1
    have c' : (actP one 1 x1 x2 x3).2 = true := c
    have hrec' : Ev (fun k => laws_FnActs.l0 k a w f R.2 ((i + 1 : Nat) : Int) d R.1 (actP one 1 x1 x2 x3).1) true := hrec
    obtain ⟨p1, p2⟩ := act_add c'
    rw [ByteArray.size_append] at p2
    simp only [if_true, p1, if_pos (show (fileAtP one x1).1.size + x2.size ≤ 9223372036854775807 by omega), if_neg (show ¬ (1 : Int) = 4 by omega), wrap_succ hi' (show a.length ≤ 4611686018427387904 by omega)]
    exact hrec'
   ·by_cases c4 : x.f0 = 4
    ·obtain ⟨x0, x1, x2, x3⟩ := x
     simp only at c4
     subst c4
     have c' : (actP one 4 x1 x2 x3).2 = true := c
     have hrec' : Ev (fun k => laws_FnActs.l0 k a w f R.2 ((i + 1 : Nat) : Int) d R.1 (actP one 4 x1 x2 x3).1) true := hrec
     have p1 := act_drop c'
     simp only [if_neg (show ¬ (4 : Int) = 1 by omega), if_true, p1, Bool.false_eq_true, if_false, wrap_succ hi' (show a.length ≤ 4611686018427387904 by omega)]
     exact hrec'
    ·simp only [if_neg c1, if_neg c4, wrap_succ hi' (show a.length ≤ 4611686018427387904 by omega)]
     exact hrec
  ·simp only [if_neg c]
   exact acts_end d a w f hd ha hs (R := (one, (i : Int))) (by simp only; omega) rfl ho
theorem FnActs : laws_FnActs.Pure := by
 intro l hl hl2 hw
 refine Ev.rounds (g := fun k => laws_FnActs.f k l) ?_
 simp only [laws_FnActs.f, laws_big.f, Option.bind_some]
 by_cases hb : (l.length : Int) > 1048576
 ·simp only [decide_eq_true hb, if_true]; exact Ev.now _
 ·simp only [decide_eq_false hb, Bool.false_eq_true, if_false]
  obtain ⟨d, a, w, f, hdr, h1, h2, h3⟩ := spec_DrawCutActs_some l (by omega)
  have hs : ∀ x ∈ a, x.f2.size ≤ 1048576 := fun x hx => by have := h3 x hx; omega
  have hRl := actsR_len a a.length 0 d (by omega)
  refine Ev.bind hdr ?_
  refine Ev.bind (impl_DoActs_ev d a (by omega) (by omega) hs) ?_
  refine Ev.bind (spec_DoActs_ev d a (by omega) (by omega) hs) ?_
  simp only [if_true]
  refine Ev.bind (laws_sameDisk_refl _ hRl) ?_
  show Ev (fun n => laws_FnActs.j0 n a w f (actsP d a).2 false d (actsP d a).1) true
  refine Ev.step (fun k => by rw [laws_FnActs.j0, if_neg Bool.false_ne_true]) ?_
  exact acts_loop d a w f h1 h2 hs a.length 0 d (by omega) (by omega)
end Go.Proofs.Ytacnlodcbbhahaa.Pure
