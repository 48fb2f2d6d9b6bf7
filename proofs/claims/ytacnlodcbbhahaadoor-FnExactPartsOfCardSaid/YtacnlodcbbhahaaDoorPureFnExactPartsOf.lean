/- For every line PartsOf of the program and of the reference tell the same, in memory of its own. No condition is laid beside the statement. -/
import Derived.Test.YtacnlodcbbhahaaDoorQFnExactPartsOfx1
import Derived.Laws.BitsLemmas
import Derived.Lib.Bytes
import Derived.OpenShut
namespace Go.Proofs.YtacnlodcbbhahaaDoor.Pure
open Go.RowKit Go.Proofs.YtacnlodcbbhahaaDoor.QFnExactPartsOf Go.Proofs.YtacnlodcbbhahaaDoorW.PrintWords Go.Proofs.YtacnlodcbbhahaaDoorW.PrintLast
set_option linter.unusedVariables false
set_option linter.unusedSimpArgs false


theorem wrap_id {i : Int} (h0 : -9223372036854775808 ≤ i) (h1 : i ≤ 9223372036854775807) : wrap64 i = i := by unfold wrap64; omega
theorem toList_eq {a b : ByteArray} (h : a = b) : a.toList = b.toList := by rw [h]

/-! loops in general -/
theorem wrap_succ {i n : Nat} (h : i < n) (hn : n ≤ 4611686018427387904) : wrap64 ((i : Int) + 1) = ((i + 1 : Nat) : Int) := by unfold wrap64; omega
theorem Ev.loopR {σ β : Type} {L : Nat → σ → Int → Option β} {n : Nat} (R : Nat → σ → β) (I : Nat → σ → Prop)
    (hstep : ∀ (i : Nat) s, i < n → I i s → Ev (fun k => L k s i) (R i s) ∨ ∃ s', I (i + 1) s' ∧ R i s = R (i + 1) s' ∧ ∀ r, Ev (fun k => L k s' ((i + 1 : Nat) : Int)) r → Ev (fun k => L k s i) r)
    (hend : ∀ s, I n s → Ev (fun k => L k s n) (R n s)) : ∀ (d i : Nat) (s : σ), i + d = n → I i s → Ev (fun k => L k s i) (R i s) := by
  intro d
  induction d with
  | zero =>
    intro i s hi hI
    have : i = n := by omega
    subst this
    exact hend s hI
  | succ d ih =>
    intro i s hi hI
    rcases hstep i s (by omega) hI with h | ⟨s', h1, h2, h3⟩
    · exact h
    · rw [h2]
      exact h3 _ (ih (i + 1) s' (by omega) h1)
/-- A loop that builds by appending. -/
theorem Ev.apploop {β γ : Type} {L : Nat → List γ → Int → Option β} {n : Nat} (g : Nat → List γ) (fin : List γ → β) (a0 : List γ)
    (hstep : ∀ (i : Nat) x r, i < n → x = a0 ++ (List.range i).flatMap g → Ev (fun k => L k (x ++ g i) ((i + 1 : Nat) : Int)) r → Ev (fun k => L k x i) r)
    (hend : ∀ x, x = a0 ++ (List.range n).flatMap g → Ev (fun k => L k x n) (fin x)) : Ev (fun k => L k a0 0) (fin (a0 ++ (List.range n).flatMap g)) := by
  have key := Ev.loopR (L := L) (n := n) (fun _ _ => fin (a0 ++ (List.range n).flatMap g)) (fun i x => x = a0 ++ (List.range i).flatMap g) (by
    intro i x hi hx
    right
    refine ⟨x ++ g i, by rw [hx, List.range_succ, List.flatMap_append]; simp, rfl, fun r hr => hstep i x r hi hx hr⟩) (by
    intro x hx
    have := hend x hx
    rw [hx] at this ⊢
    exact this)
  exact key n 0 a0 (by omega) (by simp)
/-- A loop that writes every element of a row. -/
theorem Ev.setloop' {β γ : Type} {L : Nat → List γ → Int → Option β} {n : Nat} (g : Nat → γ) (x0 : List γ) (h0 : x0.length = n) (fin : List γ → β)
    (hstep : ∀ (i : Nat) x r, i < n → x.length = n → Ev (fun k => L k (x.set i (g i)) ((i + 1 : Nat) : Int)) r → Ev (fun k => L k x i) r)
    (hend : ∀ x, x.length = n → Ev (fun k => L k x n) (fin x)) : Ev (fun k => L k x0 0) (fin ((List.range n).map g)) := by
  have key := Ev.loopR (L := L) (n := n) (fun _ _ => fin ((List.range n).map g)) (fun i x => x.length = n ∧ ∀ j, j < i → x[j]? = some (g j)) (by
    intro i x hi hx
    right
    refine ⟨x.set i (g i), ⟨by rw [List.length_set]; exact hx.1, fun j hj => ?_⟩, rfl, fun r hr => hstep i x r hi hx.1 hr⟩
    by_cases hji : j = i
    · subst hji
      rw [List.getElem?_set_self (by omega)]
    · rw [List.getElem?_set_ne (by omega)]
      exact hx.2 j (by omega)) (by
    intro x hx
    have hxe : x = (List.range n).map g := by
      apply List.ext_getElem?
      intro j
      by_cases hj : j < n
      · rw [hx.2 j hj]; simp [hj]
      · rw [List.getElem?_eq_none (by omega), List.getElem?_eq_none (by simp; omega)]
    rw [← hxe]
    exact hend x hx.1)
  exact key n 0 _ (by omega) ⟨h0, fun j hj => by omega⟩
/-- A loop that fills what was made. -/
theorem Ev.setloop {β γ : Type} {L : Nat → List γ → Int → Option β} {n : Nat} (g : Nat → γ) (z : γ) (fin : List γ → β)
    (hstep : ∀ (i : Nat) x r, i < n → x.length = n → Ev (fun k => L k (x.set i (g i)) ((i + 1 : Nat) : Int)) r → Ev (fun k => L k x i) r)
    (hend : ∀ x, x.length = n → Ev (fun k => L k x n) (fin x)) : Ev (fun k => L k (List.replicate n z) 0) (fin ((List.range n).map g)) :=
  Ev.setloop' g _ (by simp) fin hstep hend
/-- A loop that asks something of each index. -/
theorem Ev.allloop {β : Type} {L : Nat → Int → Option β} {n : Nat} (p : Nat → Bool) (c fin : β)
    (hstep : ∀ (i : Nat) r, i < n → p i = true → Ev (fun k => L k ((i + 1 : Nat) : Int)) r → Ev (fun k => L k i) r)
    (hno : ∀ (i : Nat), i < n → p i = false → Ev (fun k => L k i) c)
    (hend : Ev (fun k => L k n) fin) : Ev (fun k => L k 0) (if (List.range n).all p then fin else c) := by
  have key := Ev.loopR (σ := Unit) (L := fun k _ i => L k i) (n := n) (fun i _ => if (List.range' i (n - i)).all p then fin else c) (fun _ _ => True) (by
    intro i _ hi _
    have e : List.range' i (n - i) = i :: List.range' (i + 1) (n - (i + 1)) := by
      have : n - i = (n - (i + 1)) + 1 := by omega
      rw [this, List.range'_succ]
    cases hp : p i with
    | true => right; exact ⟨(), trivial, by rw [e, List.all_cons, hp, Bool.true_and], fun r hr => hstep i r hi hp hr⟩
    | false => left; rw [e, List.all_cons, hp, Bool.false_and]; exact hno i hi hp) (by
    intro _ _
    simpa using hend)
  have := key n 0 () (by omega) trivial
  rw [List.range_eq_range']
  simpa using this
theorem range_map_getD {α β : Type} (l : List α) (d : α) (h : α → β) : (List.range l.length).map (fun i => h (l.getD i d)) = l.map h := by
  apply List.ext_getElem
  · simp
  · intro i h1 h2
    simp at h1 h2
    simp [List.getD_eq_getElem?_getD, List.getElem?_eq_getElem h2]
theorem range_flatMap_getD {α β : Type} (l : List α) (d : α) (h : α → List β) : (List.range l.length).flatMap (fun i => h (l.getD i d)) = l.flatMap h := by
  have := congrArg List.flatten (range_map_getD l d h)
  rw [List.flatMap_def, List.flatMap_def]; exact this
theorem range_all_getD {α : Type} (l : List α) (d : α) (h : α → Bool) : (List.range l.length).all (fun i => h (l.getD i d)) = l.all h := by
  have := congrArg (fun l => l.all id) (range_map_getD l d h)
  simpa [List.all_map] using this
theorem flatMap_single {α β : Type} (l : List α) (g : α → β) : l.flatMap (fun x => [g x]) = l.map g := by
  induction l with
  | nil => rfl
  | cons a l ih => simp [ih]
/-- A loop that looks for the first index. -/
def findR {β : Type} (p : Nat → Bool) (c : Nat → β) (fin : β) : Nat → Nat → β
  | 0, _ => fin
  | d + 1, i => if p i then c i else findR p c fin d (i + 1)
theorem Ev.findloop {β : Type} {L : Nat → Int → Option β} {n : Nat} (p : Nat → Bool) (c : Nat → β) (fin : β)
    (hstep : ∀ (i : Nat) r, i < n → p i = false → Ev (fun k => L k ((i + 1 : Nat) : Int)) r → Ev (fun k => L k i) r)
    (hhit : ∀ (i : Nat), i < n → p i = true → Ev (fun k => L k i) (c i))
    (hend : Ev (fun k => L k n) fin) : Ev (fun k => L k 0) (findR p c fin n 0) := by
  have key := Ev.loopR (σ := Unit) (L := fun k _ i => L k i) (n := n) (fun i _ => findR p c fin (n - i) i) (fun _ _ => True) (by
    intro i _ hi _
    have e : findR p c fin (n - i) i = if p i then c i else findR p c fin (n - (i + 1)) (i + 1) := by
      have : n - i = (n - (i + 1)) + 1 := by omega
      rw [this, findR]
    cases hp : p i with
    | false => right; exact ⟨(), trivial, by rw [e, hp]; rfl, fun r hr => hstep i r hi hp hr⟩
    | true => left; rw [e, hp]; exact hhit i hi hp) (by
    intro _ _
    simpa [findR] using hend)
  have := key n 0 () (by omega) trivial
  simpa using this

/-! strings as numbers -/
theorem toList_data' (s : ByteArray) : s.toList = s.data.toList := Go.Lib.toList_data s
theorem str_ext {a b : ByteArray} (h : a.toList = b.toList) : a = b := by
  rw [toList_data', toList_data'] at h
  cases a; cases b
  simp at h
  rw [h]
theorem toList_iff {a b : ByteArray} : a.toList = b.toList ↔ a = b := ⟨str_ext, fun h => by rw [h]⟩
def Byt (l : List Int) : Prop := ∀ x ∈ l, 0 ≤ x ∧ x < 256
theorem bytesOf_byt (s : ByteArray) : Byt (bytesOf s) := by
  intro x hx
  unfold bytesOf at hx
  simp at hx
  obtain ⟨b, _, rfl⟩ := hx
  have := b.toNat_lt
  omega
theorem bytesOf_str {l : List Int} (h : Byt l) : bytesOf (strOfNums l) = l := by
  unfold bytesOf strOfNums
  simp
  apply List.ext_getElem
  · simp
  · intro i h1 h2
    have := h l[i] (List.getElem_mem h2)
    simp
    omega
theorem str_bytesOf (s : ByteArray) : strOfNums (bytesOf s) = s := by
  unfold bytesOf strOfNums
  cases s with
  | mk d =>
    simp
    apply Array.ext'
    simp
    apply List.ext_getElem
    · simp
    · intro i h1 h2
      simp
theorem bytesOf_inj {a b : ByteArray} (h : bytesOf a = bytesOf b) : a = b := by rw [← str_bytesOf a, h, str_bytesOf]
theorem bytesOf_append (a b : ByteArray) : bytesOf (a ++ b) = bytesOf a ++ bytesOf b := by
  unfold bytesOf
  simp [ByteArray.data_append]
theorem bytesOf_extract (s : ByteArray) (a b : Nat) : bytesOf (s.extract a b) = ((bytesOf s).drop a).take (b - a) := by
  unfold bytesOf
  simp [ByteArray.data_extract, List.map_take, List.map_drop]
theorem bt_get (s : ByteArray) (i : Int) : bt s i = (bytesOf s).getD i.toNat 0 := (rd_bytesOf s i).symm
theorem str_size (l : List Int) : (strOfNums l).size = l.length := by
  show (strOfNums l).data.size = _
  unfold strOfNums
  simp

theorem size_append (a b : ByteArray) : (a ++ b).size = a.size + b.size := by
  rw [← bytesOf_length, bytesOf_append, List.length_append, bytesOf_length, bytesOf_length]

/-! the law's marks -/
def mtL (n : Nat) (s : ByteArray) : ByteArray := if h : n > 0 then mtL (n / 10) (strOfNums [((48 + n % 10 : Nat) : Int)] ++ s) else (⟨#[109]⟩ : ByteArray) ++ s
termination_by n
decreasing_by omega
theorem mt_l0_ev (n : Nat) : ∀ (s : ByteArray), n ≤ 1099511627776 → s.size + n ≤ 1099511627776 → Ev (fun k => laws_markText.l0 k (n : Int) s) (mtL n s) := by
  induction n using Nat.strongRecOn with
  | ind n ih =>
    intro s hn hs
    by_cases h : n > 0
    · have e1 : (wrap64 (48 + (Int.tmod (n : Int) 10))) % 256 = ((48 + n % 10 : Nat) : Int) := by
        rw [Int.tmod_eq_emod_of_nonneg (by omega)]; unfold wrap64; omega
      have e2 : wrap64 (Int.tdiv (n : Int) 10) = ((n / 10 : Nat) : Int) := by
        rw [Int.tdiv_eq_ediv_of_nonneg (by omega)]; unfold wrap64; omega
      have hz : (strOfNums [((48 + n % 10 : Nat) : Int)]).size = 1 := by rw [str_size]; rfl
      rw [mtL, dif_pos h]
      refine Ev.step (fun k => by rw [laws_markText.l0, if_pos (by omega), e1, e2, Option.bind_some, hz, if_pos (by omega)]) ?_
      exact ih (n / 10) (by omega) _ (by omega) (by rw [size_append, hz]; omega)
    · rw [mtL, dif_neg h]
      refine Ev.step (fun k => by rw [laws_markText.l0, if_neg (by omega), if_pos (by omega)]) ?_
      exact Ev.now _
def markT (m : Int) : ByteArray := if m ≤ 0 then (⟨#[109, 48]⟩ : ByteArray) else mtL m.toNat (⟨#[]⟩ : ByteArray)
theorem laws_markText_ev (m : Int) (hm : m ≤ 1099511627776) : Ev (fun k => laws_markText.f k m) (markT m) := by
  simp only [laws_markText.f, markT]
  by_cases h : m ≤ 0
  · simp only [if_pos h]; exact Ev.now _
  · simp only [if_neg h]
    have := mt_l0_ev m.toNat (⟨#[]⟩ : ByteArray) (by omega) (by show 0 + _ ≤ _; omega)
    rw [Int.toNat_of_nonneg (by omega)] at this
    exact this

theorem laws_eqStringS_refl (l : List ByteArray) (hl : l.length ≤ 4611686018427387904) : Ev (fun k => laws_eqStringS.f k l l) true := by
  simp only [laws_eqStringS.f, if_true]
  have := Ev.allloop (L := fun k i => laws_eqStringS.l0 k l l i) (n := l.length) (fun _ => true) false true (by
    intro i r hi _ h
    refine Ev.step (fun k => by rw [laws_eqStringS.l0, if_pos (by omega), if_pos (by omega), if_pos (by omega), if_pos rfl, wrap_succ hi hl]) ?_
    exact h) (by intro i _ h; cases h) (by
    refine Ev.step (fun k => by rw [laws_eqStringS.l0, if_neg (by omega)]) ?_
    exact Ev.now _)
  simpa using this
def seqT (m : Int) (n : Nat) : List ByteArray := (List.range n).map (fun (i : Nat) => markT (m + i))
theorem laws_markStringS_ev (l : List ByteArray) (m : Int) (h0 : 0 ≤ m) (hm : m ≤ 549755813888) (hl : l.length ≤ 549755813888) : Ev (fun k => laws_markStringS.f k l m) (m + l.length, seqT m l.length) := by
  simp only [laws_markStringS.f]
  have := Ev.setloop' (L := fun k x i => laws_markStringS.l0 k x (m + i) i) (n := l.length) (fun i => markT (m + i)) l rfl (fun x => (m + (l.length : Int), x)) (by
    intro i x r hi hx h
    have e : wrap64 (m + (i : Int) + 1) = m + ((i + 1 : Nat) : Int) := by unfold wrap64; omega
    refine Ev.step (fun k => by rw [laws_markStringS.l0, if_pos (by omega)]) ?_
    refine Ev.bind (laws_markText_ev _ (by omega)) ?_
    simp only [if_pos (show (0 : Int) ≤ (i : Int) by omega), if_pos (show (i : Int) < (x.length : Int) by omega), Int.toNat_natCast, wrap_succ hi (show l.length ≤ 4611686018427387904 by omega), e]
    exact h) (by
    intro x hx
    refine Ev.step (fun k => by rw [laws_markStringS.l0, if_neg (by omega)]) ?_
    exact Ev.now _)
  simpa [seqT] using this
theorem laws_heldStringS_ev (m : Int) (n : Nat) (h0 : 0 ≤ m) (hm : m ≤ 549755813888) (hl : n ≤ 549755813888) : Ev (fun k => laws_heldStringS.f k (seqT m n) m) (m + n) := by
  simp only [laws_heldStringS.f]
  have hlen : (seqT m n).length = n := by simp [seqT]
  have := Ev.allloop (L := fun k i => laws_heldStringS.l0 k (seqT m n) (m + i) i) (n := n) (fun _ => true) (-1) (m + (n : Int)) (by
    intro i r hi _ h
    have e : wrap64 (m + (i : Int) + 1) = m + ((i + 1 : Nat) : Int) := by unfold wrap64; omega
    have er : rdOf ByteArray.empty (seqT m n) (i : Int) = markT (m + i) := by
      simp [rdOf, seqT, List.getD_eq_getElem?_getD, List.getElem?_map, List.getElem?_range hi]
    refine Ev.step (fun k => by rw [laws_heldStringS.l0, if_pos (by omega), if_pos (by omega)]) ?_
    refine Ev.bind (laws_markText_ev _ (by omega)) ?_
    simp only [er, if_true, wrap_succ hi (show n ≤ 4611686018427387904 by omega), e]
    exact h) (by intro i _ h; cases h) (by
    refine Ev.step (fun k => by rw [laws_heldStringS.l0, if_neg (by omega)]) ?_
    exact Ev.now _)
  simpa using this

/-! the parts of a line -/
def attach (p : List UInt8) : List (List UInt8) → List (List UInt8)
  | [] => [p]
  | h :: t => (p ++ h) :: t
def spl : List UInt8 → List (List UInt8)
  | [] => [[]]
  | c :: r => if c = 32 then [] :: spl r else attach [c] (spl r)
theorem spl_ne : ∀ l, ∃ h t, spl l = h :: t
  | [] => ⟨[], [], rfl⟩
  | c :: r => by
    obtain ⟨h, t, e⟩ := spl_ne r
    by_cases hc : c = 32
    · exact ⟨[], spl r, by rw [spl, if_pos hc]⟩
    · exact ⟨[c] ++ h, t, by rw [spl, if_neg hc, e]; rfl⟩
theorem attach_nil (l : List UInt8) : attach [] (spl l) = spl l := by
  obtain ⟨h, t, e⟩ := spl_ne l
  rw [e]; rfl
theorem attach_snoc (p : List UInt8) (c : UInt8) (r : List UInt8) (hc : c ≠ 32) : attach p (spl (c :: r)) = attach (p ++ [c]) (spl r) := by
  obtain ⟨h, t, e⟩ := spl_ne r
  rw [spl, if_neg hc, e]
  simp [attach]
theorem attach_space (p r : List UInt8) : attach p (spl (32 :: r)) = p :: spl r := by
  rw [spl, if_pos rfl]; simp [attach]
theorem attach_end (p : List UInt8) : attach p (spl []) = [p] := by simp [spl, attach]
theorem spl_cut : ∀ (p r : List UInt8), (∀ x ∈ p, x ≠ 32) → spl (p ++ 32 :: r) = p :: spl r
  | [], r, _ => by rw [List.nil_append, spl, if_pos rfl]
  | c :: p, r, h => by
    rw [List.cons_append, spl, if_neg (h c (by simp)), spl_cut p r (fun x hx => h x (by simp [hx]))]; rfl
theorem spl_one : ∀ (p : List UInt8), (∀ x ∈ p, x ≠ 32) → spl p = [p]
  | [], _ => rfl
  | c :: p, h => by rw [spl, if_neg (h c (by simp)), spl_one p (fun x hx => h x (by simp [hx]))]; rfl
theorem spl_length : ∀ l : List UInt8, (spl l).length = l.count 32 + 1
  | [] => rfl
  | c :: r => by
    obtain ⟨h, t, e⟩ := spl_ne r
    have ih := spl_length r
    by_cases hc : c = 32
    · subst hc; rw [spl, if_pos rfl, List.length_cons, ih, List.count_cons_self]
    · rw [spl, if_neg hc, e, attach, List.length_cons]
      rw [e, List.length_cons] at ih
      rw [List.count_cons_of_ne hc]; exact ih
def toB (l : List UInt8) : ByteArray := ⟨l.toArray⟩
theorem toB_size (l : List UInt8) : (toB l).size = l.length := by show l.toArray.size = _; simp
theorem toB_list (l : List UInt8) : (toB l).data.toList = l := rfl
def full (l : List UInt8) : Bool := l.length ≠ 0
def keepB (ps : List (List UInt8)) : List ByteArray := (ps.filter full).map toB
def okB (c : UInt8) : Bool := decide (32 ≤ c.toNat ∧ c.toNat ≤ 126)
def finP (out : List ByteArray) : List ByteArray × Bool := if (out.length : Int) > 10 then ([], false) else (out, true)
def partsP (s : ByteArray) : List ByteArray × Bool :=
  if (s.size : Int) > 600 then ([], false) else if s.data.toList.all okB then finP (keepB (spl s.data.toList)) else ([], false)
theorem toB_ext (s : ByteArray) (b i : Nat) : s.extract b i = toB ((s.data.toList.drop b).take (i - b)) := by
  apply ByteArray.ext
  apply Array.toList_inj.1
  simp [toB, ByteArray.data_extract]
theorem drop_at {s : ByteArray} {i : Nat} {c : UInt8} {r : List UInt8} (h : s.data.toList.drop i = c :: r) : i < s.size ∧ bt s (i : Int) = (c.toNat : Int) ∧ s.data.toList.drop (i + 1) = r := by
  have hl : s.data.toList.length = s.size := by simp
  have hi : i < s.data.toList.length := by
    rcases Nat.lt_or_ge i s.data.toList.length with h' | h'
    · exact h'
    · rw [List.drop_eq_nil_of_le h'] at h; cases h
  have e := List.drop_eq_getElem_cons hi
  rw [h] at e
  injection e with e1 e2
  refine ⟨by omega, ?_, e2.symm⟩
  rw [← bt_at s i (by simpa using hi)]
  have : s[i]'(by simpa using hi) = s.data.toList[i] := rfl
  simp only [Int.toNat_natCast]
  rw [e1]
  rfl
theorem keep_cons (p : List UInt8) (ps : List (List UInt8)) : keepB (p :: ps) = if p.length = 0 then keepB ps else toB p :: keepB ps := by
  unfold keepB full
  by_cases h : p.length = 0
  · rw [if_pos h, List.filter_cons_of_neg (by simpa using h)]
  · rw [if_neg h, List.filter_cons_of_pos (by simpa using h)]; rfl
theorem spec_parts (s : ByteArray) (hs : s.size ≤ 600) : ∀ (l : List UInt8) (b i : Nat) (out : List ByteArray), s.data.toList.drop i = l → b ≤ i → i ≤ s.size → out.length ≤ i →
    Ev (fun k => spec_PartsOf.l0 k s out b i) (if l.all okB then finP (out ++ keepB (attach ((s.data.toList.drop b).take (i - b)) (spl l))) else ([], false))
  | [], b, i, out, hd, hb, hi, ho => by
    have hl : s.data.toList.length = s.size := by simp
    have e : i = s.size := by
      have := congrArg List.length hd
      rw [List.length_drop] at this
      simp only [List.length_nil] at this
      omega
    have hp : ((s.data.toList.drop b).take (i - b)).length = i - b := by rw [List.length_take, List.length_drop]; omega
    have w1 : wrap64 ((i : Int) + 1) = ((i + 1 : Nat) : Int) := by unfold wrap64; omega
    refine Ev.step (fun k => by rw [spec_PartsOf.l0, if_pos (by omega), if_neg (by omega)]) ?_
    refine Ev.step (fun k => by rw [spec_PartsOf.j1, if_neg (by simp), if_neg (by omega)]) ?_
    simp only [List.all_nil, if_true, attach_end, keep_cons, hp]
    by_cases hbi : b < i
    · refine Ev.step (fun k => by rw [spec_PartsOf.j2, if_neg (by simp), if_pos (by omega), if_pos (by omega), if_pos (by omega), if_pos (by omega), if_pos (by omega), w1, Int.toNat_natCast, Int.toNat_natCast, toB_ext]) ?_
      refine Ev.step (fun k => by rw [spec_PartsOf.l0, if_neg (by omega)]) ?_
      rw [if_neg (show ¬ (i - b = 0) by omega)]
      unfold finP
      simp only [keepB, List.filter_nil, List.map_nil]
      by_cases hz : ((out ++ [toB ((s.data.toList.drop b).take (i - b))]).length : Int) > 10
      · simp only [if_pos hz]; exact Ev.now _
      · simp only [if_neg hz]; exact Ev.now _
    · refine Ev.step (fun k => by rw [spec_PartsOf.j2, if_neg (by simp), if_neg (by omega), w1]) ?_
      refine Ev.step (fun k => by rw [spec_PartsOf.l0, if_neg (by omega)]) ?_
      rw [if_pos (show i - b = 0 by omega)]
      unfold finP
      simp only [keepB, List.filter_nil, List.map_nil, List.append_nil]
      by_cases hz : (out.length : Int) > 10
      · simp only [if_pos hz]; exact Ev.now _
      · simp only [if_neg hz]; exact Ev.now _
  | c :: r, b, i, out, hd, hb, hi, ho => by
    obtain ⟨h1, h2, h3⟩ := drop_at hd
    have hl : s.data.toList.length = s.size := by simp
    have hp : ((s.data.toList.drop b).take (i - b)).length = i - b := by rw [List.length_take, List.length_drop]; omega
    have w1 : wrap64 ((i : Int) + 1) = ((i + 1 : Nat) : Int) := by unfold wrap64; omega
    have hlt := c.toNat_lt
    by_cases hok : okB c
    · have hok' : 32 ≤ c.toNat ∧ c.toNat ≤ 126 := of_decide_eq_true hok
      refine Ev.step (fun k => by rw [spec_PartsOf.l0, if_pos (by omega), if_pos (by omega), if_pos (by omega), h2, if_neg (by omega), decide_eq_false (by omega)]) ?_
      refine Ev.step (fun k => by rw [spec_PartsOf.j1, if_neg (by simp), if_pos (by omega), if_pos (by omega), h2]) ?_
      simp only [List.all_cons, hok, Bool.true_and]
      by_cases hc : c = 32
      · subst hc
        rw [attach_space, keep_cons, hp]
        have ih := spec_parts s hs r (i + 1) (i + 1)
        by_cases hbi : b < i
        · refine Ev.step (fun k => by rw [spec_PartsOf.j2, if_neg (by decide), if_pos (by omega), if_pos (by omega), if_pos (by omega), if_pos (by omega), if_pos (by omega), w1, Int.toNat_natCast, Int.toNat_natCast, toB_ext]) ?_
          have := ih (out ++ [toB ((s.data.toList.drop b).take (i - b))]) h3 (Nat.le_refl _) (by omega) (by simp; omega)
          rw [Nat.sub_self, List.take_zero, attach_nil, List.append_assoc, List.singleton_append] at this
          rw [if_neg (show ¬ (i - b = 0) by omega)]
          exact this
        · refine Ev.step (fun k => by rw [spec_PartsOf.j2, if_neg (by decide), if_neg (by omega), w1]) ?_
          have := ih out h3 (Nat.le_refl _) (by omega) (by omega)
          rw [Nat.sub_self, List.take_zero, attach_nil] at this
          rw [if_pos (show i - b = 0 by omega)]
          exact this
      · have hcn : c.toNat ≠ 32 := fun h => hc (UInt8.toNat_inj.1 h)
        refine Ev.step (fun k => by rw [spec_PartsOf.j2, if_pos (by simp; omega), w1]) ?_
        have := spec_parts s hs r b (i + 1) out h3 (by omega) (by omega) (by omega)
        rw [attach_snoc _ _ _ hc]
        have e : (s.data.toList.drop b).take (i - b) ++ [c] = (s.data.toList.drop b).take (i + 1 - b) := by
          have hlen : i - b < (s.data.toList.drop b).length := by rw [List.length_drop]; omega
          rw [show i + 1 - b = (i - b) + 1 by omega, List.take_succ_eq_append_getElem hlen]
          congr 2
          rw [List.getElem_drop]
          have hi' : i < s.data.toList.length := by omega
          have e0 := List.drop_eq_getElem_cons hi'
          rw [hd] at e0
          injection e0 with e1 _
          rw [e1]
          congr 1
          omega
        rw [e]
        exact this
    · have hbad : c.toNat < 32 ∨ 126 < c.toNat := by
        have : ¬ (32 ≤ c.toNat ∧ c.toNat ≤ 126) := fun h => hok (decide_eq_true h)
        omega
      simp only [List.all_cons, Bool.eq_false_iff.2 hok, Bool.false_and, Bool.false_eq_true, if_false]
      by_cases h32 : (c.toNat : Int) < 32
      · refine Ev.step (fun k => by rw [spec_PartsOf.l0, if_pos (by omega), if_pos (by omega), if_pos (by omega), h2, if_pos h32]) ?_
        refine Ev.step (fun k => by rw [spec_PartsOf.j1, if_pos rfl]) ?_
        exact Ev.now _
      · refine Ev.step (fun k => by rw [spec_PartsOf.l0, if_pos (by omega), if_pos (by omega), if_pos (by omega), h2, if_neg h32, decide_eq_true (by omega)]) ?_
        refine Ev.step (fun k => by rw [spec_PartsOf.j1, if_pos rfl]) ?_
        exact Ev.now _
theorem spec_PartsOf_ev (s : ByteArray) : Ev (fun k => spec_PartsOf.f k s) (partsP s) := by
  simp only [spec_PartsOf.f, Option.bind_some]
  unfold partsP
  by_cases h : (s.size : Int) > 600
  · simp only [if_pos h]; exact Ev.now _
  · simp only [if_neg h]
    have := spec_parts s (by omega) s.data.toList 0 0 [] (by simp) (Nat.le_refl _) (by omega) (by simp)
    rw [Nat.sub_self, List.take_zero, attach_nil, List.nil_append] at this
    exact this
/-! the program's -/
theorem ib_none : ∀ (l : List UInt8), l.count 32 = 0 → ∀ x ∈ l, x ≠ 32 := by
  intro l h x hx e
  subst e
  exact absurd (List.count_pos_iff.2 hx) (by omega)
theorem ib_first : ∀ (l : List UInt8), l.count 32 ≠ 0 → ∃ p r, l = p ++ 32 :: r ∧ (∀ x ∈ p, x ≠ 32) ∧ Lib.indexByte l 32 = (p.length : Int) ∧ l.count 32 = r.count 32 + 1
  | [], h => by simp at h
  | c :: l, h => by
    by_cases hc : c = 32
    · subst hc
      exact ⟨[], l, rfl, by simp, by simp [Lib.indexByte], by rw [List.count_cons_self]⟩
    · rw [List.count_cons_of_ne hc] at h
      obtain ⟨p, r, e1, e2, e3, e4⟩ := ib_first l h
      refine ⟨c :: p, r, by rw [e1]; rfl, ?_, ?_, by rw [List.count_cons_of_ne hc, e4]⟩
      · intro x hx
        rcases List.mem_cons.1 hx with rfl | hx
        · exact hc
        · exact e2 x hx
      · have hb : (c == 32) = false := beq_eq_false_iff_ne.2 hc
        have hn : ¬ ((p.length : Int) == -1) = true := by simp <;> omega
        rw [Lib.indexByte, hb, if_neg (by simp), e3, if_neg hn, List.length_cons] <;> omega
theorem wr_s (n : Nat) (h : n ≤ 100000) : wrap64 ((n : Int) + 1) = ((n + 1 : Nat) : Int) := by unfold wrap64; omega
theorem wr_z (n : Nat) (h : n ≤ 100000) : wrap64 ((n : Int) + 0) = (n : Int) := by unfold wrap64; omega
theorem wr_p (n : Nat) (h : n ≤ 100000) : wrap64 (((n + 1 : Nat) : Int) - 1) = (n : Int) := by unfold wrap64; omega
theorem idx_f (t : List UInt8) : strings_Index.f (toB t) (⟨#[32]⟩ : ByteArray) = some (Lib.indexByte t 32) := rfl
theorem set_mid (done : List ByteArray) (n : Nat) (z v : ByteArray) : (done ++ List.replicate (n + 1) z).set done.length v = (done ++ [v]) ++ List.replicate n z := by
  rw [List.set_append_right _ _ (Nat.le_refl _), Nat.sub_self, List.replicate_succ, List.set_cons_zero, List.append_assoc]; rfl
theorem gen_ev : ∀ (n : Nat) (t : List UInt8) (done : List ByteArray) (c : Nat), t.count 32 = n → done.length + n = c → c ≤ 600 → t.length ≤ 600 →
    Ev (fun k => strings_genSplit.l0 k (toB t) (⟨#[32]⟩ : ByteArray) 0 (c : Int) (done ++ List.replicate (n + 1) (⟨#[]⟩ : ByteArray)) (done.length : Int)) (done ++ (spl t).map toB)
  | 0, t, done, c, ht, hc, hc6, ht6 => by
    have w1 := fun (_ : Unit) => wr_s done.length (by omega)
    refine Ev.step (fun k => by rw [strings_genSplit.l0, if_neg (by omega), if_pos (by omega), if_pos (by simp; omega), w1 (), if_pos (by omega), if_pos (by simp), Int.toNat_natCast, Int.toNat_natCast, set_mid]) ?_
    rw [spl_one t (ib_none t ht)]
    have e : ((done ++ [toB t]) ++ List.replicate 0 (⟨#[]⟩ : ByteArray)).take (done.length + 1) = done ++ [t].map toB := by
      rw [List.replicate_zero, List.append_nil]
      apply List.take_of_length_le
      simp
    rw [e]
    exact Ev.now _
  | n + 1, t, done, c, ht, hc, hc6, ht6 => by
    obtain ⟨p, r, e1, e2, e3, e4⟩ := ib_first t (by omega)
    have hlen : t.length = p.length + 1 + r.length := by rw [e1, List.length_append, List.length_cons]; omega
    have hdl : done.length ≤ 100000 := by omega
    have hpl : p.length ≤ 100000 := by omega
    have w1 : Unit → wrap64 ((done.length : Int) + 1) = (((done ++ [toB p]).length : Nat) : Int) := fun _ => by rw [List.length_append, List.length_singleton]; exact wr_s _ hdl
    have w2 := fun (_ : Unit) => wr_z p.length hpl
    have w3 : Unit → wrap64 ((p.length : Int) + (((⟨#[32]⟩ : ByteArray).size : Nat) : Int)) = ((p.length + 1 : Nat) : Int) := fun _ => by
      rw [show (((⟨#[32]⟩ : ByteArray).size : Nat) : Int) = 1 from rfl]
      exact wr_s p.length hpl
    have hz := toB_size t
    have x1 : (toB t).extract 0 p.length = toB p := by
      rw [toB_ext, toB_list, List.drop_zero, Nat.sub_zero, e1, List.take_left]
    have x2 : (toB t).extract (p.length + 1) (toB t).size = toB r := by
      rw [toB_ext, toB_list, hz, e1, show p ++ 32 :: r = (p ++ [32]) ++ r by simp, show p.length + 1 = (p ++ [32]).length by simp, List.drop_left]
      congr 1
      apply List.take_of_length_le
      simp
      omega
    refine Ev.step (fun k => by rw [strings_genSplit.l0, if_pos (by omega), idx_f, Option.bind_some, e3, if_neg (by omega), w2 (), w3 (), if_pos (by omega), if_pos (by omega), if_pos (by omega), if_pos (by simp; omega), if_pos (by omega), if_pos (by omega), Int.toNat_natCast, Int.toNat_natCast, Int.toNat_natCast, x1, x2, w1 (), set_mid]) ?_
    have ih := gen_ev n r (done ++ [toB p]) c (by omega) (by simp; omega) hc6 (by omega)
    rw [e1, spl_cut p r e2, List.map_cons, show done ++ toB p :: (spl r).map toB = (done ++ [toB p]) ++ (spl r).map toB by simp]
    exact ih
theorem strings_Split_ev (s : ByteArray) (hs : s.size ≤ 600) : Ev (fun k => strings_Split.f k s (⟨#[32]⟩ : ByteArray)) ((spl s.data.toList).map toB) := by
  have hl : s.data.toList.length = s.size := by simp
  have hcl : s.data.toList.count 32 ≤ s.size := by rw [← hl]; exact List.count_le_length
  have e0 : toB s.data.toList = s := rfl
  have hne : ¬ (⟨#[32]⟩ : ByteArray).toList = ([] : List UInt8) := by rw [Go.Lib.toList_data]; simp
  have hcnt : strings_Count.f s (⟨#[32]⟩ : ByteArray) = some ((s.data.toList.count 32 : Nat) : Int) := rfl
  have hc5 : s.data.toList.count 32 ≤ 100000 := by omega
  have hs5 : s.size ≤ 100000 := by omega
  have hm : mn ((s.data.toList.count 32 + 1 : Nat) : Int) ((s.size + 1 : Nat) : Int) = ((s.data.toList.count 32 + 1 : Nat) : Int) := by unfold mn; rw [if_neg (by omega)]
  simp only [strings_Split.f]
  refine Ev.bind (a := (spl s.data.toList).map toB) ?_ (Ev.now _)
  simp only [strings_genSplit.f, if_neg (show ¬ ((-1 : Int) = 0) by omega), if_neg hne, if_pos (show (-1 : Int) < 0 by omega), hcnt, Option.bind_some, wr_s _ hc5]
  refine Ev.step (fun k => by rw [strings_genSplit.j0, wr_s _ hs5, hm, if_pos (by omega), if_pos (by omega), wr_p _ hc5, Int.toNat_natCast]) ?_
  have := gen_ev (s.data.toList.count 32) s.data.toList [] (s.data.toList.count 32) rfl (by simp) (by omega) (by omega)
  rw [List.nil_append, List.nil_append] at this
  exact this
theorem l1_ev (P : List (List UInt8)) (hP : P.length ≤ 700) : ∀ (d j : Nat) (out : List ByteArray), j + d = P.length → out.length ≤ j →
    Ev (fun k => impl_PartsOf.l1 k out (P.map toB) (P.length : Int) (j : Int)) (finP (out ++ keepB (P.drop j)))
  | 0, j, out, hd, ho => by
    refine Ev.step (fun k => by rw [impl_PartsOf.l1, if_neg (by omega)]) ?_
    rw [List.drop_eq_nil_of_le (by omega)]
    unfold finP keepB
    simp only [List.filter_nil, List.map_nil, List.append_nil]
    by_cases hz : (out.length : Int) > 10
    · simp only [if_pos hz]; exact Ev.now _
    · simp only [if_neg hz]; exact Ev.now _
  | d + 1, j, out, hd, ho => by
    have hj : j < P.length := by omega
    have w1 : wrap64 ((j : Int) + 1) = ((j + 1 : Nat) : Int) := by unfold wrap64; omega
    have er : rdOf ByteArray.empty (P.map toB) (j : Int) = toB P[j] := by
      simp [rdOf, List.getD_eq_getElem?_getD, List.getElem?_map, List.getElem?_eq_getElem hj]
    have et : (toB P[j]).toList = P[j] := by rw [Go.Lib.toList_data]; rfl
    have ed := List.drop_eq_getElem_cons hj
    rw [ed, keep_cons]
    by_cases hz : P[j] = []
    · refine Ev.step (fun k => by rw [impl_PartsOf.l1, if_pos (by omega), if_pos (by omega), if_pos (by simp; omega), er, et, if_pos hz, w1]) ?_
      rw [if_pos (by rw [hz]; rfl)]
      exact l1_ev P hP d (j + 1) out (by omega) (by omega)
    · have hz' : ¬ P[j].length = 0 := fun h => hz (List.length_eq_zero_iff.1 h)
      refine Ev.step (fun k => by rw [impl_PartsOf.l1, if_pos (by omega), if_pos (by omega), if_pos (by simp; omega), er, et, if_neg hz, if_pos (by omega), w1]) ?_
      rw [if_neg hz']
      have := l1_ev P hP d (j + 1) (out ++ [toB P[j]]) (by omega) (by simp; omega)
      rw [List.append_assoc, List.singleton_append] at this
      exact this
theorem impl_l0_ev (s : ByteArray) (hs : s.size ≤ 600) : ∀ (l : List UInt8) (i : Nat), s.data.toList.drop i = l → i ≤ s.size →
    Ev (fun k => impl_PartsOf.l0 k s (s.size : Int) (i : Int)) (if l.all okB then finP (keepB (spl s.data.toList)) else ([], false))
  | [], i, hd, hi => by
    have hl : s.data.toList.length = s.size := by simp
    have e : i = s.size := by
      have := congrArg List.length hd
      rw [List.length_drop] at this
      simp only [List.length_nil] at this
      omega
    refine Ev.step (fun k => by rw [impl_PartsOf.l0, if_neg (by omega)]) ?_
    refine Ev.bind (strings_Split_ev s hs) ?_
    have hlen : (spl s.data.toList).length ≤ 700 := by
      rw [spl_length]
      have : s.data.toList.count 32 ≤ s.data.toList.length := List.count_le_length
      omega
    have := l1_ev (spl s.data.toList) hlen (spl s.data.toList).length 0 [] (by omega) (by simp)
    rw [List.drop_zero, List.nil_append] at this
    simp only [List.all_nil, if_true, List.length_map]
    exact this
  | c :: r, i, hd, hi => by
    obtain ⟨h1, h2, h3⟩ := drop_at hd
    have w1 : wrap64 ((i : Int) + 1) = ((i + 1 : Nat) : Int) := by unfold wrap64; omega
    have hlt := c.toNat_lt
    by_cases hok : okB c
    · have hok' : 32 ≤ c.toNat ∧ c.toNat ≤ 126 := of_decide_eq_true hok
      refine Ev.step (fun k => by rw [impl_PartsOf.l0, if_pos (by omega), if_pos (by omega), if_pos (by omega), h2, if_neg (by omega), if_neg (by omega), w1]) ?_
      simp only [List.all_cons, hok, Bool.true_and]
      exact impl_l0_ev s hs r (i + 1) h3 (by omega)
    · have hbad : c.toNat < 32 ∨ 126 < c.toNat := by
        have : ¬ (32 ≤ c.toNat ∧ c.toNat ≤ 126) := fun h => hok (decide_eq_true h)
        omega
      simp only [List.all_cons, Bool.eq_false_iff.2 hok, Bool.false_and, Bool.false_eq_true, if_false]
      by_cases h32 : (c.toNat : Int) < 32
      · refine Ev.step (fun k => by rw [impl_PartsOf.l0, if_pos (by omega), if_pos (by omega), if_pos (by omega), h2, if_pos h32]) ?_
        exact Ev.now _
      · refine Ev.step (fun k => by rw [impl_PartsOf.l0, if_pos (by omega), if_pos (by omega), if_pos (by omega), h2, if_neg h32, if_pos (by omega)]) ?_
        exact Ev.now _
theorem impl_PartsOf_ev (s : ByteArray) : Ev (fun k => impl_PartsOf.f k s) (partsP s) := by
  simp only [impl_PartsOf.f]
  unfold partsP
  by_cases h : (s.size : Int) > 600
  · simp only [if_pos h]; exact Ev.now _
  · simp only [if_neg h]
    exact impl_l0_ev s (by omega) s.data.toList 0 (by simp) (by omega)
theorem partsP_len (s : ByteArray) : (partsP s).1.length ≤ 10 := by
  unfold partsP finP
  split
  · simp
  · split
    · split
      · simp
      · simp only; omega
    · simp

theorem FnExactPartsOf : laws_FnExactPartsOf.Pure := by
  intro a0 h0
  refine Ev.rounds (g := fun k => laws_FnExactPartsOf.f k a0) ?_
  simp only [laws_FnExactPartsOf.f]
  by_cases h : (a0.size : Int) > 1048576
  · simp only [if_pos h]; exact Ev.now _
  · have hl := partsP_len a0
    simp only [if_neg h]
    refine Ev.bind (spec_PartsOf_ev a0) ?_
    refine Ev.bind (impl_PartsOf_ev a0) ?_
    refine Ev.bind (laws_eqStringS_refl _ (by omega)) ?_
    simp only [if_true, bne_self_eq_false]
    refine Ev.step (fun k => by rw [laws_FnExactPartsOf.j0, if_neg (by simp)]) ?_
    refine Ev.bind (laws_markStringS_ev _ 1 (by omega) (by omega) (by omega)) ?_
    refine Ev.bind (laws_heldStringS_ev 1 _ (by omega) (by omega) (by omega)) ?_
    simp only [if_neg (show ¬ (1 + ((partsP a0).1.length : Int) < 0) by omega), if_true]
    refine Ev.bind (impl_PartsOf_ev a0) ?_
    refine Ev.bind (laws_eqStringS_refl _ (by omega)) ?_
    simp only [if_true, bne_self_eq_false]
    refine Ev.step (fun k => by rw [laws_FnExactPartsOf.j1, if_neg (by simp)]) ?_
    refine Ev.bind (laws_heldStringS_ev 1 _ (by omega) (by omega) (by omega)) ?_
    simp only [if_neg (show ¬ (1 + ((partsP a0).1.length : Int) < 0) by omega), if_true]
    exact Ev.now _

end Go.Proofs.YtacnlodcbbhahaaDoor.Pure
