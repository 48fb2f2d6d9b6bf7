-- printed for this claim by a program of the session's own (no text of the kit's print)
import Derived.Test.YtbkklafkoegdpaaQFnExactWebLabelsx0
import Derived.Test.YtbkklafkoegdpaaQFnExactWebLabelsx3
import Derived.Test.YtbkklafkoegdpaaQFnExactWebLabelsx5
namespace Go.Proofs.Ytbkklafkoegdpaa.QFnExactWebLabels
open Go.RowKit Go.Proofs.YtbkklafkoegdpaaW.PrintWords Go.Proofs.YtbkklafkoegdpaaW.PrintLast Go.Proofs.YtbkklafkoegdpaaW.PrintMore
attribute [local go_sem] max2_int min2_int max_two min_two max_three min_three max_four min_four   -- for this text's walks alone
set_option linter.unusedVariables false
set_option linter.unusedSimpArgs false

/-! ### spec_l06Walk: function 136 -/
mutual
def spec_l06Walk.l0 : Nat → Int → List (S43) → Int → Int → List Bool → List Int → Int → Option (List Int × Bool × List Bool)
  | 0, _, _, _, _, _, _, _ => none
  | k + 1, x0, x1, x2, x3, x4, x12, x13 => if x13 < x0 then (if x2 < x13 then (spec_l06Walk.j1 k x0 x1 x2 x3 x4 x12 x13 x2 x13) else (spec_l06Walk.j1 k x0 x1 x2 x3 x4 x12 x13 x13 x2)) else (some (x12, false, x4))
def spec_l06Walk.j1 : Nat → Int → List (S43) → Int → Int → List Bool → List Int → Int → Int → Int → Option (List Int × Bool × List Bool)
  | 0, _, _, _, _, _, _, _, _, _ => none
  | k + 1, x0, x1, x2, x3, x4, x12, x13, x168000, x168001 => if x13 = x3 then (spec_l06Walk.j2 k x0 x1 x2 x3 x4 x12 x13 true) else ((spec_l05Has.f k x1 x168000 x168001).bind fun t168 => (spec_l06Walk.j2 k x0 x1 x2 x3 x4 x12 x13 (!t168)))
def spec_l06Walk.j2 : Nat → Int → List (S43) → Int → Int → List Bool → List Int → Int → Bool → Option (List Int × Bool × List Bool)
  | 0, _, _, _, _, _, _, _, _ => none
  | k + 1, x0, x1, x2, x3, x4, x12, x13, x44 => if x44 = true then (spec_l06Walk.l0 k x0 x1 x2 x3 x4 x12 (wrap64 (x13 + 1))) else (if 0 ≤ x13 then (if x13 < (x4.length : Int) then (if rdOf false x4 x13 = true then (some (x12, true, x4)) else ((spec_l06Walk.f k x0 x1 x13 x2 x4).bind fun bt170 => (if bt170.2.1 = true then (some (x12, true, bt170.2.2)) else (if x12.length + bt170.1.length < 17592186044416 then ((some (x12 ++ bt170.1 : List Int)).bind fun y175 => (if y175.length < 17592186044416 then (spec_l06Walk.l0 k x0 x1 x2 x3 bt170.2.2 (y175 ++ [x2]) (wrap64 (x13 + 1))) else (none))) else (none))))) else (none)) else (none))
def spec_l06Walk.f : Nat → Int → List (S43) → Int → Int → List Bool → Option (List Int × Bool × List Bool)
  | 0, _, _, _, _, _ => none
  | k + 1, a0, l1, a2, a3, l4 => if 0 ≤ a2 then (if a2 < (l4.length : Int) then (spec_l06Walk.l0 k a0 l1 a2 a3 (l4.set (a2 : Int).toNat true) (([a2] : List Int)) 0) else (none)) else (none)
end
theorem spec_l06Walk.mono_l : ∀ k, (∀ y0 y1 y2 y3 y4, LeO (spec_l06Walk.f k y0 y1 y2 y3 y4) (spec_l06Walk.f (k + 1) y0 y1 y2 y3 y4)) ∧ (∀ y0 y1 y2 y3 y4 y5 y6, LeO (spec_l06Walk.l0 k y0 y1 y2 y3 y4 y5 y6) (spec_l06Walk.l0 (k + 1) y0 y1 y2 y3 y4 y5 y6)) ∧ (∀ y0 y1 y2 y3 y4 y5 y6 y7 y8, LeO (spec_l06Walk.j1 k y0 y1 y2 y3 y4 y5 y6 y7 y8) (spec_l06Walk.j1 (k + 1) y0 y1 y2 y3 y4 y5 y6 y7 y8)) ∧ (∀ y0 y1 y2 y3 y4 y5 y6 y7, LeO (spec_l06Walk.j2 k y0 y1 y2 y3 y4 y5 y6 y7) (spec_l06Walk.j2 (k + 1) y0 y1 y2 y3 y4 y5 y6 y7))
  | 0 => ⟨fun _ _ _ _ _ r h => by simp [spec_l06Walk.f] at h, fun _ _ _ _ _ _ _ r h => by simp [spec_l06Walk.l0] at h, fun _ _ _ _ _ _ _ _ _ r h => by simp [spec_l06Walk.j1] at h, fun _ _ _ _ _ _ _ _ r h => by simp [spec_l06Walk.j2] at h⟩
  | k + 1 => by
    obtain ⟨ih0, ih1, ih2, ih3⟩ := spec_l06Walk.mono_l k
    refine ⟨?_, ?_, ?_, ?_⟩ <;> (intros; first | unfold spec_l06Walk.f | unfold spec_l06Walk.l0 | unfold spec_l06Walk.j1 | unfold spec_l06Walk.j2) <;> repeat' first
    | (with_reducible exact ih0 _ _ _ _ _)
    | (with_reducible exact ih1 _ _ _ _ _ _ _)
    | (with_reducible exact ih2 _ _ _ _ _ _ _ _ _)
    | (with_reducible exact ih3 _ _ _ _ _ _ _ _)
    | (with_reducible exact spec_l05Has.mono _ _ _ _)
    | (with_reducible exact LeO.refl _)
    | (with_reducible exact LeO.none _)
    | (with_reducible refine LeO.ite ?_ ?_)
    | (with_reducible refine LeO.bind ?_ (fun _ => ?_))
    | exact ih0 _ _ _ _ _
    | exact ih1 _ _ _ _ _ _ _
    | exact ih2 _ _ _ _ _ _ _ _ _
    | exact ih3 _ _ _ _ _ _ _ _
    | exact spec_l05Has.mono _ _ _ _
    | exact LeO.none _
    | refine LeO.ite ?_ ?_
    | refine LeO.bind ?_ (fun _ => ?_)
theorem spec_l06Walk.mono : ∀ a0 a1 a2 a3 a4 k, LeO (spec_l06Walk.f k a0 a1 a2 a3 a4) (spec_l06Walk.f (k + 1) a0 a1 a2 a3 a4) := by
  intro a0 a1 a2 a3 a4 k
  obtain ⟨ih0, ih1, ih2, ih3⟩ := spec_l06Walk.mono_l k
  exact ih0 a0 a1 a2 a3 a4
set_option maxHeartbeats 8000000 in
set_option maxRecDepth 100000 in
theorem spec_l06Walk.calls (k : Nat) : ∀ (a0 : Int) (A1 : Option Addr) (c1 : Nat) (l1 : List (S43)) (a2 : Int) (a3 : Int) (P4_ : Nat → Prop) (u9000_ : Value) (l4 : List Bool) (r1 : List Int) (r2 : Bool) (r3 : List Bool) (w0 w : World) (hB : Below w0.heap.size w0 w) (hr1 : ∀ W_, Kept w W_ (fun k_ => P4_ k_) → Kd.C k43 W_ A1 l1.length l1) (hc1 : l1.length ≤ c1) (ho4 : Kd.R Kd.bool 4 w w0.heap.size P4_ u9000_ l4) (h : spec_l06Walk.f k a0 l1 a2 a3 l4 = some (r1, r2, r3)),
  Calls Try.prog 136 #[.int .i64 a0, .slice A1 l1.length c1, .int .i64 a2, .int .i64 a3, u9000_] w fun e w' => ∃ v0_ : Value, e = .returned (.tuple #[v0_, .bool r2]) ∧ Kd.R (Kd.int .i64) 3 w' w0.heap.size (fun k_ => (P4_ k_ ∨ w.heap.size ≤ k_)) v0_ r1 ∧ Kd.R Kd.bool 4 w' w0.heap.size (fun k_ => (P4_ k_ ∨ w.heap.size ≤ k_)) u9000_ r3 ∧ Below w0.heap.size w0 w' ∧ Kept w w' (fun k_ => P4_ k_) := by
 induction k using Nat.strongRecOn with
 | _ k ih =>
 intro a0 A1 c1 l1 a2 a3 P4_ u9000_ l4 r1 r2 r3 w0 w hB hr1 hc1 ho4 h
 cases k with
 | zero => exact absurd h (by simp [spec_l06Walk.f])
 | succ k =>
 simp only [spec_l06Walk.f] at h
 have hu43 := Try.underlying43
 have HR1 := Aside0.mk hr1
 have HC1 := Aside0.mk hc1
 clear hr1 hc1
 have HO4 := Aside0.mk (show Kd.R Kd.bool 4 w w0.heap.size (fun k_ => (P4_ k_ ∨ w.heap.size ≤ k_)) u9000_ l4 from Kd.R_mono ho4 (fun k_ hk => (.inl hk)))
 have HK := Aside0.mk (Kept.refl w (fun k_ => P4_ k_))
 have HW0 := Aside0.mk hB.size
 have HB := Aside0.mk hB
 clear hB
 have H : (if 0 ≤ a2 then (if a2 < (l4.length : Int) then (spec_l06Walk.l0 k a0 l1 a2 a3 (l4.set (a2 : Int).toNat true) (([a2] : List Int)) 0) else (none)) else (none)) = some (r1, r2, r3) := h
 clear h
 obtain ⟨y163, hy163⟩ : ∃ y_ : List Int, y_ = (([a2] : List Int)) := ⟨_, rfl⟩
 replace H : (if 0 ≤ a2 then (if a2 < (l4.length : Int) then (spec_l06Walk.l0 k a0 l1 a2 a3 (l4.set (a2 : Int).toNat true) y163 0) else (none)) else (none)) = some (r1, r2, r3) := by first | (rw [hy163]; with_reducible exact H) | (have H2_ := (Option.bind_some _ _).symm.trans H; rw [hy163]; with_reducible exact H2_) | (have H2_ := (Option.bind_some _ _).symm.trans H; with_reducible exact H2_) | with_reducible exact H | (rw [hy163]; exact H) | exact H
 have Ny163 := Aside0.mk hy163
 clear hy163
 by_cases c6 : 0 ≤ a2
 ·rw [if_pos c6] at H
  have c6b0 : decide (0 ≤ a2) = true := decide_eq_true c6
  clear c6
  by_cases c7 : a2 < (l4.length : Int)
  ·rw [if_pos c7] at H
   have c7b0 : decide (a2 < (l4.length : Int)) = true := decide_eq_true c7
   clear c7
   obtain ⟨y166, hy166⟩ : ∃ y_ : List Bool, y_ = (l4.set (a2 : Int).toNat true) := ⟨_, rfl⟩
   replace H : (spec_l06Walk.l0 k a0 l1 a2 a3 y166 y163 0) = some (r1, r2, r3) := by first | (rw [hy166]; with_reducible exact H) | (have H2_ := (Option.bind_some _ _).symm.trans H; rw [hy166]; with_reducible exact H2_) | (have H2_ := (Option.bind_some _ _).symm.trans H; with_reducible exact H2_) | with_reducible exact H | (rw [hy166]; exact H) | exact H
   have Ny166 := Aside0.mk hy166
   clear hy166; have H' := Aside0.mk H; clear H
   go_enter Try.func136, Try.ntmps136
   go_wp2_with (first | ((with_reducible refine gate_dst (N := 18) rfl ?_); refine Kd.R_lit (Kd.int .i64) _ 3 ?hg (N := 18) ?hd (xs := ([a2] : List Int)) (inner := [.int .i64 a2]) (ok := fun _ => True) (okp := fun _ => True) ?hr ?hp (fun _ hk => hk) trivial (Below.refl _ _) (Nat.le_refl _) (by simp) ?_; (case hd => rfl); (case hg => rfl); (case hr => first | (go_simp; done) | (go_simp; rfl)); (case hp => exact (Reps.one (show Kd.M (Kd.int .i64) _ _ _ a2 [.int .i64 a2] from rfl) (Reps.none _ _))); intro v164 w9 ho10 hb hg_ hnew_; clear hg_ hnew_; (first | rw [← Ny163.out] at ho10 | (simp only [Int.reduceToNat] at ho10; rw [← Ny163.out] at ho10)); have HO165 := Aside0.mk (Kd.R_lower (Kd.R_newM (M := fun k_ => (P4_ k_ ∨ w.heap.size ≤ k_)) ho10 (by first | exact HK.out.1 | exact (show Kept w _ (fun k_ => P4_ k_) from by repeat (first | (with_reducible first | exact HK.out | apply Kept.alloc | apply Kept.drewN | apply Kept.drew) | exact HK.out)).1) (fun k_ h_ => .inr h_)) (below_size qB_)); replace HO4 := Aside0.mk (Kd.R_below (qR_ HO4) hb); replace HK := Aside0.mk (Kept.below (S := (fun k_ => P4_ k_)) (by repeat (first | (with_reducible first | exact HK.out | apply Kept.alloc | apply Kept.drewN | apply Kept.drew) | exact HK.out)) hb); replace HB := Aside0.mk (below_step qB_ hb); clear hb ho10; have p8 : 0 ≤ (a2 : Int) := of_decide_eq_true qa_; have q8 : (a2 : Int) < ((l4.length : Int) : Int) := of_decide_eq_true qa_; obtain ⟨go8, co8, eo8, gb8, gl8, cl8, HG8⟩ := Kd.R_form HO4.out (by omega); (first | cases eo8 | (injection eo8 with ea_ en_ ec_; (first | subst ea_ | (injection ea_ with ea_; subst ea_)); subst ec_; clear en_)); have GB8 := Aside0.mk gb8; have GG8 := Aside0.mk HG8; clear gb8 gl8 HG8; have HMgo8 := Aside0.mk (show (P4_ go8 ∨ w.heap.size ≤ go8) from (HO4.out.1 _ rfl)); obtain ⟨hx8_0, hf8_0⟩ := Kd.R_celln false HO4.out (a2 : Int) p8 q8; replace p8 := eq_true p8; replace q8 := eq_true q8; obtain ⟨hy11_, hz11_⟩ := Kd.R_celln false HO4.out (a2 : Int) (of_decide_eq_true qa_) (of_decide_eq_true qa_); have HP11 := Kd.R_putg HO4.out (a2 : Int) true) | ((with_reducible refine gate_store (t := 4) (p := 21) rfl ?_); refine store_event (t := 4) (p := 21) (v := ?vo_w12) (w1 := (w9.setCell ⟨go8, (a2 : Int).toNat, none⟩ (.bool true))) ?hg ?ho ?hn ?hr ?_; (case ho => rfl); (case hg => rfl); (case hn => rfl); (case hr => first | (go_simp; done) | (go_simp; rfl)); intro w12 hw; have hg : w9.grownBy w12 (some go8) := (by rw [hw]; exact HP11.2); have hp_ : Kd.R Kd.bool 4 w12 w0.heap.size (fun k_ => (P4_ k_ ∨ w.heap.size ≤ k_)) (.slice (some ⟨go8, 0, none⟩) l4.length co8) y166 := (by rw [hw, Ny166.out]; exact HP11.1); clear HP11; have n0_ := Aside0.mk (hp_); have n1_ := Aside0.mk (Kd.R_over' (v := (.slice (some ⟨go8, 0, none⟩) l4.length co8)) (qR_ HO165) (Kd.R_typed HO4.out) (by decide) hg); have n2_ := Aside0.mk ((by rw [hw]; exact below_set (HB.out) GB8.out : Below w0.heap.size w0 w12)); have n3_ := Aside0.mk (Kept.of_grown (S := (fun k_ => P4_ k_)) hg (by repeat (first | (with_reducible first | exact HK.out | apply Kept.alloc | apply Kept.drewN | apply Kept.drew) | exact HK.out)) (fun k_ e_ => (HO4.out.1 k_ e_))); clear HO4; clear HO165; clear HB; clear HK; have HO4 := n0_; have HO165 := n1_; have HB := n2_; have HK := n3_; clear n0_ n1_ n2_ n3_; clear hg hw hp_))
   go_loopg [12, 13] k (fun kq v12 v13 w' => ∃ (x4_1 : List Bool) (x12_1 : List Int) (x13_1 : Int), v13 = .int .i64 x13_1 ∧ Aside0 (spec_l06Walk.l0 kq a0 l1 a2 a3 x4_1 x12_1 x13_1 = some (r1, r2, r3)) ∧ Aside0 (kq ≤ k) ∧ Aside0 (Kd.R Kd.bool 4 w' w0.heap.size (fun k_ => (P4_ k_ ∨ w.heap.size ≤ k_)) (.slice (some ⟨go8, 0, none⟩) l4.length co8) x4_1) ∧ Aside0 (Kd.R (Kd.int .i64) 3 w' w0.heap.size (fun k_ => (P4_ k_ ∨ w.heap.size ≤ k_)) v12 x12_1) ∧ Aside0 (Kept w w' (fun k_ => P4_ k_)) ∧ Aside0 (Below w0.heap.size w0 w'))
   case atStart => exact ⟨(y166), (y163), (0), qe_, H', ⟨Nat.le_refl _⟩, ⟨by (with_reducible repeat (first | apply Kd.R_alloc | apply Kd.R_drewN | apply Kd.R_drew)); first | exact HO4.out | (have h_ := HO4.out; simp only [own_slice] at h_ ⊢; exact h_)⟩, ⟨by (with_reducible repeat (first | apply Kd.R_alloc | apply Kd.R_drewN | apply Kd.R_drew)); exact Kd.R_mono HO165.out (fun _ hk => hk.1)⟩, ⟨by repeat (first | (with_reducible first | exact HK.out | apply Kept.alloc | apply Kept.drewN | apply Kept.drew) | exact HK.out)⟩, ⟨qB_⟩⟩
   case round =>
    clear H'
    (try clear c1); (try clear p2); (try clear c6); (try clear c6b0); (try clear c7); (try clear c7b0); (try clear p8); (try clear q8); (try clear hx8); (try clear hf8); (try clear hx8_0); (try clear p8); (try clear q8)
    obtain ⟨x4_1, x12_1, x13_1, rfl, HA, HK1, HO_4, HO_12, HK, HB⟩ := hrel
    have hl4_1 := (Kd.R_reads' HO_4.out).1
    rw [hl4_1] at HO_4
    (try simp only [hl4_1])
    (try simp only [hl4_1] at HO_12)
    cases gk with
    | zero => exact absurd HA.out (by simp [spec_l06Walk.l0])
    | succ k1 =>
     have H := HA.out; clear HA
     simp only [spec_l06Walk.l0] at H
     by_cases c13 : x13_1 < a0
     ·rw [if_pos c13] at H
      have c13b0 : decide (x13_1 < a0) = true := decide_eq_true c13
      clear c13
      have HC14 := Aside0.mk H
      clear H
      go_upto_if 32 with (first | ((with_reducible refine gate_dst (N := 14) rfl ?_); refine bx_ 14 (cs := #[.int .i64 0, .int .i64 0]) (t := 43) ?_; intro gb167 hg w15 hbox hb; have BK167 := Aside0.mk (hbox); have GW167 := Aside0.mk ((by rw [hg]; exact (by first | exact HK.out.1 | exact (show Kept w _ (fun k_ => P4_ k_) from by repeat (first | (with_reducible first | exact HK.out | apply Kept.alloc | apply Kept.drewN | apply Kept.drew) | exact HK.out)).1) : w.heap.size ≤ gb167)); have GE167 := Aside0.mk ((qs_ : w0.heap.size ≤ gb167)); replace HO_4 := Aside0.mk (Kd.R_below (qR_ HO_4) hb); replace HO_12 := Aside0.mk (Kd.R_below (qR_ HO_12) hb); replace HK := Aside0.mk (Kept.below (S := (fun k_ => P4_ k_)) (by repeat (first | (with_reducible first | exact HK.out | apply Kept.alloc | apply Kept.drewN | apply Kept.drew) | exact HK.out)) hb); replace HB := Aside0.mk (below_step qB_ hb); clear hb hbox hg; obtain ⟨hcz16_0, hcz16_1, hfz16_0, hfz16_1⟩ := bc2_ BK167))
      (try simp only [Act.put, List.setIfInBounds_toArray, List.set_cons_zero, List.set_cons_succ])
      go_cut [] (fun wc => ∃ (kq : Nat) (x168000_13 : Int) (x168001_13 : Int), Aside0 (spec_l06Walk.j1 kq a0 l1 a2 a3 x4_1 x12_1 x13_1 x168000_13 x168001_13 = some (r1, r2, r3)) ∧ Aside0 (kq ≤ k1) ∧ Aside0 (Kd.R Kd.bool 4 wc w0.heap.size (fun k_ => (P4_ k_ ∨ w.heap.size ≤ k_)) (.slice (some ⟨go8, 0, none⟩) x4_1.length co8) x4_1) ∧ Aside0 (Kd.R (Kd.int .i64) 3 wc w0.heap.size (fun k_ => (P4_ k_ ∨ w.heap.size ≤ k_)) u12 x12_1) ∧ Aside0 (wc.heap[gb167]? = some (.cells #[.int .i64 x168000_13, .int .i64 x168001_13] 43 (0, 0))) ∧ Aside0 (Kept w wc (fun k_ => P4_ k_)) ∧ Aside0 (Below w0.heap.size w0 wc))
      case first =>
       have H := HC14.out; clear HC14
       by_cases c17 : a2 < x13_1
       ·rw [if_pos c17] at H
        have c17b0 : decide (a2 < x13_1) = true := decide_eq_true c17
        clear c17
        (first | rw [c17b0] | (simp only [i64_w, i32_w]; rw [c17b0]) | skip)
        have H' := Aside0.mk H; clear H
        obtain ⟨hcz18_0, hcz18_1, hfz18_0, hfz18_1⟩ := bc2_ BK167
        go_wp2
        go_meet
        case rel => exact ⟨_, (a2), (x13_1), H', ⟨by have := HK1.out; first | omega | exact Nat.le_refl _⟩, ⟨by (try simp only [hl4_1]); (with_reducible repeat (first | apply Kd.R_alloc | apply Kd.R_drewN | apply Kd.R_drew)); exact Kd.R_mono (Kd.R_far (p := ⟨gb167, 1, none⟩) (Kd.R_far (p := ⟨gb167, 0, none⟩) (Kd.R_far (p := ⟨gb167, 1, none⟩) (Kd.R_far (p := ⟨gb167, 0, none⟩) (Kd.R_types HO_4.out BK167.out (by decide)) (fun _ hk => hk.2) (.int .i64 x13_1)) (fun _ hk => hk.2) (.int .i64 a2)) (fun _ hk => hk.2) (.int .i64 a2)) (fun _ hk => hk.2) (.int .i64 x13_1)) (fun _ hk => hk.1)⟩, ⟨by (try simp only [hl4_1]); (with_reducible repeat (first | apply Kd.R_alloc | apply Kd.R_drewN | apply Kd.R_drew)); exact Kd.R_mono (Kd.R_far (p := ⟨gb167, 1, none⟩) (Kd.R_far (p := ⟨gb167, 0, none⟩) (Kd.R_far (p := ⟨gb167, 1, none⟩) (Kd.R_far (p := ⟨gb167, 0, none⟩) (Kd.R_types HO_12.out BK167.out (by decide)) (fun _ hk => hk.2) (.int .i64 x13_1)) (fun _ hk => hk.2) (.int .i64 a2)) (fun _ hk => hk.2) (.int .i64 a2)) (fun _ hk => hk.2) (.int .i64 x13_1)) (fun _ hk => hk.1)⟩, ⟨by (try simp only [hl4_1]); (with_reducible repeat (first | refine blk_drewN ?_ _ | refine blk_drew ?_ | refine blk_alloc ?_ _)); refine blk_put (cs := #[.int .i64 a2, .int .i64 a2]) ?_ 1 _ rfl; (with_reducible repeat (first | refine blk_drewN ?_ _ | refine blk_drew ?_ | refine blk_alloc ?_ _)); refine blk_put (cs := #[.int .i64 x13_1, .int .i64 a2]) ?_ 0 _ rfl; (with_reducible repeat (first | refine blk_drewN ?_ _ | refine blk_drew ?_ | refine blk_alloc ?_ _)); refine blk_put (cs := #[.int .i64 x13_1, .int .i64 0]) ?_ 1 _ rfl; (with_reducible repeat (first | refine blk_drewN ?_ _ | refine blk_drew ?_ | refine blk_alloc ?_ _)); refine blk_put (cs := #[.int .i64 0, .int .i64 0]) ?_ 0 _ rfl; (with_reducible repeat (first | refine blk_drewN ?_ _ | refine blk_drew ?_ | refine blk_alloc ?_ _)); exact BK167.out⟩, ⟨by repeat (first | (with_reducible first | exact HK.out | apply Kept.alloc | apply Kept.drewN | apply Kept.drew | refine Kept.setCell ?_ (.inr GW167.out) _) | exact HK.out)⟩, ⟨qB_⟩⟩
       ·rw [if_neg c17] at H
        have c17b0 : decide (a2 < x13_1) = false := decide_eq_false c17
        clear c17
        (first | rw [c17b0] | (simp only [i64_w, i32_w]; rw [c17b0]) | skip)
        have H' := Aside0.mk H; clear H
        go_wp2
        go_meet
        case rel => exact ⟨_, (x13_1), (a2), H', ⟨by have := HK1.out; first | omega | exact Nat.le_refl _⟩, ⟨by (try simp only [hl4_1]); (with_reducible repeat (first | apply Kd.R_alloc | apply Kd.R_drewN | apply Kd.R_drew)); exact Kd.R_mono (Kd.R_far (p := ⟨gb167, 1, none⟩) (Kd.R_far (p := ⟨gb167, 0, none⟩) (Kd.R_types HO_4.out BK167.out (by decide)) (fun _ hk => hk.2) (.int .i64 x13_1)) (fun _ hk => hk.2) (.int .i64 a2)) (fun _ hk => hk.1)⟩, ⟨by (try simp only [hl4_1]); (with_reducible repeat (first | apply Kd.R_alloc | apply Kd.R_drewN | apply Kd.R_drew)); exact Kd.R_mono (Kd.R_far (p := ⟨gb167, 1, none⟩) (Kd.R_far (p := ⟨gb167, 0, none⟩) (Kd.R_types HO_12.out BK167.out (by decide)) (fun _ hk => hk.2) (.int .i64 x13_1)) (fun _ hk => hk.2) (.int .i64 a2)) (fun _ hk => hk.1)⟩, ⟨by (try simp only [hl4_1]); (with_reducible repeat (first | refine blk_drewN ?_ _ | refine blk_drew ?_ | refine blk_alloc ?_ _)); refine blk_put (cs := #[.int .i64 x13_1, .int .i64 0]) ?_ 1 _ rfl; (with_reducible repeat (first | refine blk_drewN ?_ _ | refine blk_drew ?_ | refine blk_alloc ?_ _)); refine blk_put (cs := #[.int .i64 0, .int .i64 0]) ?_ 0 _ rfl; (with_reducible repeat (first | refine blk_drewN ?_ _ | refine blk_drew ?_ | refine blk_alloc ?_ _)); exact BK167.out⟩, ⟨by repeat (first | (with_reducible first | exact HK.out | apply Kept.alloc | apply Kept.drewN | apply Kept.drew | refine Kept.setCell ?_ (.inr GW167.out) _) | exact HK.out)⟩, ⟨qB_⟩⟩
      case rest =>
       clear HC14; (try clear c1); (try clear p2); (try clear c6); (try clear c6b0); (try clear c7); (try clear c7b0); (try clear p8); (try clear q8); (try clear hx8); (try clear hf8); (try clear c13); (try clear c13b0); (try clear c17); (try clear c17b0); (try clear hcz16_0); (try clear hcz16_1); (try clear hcz18_0); (try clear hcz18_1); (try clear hfz16_0); (try clear hfz16_1); (try clear hfz18_0); (try clear hfz18_1); (try clear hx8_0); (try clear p2); (try clear p8); (try clear q8)
       obtain ⟨kq, x168000_13, x168001_13, HA, HJ13, HO_4, HO_12, BK167, HK, HB⟩ := hcut
       cases kq with
       | zero => exact absurd HA.out (by simp [spec_l06Walk.j1])
       | succ kj13 =>
        have H := HA.out; clear HA
        simp only [spec_l06Walk.j1] at H
        have HC19 := Aside0.mk H
        clear H
        go_upto_region 9 with (fail)
        go_cut [44] (fun v44 wc => ∃ (kq : Nat) (x44_18 : Bool), v44 = .bool x44_18 ∧ Aside0 (spec_l06Walk.j2 kq a0 l1 a2 a3 x4_1 x12_1 x13_1 x44_18 = some (r1, r2, r3)) ∧ Aside0 (kq ≤ kj13) ∧ Aside0 (Kd.R Kd.bool 4 wc w0.heap.size (fun k_ => (P4_ k_ ∨ w.heap.size ≤ k_)) (.slice (some ⟨go8, 0, none⟩) x4_1.length co8) x4_1) ∧ Aside0 (Kd.R (Kd.int .i64) 3 wc w0.heap.size (fun k_ => (P4_ k_ ∨ w.heap.size ≤ k_)) u12 x12_1) ∧ Aside0 (wc.heap[gb167]? = some (.cells #[.int .i64 x168000_13, .int .i64 x168001_13] 43 (0, 0))) ∧ Aside0 (Kept w wc (fun k_ => P4_ k_)) ∧ Aside0 (Below w0.heap.size w0 wc))
        case first =>
         have H := HC19.out; clear HC19
         by_cases c20 : x13_1 = a3
         ·rw [if_pos c20] at H
          have c20b0 : (x13_1 == a3) = true := beq_iff_eq.mpr c20
          have c20b1 : (x13_1 != a3) = false := bne_eq_false_iff_eq.mpr c20
          clear c20
          (first | rw [c20b0] | (simp only [i64_w, i32_w]; rw [c20b0]) | skip)
          have H' := Aside0.mk H; clear H
          go_wp2
          go_meet
          case rel => exact ⟨_, (true), qe_, H', ⟨by have := HK1.out; have := HJ13.out; first | omega | exact Nat.le_refl _⟩, ⟨by (try simp only [hl4_1]); (with_reducible repeat (first | apply Kd.R_alloc | apply Kd.R_drewN | apply Kd.R_drew)); first | exact HO_4.out | (have h_ := HO_4.out; simp only [own_slice] at h_ ⊢; exact h_)⟩, ⟨by (try simp only [hl4_1]); (with_reducible repeat (first | apply Kd.R_alloc | apply Kd.R_drewN | apply Kd.R_drew)); first | exact HO_12.out | (have h_ := HO_12.out; simp only [own_slice] at h_ ⊢; exact h_)⟩, ⟨by (try simp only [hl4_1]); (with_reducible repeat (first | refine blk_drewN ?_ _ | refine blk_drew ?_ | refine blk_alloc ?_ _)); exact BK167.out⟩, ⟨by repeat (first | (with_reducible first | exact HK.out | apply Kept.alloc | apply Kept.drewN | apply Kept.drew | refine Kept.setCell ?_ (.inr GW167.out) _) | exact HK.out)⟩, ⟨qB_⟩⟩
         ·rw [if_neg c20] at H
          have c20b0 : (x13_1 == a3) = false := beq_eq_false_iff_ne.mpr c20
          have c20b1 : (x13_1 != a3) = true := bne_iff_ne.mpr c20
          (first | rw [c20b0] | (simp only [i64_w, i32_w]; rw [c20b0]) | skip)
          obtain ⟨t168, A210, H⟩ := Option.bind_eq_some_iff.mp H; have A21 := Aside0.mk A210; clear A210
          have H' := Aside0.mk H; clear H
          obtain ⟨hcz22_0, hcz22_1, hfz22_0, hfz22_1⟩ := bc2_ BK167
          go_wp2_with (first | (go_at_call 101; (with_reducible refine (spec_l05Has.calls kj13 _ _ l1 x168000_13 x168001_13 t168 _ ?side1 ?side2 A21.out).mono ?_); (case side1 => exact Kd.C_kept_now HR1.out (by repeat (first | (with_reducible first | exact HK.out | apply Kept.alloc | apply Kept.drewN | apply Kept.drew | refine Kept.setCell ?_ (.inr GW167.out) _) | exact HK.out))); (case side2 => exact HC1.out); rintro e w23 ⟨rfl, hb⟩; replace HO_4 := Aside0.mk (Kd.R_below (qR_ HO_4) hb); replace HO_12 := Aside0.mk (Kd.R_below (qR_ HO_12) hb); replace BK167 := Aside0.mk (blk_below (qk_ BK167) hb); replace HK := Aside0.mk (Kept.below (S := (fun k_ => P4_ k_)) (by repeat (first | (with_reducible first | exact HK.out | apply Kept.alloc | apply Kept.drewN | apply Kept.drew | refine Kept.setCell ?_ (.inr GW167.out) _) | exact HK.out)) hb); replace HB := Aside0.mk (below_step qB_ hb); (try clear hb); (try clear hb2); (try clear hk); (try clear hi)))
          go_meet
          case rel => exact ⟨_, (!t168), qe_, H', ⟨by have := HK1.out; have := HJ13.out; first | omega | exact Nat.le_refl _⟩, ⟨by (try simp only [hl4_1]); (with_reducible repeat (first | apply Kd.R_alloc | apply Kd.R_drewN | apply Kd.R_drew)); first | exact HO_4.out | (have h_ := HO_4.out; simp only [own_slice] at h_ ⊢; exact h_)⟩, ⟨by (try simp only [hl4_1]); (with_reducible repeat (first | apply Kd.R_alloc | apply Kd.R_drewN | apply Kd.R_drew)); first | exact HO_12.out | (have h_ := HO_12.out; simp only [own_slice] at h_ ⊢; exact h_)⟩, ⟨by (try simp only [hl4_1]); (with_reducible repeat (first | refine blk_drewN ?_ _ | refine blk_drew ?_ | refine blk_alloc ?_ _)); exact BK167.out⟩, ⟨by repeat (first | (with_reducible first | exact HK.out | apply Kept.alloc | apply Kept.drewN | apply Kept.drew | refine Kept.setCell ?_ (.inr GW167.out) _) | exact HK.out)⟩, ⟨qB_⟩⟩
        case rest =>
         clear HC19; (try clear c1); (try clear c2); (try clear p2); (try clear c6); (try clear c6b0); (try clear c7); (try clear c7b0); (try clear p8); (try clear q8); (try clear hx8); (try clear hf8); (try clear c13); (try clear c13b0); (try clear c17); (try clear c17b0); (try clear c20); (try clear c20b0); (try clear c20b1); (try clear hcz16_0); (try clear hcz16_1); (try clear hcz18_0); (try clear hcz18_1); (try clear hcz22_0); (try clear hcz22_1); (try clear hfz16_0); (try clear hfz16_1); (try clear hfz18_0); (try clear hfz18_1); (try clear hfz22_0); (try clear hfz22_1); (try clear hx8_0); (try clear p2); (try clear p8); (try clear q8)
         obtain ⟨kq, x44_18, rfl, HA, HJ18, HO_4, HO_12, BK167, HK, HB⟩ := hcut
         cases kq with
         | zero => exact absurd HA.out (by simp [spec_l06Walk.j2])
         | succ kj18 =>
          have H := HA.out; clear HA
          simp only [spec_l06Walk.j2] at H
          by_cases c24 : x44_18 = true
          ·subst c24
           rw [if_pos rfl] at H; have H' := Aside0.mk H; clear H
           go_wp2
           (try simp only [← hl4_1])
           go_roundg kj18
           case measure => have := HK1.out; have := HJ13.out; have := HJ18.out; omega
           case rel => exact ⟨(x4_1), (x12_1), (wrap64 (x13_1 + 1)), qe_, H', ⟨by have := HK1.out; have := HJ13.out; have := HJ18.out; omega⟩, ⟨by (try simp only [hl4_1]); (with_reducible repeat (first | apply Kd.R_alloc | apply Kd.R_drewN | apply Kd.R_drew)); first | exact HO_4.out | (have h_ := HO_4.out; simp only [own_slice] at h_ ⊢; exact h_)⟩, ⟨by (try simp only [hl4_1]); (with_reducible repeat (first | apply Kd.R_alloc | apply Kd.R_drewN | apply Kd.R_drew)); first | exact HO_12.out | (have h_ := HO_12.out; simp only [own_slice] at h_ ⊢; exact h_)⟩, ⟨by repeat (first | (with_reducible first | exact HK.out | apply Kept.alloc | apply Kept.drewN | apply Kept.drew | refine Kept.setCell ?_ (.inr GW167.out) _) | exact HK.out)⟩, ⟨qB_⟩⟩
          ·replace c24 := Bool.eq_false_iff.mpr c24
           subst c24
           rw [if_neg (show ¬ (false = true) by decide)] at H
           by_cases c25 : 0 ≤ x13_1
           ·rw [if_pos c25] at H
            have c25b0 : decide (0 ≤ x13_1) = true := decide_eq_true c25
            clear c25
            by_cases c26 : x13_1 < (x4_1.length : Int)
            ·rw [if_pos c26] at H
             have c26b0 : decide (x13_1 < (x4_1.length : Int)) = true := decide_eq_true c26
             clear c26
             obtain ⟨bq27, hbq27⟩ : ∃ b_ : Bool, b_ = (rdOf false x4_1 x13_1) := ⟨_, rfl⟩
             replace H : (if bq27 = true then (some (x12_1, true, x4_1)) else ((spec_l06Walk.f kj18 a0 l1 x13_1 a2 x4_1).bind fun bt170 => (if bt170.2.1 = true then (some (x12_1, true, bt170.2.2)) else (if x12_1.length + bt170.1.length < 17592186044416 then ((some (x12_1 ++ bt170.1 : List Int)).bind fun y175 => (if y175.length < 17592186044416 then (spec_l06Walk.l0 kj18 a0 l1 a2 a3 bt170.2.2 (y175 ++ [a2]) (wrap64 (x13_1 + 1))) else (none))) else (none))))) = some (r1, r2, r3) := by rw [← hbq27] at H; exact H
             have Nbq27 := Aside0.mk hbq27
             clear hbq27
             by_cases c28 : bq27 = true
             ·subst c28
              rw [if_pos rfl] at H
              simp only [Option.some.injEq, Prod.mk.injEq] at H
              obtain ⟨rfl, rfl, rfl⟩ := H
              have p169 : 0 ≤ (x13_1 : Int) := of_decide_eq_true qa_
              have q169 : x13_1 < (x4_1.length : Int) := of_decide_eq_true qa_
              obtain ⟨ad169, e169, hx169_0⟩ := Kd.at_bool (Kd.R_reads' HO_4.out).2.2 x13_1 p169 q169
              (try rw [← Nbq27.out] at hx169_0)
              obtain rfl : (⟨go8, 0, none⟩ : Addr) = ad169 := (by injection e169)
              (first | simp only [add_plain] at hx169_0 | simp only [add_at] at hx169_0 | simp only [Addr.add, Nat.zero_add] at hx169_0 | skip)
              (try simp only [add_plain] at *)
              replace p169 := eq_true p169; replace q169 := eq_true q169
              go_wp2
              go_ret2
              exact ⟨_, qr_, by (with_reducible repeat (first | apply Kd.R_alloc | apply Kd.R_drewN | apply Kd.R_drew)); exact HO_12.out, (by first | exact (qR_ HO_4) | (simp only [hl4_1]; exact (qR_ HO_4))), by repeat (first | (with_reducible first | exact HB.out | apply below_alloc | apply pw_below_drewN | apply below_drew1 | refine below_set ?_ GE167.out) | exact HB.out), by repeat (first | (with_reducible first | exact HK.out | apply Kept.alloc | apply Kept.drewN | apply Kept.drew | refine Kept.setCell ?_ (.inr GW167.out) _) | exact HK.out)⟩
             ·replace c28 := Bool.eq_false_iff.mpr c28
              subst c28
              rw [if_neg (show ¬ (false = true) by decide)] at H
              replace H := Option.bind_eq_some_iff.mp H
              obtain ⟨⟨t170, t173, t174⟩, A290, H⟩ := H
              replace H : (if t173 = true then (some (x12_1, true, t174)) else (if x12_1.length + t170.length < 17592186044416 then ((some (x12_1 ++ t170 : List Int)).bind fun y175 => (if y175.length < 17592186044416 then (spec_l06Walk.l0 kj18 a0 l1 a2 a3 t174 (y175 ++ [a2]) (wrap64 (x13_1 + 1))) else (none))) else (none))) = some (r1, r2, r3) := H
              have A29 := Aside0.mk A290
              clear A290
              by_cases c30 : t173 = true
              ·subst c30
               rw [if_pos rfl] at H
               simp only [Option.some.injEq, Prod.mk.injEq] at H
               obtain ⟨rfl, rfl, rfl⟩ := H
               have p169 : 0 ≤ (x13_1 : Int) := of_decide_eq_true qa_
               have q169 : x13_1 < (x4_1.length : Int) := of_decide_eq_true qa_
               obtain ⟨ad169, e169, hx169_0⟩ := Kd.at_bool (Kd.R_reads' HO_4.out).2.2 x13_1 p169 q169
               (try rw [← Nbq27.out] at hx169_0)
               obtain rfl : (⟨go8, 0, none⟩ : Addr) = ad169 := (by injection e169)
               (first | simp only [add_plain] at hx169_0 | simp only [add_at] at hx169_0 | simp only [Addr.add, Nat.zero_add] at hx169_0 | skip)
               (try simp only [add_plain] at *)
               replace p169 := eq_true p169; replace q169 := eq_true q169
               go_wp2_with (first | ((with_reducible refine gate_callee (f := 136) rfl ?_); refine gl_ (some 56) Try.func136 #[.int .i64 a0, .slice A1 l1.length c1, .int .i64 x13_1, .int .i64 a2, .slice (some ⟨go8, 0, none⟩) x4_1.length co8] ?_; (with_reducible refine (ih kj18 (by have := HK1.out; have := HJ13.out; have := HJ18.out; omega) a0 _ _ l1 x13_1 a2 (fun k_ => some k_ = (.slice (some ⟨go8, 0, none⟩) x4_1.length co8 : Value).ownBlock) (.slice (some ⟨go8, 0, none⟩) x4_1.length co8) x4_1 t170 true t174 w0 _ ?side1 ?side2 ?side3 ?side4 A29.out).mono ?_); (case side1 => repeat (first | (with_reducible first | exact HB.out | apply below_alloc | apply pw_below_drewN | apply below_drew1 | refine below_set ?_ GE167.out) | exact HB.out)); (case side2 => exact Kd.C_kept_call HR1.out (by repeat (first | (with_reducible first | exact HK.out | apply Kept.alloc | apply Kept.drewN | apply Kept.drew | refine Kept.setCell ?_ (.inr GW167.out) _) | exact HK.out)) (fun k_ hs_ => (fun e_ => (HO_4.out.1 k_ e_.symm)) hs_)); (case side3 => exact HC1.out); (case side4 => exact Kd.R_tight rfl HO_4.out); rintro e w31 ⟨v171, rfl, ho0, hy0, hb, hkp⟩; refine ⟨_, rfl, ?_⟩; have n0_ := Aside0.mk (Kd.R_reok rfl hy0 (fun k_ e_ => HO_4.out.1 k_ e_)); have n1_ := Aside0.mk (Kd.R_mono (ok' := fun k_ => (P4_ k_ ∨ w.heap.size ≤ k_) ∧ some k_ ≠ (v171 : Value).ownBlock) (Kd.R_keptB ((Kd.R_apart' HO_12.out (Kd.R_typed HO_4.out) (by decide))) hkp (fun k_ hk_ hs_ => (hk_.2) hs_)) (fun k_ hk_ => ⟨hk_.1.1, fun e_ => Or.elim (ho0.1 k_ e_.symm) (fun hs_ => hk_.2.1 hs_) (fun hn_ => Nat.not_le.2 hk_.2.2 hn_)⟩)); have n2_ := Aside0.mk (blk_kept (qk_ BK167) hkp (fun hs_ => (fun e_ => (Kd.R_ne HO_4.out BK167.out (by decide)) e_) hs_)); have n3_ := Aside0.mk (Kd.R_mono (ok' := fun k_ => (P4_ k_ ∨ w.heap.size ≤ k_) ∧ some k_ ≠ (u12 : Value).ownBlock) ho0 (fun k_ hk_ => ⟨Or.elim hk_ (fun hs_ => (HO_4.out.1 k_ (hs_).symm)) (fun hn_ => (.inr (Nat.le_trans (by first | exact HK.out.1 | exact (show Kept w _ (fun k_ => P4_ k_) from by repeat (first | (with_reducible first | exact HK.out | apply Kept.alloc | apply Kept.drewN | apply Kept.drew | refine Kept.setCell ?_ (.inr GW167.out) _) | exact HK.out)).1) hn_))), Or.elim hk_ (fun hs_ => fun e_ => ((((Kd.R_apart' HO_12.out (Kd.R_typed HO_4.out) (by decide))).1 k_ e_.symm).2) hs_) (fun hn_ => (Kd.fresh' (Kd.R_lt (qR_ HO_12)) k_ hn_))⟩)); have n4_ := Aside0.mk (Kept.then_ (S := (fun k_ => P4_ k_)) (by repeat (first | (with_reducible first | exact HK.out | apply Kept.alloc | apply Kept.drewN | apply Kept.drew | refine Kept.setCell ?_ (.inr GW167.out) _) | exact HK.out)) hkp (fun k_ hs_ => (fun e_ => (HO_4.out.1 k_ e_.symm)) hs_)); have n5_ := Aside0.mk (hb); clear HO_4; clear HO_12; clear BK167; clear HK; clear HB; have HO_4 := n0_; have HO_12 := n1_; have BK167 := n2_; have HO172 := n3_; have HK := n4_; have HB := n5_; clear n0_ n1_ n2_ n3_ n4_ n5_; (try clear hb); (try clear hkp); (try clear ho0); (try clear hy0)))
               go_ret2
               exact ⟨_, qr_, by (with_reducible repeat (first | apply Kd.R_alloc | apply Kd.R_drewN | apply Kd.R_drew)); exact Kd.R_mono HO_12.out (fun _ hk => hk.1), (by first | exact (qR_ HO_4) | (simp only [hl4_1]; exact (qR_ HO_4))), by repeat (first | (with_reducible first | exact HB.out | apply below_alloc | apply pw_below_drewN | apply below_drew1 | refine below_set ?_ GE167.out) | exact HB.out), by repeat (first | (with_reducible first | exact HK.out | apply Kept.alloc | apply Kept.drewN | apply Kept.drew | refine Kept.setCell ?_ (.inr GW167.out) _) | exact HK.out)⟩
              ·replace c30 := Bool.eq_false_iff.mpr c30
               subst c30
               rw [if_neg (show ¬ (false = true) by decide)] at H
               by_cases c32 : x12_1.length + t170.length < 17592186044416
               ·rw [if_pos c32] at H
                have LMc32 := Aside0.mk c32
                clear c32
                obtain ⟨y175, hy175⟩ : ∃ y_ : List Int, y_ = (x12_1 ++ t170) := ⟨_, rfl⟩
                replace H : (if y175.length < 17592186044416 then (spec_l06Walk.l0 kj18 a0 l1 a2 a3 t174 (y175 ++ [a2]) (wrap64 (x13_1 + 1))) else (none)) = some (r1, r2, r3) := by first | (rw [hy175]; with_reducible exact H) | (have H2_ := (Option.bind_some _ _).symm.trans H; rw [hy175]; with_reducible exact H2_) | (have H2_ := (Option.bind_some _ _).symm.trans H; with_reducible exact H2_) | with_reducible exact H | (rw [hy175]; exact H) | exact H
                have Ny175 := Aside0.mk hy175
                clear hy175
                by_cases c33 : y175.length < 17592186044416
                ·rw [if_pos c33] at H
                 have LMc33 := Aside0.mk c33
                 clear c33
                 obtain ⟨y178, hy178⟩ : ∃ y_ : List Int, y_ = (y175 ++ [a2]) := ⟨_, rfl⟩
                 replace H : (spec_l06Walk.l0 kj18 a0 l1 a2 a3 t174 y178 (wrap64 (x13_1 + 1))) = some (r1, r2, r3) := by first | (rw [hy178]; with_reducible exact H) | (have H2_ := (Option.bind_some _ _).symm.trans H; rw [hy178]; with_reducible exact H2_) | (have H2_ := (Option.bind_some _ _).symm.trans H; with_reducible exact H2_) | with_reducible exact H | (rw [hy178]; exact H) | exact H
                 have Ny178 := Aside0.mk hy178
                 clear hy178; have H' := Aside0.mk H; clear H
                 have p169 : 0 ≤ (x13_1 : Int) := of_decide_eq_true qa_
                 have q169 : x13_1 < (x4_1.length : Int) := of_decide_eq_true qa_
                 obtain ⟨ad169, e169, hx169_0⟩ := Kd.at_bool (Kd.R_reads' HO_4.out).2.2 x13_1 p169 q169
                 (try rw [← Nbq27.out] at hx169_0)
                 obtain rfl : (⟨go8, 0, none⟩ : Addr) = ad169 := (by injection e169)
                 (first | simp only [add_plain] at hx169_0 | simp only [add_at] at hx169_0 | simp only [Addr.add, Nat.zero_add] at hx169_0 | skip)
                 (try simp only [add_plain] at *)
                 replace p169 := eq_true p169; replace q169 := eq_true q169
                 go_wp2_with (first | ((with_reducible refine gate_callee (f := 136) rfl ?_); refine gl_ (some 56) Try.func136 #[.int .i64 a0, .slice A1 l1.length c1, .int .i64 x13_1, .int .i64 a2, .slice (some ⟨go8, 0, none⟩) x4_1.length co8] ?_; (with_reducible refine (ih kj18 (by have := HK1.out; have := HJ13.out; have := HJ18.out; omega) a0 _ _ l1 x13_1 a2 (fun k_ => some k_ = (.slice (some ⟨go8, 0, none⟩) x4_1.length co8 : Value).ownBlock) (.slice (some ⟨go8, 0, none⟩) x4_1.length co8) x4_1 t170 false t174 w0 _ ?side1 ?side2 ?side3 ?side4 A29.out).mono ?_); (case side1 => repeat (first | (with_reducible first | exact HB.out | apply below_alloc | apply pw_below_drewN | apply below_drew1 | refine below_set ?_ GE167.out) | exact HB.out)); (case side2 => exact Kd.C_kept_call HR1.out (by repeat (first | (with_reducible first | exact HK.out | apply Kept.alloc | apply Kept.drewN | apply Kept.drew | refine Kept.setCell ?_ (.inr GW167.out) _) | exact HK.out)) (fun k_ hs_ => (fun e_ => (HO_4.out.1 k_ e_.symm)) hs_)); (case side3 => exact HC1.out); (case side4 => exact Kd.R_tight rfl HO_4.out); rintro e w34 ⟨v171, rfl, ho0, hy0, hb, hkp⟩; refine ⟨_, rfl, ?_⟩; have n0_ := Aside0.mk (Kd.R_reok rfl hy0 (fun k_ e_ => HO_4.out.1 k_ e_)); have n1_ := Aside0.mk (Kd.R_mono (ok' := fun k_ => (P4_ k_ ∨ w.heap.size ≤ k_) ∧ some k_ ≠ (v171 : Value).ownBlock) (Kd.R_keptB ((Kd.R_apart' HO_12.out (Kd.R_typed HO_4.out) (by decide))) hkp (fun k_ hk_ hs_ => (hk_.2) hs_)) (fun k_ hk_ => ⟨hk_.1.1, fun e_ => Or.elim (ho0.1 k_ e_.symm) (fun hs_ => hk_.2.1 hs_) (fun hn_ => Nat.not_le.2 hk_.2.2 hn_)⟩)); have n2_ := Aside0.mk (blk_kept (qk_ BK167) hkp (fun hs_ => (fun e_ => (Kd.R_ne HO_4.out BK167.out (by decide)) e_) hs_)); have n3_ := Aside0.mk (Kd.R_mono (ok' := fun k_ => (P4_ k_ ∨ w.heap.size ≤ k_) ∧ some k_ ≠ (u12 : Value).ownBlock) ho0 (fun k_ hk_ => ⟨Or.elim hk_ (fun hs_ => (HO_4.out.1 k_ (hs_).symm)) (fun hn_ => (.inr (Nat.le_trans (by first | exact HK.out.1 | exact (show Kept w _ (fun k_ => P4_ k_) from by repeat (first | (with_reducible first | exact HK.out | apply Kept.alloc | apply Kept.drewN | apply Kept.drew | refine Kept.setCell ?_ (.inr GW167.out) _) | exact HK.out)).1) hn_))), Or.elim hk_ (fun hs_ => fun e_ => ((((Kd.R_apart' HO_12.out (Kd.R_typed HO_4.out) (by decide))).1 k_ e_.symm).2) hs_) (fun hn_ => (Kd.fresh' (Kd.R_lt (qR_ HO_12)) k_ hn_))⟩)); have n4_ := Aside0.mk (Kept.then_ (S := (fun k_ => P4_ k_)) (by repeat (first | (with_reducible first | exact HK.out | apply Kept.alloc | apply Kept.drewN | apply Kept.drew | refine Kept.setCell ?_ (.inr GW167.out) _) | exact HK.out)) hkp (fun k_ hs_ => (fun e_ => (HO_4.out.1 k_ e_.symm)) hs_)); have n5_ := Aside0.mk (hb); clear HO_4; clear HO_12; clear BK167; clear HK; clear HB; have HO_4 := n0_; have HO_12 := n1_; have BK167 := n2_; have HO172 := n3_; have HK := n4_; have HB := n5_; clear n0_ n1_ n2_ n3_ n4_ n5_; (try clear hb); (try clear hkp); (try clear ho0); (try clear hy0); obtain ⟨Ao36, co36, eo36⟩ := Kd.R_slice HO172.out; subst eo36) | ((with_reducible refine gate_builtin (b := .append) (xs := #[.tmp 61, .tmp 62]) rfl ?_); at_builtin; refine Kd.R_append_rows (Kd.int .i64) (w0 := w0) w0.heap.size rfl (.tmp 61) (.tmp 62) 51 3 (.int .i64 0) 8 rfl Try.underlying51 info3 rfl (by decide) (by omega) u12 x12_1 t170 _ _ _ (fun k_ => (P4_ k_ ∨ w.heap.size ≤ k_) ∧ some k_ ≠ (.slice Ao36 t170.length co36 : Value).ownBlock) (fun _ => False) rfl rfl ?aO ?aR (fun _ _ h => h) (fun _ h => h.elim) ?aF ?aB ?aS ?aL ?_; (case aR => repeat (first | exact (Kd.R_reads' HO172.out).2.2 | (with_reducible refine Kd.C_alloc ?_ _) | (with_reducible refine Kd.C_drewN ?_ _) | (with_reducible refine Kd.C_drew ?_))); (case aB => exact qB_); (case aF => exact (fun k_ hk => ⟨(.inr (Nat.le_trans (by first | exact HK.out.1 | exact (show Kept w _ (fun k_ => P4_ k_) from by repeat (first | (with_reducible first | exact HK.out | apply Kept.alloc | apply Kept.drewN | apply Kept.drew | refine Kept.setCell ?_ (.inr GW167.out) _) | exact HK.out)).1) hk)), Kd.fresh' (Kd.R_lt (qR_ HO172)) k_ hk⟩)); (case aO => exact (qR_ HO_12)); (case aS => exact (below_size qB_)); (case aL => have := LMc32.out; omega); intro v176 w35 ho hb hg hat; rw [← Ny175.out] at ho; have HO177 := Aside0.mk (ho); replace HO_4 := Aside0.mk (Kd.R_over' (qR_ HO_4) (Kd.R_typed (qR_ HO_12)) (by decide) hg); replace BK167 := Aside0.mk (blk_grown (qk_ BK167) hg (Kd.R_ne HO_12.out BK167.out (by decide))); replace HO172 := Aside0.mk (Kd.R_after (ok := (fun k_ => (P4_ k_ ∨ w.heap.size ≤ k_))) (qR_ HO172) hg hat); replace HK := Aside0.mk (Kept.of_grown (S := (fun k_ => P4_ k_)) hg (by repeat (first | (with_reducible first | exact HK.out | apply Kept.alloc | apply Kept.drewN | apply Kept.drew | refine Kept.setCell ?_ (.inr GW167.out) _) | exact HK.out)) (fun k_ e_ => (HO_12.out.1 k_ e_).1)); replace HB := Aside0.mk (hb); clear HO_12; clear ho hb hg hat) | ((with_reducible refine gate_builtin (b := .append) (xs := #[.tmp 63, .tmp 65]) rfl ?_); at_builtin; refine Kd.R_append (Kd.int .i64) (w0 := w0) w0.heap.size rfl (.tmp 63) (.tmp 65) 51 3 (.int .i64 0) 8 rfl Try.underlying51 info3 rfl (by decide) (by omega) v176 y175 a2 [.int .i64 a2] (fun k_ => (P4_ k_ ∨ w.heap.size ≤ k_) ∧ some k_ ≠ (.slice Ao36 t170.length co36 : Value).ownBlock) (fun _ => False) rfl rfl ?aP (fun _ hk => hk.elim) ?aF ?aO ?aB ?aS ?aL ?_; (case aP => exact rfl); (case aB => exact qB_); (case aF => exact (fun k_ hk => ⟨(.inr (Nat.le_trans (by first | exact HK.out.1 | exact (show Kept w _ (fun k_ => P4_ k_) from by repeat (first | (with_reducible first | exact HK.out | apply Kept.alloc | apply Kept.drewN | apply Kept.drew | refine Kept.setCell ?_ (.inr GW167.out) _) | exact HK.out)).1) hk)), Kd.fresh' (Kd.R_lt (qR_ HO172)) k_ hk⟩)); (case aO => exact (qR_ HO177)); (case aS => exact (below_size qB_)); (case aL => have := LMc33.out; omega); intro v179 w37 ho hb hg hat; rw [← Ny178.out] at ho; have HO180 := Aside0.mk (ho); replace HO_4 := Aside0.mk (Kd.R_over' (qR_ HO_4) (Kd.R_typed (qR_ HO177)) (by decide) hg); replace BK167 := Aside0.mk (blk_grown (qk_ BK167) hg (Kd.R_ne HO177.out BK167.out (by decide))); replace HO172 := Aside0.mk (Kd.R_after (ok := (fun k_ => (P4_ k_ ∨ w.heap.size ≤ k_))) (qR_ HO172) hg hat); replace HK := Aside0.mk (Kept.of_grown (S := (fun k_ => P4_ k_)) hg (by repeat (first | (with_reducible first | exact HK.out | apply Kept.alloc | apply Kept.drewN | apply Kept.drew | refine Kept.setCell ?_ (.inr GW167.out) _) | exact HK.out)) (fun k_ e_ => (HO177.out.1 k_ e_).1)); replace HB := Aside0.mk (hb); clear HO177; clear ho hb hg hat))
                 (try simp only [← hl4_1])
                 go_roundg kj18
                 case measure => have := HK1.out; have := HJ13.out; have := HJ18.out; omega
                 case rel => exact ⟨(t174), (y178), (wrap64 (x13_1 + 1)), qe_, H', ⟨by have := HK1.out; have := HJ13.out; have := HJ18.out; omega⟩, ⟨by (try simp only [hl4_1]); (with_reducible repeat (first | apply Kd.R_alloc | apply Kd.R_drewN | apply Kd.R_drew)); first | exact HO_4.out | (have h_ := HO_4.out; simp only [own_slice] at h_ ⊢; exact h_)⟩, ⟨by (try simp only [hl4_1]); (with_reducible repeat (first | apply Kd.R_alloc | apply Kd.R_drewN | apply Kd.R_drew)); exact Kd.R_mono HO180.out (fun _ hk => hk.1)⟩, ⟨by repeat (first | (with_reducible first | exact HK.out | apply Kept.alloc | apply Kept.drewN | apply Kept.drew | refine Kept.setCell ?_ (.inr GW167.out) _) | exact HK.out)⟩, ⟨qB_⟩⟩
                ·rw [if_neg c33] at H
                 exact absurd H (by simp)
               ·rw [if_neg c32] at H
                exact absurd H (by simp)
            ·rw [if_neg c26] at H
             exact absurd H (by simp)
           ·rw [if_neg c25] at H
            exact absurd H (by simp)
     ·rw [if_neg c13] at H
      have c13b0 : decide (x13_1 < a0) = false := decide_eq_false c13
      clear c13
      simp only [Option.some.injEq, Prod.mk.injEq] at H
      obtain ⟨rfl, rfl, rfl⟩ := H
      go_wp2
      go_ret2
      exact ⟨_, qr_, by (with_reducible repeat (first | apply Kd.R_alloc | apply Kd.R_drewN | apply Kd.R_drew)); exact HO_12.out, (by first | exact (qR_ HO_4) | (simp only [hl4_1]; exact (qR_ HO_4))), by repeat (first | (with_reducible first | exact HB.out | apply below_alloc | apply pw_below_drewN | apply below_drew1) | exact HB.out), by repeat (first | (with_reducible first | exact HK.out | apply Kept.alloc | apply Kept.drewN | apply Kept.drew) | exact HK.out)⟩
  ·rw [if_neg c7] at H
   exact absurd H (by simp)
 ·rw [if_neg c6] at H
  exact absurd H (by simp)

/-! ### spec_TourOf: function 109 -/
mutual
def spec_TourOf.j0 : Nat → Int → List (S43) → Int → Bool → Option (List Int × Bool)
  | 0, _, _, _, _ => none
  | k + 1, x0, x1, x2, x20 => if x20 = true then (some ((([] : List Int)), false)) else (spec_TourOf.l0 k x0 x1 x2 0)
def spec_TourOf.l0 : Nat → Int → List (S43) → Int → Int → Option (List Int × Bool)
  | 0, _, _, _, _ => none
  | k + 1, x0, x1, x2, x8 => if x8 < (x1.length : Int) then (if 0 ≤ x8 then ((spec_EdgeOk.f x0 ((rd_T43 x1 x8).f0) ((rd_T43 x1 x8).f1)).bind fun t187 => (if t187 = true then (spec_TourOf.l0 k x0 x1 x2 (wrap64 (x8 + 1))) else (some ((([] : List Int)), false)))) else (none)) else (if 0 ≤ x0 then (if (x0 : Int).toNat ≤ 281474976710656 then ((spec_l06Walk.f k x0 x1 x2 (-1) (List.replicate (x0 : Int).toNat false)).bind fun bt194 => (if bt194.2.1 = true then (some ((([] : List Int)), false)) else (some (bt194.1, true)))) else (none)) else (none))
end
def spec_TourOf.f (k : Nat) (a0 : Int) (l1 : List (S43)) (a2 : Int) : Option (List Int × Bool) := (spec_l01In.f a0 1 12).bind fun t181 => (if t181 = true then ((spec_l01In.f a2 0 (wrap64 (a0 - 1))).bind fun t182 => (spec_TourOf.j0 k a0 l1 a2 (!t182))) else (spec_TourOf.j0 k a0 l1 a2 true))
theorem spec_TourOf.mono_l : ∀ k, (∀ y0 y1 y2 y3, LeO (spec_TourOf.j0 k y0 y1 y2 y3) (spec_TourOf.j0 (k + 1) y0 y1 y2 y3)) ∧ (∀ y0 y1 y2 y3, LeO (spec_TourOf.l0 k y0 y1 y2 y3) (spec_TourOf.l0 (k + 1) y0 y1 y2 y3))
  | 0 => ⟨fun _ _ _ _ r h => by simp [spec_TourOf.j0] at h, fun _ _ _ _ r h => by simp [spec_TourOf.l0] at h⟩
  | k + 1 => by
    obtain ⟨ih0, ih1⟩ := spec_TourOf.mono_l k
    refine ⟨?_, ?_⟩ <;> (intros; first | unfold spec_TourOf.j0 | unfold spec_TourOf.l0) <;> repeat' first
    | (with_reducible exact ih0 _ _ _ _)
    | (with_reducible exact ih1 _ _ _ _)
    | (with_reducible exact spec_l06Walk.mono _ _ _ _ _ _)
    | (with_reducible exact LeO.refl _)
    | (with_reducible exact LeO.none _)
    | (with_reducible refine LeO.ite ?_ ?_)
    | (with_reducible refine LeO.bind ?_ (fun _ => ?_))
    | exact ih0 _ _ _ _
    | exact ih1 _ _ _ _
    | exact spec_l06Walk.mono _ _ _ _ _ _
    | exact LeO.none _
    | refine LeO.ite ?_ ?_
    | refine LeO.bind ?_ (fun _ => ?_)
theorem spec_TourOf.mono : ∀ a0 a1 a2 k, LeO (spec_TourOf.f k a0 a1 a2) (spec_TourOf.f (k + 1) a0 a1 a2) := by
  intro a0 a1 a2 k
  obtain ⟨ih0, ih1⟩ := spec_TourOf.mono_l k
  unfold spec_TourOf.f
  repeat' first
      | (with_reducible exact ih0 _ _ _ _)
      | (with_reducible exact ih1 _ _ _ _)
      | (with_reducible exact spec_l06Walk.mono _ _ _ _ _ _)
      | (with_reducible exact LeO.refl _)
      | (with_reducible exact LeO.none _)
      | (with_reducible refine LeO.ite ?_ ?_)
      | (with_reducible refine LeO.bind ?_ (fun _ => ?_))
      | exact ih0 _ _ _ _
      | exact ih1 _ _ _ _
      | exact spec_l06Walk.mono _ _ _ _ _ _
      | exact LeO.none _
      | refine LeO.ite ?_ ?_
      | refine LeO.bind ?_ (fun _ => ?_)
set_option maxHeartbeats 8000000 in
set_option maxRecDepth 100000 in
theorem spec_TourOf.calls (k : Nat) (a0 : Int) (A1 : Option Addr) (c1 : Nat) (l1 : List (S43)) (a2 : Int) (r1 : List Int) (r2 : Bool) (w : World) (hr1 : Kd.C k43 w A1 l1.length l1) (hc1 : l1.length ≤ c1) (h : spec_TourOf.f k a0 l1 a2 = some (r1, r2)) :
  Calls Try.prog 109 #[.int .i64 a0, .slice A1 l1.length c1, .int .i64 a2] w fun e w' => ∃ v0_ : Value, e = .returned (.tuple #[v0_, .bool r2]) ∧ Kd.R (Kd.int .i64) 3 w' w.heap.size (fun _ => True) v0_ r1 ∧ Below w.heap.size w w' := by
 have hu43 := Try.underlying43
 have HR1 := Aside0.mk hr1
 have HC1 := Aside0.mk hc1
 clear hr1 hc1
 have HB := Aside0.mk (Below.refl w.heap.size w)
 have H : ((spec_l01In.f a0 1 12).bind fun t181 => (if t181 = true then ((spec_l01In.f a2 0 (wrap64 (a0 - 1))).bind fun t182 => (spec_TourOf.j0 k a0 l1 a2 (!t182))) else (spec_TourOf.j0 k a0 l1 a2 true))) = some (r1, r2) := h
 clear h
 have HC4 := Aside0.mk H
 clear H
 go_enter Try.func109, Try.ntmps109
 go_upto_region 1 with (fail)
 go_cut [20] (fun v20 wc => ∃ (kq : Nat) (x20_3 : Bool), v20 = .bool x20_3 ∧ Aside0 (spec_TourOf.j0 kq a0 l1 a2 x20_3 = some (r1, r2)) ∧ Aside0 (kq ≤ k) ∧ Aside0 (Below w.heap.size w wc))
 case first =>
  have H := HC4.out; clear HC4
  obtain ⟨t181, A50, H⟩ := Option.bind_eq_some_iff.mp H; have A5 := Aside0.mk A50; clear A50
  by_cases c6 : t181 = true
  ·subst c6
   rw [if_pos rfl] at H
   obtain ⟨t182, A70, H⟩ := Option.bind_eq_some_iff.mp H; have A7 := Aside0.mk A70; clear A70
   have H' := Aside0.mk H; clear H
   go_wp2_with (first | ((with_reducible refine gate_callee (f := 57) rfl ?_); refine gl_ (some 12) Try.func57 #[.int .i64 a0, .int .i64 1, .int .i64 12] ?_; (with_reducible refine (spec_l01In.calls a0 1 12 true _ A5.out).mono ?_); rintro e w' ⟨rfl, ⟨nd, rfl⟩⟩; refine ⟨_, rfl, ?_⟩) | (go_at_call 57; (with_reducible refine (spec_l01In.calls a2 0 (wrap64 (a0 - 1)) t182 _ A7.out).mono ?_); rintro e w' ⟨rfl, ⟨nd, rfl⟩⟩))
   go_meet
   case rel => exact ⟨_, (!t182), qe_, H', ⟨qo_⟩, ⟨qB_⟩⟩
  ·replace c6 := Bool.eq_false_iff.mpr c6
   subst c6
   rw [if_neg (show ¬ (false = true) by decide)] at H; have H' := Aside0.mk H; clear H
   go_wp2_with (first | ((with_reducible refine gate_callee (f := 57) rfl ?_); refine gl_ (some 12) Try.func57 #[.int .i64 a0, .int .i64 1, .int .i64 12] ?_; (with_reducible refine (spec_l01In.calls a0 1 12 false _ A5.out).mono ?_); rintro e w' ⟨rfl, ⟨nd, rfl⟩⟩; refine ⟨_, rfl, ?_⟩))
   go_meet
   case rel => exact ⟨_, (true), qe_, H', ⟨qo_⟩, ⟨qB_⟩⟩
 case rest =>
  clear HC4; (try clear c1); (try clear p2); (try clear c5); (try clear c6); (try clear p6)
  obtain ⟨kq, x20_3, rfl, HA, HJ3, HB⟩ := hcut
  cases kq with
  | zero => exact absurd HA.out (by simp [spec_TourOf.j0])
  | succ kj3 =>
   have H := HA.out; clear HA
   simp only [spec_TourOf.j0] at H
   by_cases c8 : x20_3 = true
   ·subst c8
    rw [if_pos rfl] at H
    obtain ⟨y183, hy183⟩ : ∃ y_ : List Int, y_ = (([] : List Int)) := ⟨_, rfl⟩
    replace H : (some (y183, false)) = some (r1, r2) := by first | (rw [hy183]; with_reducible exact H) | (have H2_ := (Option.bind_some _ _).symm.trans H; rw [hy183]; with_reducible exact H2_) | (have H2_ := (Option.bind_some _ _).symm.trans H; with_reducible exact H2_) | with_reducible exact H | (rw [hy183]; exact H) | exact H
    have Ny183 := Aside0.mk hy183
    clear hy183
    simp only [Option.some.injEq, Prod.mk.injEq] at H
    obtain ⟨rfl, rfl⟩ := H
    go_wp2_with (first | ((with_reducible refine gate_dst (N := 21) rfl ?_); refine Kd.R_lit (Kd.int .i64) _ 3 ?hg (N := 21) ?hd (xs := ([] : List Int)) (inner := []) (ok := fun _ => True) (okp := fun _ => True) ?hr ?hp (fun _ hk => hk) trivial (Below.refl _ _) (Nat.le_refl _) (by simp) ?_; (case hd => rfl); (case hg => rfl); (case hr => first | (go_simp; done) | (go_simp; rfl)); (case hp => exact (Reps.none _ _)); intro v184 w9 ho10 hb hg_ hnew_; clear hg_ hnew_; (first | rw [← Ny183.out] at ho10 | (simp only [Int.reduceToNat] at ho10; rw [← Ny183.out] at ho10)); have HO185 := Aside0.mk (Kd.R_lower ho10 (below_size qB_)); replace HB := Aside0.mk (below_step qB_ hb); clear hb ho10))
    go_ret2
    exact ⟨_, qr_, by (with_reducible repeat (first | apply Kd.R_alloc | apply Kd.R_drewN | apply Kd.R_drew)); exact HO185.out, qB_⟩
   ·replace c8 := Bool.eq_false_iff.mpr c8
    subst c8
    rw [if_neg (show ¬ (false = true) by decide)] at H; have H' := Aside0.mk H; clear H
    go_wp2
    go_loopg [8] kj3 (fun kq v8 w' => ∃ (x8_2 : Int), v8 = .int .i64 x8_2 ∧ Aside0 (spec_TourOf.l0 kq a0 l1 a2 x8_2 = some (r1, r2)) ∧ Aside0 (kq ≤ kj3) ∧ Aside0 (Below w.heap.size w w'))
    case atStart => exact ⟨(0), qe_, H', ⟨Nat.le_refl _⟩, ⟨qB_⟩⟩
    case round =>
     clear H'
     (try clear c1); (try clear p2); (try clear c5); (try clear c6); (try clear p6); (try clear c8); (try clear c10); (try clear p2); (try clear p6)
     obtain ⟨x8_2, rfl, HA, HK2, HB⟩ := hrel
     cases gk with
     | zero => exact absurd HA.out (by simp [spec_TourOf.l0])
     | succ k2 =>
      have H := HA.out; clear HA
      simp only [spec_TourOf.l0] at H
      by_cases c11 : x8_2 < (l1.length : Int)
      ·rw [if_pos c11] at H
       have c11b0 : decide (x8_2 < (l1.length : Int)) = true := decide_eq_true c11
       clear c11
       by_cases c12 : 0 ≤ x8_2
       ·rw [if_pos c12] at H
        have c12b0 : decide (0 ≤ x8_2) = true := decide_eq_true c12
        clear c12
        obtain ⟨t187, A130, H⟩ := Option.bind_eq_some_iff.mp H; have A13 := Aside0.mk A130; clear A130
        by_cases c14 : t187 = true
        ·subst c14
         rw [if_pos rfl] at H; have H' := Aside0.mk H; clear H
         have p186 : 0 ≤ (x8_2 : Int) := of_decide_eq_true qa_
         have q186 : x8_2 < (l1.length : Int) := of_decide_eq_true qa_
         obtain ⟨ad186, e186, hx186_0, hx186_1⟩ := at_T43 HR1.out x8_2 p186 q186
         cases e186
         replace hx186_0 := (HB.out.cell (World.block_lt_of_cell? w _ hx186_0)).trans hx186_0
         replace hx186_1 := (HB.out.cell (World.block_lt_of_cell? w _ hx186_1)).trans hx186_1
         replace p186 := eq_true p186; replace q186 := eq_true q186
         go_wp2_with (first | ((with_reducible refine gate_callee (f := 71) rfl ?_); refine gl_ (some 33) Try.func71 #[.int .i64 a0, .agg #[.int .i64 ((rd_T43 l1 x8_2).f0), .int .i64 ((rd_T43 l1 x8_2).f1)]] ?_; (with_reducible refine (spec_EdgeOk.calls a0 ((rd_T43 l1 x8_2).f0) ((rd_T43 l1 x8_2).f1) true _ A13.out).mono ?_); rintro e w15 ⟨rfl, hb⟩; refine ⟨_, rfl, ?_⟩; replace HB := Aside0.mk (below_step qB_ hb); (try clear hb); (try clear hb2); (try clear hk); (try clear hi)))
         go_roundg k2
         case measure => have := HJ3.out; have := HK2.out; omega
         case rel => exact ⟨(wrap64 (x8_2 + 1)), qe_, H', ⟨by have := HJ3.out; have := HK2.out; omega⟩, ⟨qB_⟩⟩
        ·replace c14 := Bool.eq_false_iff.mpr c14
         subst c14
         rw [if_neg (show ¬ (false = true) by decide)] at H
         obtain ⟨y188, hy188⟩ : ∃ y_ : List Int, y_ = (([] : List Int)) := ⟨_, rfl⟩
         replace H : (some (y188, false)) = some (r1, r2) := by first | (rw [hy188]; with_reducible exact H) | (have H2_ := (Option.bind_some _ _).symm.trans H; rw [hy188]; with_reducible exact H2_) | (have H2_ := (Option.bind_some _ _).symm.trans H; with_reducible exact H2_) | with_reducible exact H | (rw [hy188]; exact H) | exact H
         have Ny188 := Aside0.mk hy188
         clear hy188
         simp only [Option.some.injEq, Prod.mk.injEq] at H
         obtain ⟨rfl, rfl⟩ := H
         have p186 : 0 ≤ (x8_2 : Int) := of_decide_eq_true qa_
         have q186 : x8_2 < (l1.length : Int) := of_decide_eq_true qa_
         obtain ⟨ad186, e186, hx186_0, hx186_1⟩ := at_T43 HR1.out x8_2 p186 q186
         cases e186
         replace hx186_0 := (HB.out.cell (World.block_lt_of_cell? w _ hx186_0)).trans hx186_0
         replace hx186_1 := (HB.out.cell (World.block_lt_of_cell? w _ hx186_1)).trans hx186_1
         replace p186 := eq_true p186; replace q186 := eq_true q186
         go_wp2_with (first | ((with_reducible refine gate_callee (f := 71) rfl ?_); refine gl_ (some 33) Try.func71 #[.int .i64 a0, .agg #[.int .i64 ((rd_T43 l1 x8_2).f0), .int .i64 ((rd_T43 l1 x8_2).f1)]] ?_; (with_reducible refine (spec_EdgeOk.calls a0 ((rd_T43 l1 x8_2).f0) ((rd_T43 l1 x8_2).f1) false _ A13.out).mono ?_); rintro e w16 ⟨rfl, hb⟩; refine ⟨_, rfl, ?_⟩; replace HB := Aside0.mk (below_step qB_ hb); (try clear hb); (try clear hb2); (try clear hk); (try clear hi)) | ((with_reducible refine gate_dst (N := 35) rfl ?_); refine Kd.R_lit (Kd.int .i64) _ 3 ?hg (N := 35) ?hd (xs := ([] : List Int)) (inner := []) (ok := fun _ => True) (okp := fun _ => True) ?hr ?hp (fun _ hk => hk) trivial (Below.refl _ _) (Nat.le_refl _) (by simp) ?_; (case hd => rfl); (case hg => rfl); (case hr => first | (go_simp; done) | (go_simp; rfl)); (case hp => exact (Reps.none _ _)); intro v189 w17 ho18 hb hg_ hnew_; clear hg_ hnew_; (first | rw [← Ny188.out] at ho18 | (simp only [Int.reduceToNat] at ho18; rw [← Ny188.out] at ho18)); have HO190 := Aside0.mk (Kd.R_lower ho18 (below_size qB_)); replace HB := Aside0.mk (below_step qB_ hb); clear hb ho18))
         go_ret2
         exact ⟨_, qr_, by (with_reducible repeat (first | apply Kd.R_alloc | apply Kd.R_drewN | apply Kd.R_drew)); exact HO190.out, qB_⟩
       ·rw [if_neg c12] at H
        exact absurd H (by simp)
      ·rw [if_neg c11] at H
       have c11b0 : decide (x8_2 < (l1.length : Int)) = false := decide_eq_false c11
       clear c11
       by_cases c19 : 0 ≤ a0
       ·rw [if_pos c19] at H
        have c19b0 := eq_true c19
        have c19b1 : decide (0 ≤ a0) = true := decide_eq_true c19
        clear c19
        by_cases c20 : (a0 : Int).toNat ≤ 281474976710656
        ·rw [if_pos c20] at H
         have c20b0 := eq_true c20
         have c20b1 : decide ((a0 : Int).toNat ≤ 281474976710656) = true := decide_eq_true c20
         clear c20
         obtain ⟨y191, hy191⟩ : ∃ y_ : List Bool, y_ = (List.replicate (a0 : Int).toNat false) := ⟨_, rfl⟩
         replace H : ((spec_l06Walk.f k2 a0 l1 a2 (-1) y191).bind fun bt194 => (if bt194.2.1 = true then (some ((([] : List Int)), false)) else (some (bt194.1, true)))) = some (r1, r2) := by first | (rw [hy191]; with_reducible exact H) | (have H2_ := (Option.bind_some _ _).symm.trans H; rw [hy191]; with_reducible exact H2_) | (have H2_ := (Option.bind_some _ _).symm.trans H; with_reducible exact H2_) | with_reducible exact H | (rw [hy191]; exact H) | exact H
         have Ny191 := Aside0.mk hy191
         clear hy191
         replace H := Option.bind_eq_some_iff.mp H
         obtain ⟨⟨t194, t197, t198⟩, A210, H⟩ := H
         replace H : (if t197 = true then (some ((([] : List Int)), false)) else (some (t194, true))) = some (r1, r2) := H
         have A21 := Aside0.mk A210
         clear A210
         by_cases c22 : t197 = true
         ·subst c22
          rw [if_pos rfl] at H
          obtain ⟨y199, hy199⟩ : ∃ y_ : List Int, y_ = (([] : List Int)) := ⟨_, rfl⟩
          replace H : (some (y199, false)) = some (r1, r2) := by first | (rw [hy199]; with_reducible exact H) | (have H2_ := (Option.bind_some _ _).symm.trans H; rw [hy199]; with_reducible exact H2_) | (have H2_ := (Option.bind_some _ _).symm.trans H; with_reducible exact H2_) | with_reducible exact H | (rw [hy199]; exact H) | exact H
          have Ny199 := Aside0.mk hy199
          clear hy199
          simp only [Option.some.injEq, Prod.mk.injEq] at H
          obtain ⟨rfl, rfl⟩ := H
          go_wp2_with (first | ((with_reducible refine gate_dst (N := 41) rfl ?_); refine Kd.R_make Kd.bool _ 4 rfl (N := 41) rfl 136 _ _ rfl a0 rfl rfl Try.underlying136 (.bool false) 1 info4 rfl (by decide) (by omega) false (ok := fun _ => True) (okp := fun _ => True) rfl (fun _ hk => hk) trivial (of_decide_eq_true qa_) (Nat.le_trans (Nat.mul_le_mul_right _ (of_decide_eq_true qa_ : a0.toNat ≤ 281474976710656)) (by omega)) (Below.refl _ _) (Nat.le_refl _) ?_; intro v192 w23 ho24 hb hg_ hnew_; clear hg_ hnew_; (first | rw [← Ny191.out] at ho24 | (simp only [Int.reduceToNat] at ho24; rw [← Ny191.out] at ho24)); have HO193 := Aside0.mk (Kd.R_lower ho24 (below_size qB_)); replace HB := Aside0.mk (below_step qB_ hb); clear hb ho24; obtain ⟨Ao25, co25, eo25⟩ := Kd.R_slice HO193.out; subst eo25) | ((with_reducible refine gate_callee (f := 136) rfl ?_); refine gl_ (some 42) Try.func136 #[.int .i64 a0, .slice A1 l1.length c1, .int .i64 a2, .int .i64 (-1), .slice Ao25 y191.length co25] ?_; (with_reducible refine (spec_l06Walk.calls k2 a0 _ _ l1 a2 (-1) (fun k_ => some k_ = (.slice Ao25 y191.length co25 : Value).ownBlock) (.slice Ao25 y191.length co25) y191 t194 true t198 w _ ?side1 ?side2 ?side3 ?side4 A21.out).mono ?_); (case side1 => repeat (first | (with_reducible first | exact HB.out | apply below_alloc | apply pw_below_drewN | apply below_drew1) | exact HB.out)); (case side2 => exact Kd.C_kept_came k43_heap HR1.out qB_ (fun k_ hs_ => (fun e_ => Kd.R_base HO193.out k_ e_.symm) hs_)); (case side3 => exact HC1.out); (case side4 => exact Kd.R_tight rfl HO193.out); rintro e w26 ⟨v195, rfl, ho0, hy0, hb, hkp⟩; refine ⟨_, rfl, ?_⟩; have HO196 := Aside0.mk (Kd.R_mono (ok' := fun k_ => True) ho0 (fun k_ hk_ => trivial)); replace HO193 := Aside0.mk (Kd.R_reok rfl hy0 (fun k_ e_ => HO193.out.1 k_ e_)); replace HB := Aside0.mk (hb); (try clear hb); (try clear hkp); (try clear ho0); (try clear hy0)) | ((with_reducible refine gate_dst (N := 46) rfl ?_); refine Kd.R_lit (Kd.int .i64) _ 3 ?hg (N := 46) ?hd (xs := ([] : List Int)) (inner := []) (ok := fun _ => True) (okp := fun _ => True) ?hr ?hp (fun _ hk => hk) trivial (Below.refl _ _) (Nat.le_refl _) (by simp) ?_; (case hd => rfl); (case hg => rfl); (case hr => first | (go_simp; done) | (go_simp; rfl)); (case hp => exact (Reps.none _ _)); intro v200 w27 ho28 hb hg_ hnew_; clear hg_ hnew_; (first | rw [← Ny199.out] at ho28 | (simp only [Int.reduceToNat] at ho28; rw [← Ny199.out] at ho28)); have HO201 := Aside0.mk (Kd.R_lower (Kd.R_new' ho28 (Kd.R_lt (qR_ HO196))) (below_size qB_)); replace HO193 := Aside0.mk (Kd.R_below (qR_ HO193) hb); replace HO196 := Aside0.mk (Kd.R_elder' (qR_ HO196) (Kd.R_base ho28) hb); replace HB := Aside0.mk (below_step qB_ hb); clear hb ho28))
          go_ret2
          exact ⟨_, qr_, by (with_reducible repeat (first | apply Kd.R_alloc | apply Kd.R_drewN | apply Kd.R_drew)); exact Kd.R_mono HO201.out (fun _ hk => trivial), qB_⟩
         ·replace c22 := Bool.eq_false_iff.mpr c22
          subst c22
          rw [if_neg (show ¬ (false = true) by decide)] at H
          simp only [Option.some.injEq, Prod.mk.injEq] at H
          obtain ⟨rfl, rfl⟩ := H
          go_wp2_with (first | ((with_reducible refine gate_dst (N := 41) rfl ?_); refine Kd.R_make Kd.bool _ 4 rfl (N := 41) rfl 136 _ _ rfl a0 rfl rfl Try.underlying136 (.bool false) 1 info4 rfl (by decide) (by omega) false (ok := fun _ => True) (okp := fun _ => True) rfl (fun _ hk => hk) trivial (of_decide_eq_true qa_) (Nat.le_trans (Nat.mul_le_mul_right _ (of_decide_eq_true qa_ : a0.toNat ≤ 281474976710656)) (by omega)) (Below.refl _ _) (Nat.le_refl _) ?_; intro v192 w29 ho30 hb hg_ hnew_; clear hg_ hnew_; (first | rw [← Ny191.out] at ho30 | (simp only [Int.reduceToNat] at ho30; rw [← Ny191.out] at ho30)); have HO193 := Aside0.mk (Kd.R_lower ho30 (below_size qB_)); replace HB := Aside0.mk (below_step qB_ hb); clear hb ho30; obtain ⟨Ao31, co31, eo31⟩ := Kd.R_slice HO193.out; subst eo31) | ((with_reducible refine gate_callee (f := 136) rfl ?_); refine gl_ (some 42) Try.func136 #[.int .i64 a0, .slice A1 l1.length c1, .int .i64 a2, .int .i64 (-1), .slice Ao31 y191.length co31] ?_; (with_reducible refine (spec_l06Walk.calls k2 a0 _ _ l1 a2 (-1) (fun k_ => some k_ = (.slice Ao31 y191.length co31 : Value).ownBlock) (.slice Ao31 y191.length co31) y191 t194 false t198 w _ ?side1 ?side2 ?side3 ?side4 A21.out).mono ?_); (case side1 => repeat (first | (with_reducible first | exact HB.out | apply below_alloc | apply pw_below_drewN | apply below_drew1) | exact HB.out)); (case side2 => exact Kd.C_kept_came k43_heap HR1.out qB_ (fun k_ hs_ => (fun e_ => Kd.R_base HO193.out k_ e_.symm) hs_)); (case side3 => exact HC1.out); (case side4 => exact Kd.R_tight rfl HO193.out); rintro e w32 ⟨v195, rfl, ho0, hy0, hb, hkp⟩; refine ⟨_, rfl, ?_⟩; have HO196 := Aside0.mk (Kd.R_mono (ok' := fun k_ => True) ho0 (fun k_ hk_ => trivial)); replace HO193 := Aside0.mk (Kd.R_reok rfl hy0 (fun k_ e_ => HO193.out.1 k_ e_)); replace HB := Aside0.mk (hb); (try clear hb); (try clear hkp); (try clear ho0); (try clear hy0)))
          go_ret2
          exact ⟨_, qr_, by (with_reducible repeat (first | apply Kd.R_alloc | apply Kd.R_drewN | apply Kd.R_drew)); exact HO196.out, qB_⟩
        ·rw [if_neg c20] at H
         exact absurd H (by simp)
       ·rw [if_neg c19] at H
        exact absurd H (by simp)

end Go.Proofs.Ytbkklafkoegdpaa.QFnExactWebLabels
