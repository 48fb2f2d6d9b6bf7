import Derived.Test.YtbkklafkoegdpaaQFnExactWebAddx5
namespace Go.Proofs.Ytbkklafkoegdpaa.QFnExactWebAdd
open Go.RowKit Go.Proofs.YtbkklafkoegdpaaW.PrintWords Go.Proofs.YtbkklafkoegdpaaW.PrintLast Go.Proofs.YtbkklafkoegdpaaW.PrintMore
set_option maxHeartbeats 8000000
set_option maxRecDepth 100000
set_option linter.unusedVariables false
set_option linter.unusedSimpArgs false
mutual
def spec_l06Walk.l0 : Nat → Int → List (S43) → Int → Int → List Bool → List Int → Int → Option (List Int × Bool × List Bool)
  | 0, _, _, _, _, _, _, _ => none
  | k + 1, x0, x1, x2, x3, x4, x12, x13 => if x13 < x0 then (if x2 < x13 then (spec_l06Walk.j1 k x0 x1 x2 x3 x4 x12 x13 x2 x13) else (spec_l06Walk.j1 k x0 x1 x2 x3 x4 x12 x13 x13 x2)) else (some (x12, false, x4))
def spec_l06Walk.j1 : Nat → Int → List (S43) → Int → Int → List Bool → List Int → Int → Int → Int → Option (List Int × Bool × List Bool)
  | 0, _, _, _, _, _, _, _, _, _ => none
  | k + 1, x0, x1, x2, x3, x4, x12, x13, x178000, x178001 => if x13 = x3 then (spec_l06Walk.j2 k x0 x1 x2 x3 x4 x12 x13 true) else ((spec_l05Has.f k x1 x178000 x178001).bind fun t178 => (spec_l06Walk.j2 k x0 x1 x2 x3 x4 x12 x13 (!t178)))
def spec_l06Walk.j2 : Nat → Int → List (S43) → Int → Int → List Bool → List Int → Int → Bool → Option (List Int × Bool × List Bool)
  | 0, _, _, _, _, _, _, _, _ => none
  | k + 1, x0, x1, x2, x3, x4, x12, x13, x44 => if x44 = true then (spec_l06Walk.l0 k x0 x1 x2 x3 x4 x12 (wrap64 (x13 + 1))) else (if 0 ≤ x13 then (if x13 < (x4.length : Int) then (if rdOf false x4 x13 = true then (some (x12, true, x4)) else ((spec_l06Walk.f k x0 x1 x13 x2 x4).bind fun bt180 => (if bt180.2.1 = true then (some (x12, true, bt180.2.2)) else (if x12.length + bt180.1.length < 17592186044416 then ((some (x12 ++ bt180.1 : List Int)).bind fun y185 => (if y185.length < 17592186044416 then (spec_l06Walk.l0 k x0 x1 x2 x3 bt180.2.2 (y185 ++ [x2]) (wrap64 (x13 + 1))) else (none))) else (none))))) else (none)) else (none))
def spec_l06Walk.f : Nat → Int → List (S43) → Int → Int → List Bool → Option (List Int × Bool × List Bool)
  | 0, _, _, _, _, _ => none
  | k + 1, a0, l1, a2, a3, l4 => if 0 ≤ a2 then (if a2 < (l4.length : Int) then (spec_l06Walk.l0 k a0 l1 a2 a3 (l4.set (a2 : Int).toNat true) (([a2] : List Int)) 0) else (none)) else (none)
end
theorem spec_l06Walk.mono_l : ∀ k, (∀ y0 y1 y2 y3 y4, LeO (spec_l06Walk.f k y0 y1 y2 y3 y4) (spec_l06Walk.f (k + 1) y0 y1 y2 y3 y4)) ∧ (∀ y0 y1 y2 y3 y4 y5 y6, LeO (spec_l06Walk.l0 k y0 y1 y2 y3 y4 y5 y6) (spec_l06Walk.l0 (k + 1) y0 y1 y2 y3 y4 y5 y6)) ∧ (∀ y0 y1 y2 y3 y4 y5 y6 y7 y8, LeO (spec_l06Walk.j1 k y0 y1 y2 y3 y4 y5 y6 y7 y8) (spec_l06Walk.j1 (k + 1) y0 y1 y2 y3 y4 y5 y6 y7 y8)) ∧ (∀ y0 y1 y2 y3 y4 y5 y6 y7, LeO (spec_l06Walk.j2 k y0 y1 y2 y3 y4 y5 y6 y7) (spec_l06Walk.j2 (k + 1) y0 y1 y2 y3 y4 y5 y6 y7))
  | 0 => ⟨fun _ _ _ _ _ r h => by simp [spec_l06Walk.f] at h, fun _ _ _ _ _ _ _ r h => by simp [spec_l06Walk.l0] at h, fun _ _ _ _ _ _ _ _ _ r h => by simp [spec_l06Walk.j1] at h, fun _ _ _ _ _ _ _ _ r h => by simp [spec_l06Walk.j2] at h⟩
  | k + 1 => by
    obtain ⟨ih0, ih1, ih2, ih3⟩ := spec_l06Walk.mono_l k
    have m0 := @spec_l05Has.mono
    refine ⟨?_, ?_, ?_, ?_⟩ <;> (intros; first | unfold spec_l06Walk.f | unfold spec_l06Walk.l0 | unfold spec_l06Walk.j1 | unfold spec_l06Walk.j2) <;> exact lo_
theorem spec_l06Walk.mono : ∀ a0 a1 a2 a3 a4 k, LeO (spec_l06Walk.f k a0 a1 a2 a3 a4) (spec_l06Walk.f (k + 1) a0 a1 a2 a3 a4) := by
  intro a0 a1 a2 a3 a4 k
  obtain ⟨ih0, ih1, ih2, ih3⟩ := spec_l06Walk.mono_l k
  exact ih0 a0 a1 a2 a3 a4
theorem spec_l06Walk.calls (k : Nat) : ∀ (a0 : Int) (A1 : Option Addr) (c1 : Nat) (l1 : List (S43)) (a2 : Int) (a3 : Int) (P4_ : Nat → Prop) (u9000_ : Value) (l4 : List Bool) (r1 : List Int) (r2 : Bool) (r3 : List Bool) (w0 w : World) (hB : Below w0.heap.size w0 w) (hr1 : ∀ W_, Kept w W_ (fun k_ => P4_ k_) → Kd.C k43 W_ A1 l1.length l1) (hc1 : l1.length ≤ c1) (ho4 : Kd.R Kd.bool 4 w w0.heap.size P4_ u9000_ l4) (h : spec_l06Walk.f k a0 l1 a2 a3 l4 = some (r1, r2, r3)),
  Calls Try.prog 136 #[.int .i64 a0, .slice A1 l1.length c1, .int .i64 a2, .int .i64 a3, u9000_] w fun e w' => ∃ v0_ : Value, e = .returned (.tuple #[v0_, .bool r2]) ∧ Kd.R (Kd.int .i64) 3 w' w0.heap.size (fun k_ => (P4_ k_ ∨ w.heap.size ≤ k_)) v0_ r1 ∧ Kd.R Kd.bool 4 w' w0.heap.size (fun k_ => (P4_ k_ ∨ w.heap.size ≤ k_)) u9000_ r3 ∧ Below w0.heap.size w0 w' ∧ Kept w w' (fun k_ => P4_ k_) := by
 induction k using Nat.strongRecOn with
 | _ k ih =>
 intro a0 A1 c1 l1 a2 a3 P4_ u9000_ l4 r1 r2 r3 w0 w hB hr1 hc1 ho4 h
 cases k with
 | zero => exact absurd h (by simp [spec_l06Walk.f])
 | succ k =>
 simp only [spec_l06Walk.f] at h
 have hu43 := Try.underlying43
 have f3 := am_ hr1
 have f4 := am_ hc1
 clear hr1 hc1
 have d2 := am_ (show Kd.R Kd.bool 4 w w0.heap.size (fun k_ => (P4_ k_ ∨ w.heap.size ≤ k_)) u9000_ l4 from Kd.R_mono ho4 (fun k_ hk => (.inl hk)))
 have HK := am_ (Kept.refl w (fun k_ => P4_ k_))
 have HW0 := am_ hB.size
 have HB := am_ hB
 clear hB
 have H : (if 0 ≤ a2 then (if a2 < (l4.length : Int) then (spec_l06Walk.l0 k a0 l1 a2 a3 (l4.set (a2 : Int).toNat true) (([a2] : List Int)) 0) else (none)) else (none)) = some (r1, r2, r3) := h
 clear h
 obtain ⟨e0, hy173⟩ : ∃ y_ : List Int, y_ = (([a2] : List Int)) := ⟨_, rfl⟩
 replace H : (if 0 ≤ a2 then (if a2 < (l4.length : Int) then (spec_l06Walk.l0 k a0 l1 a2 a3 (l4.set (a2 : Int).toNat true) e0 0) else (none)) else (none)) = some (r1, r2, r3) := hq_ hy173 H
 have Ny173 := am_ hy173
 clear hy173
 refine ig_ H ?_; clear H; intro c6b0 H
 refine ig_ H ?_; clear H; intro c7b0 H
 obtain ⟨e1, hy176⟩ : ∃ y_ : List Bool, y_ = (l4.set (a2 : Int).toNat true) := ⟨_, rfl⟩
 replace H : (spec_l06Walk.l0 k a0 l1 a2 a3 e1 e0 0) = some (r1, r2, r3) := hq_ hy176 H
 have Ny176 := am_ hy176
 clear hy176; have H' := am_ H; clear H
 go_enter Try.func136, Try.ntmps136
 go_wp2_with (first | ((with_reducible refine gd_ 18 ?_); refine Kd.R_lit (Kd.int .i64) _ 3 ?hg (N := 18) ?hd (xs := ([a2] : List Int)) (inner := [.int .i64 a2]) (ok := fun _ => True) (okp := fun _ => True) ?hr ?hp (fun _ hk => hk) trivial (Below.refl _ _) (Nat.le_refl _) (by simp) ?_; (case hd => rfl); (case hg => rfl); (case hr => first | (go_simp; done) | (go_simp; rfl)); (case hp => exact (Reps.one (show Kd.M (Kd.int .i64) _ _ _ a2 [.int .i64 a2] from rfl) (Reps.none _ _))); intro g0 w9 ho10 hb hg_ hnew_; clear hg_ hnew_; (first | rw [← Ny173.out] at ho10 | (simp only [Int.reduceToNat] at ho10; rw [← Ny173.out] at ho10)); have b8 := am_ (Kd.R_lower (Kd.R_newM (M := fun k_ => (P4_ k_ ∨ w.heap.size ≤ k_)) ho10 (by first | exact HK.out.1 | exact (show Kept w _ (fun k_ => P4_ k_) from by repeat (first | (with_reducible first | exact HK.out | apply Kept.alloc | apply Kept.drewN | apply Kept.drew) | exact HK.out)).1) (fun k_ h_ => .inr h_)) (below_size qB_)); replace d2 := kb_ d2 hb; replace HK := am_ (Kept.below (S := (fun k_ => P4_ k_)) (by repeat (first | (with_reducible first | exact HK.out | apply Kept.alloc | apply Kept.drewN | apply Kept.drew) | exact HK.out)) hb); replace HB := hs_ hb; clear hb ho10; have p8 := dp_ a2; have q8 : (a2 : Int) < ((l4.length : Int) : Int) := of_decide_eq_true qa_; obtain ⟨go8, d4, f7, f8, gl8, cl8, HG8⟩ := Kd.R_form d2.out (by omega); (first | cases f7 | (injection f7 with ea_ en_ ec_; (first | subst ea_ | (injection ea_ with ea_; subst ea_)); subst ec_; clear en_)); have GB8 := am_ f8; have GG8 := am_ HG8; clear f8 gl8 HG8; have HMgo8 := am_ (show (P4_ go8 ∨ w.heap.size ≤ go8) from (d2.out.1 _ rfl)); obtain ⟨d5, hf8_0⟩ := Kd.R_celln false d2.out (a2 : Int) p8 q8; replace p8 := eq_true p8; replace q8 := eq_true q8; obtain ⟨hy11_, hz11_⟩ := Kd.R_celln false d2.out (a2 : Int) (of_decide_eq_true qa_) (of_decide_eq_true qa_); have HP11 := Kd.R_putg d2.out (a2 : Int) true) | ((with_reducible refine gate_store (t := 4) (p := 21) rfl ?_); refine store_event (t := 4) (p := 21) (v := ?vo_w12) (w1 := (w9.setCell ⟨go8, (a2 : Int).toNat, none⟩ (.bool true))) ?hg ?ho ?hn ?hr ?_; (case ho => rfl); (case hg => rfl); (case hn => rfl); (case hr => first | (go_simp; done) | (go_simp; rfl)); intro w12 hw; have hg : w9.grownBy w12 (some go8) := (by rw [hw]; exact HP11.2); have hp_ : Kd.R Kd.bool 4 w12 w0.heap.size (fun k_ => (P4_ k_ ∨ w.heap.size ≤ k_)) (.slice (some ⟨go8, 0, none⟩) l4.length d4) e1 := (by rw [hw, Ny176.out]; exact HP11.1); clear HP11; have n0_ := am_ (hp_); have n1_ := am_ (Kd.R_over' (v := (.slice (some ⟨go8, 0, none⟩) l4.length d4)) (qR_ b8) (Kd.R_typed d2.out) (by decide) hg); have n2_ := am_ ((by rw [hw]; exact below_set (HB.out) GB8.out : Below w0.heap.size w0 w12)); have n3_ := am_ (Kept.of_grown (S := (fun k_ => P4_ k_)) hg (by repeat (first | (with_reducible first | exact HK.out | apply Kept.alloc | apply Kept.drewN | apply Kept.drew) | exact HK.out)) (fun k_ e_ => (d2.out.1 k_ e_))); clear d2; clear b8; clear HB; clear HK; have d2 := n0_; have b8 := n1_; have HB := n2_; have HK := n3_; clear n0_ n1_ n2_ n3_; clear hg hw hp_))
 go_loopg [12, 13] k (fun kq v12 v13 w' => ∃ (x4_1 : List Bool) (x12_1 : List Int) (x13_1 : Int), v13 = .int .i64 x13_1 ∧ Aside0 (spec_l06Walk.l0 kq a0 l1 a2 a3 x4_1 x12_1 x13_1 = some (r1, r2, r3)) ∧ Aside0 (kq ≤ k) ∧ Aside0 (Kd.R Kd.bool 4 w' w0.heap.size (fun k_ => (P4_ k_ ∨ w.heap.size ≤ k_)) (.slice (some ⟨go8, 0, none⟩) l4.length d4) x4_1) ∧ Aside0 (Kd.R (Kd.int .i64) 3 w' w0.heap.size (fun k_ => (P4_ k_ ∨ w.heap.size ≤ k_)) v12 x12_1) ∧ Aside0 (Kept w w' (fun k_ => P4_ k_)) ∧ Aside0 (Below w0.heap.size w0 w'))
 case atStart => exact ⟨(e1), (e0), (0), qe_, H', ⟨Nat.le_refl _⟩, ⟨ra_ d2⟩, ⟨by (with_reducible repeat (first | apply Kd.R_alloc | apply Kd.R_drewN | apply Kd.R_drew)); exact Kd.R_mono b8.out (fun _ hk => hk.1)⟩, ⟨by repeat (first | (with_reducible first | exact HK.out | apply Kept.alloc | apply Kept.drewN | apply Kept.drew) | exact HK.out)⟩, ⟨qB_⟩⟩
 case round =>
  clear H'
  (try clear c1); (try clear p2); (try clear c6); (try clear c6b0); (try clear c7); (try clear c7b0); (try clear p8); (try clear q8); (try clear f9); (try clear hf8); (try clear d5); (try clear p8); (try clear q8)
  obtain ⟨x4_1, x12_1, x13_1, rfl, HA, HK1, a1, a4, HK, HB⟩ := hrel
  have hl4_1 := (Kd.R_reads' a1.out).1
  rw [hl4_1] at a1
  (try simp only [hl4_1])
  (try simp only [hl4_1] at a4)
  cases gk with
  | zero => exact absurd HA.out (by simp [spec_l06Walk.l0])
  | succ k1 =>
   have H := HA.out; clear HA
   simp only [spec_l06Walk.l0] at H
   refine ib_ H ?_ ?_ <;> clear H <;> intro c13b0 H
   ·simp only [Option.some.injEq, Prod.mk.injEq] at H
    obtain ⟨rfl, rfl, rfl⟩ := H
    go_wp2
    go_ret2
    exact ⟨_, qr_, qR_ a4, (by first | exact (qR_ a1) | (simp only [hl4_1]; exact (qR_ a1))), by repeat (first | (with_reducible first | exact HB.out | apply below_alloc | apply pw_below_drewN | apply below_drew1) | exact HB.out), by repeat (first | (with_reducible first | exact HK.out | apply Kept.alloc | apply Kept.drewN | apply Kept.drew) | exact HK.out)⟩
   have e2 := am_ H
   clear H
   go_upto_if 32 with (first | ((with_reducible refine gd_ 14 ?_); refine by_ 14 (cs := #[.int .i64 0, .int .i64 0]) (t := 43) ?_; intro a8 hg w15 a5 hb; have a7 := am_ ((by rw [hg]; exact (by first | exact HK.out.1 | exact (show Kept w _ (fun k_ => P4_ k_) from by repeat (first | (with_reducible first | exact HK.out | apply Kept.alloc | apply Kept.drewN | apply Kept.drew) | exact HK.out)).1) : w.heap.size ≤ a8)); have b9 := am_ ((qs_ : w0.heap.size ≤ a8)); replace a1 := kb_ a1 hb; replace a4 := kb_ a4 hb; replace HK := am_ (Kept.below (S := (fun k_ => P4_ k_)) (by repeat (first | (with_reducible first | exact HK.out | apply Kept.alloc | apply Kept.drewN | apply Kept.drew) | exact HK.out)) hb); replace HB := hs_ hb; clear hb hg; obtain ⟨c0, c3, c4, c5⟩ := bc2_ a5))
   (try simp only [Act.put, sA_, sB_, sC_])
   go_cut [] (fun wc => ∃ (kq : Nat) (a9 : Int) (b0 : Int), Aside0 (spec_l06Walk.j1 kq a0 l1 a2 a3 x4_1 x12_1 x13_1 a9 b0 = some (r1, r2, r3)) ∧ Aside0 (kq ≤ k1) ∧ Aside0 (Kd.R Kd.bool 4 wc w0.heap.size (fun k_ => (P4_ k_ ∨ w.heap.size ≤ k_)) (.slice (some ⟨go8, 0, none⟩) x4_1.length d4) x4_1) ∧ Aside0 (Kd.R (Kd.int .i64) 3 wc w0.heap.size (fun k_ => (P4_ k_ ∨ w.heap.size ≤ k_)) u12 x12_1) ∧ Aside0 (wc.heap[a8]? = some (.cells #[.int .i64 a9, .int .i64 b0] 43 (0, 0))) ∧ Aside0 (Kept w wc (fun k_ => P4_ k_)) ∧ Aside0 (Below w0.heap.size w0 wc))
   case first =>
    have H := e2.out; clear e2
    refine ic_ H ?_ ?_ <;> clear H <;> intro c17b0 H
    ·(first | rw [c17b0] | (simp only [i64_w, i32_w]; rw [c17b0]) | skip)
     have H' := am_ H; clear H
     obtain ⟨c8, c9, d0, d1⟩ := bc2_ a5
     go_wp2
     go_meet
     case rel => exact ⟨_, (a2), (x13_1), H', ⟨by have := HK1.out; first | omega | exact Nat.le_refl _⟩, ⟨by (try simp only [hl4_1]); (with_reducible repeat (first | apply Kd.R_alloc | apply Kd.R_drewN | apply Kd.R_drew)); exact Kd.R_mono (Kd.R_far (p := ⟨a8, 1, none⟩) (Kd.R_far (p := ⟨a8, 0, none⟩) (Kd.R_far (p := ⟨a8, 1, none⟩) (Kd.R_far (p := ⟨a8, 0, none⟩) (Kd.R_types a1.out a5.out (by decide)) (fun _ hk => hk.2) (.int .i64 x13_1)) (fun _ hk => hk.2) (.int .i64 a2)) (fun _ hk => hk.2) (.int .i64 a2)) (fun _ hk => hk.2) (.int .i64 x13_1)) (fun _ hk => hk.1)⟩, ⟨by (try simp only [hl4_1]); (with_reducible repeat (first | apply Kd.R_alloc | apply Kd.R_drewN | apply Kd.R_drew)); exact Kd.R_mono (Kd.R_far (p := ⟨a8, 1, none⟩) (Kd.R_far (p := ⟨a8, 0, none⟩) (Kd.R_far (p := ⟨a8, 1, none⟩) (Kd.R_far (p := ⟨a8, 0, none⟩) (Kd.R_types a4.out a5.out (by decide)) (fun _ hk => hk.2) (.int .i64 x13_1)) (fun _ hk => hk.2) (.int .i64 a2)) (fun _ hk => hk.2) (.int .i64 a2)) (fun _ hk => hk.2) (.int .i64 x13_1)) (fun _ hk => hk.1)⟩, ⟨by (try simp only [hl4_1]); (with_reducible repeat (first | refine blk_drewN ?_ _ | refine blk_drew ?_ | refine blk_alloc ?_ _)); refine blk_put (cs := #[.int .i64 a2, .int .i64 a2]) ?_ 1 _ rfl; (with_reducible repeat (first | refine blk_drewN ?_ _ | refine blk_drew ?_ | refine blk_alloc ?_ _)); refine blk_put (cs := #[.int .i64 x13_1, .int .i64 a2]) ?_ 0 _ rfl; (with_reducible repeat (first | refine blk_drewN ?_ _ | refine blk_drew ?_ | refine blk_alloc ?_ _)); refine blk_put (cs := #[.int .i64 x13_1, .int .i64 0]) ?_ 1 _ rfl; (with_reducible repeat (first | refine blk_drewN ?_ _ | refine blk_drew ?_ | refine blk_alloc ?_ _)); refine blk_put (cs := #[.int .i64 0, .int .i64 0]) ?_ 0 _ rfl; exact qf_ a5⟩, ⟨by repeat (first | (with_reducible first | exact HK.out | apply Kept.alloc | apply Kept.drewN | apply Kept.drew | refine Kept.setCell ?_ (.inr a7.out) _) | exact HK.out)⟩, ⟨qB_⟩⟩
    (first | rw [c17b0] | (simp only [i64_w, i32_w]; rw [c17b0]) | skip)
    have H' := am_ H; clear H
    go_wp2
    go_meet
    case rel => exact ⟨_, (x13_1), (a2), H', ⟨by have := HK1.out; first | omega | exact Nat.le_refl _⟩, ⟨by (try simp only [hl4_1]); (with_reducible repeat (first | apply Kd.R_alloc | apply Kd.R_drewN | apply Kd.R_drew)); exact Kd.R_mono (Kd.R_far (p := ⟨a8, 1, none⟩) (Kd.R_far (p := ⟨a8, 0, none⟩) (Kd.R_types a1.out a5.out (by decide)) (fun _ hk => hk.2) (.int .i64 x13_1)) (fun _ hk => hk.2) (.int .i64 a2)) (fun _ hk => hk.1)⟩, ⟨by (try simp only [hl4_1]); (with_reducible repeat (first | apply Kd.R_alloc | apply Kd.R_drewN | apply Kd.R_drew)); exact Kd.R_mono (Kd.R_far (p := ⟨a8, 1, none⟩) (Kd.R_far (p := ⟨a8, 0, none⟩) (Kd.R_types a4.out a5.out (by decide)) (fun _ hk => hk.2) (.int .i64 x13_1)) (fun _ hk => hk.2) (.int .i64 a2)) (fun _ hk => hk.1)⟩, ⟨by (try simp only [hl4_1]); (with_reducible repeat (first | refine blk_drewN ?_ _ | refine blk_drew ?_ | refine blk_alloc ?_ _)); refine blk_put (cs := #[.int .i64 x13_1, .int .i64 0]) ?_ 1 _ rfl; (with_reducible repeat (first | refine blk_drewN ?_ _ | refine blk_drew ?_ | refine blk_alloc ?_ _)); refine blk_put (cs := #[.int .i64 0, .int .i64 0]) ?_ 0 _ rfl; exact qf_ a5⟩, ⟨by repeat (first | (with_reducible first | exact HK.out | apply Kept.alloc | apply Kept.drewN | apply Kept.drew | refine Kept.setCell ?_ (.inr a7.out) _) | exact HK.out)⟩, ⟨qB_⟩⟩
   case rest =>
    clear e2; (try clear c1); (try clear p2); (try clear c6); (try clear c6b0); (try clear c7); (try clear c7b0); (try clear p8); (try clear q8); (try clear f9); (try clear hf8); (try clear c13); (try clear c13b0); (try clear c17); (try clear c17b0); (try clear c0 c3); (try clear c8 c9); (try clear c4 c5); (try clear d0 d1); (try clear d5); (try clear p2); (try clear p8); (try clear q8)
    obtain ⟨kq, a9, b0, HA, b4, a1, a4, a5, HK, HB⟩ := hcut
    cases kq with
    | zero => exact absurd HA.out (by simp [spec_l06Walk.j1])
    | succ kj13 =>
     have H := HA.out; clear HA
     simp only [spec_l06Walk.j1] at H
     have e3 := am_ H
     clear H
     go_upto_region 9 with (fail)
     go_cut [44] (fun v44 wc => ∃ (kq : Nat) (x44_18 : Bool), v44 = .bool x44_18 ∧ Aside0 (spec_l06Walk.j2 kq a0 l1 a2 a3 x4_1 x12_1 x13_1 x44_18 = some (r1, r2, r3)) ∧ Aside0 (kq ≤ kj13) ∧ Aside0 (Kd.R Kd.bool 4 wc w0.heap.size (fun k_ => (P4_ k_ ∨ w.heap.size ≤ k_)) (.slice (some ⟨go8, 0, none⟩) x4_1.length d4) x4_1) ∧ Aside0 (Kd.R (Kd.int .i64) 3 wc w0.heap.size (fun k_ => (P4_ k_ ∨ w.heap.size ≤ k_)) u12 x12_1) ∧ Aside0 (wc.heap[a8]? = some (.cells #[.int .i64 a9, .int .i64 b0] 43 (0, 0))) ∧ Aside0 (Kept w wc (fun k_ => P4_ k_)) ∧ Aside0 (Below w0.heap.size w0 wc))
     case first =>
      have H := e3.out; clear e3
      refine jc_ H ?_ ?_ <;> clear H <;> intro c20 H
      ·have c20b0 : (x13_1 == a3) = true := beq_iff_eq.mpr c20
       have c20b1 : (x13_1 != a3) = false := bne_eq_false_iff_eq.mpr c20
       clear c20
       (first | rw [c20b0] | (simp only [i64_w, i32_w]; rw [c20b0]) | skip)
       have H' := am_ H; clear H
       go_wp2
       go_meet
       case rel => exact ⟨_, (true), qe_, H', ⟨by have := HK1.out; have := b4.out; first | omega | exact Nat.le_refl _⟩, ⟨by (try simp only [hl4_1]); (with_reducible repeat (first | apply Kd.R_alloc | apply Kd.R_drewN | apply Kd.R_drew)); first | exact a1.out | (have h_ := a1.out; simp only [own_slice] at h_ ⊢; exact h_)⟩, ⟨by (try simp only [hl4_1]); (with_reducible repeat (first | apply Kd.R_alloc | apply Kd.R_drewN | apply Kd.R_drew)); first | exact a4.out | (have h_ := a4.out; simp only [own_slice] at h_ ⊢; exact h_)⟩, ⟨by (try simp only [hl4_1]); exact qf_ a5⟩, ⟨by repeat (first | (with_reducible first | exact HK.out | apply Kept.alloc | apply Kept.drewN | apply Kept.drew | refine Kept.setCell ?_ (.inr a7.out) _) | exact HK.out)⟩, ⟨qB_⟩⟩
      have c20b0 : (x13_1 == a3) = false := beq_eq_false_iff_ne.mpr c20
      have c20b1 : (x13_1 != a3) = true := bne_iff_ne.mpr c20
      (first | rw [c20b0] | (simp only [i64_w, i32_w]; rw [c20b0]) | skip)
      obtain ⟨e5, A21, H⟩ := bs_ H
      have H' := am_ H; clear H
      obtain ⟨d6, d7, d8, d9⟩ := bc2_ a5
      go_wp2_with (first | (go_at_call 101; (with_reducible refine (spec_l05Has.calls kj13 _ _ l1 a9 b0 e5 _ ?side1 ?side2 A21.out).mono ?_); (case side1 => exact Kd.C_kept_now f3.out (by repeat (first | (with_reducible first | exact HK.out | apply Kept.alloc | apply Kept.drewN | apply Kept.drew | refine Kept.setCell ?_ (.inr a7.out) _) | exact HK.out))); (case side2 => exact f4.out); rintro e w23 ⟨rfl, hb⟩; replace a1 := kb_ a1 hb; replace a4 := kb_ a4 hb; replace a5 := qbl_ a5 hb; replace HK := am_ (Kept.below (S := (fun k_ => P4_ k_)) (by repeat (first | (with_reducible first | exact HK.out | apply Kept.alloc | apply Kept.drewN | apply Kept.drew | refine Kept.setCell ?_ (.inr a7.out) _) | exact HK.out)) hb); replace HB := hs_ hb; (try clear hb); (try clear hb2); (try clear hk); (try clear hi)))
      go_meet
      case rel => exact ⟨_, (!e5), qe_, H', ⟨by have := HK1.out; have := b4.out; first | omega | exact Nat.le_refl _⟩, ⟨by (try simp only [hl4_1]); (with_reducible repeat (first | apply Kd.R_alloc | apply Kd.R_drewN | apply Kd.R_drew)); first | exact a1.out | (have h_ := a1.out; simp only [own_slice] at h_ ⊢; exact h_)⟩, ⟨by (try simp only [hl4_1]); (with_reducible repeat (first | apply Kd.R_alloc | apply Kd.R_drewN | apply Kd.R_drew)); first | exact a4.out | (have h_ := a4.out; simp only [own_slice] at h_ ⊢; exact h_)⟩, ⟨by (try simp only [hl4_1]); exact qf_ a5⟩, ⟨by repeat (first | (with_reducible first | exact HK.out | apply Kept.alloc | apply Kept.drewN | apply Kept.drew | refine Kept.setCell ?_ (.inr a7.out) _) | exact HK.out)⟩, ⟨qB_⟩⟩
     case rest =>
      clear e3; (try clear c1); (try clear c2); (try clear p2); (try clear c6); (try clear c6b0); (try clear c7); (try clear c7b0); (try clear p8); (try clear q8); (try clear f9); (try clear hf8); (try clear c13); (try clear c13b0); (try clear c17); (try clear c17b0); (try clear c20); (try clear c20b0); (try clear c20b1); (try clear c0 c3); (try clear c8 c9); (try clear d6 d7); (try clear c4 c5); (try clear d0 d1); (try clear d8 d9); (try clear d5); (try clear p2); (try clear p8); (try clear q8)
      obtain ⟨kq, x44_18, rfl, HA, d3, a1, a4, a5, HK, HB⟩ := hcut
      cases kq with
      | zero => exact absurd HA.out (by simp [spec_l06Walk.j2])
      | succ kj18 =>
       have H := HA.out; clear HA
       simp only [spec_l06Walk.j2] at H
       refine ie_ H ?_ ?_ <;> clear H <;> rintro rfl H
       ·have H' := am_ H; clear H
        go_wp2
        (try simp only [← hl4_1])
        go_roundg kj18
        case measure => have := HK1.out; have := b4.out; have := d3.out; omega
        case rel => exact ⟨(x4_1), (x12_1), (wrap64 (x13_1 + 1)), qe_, H', ⟨by have := HK1.out; have := b4.out; have := d3.out; omega⟩, ⟨by (try simp only [hl4_1]); (with_reducible repeat (first | apply Kd.R_alloc | apply Kd.R_drewN | apply Kd.R_drew)); first | exact a1.out | (have h_ := a1.out; simp only [own_slice] at h_ ⊢; exact h_)⟩, ⟨by (try simp only [hl4_1]); (with_reducible repeat (first | apply Kd.R_alloc | apply Kd.R_drewN | apply Kd.R_drew)); first | exact a4.out | (have h_ := a4.out; simp only [own_slice] at h_ ⊢; exact h_)⟩, ⟨by repeat (first | (with_reducible first | exact HK.out | apply Kept.alloc | apply Kept.drewN | apply Kept.drew | refine Kept.setCell ?_ (.inr a7.out) _) | exact HK.out)⟩, ⟨qB_⟩⟩
       refine ig_ H ?_; clear H; intro c25b0 H
       refine ig_ H ?_; clear H; intro c26b0 H
       obtain ⟨bq27, hbq27⟩ : ∃ b_ : Bool, b_ = (rdOf false x4_1 x13_1) := ⟨_, rfl⟩
       replace H : (if bq27 = true then (some (x12_1, true, x4_1)) else ((spec_l06Walk.f kj18 a0 l1 x13_1 a2 x4_1).bind fun b5 => (if b5.2.1 = true then (some (x12_1, true, b5.2.2)) else (if x12_1.length + b5.1.length < 17592186044416 then ((some (x12_1 ++ b5.1 : List Int)).bind fun b2 => (if b2.length < 17592186044416 then (spec_l06Walk.l0 kj18 a0 l1 a2 a3 b5.2.2 (b2 ++ [a2]) (wrap64 (x13_1 + 1))) else (none))) else (none))))) = some (r1, r2, r3) := by rw [← hbq27] at H; exact H
       have Nbq27 := am_ hbq27
       clear hbq27
       refine ie_ H ?_ ?_ <;> clear H <;> rintro rfl H
       ·simp only [Option.some.injEq, Prod.mk.injEq] at H
        obtain ⟨rfl, rfl, rfl⟩ := H
        have p179 := dp_ x13_1
        have q179 := dl_ x13_1 x4_1.length
        obtain ⟨ad179, e179, a6⟩ := Kd.at_bool (Kd.R_reads' a1.out).2.2 x13_1 p179 q179
        (try rw [← Nbq27.out] at a6)
        obtain rfl : (⟨go8, 0, none⟩ : Addr) = ad179 := (by injection e179)
        (first | simp only [add_plain] at a6 | simp only [add_at] at a6 | simp only [Addr.add, Nat.zero_add] at a6 | skip)
        (try simp only [add_plain] at *)
        replace p179 := eq_true p179; replace q179 := eq_true q179
        go_wp2
        go_ret2
        exact ⟨_, qr_, qR_ a4, (by first | exact (qR_ a1) | (simp only [hl4_1]; exact (qR_ a1))), by repeat (first | (with_reducible first | exact HB.out | apply below_alloc | apply pw_below_drewN | apply below_drew1 | refine below_set ?_ b9.out) | exact HB.out), by repeat (first | (with_reducible first | exact HK.out | apply Kept.alloc | apply Kept.drewN | apply Kept.drew | refine Kept.setCell ?_ (.inr a7.out) _) | exact HK.out)⟩
       replace H := Option.bind_eq_some_iff.mp H
       obtain ⟨⟨b3, e7, b7⟩, e8, H⟩ := H
       replace H : (if e7 = true then (some (x12_1, true, b7)) else (if x12_1.length + b3.length < 17592186044416 then ((some (x12_1 ++ b3 : List Int)).bind fun b2 => (if b2.length < 17592186044416 then (spec_l06Walk.l0 kj18 a0 l1 a2 a3 b7 (b2 ++ [a2]) (wrap64 (x13_1 + 1))) else (none))) else (none))) = some (r1, r2, r3) := H
       have A29 := am_ e8
       clear e8
       refine ie_ H ?_ ?_ <;> clear H <;> rintro rfl H
       ·simp only [Option.some.injEq, Prod.mk.injEq] at H
        obtain ⟨rfl, rfl, rfl⟩ := H
        have p179 := dp_ x13_1
        have q179 := dl_ x13_1 x4_1.length
        obtain ⟨ad179, e179, a6⟩ := Kd.at_bool (Kd.R_reads' a1.out).2.2 x13_1 p179 q179
        (try rw [← Nbq27.out] at a6)
        obtain rfl : (⟨go8, 0, none⟩ : Addr) = ad179 := (by injection e179)
        (first | simp only [add_plain] at a6 | simp only [add_at] at a6 | simp only [Addr.add, Nat.zero_add] at a6 | skip)
        (try simp only [add_plain] at *)
        replace p179 := eq_true p179; replace q179 := eq_true q179
        go_wp2_with (first | ((with_reducible refine gc_ 136 ?_); refine gl_ (some 56) Try.func136 #[.int .i64 a0, .slice A1 l1.length c1, .int .i64 x13_1, .int .i64 a2, .slice (some ⟨go8, 0, none⟩) x4_1.length d4] ?_; (with_reducible refine (ih kj18 (by have := HK1.out; have := b4.out; have := d3.out; omega) a0 _ _ l1 x13_1 a2 (fun k_ => some k_ = (.slice (some ⟨go8, 0, none⟩) x4_1.length d4 : Value).ownBlock) (.slice (some ⟨go8, 0, none⟩) x4_1.length d4) x4_1 b3 true b7 w0 _ ?side1 ?side2 ?side3 ?side4 A29.out).mono ?_); (case side1 => repeat (first | (with_reducible first | exact HB.out | apply below_alloc | apply pw_below_drewN | apply below_drew1 | refine below_set ?_ b9.out) | exact HB.out)); (case side2 => exact Kd.C_kept_call f3.out (by repeat (first | (with_reducible first | exact HK.out | apply Kept.alloc | apply Kept.drewN | apply Kept.drew | refine Kept.setCell ?_ (.inr a7.out) _) | exact HK.out)) (fun k_ hs_ => (fun e_ => (a1.out.1 k_ e_.symm)) hs_)); (case side3 => exact f4.out); (case side4 => exact Kd.R_tight rfl a1.out); rintro e w31 ⟨e4, rfl, ho0, hy0, hb, hkp⟩; refine ⟨_, rfl, ?_⟩; have n0_ := am_ (Kd.R_reok rfl hy0 (fun k_ e_ => a1.out.1 k_ e_)); have n1_ := am_ (Kd.R_mono (ok' := fun k_ => (P4_ k_ ∨ w.heap.size ≤ k_) ∧ some k_ ≠ (e4 : Value).ownBlock) (Kd.R_keptB ((Kd.R_apart' a4.out (Kd.R_typed a1.out) (by decide))) hkp (fun k_ hk_ hs_ => (hk_.2) hs_)) (fun k_ hk_ => ⟨hk_.1.1, fun e_ => Or.elim (ho0.1 k_ e_.symm) (fun hs_ => hk_.2.1 hs_) (fun hn_ => Nat.not_le.2 hk_.2.2 hn_)⟩)); have n2_ := (qkp_ a5 hkp (fun hs_ => (fun e_ => (Kd.R_ne a1.out a5.out (by decide)) e_) hs_)); have n3_ := am_ (Kd.R_mono (ok' := fun k_ => (P4_ k_ ∨ w.heap.size ≤ k_) ∧ some k_ ≠ (u12 : Value).ownBlock) ho0 (fun k_ hk_ => ⟨Or.elim hk_ (fun hs_ => (a1.out.1 k_ (hs_).symm)) (fun hn_ => (.inr (Nat.le_trans (by first | exact HK.out.1 | exact (show Kept w _ (fun k_ => P4_ k_) from by repeat (first | (with_reducible first | exact HK.out | apply Kept.alloc | apply Kept.drewN | apply Kept.drew | refine Kept.setCell ?_ (.inr a7.out) _) | exact HK.out)).1) hn_))), Or.elim hk_ (fun hs_ => fun e_ => ((((Kd.R_apart' a4.out (Kd.R_typed a1.out) (by decide))).1 k_ e_.symm).2) hs_) (fun hn_ => (Kd.fresh' (Kd.R_lt (qR_ a4)) k_ hn_))⟩)); have n4_ := am_ (Kept.then_ (S := (fun k_ => P4_ k_)) (by repeat (first | (with_reducible first | exact HK.out | apply Kept.alloc | apply Kept.drewN | apply Kept.drew | refine Kept.setCell ?_ (.inr a7.out) _) | exact HK.out)) hkp (fun k_ hs_ => (fun e_ => (a1.out.1 k_ e_.symm)) hs_)); have n5_ := am_ (hb); clear a1; clear a4; clear a5; clear HK; clear HB; have a1 := n0_; have a4 := n1_; have a5 := n2_; have b1 := n3_; have HK := n4_; have HB := n5_; clear n0_ n1_ n2_ n3_ n4_ n5_; (try clear hb); (try clear hkp); (try clear ho0); (try clear hy0)))
        go_ret2
        exact ⟨_, qr_, by (with_reducible repeat (first | apply Kd.R_alloc | apply Kd.R_drewN | apply Kd.R_drew)); exact Kd.R_mono a4.out (fun _ hk => hk.1), (by first | exact (qR_ a1) | (simp only [hl4_1]; exact (qR_ a1))), by repeat (first | (with_reducible first | exact HB.out | apply below_alloc | apply pw_below_drewN | apply below_drew1 | refine below_set ?_ b9.out) | exact HB.out), by repeat (first | (with_reducible first | exact HK.out | apply Kept.alloc | apply Kept.drewN | apply Kept.drew | refine Kept.setCell ?_ (.inr a7.out) _) | exact HK.out)⟩
       refine jg_ H ?_; clear H; intro c32 H
       have LMc32 := am_ c32
       clear c32
       obtain ⟨b2, hy185⟩ : ∃ y_ : List Int, y_ = (x12_1 ++ b3) := ⟨_, rfl⟩
       replace H : (if b2.length < 17592186044416 then (spec_l06Walk.l0 kj18 a0 l1 a2 a3 b7 (b2 ++ [a2]) (wrap64 (x13_1 + 1))) else (none)) = some (r1, r2, r3) := hq_ hy185 H
       have Ny185 := am_ hy185
       clear hy185
       refine jg_ H ?_; clear H; intro c33 H
       have LMc33 := am_ c33
       clear c33
       obtain ⟨e9, hy188⟩ : ∃ y_ : List Int, y_ = (b2 ++ [a2]) := ⟨_, rfl⟩
       replace H : (spec_l06Walk.l0 kj18 a0 l1 a2 a3 b7 e9 (wrap64 (x13_1 + 1))) = some (r1, r2, r3) := hq_ hy188 H
       have Ny188 := am_ hy188
       clear hy188; have H' := am_ H; clear H
       have p179 := dp_ x13_1
       have q179 := dl_ x13_1 x4_1.length
       obtain ⟨ad179, e179, a6⟩ := Kd.at_bool (Kd.R_reads' a1.out).2.2 x13_1 p179 q179
       (try rw [← Nbq27.out] at a6)
       obtain rfl : (⟨go8, 0, none⟩ : Addr) = ad179 := (by injection e179)
       (first | simp only [add_plain] at a6 | simp only [add_at] at a6 | simp only [Addr.add, Nat.zero_add] at a6 | skip)
       (try simp only [add_plain] at *)
       replace p179 := eq_true p179; replace q179 := eq_true q179
       go_wp2_with (first | ((with_reducible refine gc_ 136 ?_); refine gl_ (some 56) Try.func136 #[.int .i64 a0, .slice A1 l1.length c1, .int .i64 x13_1, .int .i64 a2, .slice (some ⟨go8, 0, none⟩) x4_1.length d4] ?_; (with_reducible refine (ih kj18 (by have := HK1.out; have := b4.out; have := d3.out; omega) a0 _ _ l1 x13_1 a2 (fun k_ => some k_ = (.slice (some ⟨go8, 0, none⟩) x4_1.length d4 : Value).ownBlock) (.slice (some ⟨go8, 0, none⟩) x4_1.length d4) x4_1 b3 false b7 w0 _ ?side1 ?side2 ?side3 ?side4 A29.out).mono ?_); (case side1 => repeat (first | (with_reducible first | exact HB.out | apply below_alloc | apply pw_below_drewN | apply below_drew1 | refine below_set ?_ b9.out) | exact HB.out)); (case side2 => exact Kd.C_kept_call f3.out (by repeat (first | (with_reducible first | exact HK.out | apply Kept.alloc | apply Kept.drewN | apply Kept.drew | refine Kept.setCell ?_ (.inr a7.out) _) | exact HK.out)) (fun k_ hs_ => (fun e_ => (a1.out.1 k_ e_.symm)) hs_)); (case side3 => exact f4.out); (case side4 => exact Kd.R_tight rfl a1.out); rintro e w34 ⟨e4, rfl, ho0, hy0, hb, hkp⟩; refine ⟨_, rfl, ?_⟩; have n0_ := am_ (Kd.R_reok rfl hy0 (fun k_ e_ => a1.out.1 k_ e_)); have n1_ := am_ (Kd.R_mono (ok' := fun k_ => (P4_ k_ ∨ w.heap.size ≤ k_) ∧ some k_ ≠ (e4 : Value).ownBlock) (Kd.R_keptB ((Kd.R_apart' a4.out (Kd.R_typed a1.out) (by decide))) hkp (fun k_ hk_ hs_ => (hk_.2) hs_)) (fun k_ hk_ => ⟨hk_.1.1, fun e_ => Or.elim (ho0.1 k_ e_.symm) (fun hs_ => hk_.2.1 hs_) (fun hn_ => Nat.not_le.2 hk_.2.2 hn_)⟩)); have n2_ := (qkp_ a5 hkp (fun hs_ => (fun e_ => (Kd.R_ne a1.out a5.out (by decide)) e_) hs_)); have n3_ := am_ (Kd.R_mono (ok' := fun k_ => (P4_ k_ ∨ w.heap.size ≤ k_) ∧ some k_ ≠ (u12 : Value).ownBlock) ho0 (fun k_ hk_ => ⟨Or.elim hk_ (fun hs_ => (a1.out.1 k_ (hs_).symm)) (fun hn_ => (.inr (Nat.le_trans (by first | exact HK.out.1 | exact (show Kept w _ (fun k_ => P4_ k_) from by repeat (first | (with_reducible first | exact HK.out | apply Kept.alloc | apply Kept.drewN | apply Kept.drew | refine Kept.setCell ?_ (.inr a7.out) _) | exact HK.out)).1) hn_))), Or.elim hk_ (fun hs_ => fun e_ => ((((Kd.R_apart' a4.out (Kd.R_typed a1.out) (by decide))).1 k_ e_.symm).2) hs_) (fun hn_ => (Kd.fresh' (Kd.R_lt (qR_ a4)) k_ hn_))⟩)); have n4_ := am_ (Kept.then_ (S := (fun k_ => P4_ k_)) (by repeat (first | (with_reducible first | exact HK.out | apply Kept.alloc | apply Kept.drewN | apply Kept.drew | refine Kept.setCell ?_ (.inr a7.out) _) | exact HK.out)) hkp (fun k_ hs_ => (fun e_ => (a1.out.1 k_ e_.symm)) hs_)); have n5_ := am_ (hb); clear a1; clear a4; clear a5; clear HK; clear HB; have a1 := n0_; have a4 := n1_; have a5 := n2_; have b1 := n3_; have HK := n4_; have HB := n5_; clear n0_ n1_ n2_ n3_ n4_ n5_; (try clear hb); (try clear hkp); (try clear ho0); (try clear hy0); obtain ⟨f0, f1, f5⟩ := Kd.R_slice b1.out; subst f5) | ((with_reducible refine gate_builtin (b := .append) (xs := #[.tmp 61, .tmp 62]) rfl ?_); at_builtin; refine Kd.R_append_rows (Kd.int .i64) (w0 := w0) w0.heap.size rfl (.tmp 61) (.tmp 62) 51 3 (.int .i64 0) 8 rfl Try.underlying51 info3 rfl (by decide) (by omega) u12 x12_1 b3 _ _ _ (fun k_ => (P4_ k_ ∨ w.heap.size ≤ k_) ∧ some k_ ≠ (.slice f0 b3.length f1 : Value).ownBlock) (fun _ => False) rfl rfl ?aO ?aR (fun _ _ h => h) (fun _ h => h.elim) ?aF ?aB ?aS ?aL ?_; (case aR => repeat (first | exact (Kd.R_reads' b1.out).2.2 | (with_reducible refine Kd.C_alloc ?_ _) | (with_reducible refine Kd.C_drewN ?_ _) | (with_reducible refine Kd.C_drew ?_))); (case aB => exact qB_); (case aF => exact (fun k_ hk => ⟨(.inr (Nat.le_trans (by first | exact HK.out.1 | exact (show Kept w _ (fun k_ => P4_ k_) from by repeat (first | (with_reducible first | exact HK.out | apply Kept.alloc | apply Kept.drewN | apply Kept.drew | refine Kept.setCell ?_ (.inr a7.out) _) | exact HK.out)).1) hk)), Kd.fresh' (Kd.R_lt (qR_ b1)) k_ hk⟩)); (case aO => exact (qR_ a4)); (case aS => exact (below_size qB_)); (case aL => have := LMc32.out; omega); intro f6 w35 ho hb hg hat; rw [← Ny185.out] at ho; have b6 := am_ (ho); replace a1 := am_ (Kd.R_over' (qR_ a1) (Kd.R_typed (qR_ a4)) (by decide) hg); replace a5 := am_ (blk_grown (qk_ a5) hg (Kd.R_ne a4.out a5.out (by decide))); replace b1 := am_ (Kd.R_after (ok := (fun k_ => (P4_ k_ ∨ w.heap.size ≤ k_))) (qR_ b1) hg hat); replace HK := am_ (Kept.of_grown (S := (fun k_ => P4_ k_)) hg (by repeat (first | (with_reducible first | exact HK.out | apply Kept.alloc | apply Kept.drewN | apply Kept.drew | refine Kept.setCell ?_ (.inr a7.out) _) | exact HK.out)) (fun k_ e_ => (a4.out.1 k_ e_).1)); replace HB := am_ (hb); clear a4; clear ho hb hg hat) | ((with_reducible refine gate_builtin (b := .append) (xs := #[.tmp 63, .tmp 65]) rfl ?_); at_builtin; refine Kd.R_append (Kd.int .i64) (w0 := w0) w0.heap.size rfl (.tmp 63) (.tmp 65) 51 3 (.int .i64 0) 8 rfl Try.underlying51 info3 rfl (by decide) (by omega) f6 b2 a2 [.int .i64 a2] (fun k_ => (P4_ k_ ∨ w.heap.size ≤ k_) ∧ some k_ ≠ (.slice f0 b3.length f1 : Value).ownBlock) (fun _ => False) rfl rfl ?aP (fun _ hk => hk.elim) ?aF ?aO ?aB ?aS ?aL ?_; (case aP => exact rfl); (case aB => exact qB_); (case aF => exact (fun k_ hk => ⟨(.inr (Nat.le_trans (by first | exact HK.out.1 | exact (show Kept w _ (fun k_ => P4_ k_) from by repeat (first | (with_reducible first | exact HK.out | apply Kept.alloc | apply Kept.drewN | apply Kept.drew | refine Kept.setCell ?_ (.inr a7.out) _) | exact HK.out)).1) hk)), Kd.fresh' (Kd.R_lt (qR_ b1)) k_ hk⟩)); (case aO => exact (qR_ b6)); (case aS => exact (below_size qB_)); (case aL => have := LMc33.out; omega); intro g1 w37 ho hb hg hat; rw [← Ny188.out] at ho; have f2 := am_ (ho); replace a1 := am_ (Kd.R_over' (qR_ a1) (Kd.R_typed (qR_ b6)) (by decide) hg); replace a5 := am_ (blk_grown (qk_ a5) hg (Kd.R_ne b6.out a5.out (by decide))); replace b1 := am_ (Kd.R_after (ok := (fun k_ => (P4_ k_ ∨ w.heap.size ≤ k_))) (qR_ b1) hg hat); replace HK := am_ (Kept.of_grown (S := (fun k_ => P4_ k_)) hg (by repeat (first | (with_reducible first | exact HK.out | apply Kept.alloc | apply Kept.drewN | apply Kept.drew | refine Kept.setCell ?_ (.inr a7.out) _) | exact HK.out)) (fun k_ e_ => (b6.out.1 k_ e_).1)); replace HB := am_ (hb); clear b6; clear ho hb hg hat))
       (try simp only [← hl4_1])
       go_roundg kj18
       case measure => have := HK1.out; have := b4.out; have := d3.out; omega
       case rel => exact ⟨(b7), (e9), (wrap64 (x13_1 + 1)), qe_, H', ⟨by have := HK1.out; have := b4.out; have := d3.out; omega⟩, ⟨by (try simp only [hl4_1]); (with_reducible repeat (first | apply Kd.R_alloc | apply Kd.R_drewN | apply Kd.R_drew)); first | exact a1.out | (have h_ := a1.out; simp only [own_slice] at h_ ⊢; exact h_)⟩, ⟨by (try simp only [hl4_1]); (with_reducible repeat (first | apply Kd.R_alloc | apply Kd.R_drewN | apply Kd.R_drew)); exact Kd.R_mono f2.out (fun _ hk => hk.1)⟩, ⟨by repeat (first | (with_reducible first | exact HK.out | apply Kept.alloc | apply Kept.drewN | apply Kept.drew | refine Kept.setCell ?_ (.inr a7.out) _) | exact HK.out)⟩, ⟨qB_⟩⟩
mutual
def spec_TourOf.j0 : Nat → Int → List (S43) → Int → Bool → Option (List Int × Bool)
  | 0, _, _, _, _ => none
  | k + 1, x0, x1, x2, x20 => if x20 = true then (some ((([] : List Int)), false)) else (spec_TourOf.l0 k x0 x1 x2 0)
def spec_TourOf.l0 : Nat → Int → List (S43) → Int → Int → Option (List Int × Bool)
  | 0, _, _, _, _ => none
  | k + 1, x0, x1, x2, x8 => if x8 < (x1.length : Int) then (if 0 ≤ x8 then ((spec_EdgeOk.f x0 ((rd_T43 x1 x8).f0) ((rd_T43 x1 x8).f1)).bind fun t197 => (if t197 = true then (spec_TourOf.l0 k x0 x1 x2 (wrap64 (x8 + 1))) else (some ((([] : List Int)), false)))) else (none)) else (if 0 ≤ x0 then (if (x0 : Int).toNat ≤ 281474976710656 then ((spec_l06Walk.f k x0 x1 x2 (-1) (List.replicate (x0 : Int).toNat false)).bind fun bt204 => (if bt204.2.1 = true then (some ((([] : List Int)), false)) else (some (bt204.1, true)))) else (none)) else (none))
end
def spec_TourOf.f (k : Nat) (a0 : Int) (l1 : List (S43)) (a2 : Int) : Option (List Int × Bool) := (spec_l01In.f a0 1 12).bind fun t191 => (if t191 = true then ((spec_l01In.f a2 0 (wrap64 (a0 - 1))).bind fun t192 => (spec_TourOf.j0 k a0 l1 a2 (!t192))) else (spec_TourOf.j0 k a0 l1 a2 true))
theorem spec_TourOf.mono_l : ∀ k, (∀ y0 y1 y2 y3, LeO (spec_TourOf.j0 k y0 y1 y2 y3) (spec_TourOf.j0 (k + 1) y0 y1 y2 y3)) ∧ (∀ y0 y1 y2 y3, LeO (spec_TourOf.l0 k y0 y1 y2 y3) (spec_TourOf.l0 (k + 1) y0 y1 y2 y3))
  | 0 => ⟨fun _ _ _ _ r h => by simp [spec_TourOf.j0] at h, fun _ _ _ _ r h => by simp [spec_TourOf.l0] at h⟩
  | k + 1 => by
    obtain ⟨ih0, ih1⟩ := spec_TourOf.mono_l k
    have m0 := @spec_l06Walk.mono
    refine ⟨?_, ?_⟩ <;> (intros; first | unfold spec_TourOf.j0 | unfold spec_TourOf.l0) <;> exact lo_
theorem spec_TourOf.mono : ∀ a0 a1 a2 k, LeO (spec_TourOf.f k a0 a1 a2) (spec_TourOf.f (k + 1) a0 a1 a2) := by
  intro a0 a1 a2 k
  obtain ⟨ih0, ih1⟩ := spec_TourOf.mono_l k
  have m0 := @spec_l06Walk.mono
  unfold spec_TourOf.f
  exact lo_
theorem spec_TourOf.calls (k : Nat) (a0 : Int) (A1 : Option Addr) (c1 : Nat) (l1 : List (S43)) (a2 : Int) (r1 : List Int) (r2 : Bool) (w : World) (hr1 : Kd.C k43 w A1 l1.length l1) (hc1 : l1.length ≤ c1) (h : spec_TourOf.f k a0 l1 a2 = some (r1, r2)) :
  Calls Try.prog 109 #[.int .i64 a0, .slice A1 l1.length c1, .int .i64 a2] w fun e w' => ∃ v0_ : Value, e = .returned (.tuple #[v0_, .bool r2]) ∧ Kd.R (Kd.int .i64) 3 w' w.heap.size (fun _ => True) v0_ r1 ∧ Below w.heap.size w w' := by
 have hu43 := Try.underlying43
 have c3 := am_ hr1
 have d6 := am_ hc1
 clear hr1 hc1
 have HB := am_ (Below.refl w.heap.size w)
 have H : ((spec_l01In.f a0 1 12).bind fun a9 => (if a9 = true then ((spec_l01In.f a2 0 (wrap64 (a0 - 1))).bind fun a7 => (spec_TourOf.j0 k a0 l1 a2 (!a7))) else (spec_TourOf.j0 k a0 l1 a2 true))) = some (r1, r2) := h
 clear h
 have c4 := am_ H
 clear H
 go_enter Try.func109, Try.ntmps109
 go_upto_region 1 with (fail)
 go_cut [20] (fun v20 wc => ∃ (kq : Nat) (x20_3 : Bool), v20 = .bool x20_3 ∧ Aside0 (spec_TourOf.j0 kq a0 l1 a2 x20_3 = some (r1, r2)) ∧ Aside0 (kq ≤ k) ∧ Aside0 (Below w.heap.size w wc))
 case first =>
  have H := c4.out; clear c4
  obtain ⟨a9, A5, H⟩ := bs_ H
  refine ie_ H ?_ ?_ <;> clear H <;> rintro rfl H
  ·obtain ⟨a7, A7, H⟩ := bs_ H
   have H' := am_ H; clear H
   go_wp2_with (first | ((with_reducible refine gc_ 57 ?_); refine gl_ (some 12) Try.func57 #[.int .i64 a0, .int .i64 1, .int .i64 12] ?_; (with_reducible refine (spec_l01In.calls a0 1 12 true _ A5.out).mono ?_); rintro e w' ⟨rfl, ⟨nd, rfl⟩⟩; refine ⟨_, rfl, ?_⟩) | (go_at_call 57; (with_reducible refine (spec_l01In.calls a2 0 (wrap64 (a0 - 1)) a7 _ A7.out).mono ?_); rintro e w' ⟨rfl, ⟨nd, rfl⟩⟩))
   go_meet
   case rel => exact ⟨_, (!a7), qe_, H', ⟨qo_⟩, ⟨qB_⟩⟩
  have H' := am_ H; clear H
  go_wp2_with (first | ((with_reducible refine gc_ 57 ?_); refine gl_ (some 12) Try.func57 #[.int .i64 a0, .int .i64 1, .int .i64 12] ?_; (with_reducible refine (spec_l01In.calls a0 1 12 false _ A5.out).mono ?_); rintro e w' ⟨rfl, ⟨nd, rfl⟩⟩; refine ⟨_, rfl, ?_⟩))
  go_meet
  case rel => exact ⟨_, (true), qe_, H', ⟨qo_⟩, ⟨qB_⟩⟩
 case rest =>
  clear c4; (try clear c1); (try clear p2); (try clear c5); (try clear c6); (try clear p6)
  obtain ⟨kq, x20_3, rfl, HA, d7, HB⟩ := hcut
  cases kq with
  | zero => exact absurd HA.out (by simp [spec_TourOf.j0])
  | succ kj3 =>
   have H := HA.out; clear HA
   simp only [spec_TourOf.j0] at H
   refine ie_ H ?_ ?_ <;> clear H <;> rintro rfl H
   ·obtain ⟨c7, hy193⟩ : ∃ y_ : List Int, y_ = (([] : List Int)) := ⟨_, rfl⟩
    replace H : (some (c7, false)) = some (r1, r2) := hq_ hy193 H
    have Ny193 := am_ hy193
    clear hy193
    simp only [Option.some.injEq, Prod.mk.injEq] at H
    obtain ⟨rfl, rfl⟩ := H
    go_wp2_with (first | ((with_reducible refine gd_ 21 ?_); refine Kd.R_lit (Kd.int .i64) _ 3 ?hg (N := 21) ?hd (xs := ([] : List Int)) (inner := []) (ok := fun _ => True) (okp := fun _ => True) ?hr ?hp (fun _ hk => hk) trivial (Below.refl _ _) (Nat.le_refl _) (by simp) ?_; (case hd => rfl); (case hg => rfl); (case hr => first | (go_simp; done) | (go_simp; rfl)); (case hp => exact (Reps.none _ _)); intro d8 w9 ho10 hb hg_ hnew_; clear hg_ hnew_; (first | rw [← Ny193.out] at ho10 | (simp only [Int.reduceToNat] at ho10; rw [← Ny193.out] at ho10)); have b5 := am_ (Kd.R_lower ho10 (below_size qB_)); replace HB := hs_ hb; clear hb ho10))
    go_ret2
    exact ⟨_, qr_, qR_ b5, qB_⟩
   have H' := am_ H; clear H
   go_wp2
   go_loopg [8] kj3 (fun kq v8 w' => ∃ (x8_2 : Int), v8 = .int .i64 x8_2 ∧ Aside0 (spec_TourOf.l0 kq a0 l1 a2 x8_2 = some (r1, r2)) ∧ Aside0 (kq ≤ kj3) ∧ Aside0 (Below w.heap.size w w'))
   case atStart => exact ⟨(0), qe_, H', ⟨Nat.le_refl _⟩, ⟨qB_⟩⟩
   case round =>
    clear H'
    (try clear c1); (try clear p2); (try clear c5); (try clear c6); (try clear p6); (try clear c8); (try clear c10); (try clear p2); (try clear p6)
    obtain ⟨x8_2, rfl, HA, HK2, HB⟩ := hrel
    cases gk with
    | zero => exact absurd HA.out (by simp [spec_TourOf.l0])
    | succ k2 =>
     have H := HA.out; clear HA
     simp only [spec_TourOf.l0] at H
     refine ic_ H ?_ ?_ <;> clear H <;> intro c11b0 H
     ·refine ig_ H ?_; clear H; intro c12b0 H
      obtain ⟨c9, A13, H⟩ := bs_ H
      refine ie_ H ?_ ?_ <;> clear H <;> rintro rfl H
      ·have H' := am_ H; clear H
       have p196 := dp_ x8_2
       have q196 := dl_ x8_2 l1.length
       obtain ⟨ad196, e196, a3, a4⟩ := at_T43 c3.out x8_2 p196 q196
       cases e196
       replace a3 := qx_ HB a3
       replace a4 := qx_ HB a4
       replace p196 := eq_true p196; replace q196 := eq_true q196
       go_wp2_with (first | ((with_reducible refine gc_ 71 ?_); refine gl_ (some 33) Try.func71 #[.int .i64 a0, .agg #[.int .i64 ((rd_T43 l1 x8_2).f0), .int .i64 ((rd_T43 l1 x8_2).f1)]] ?_; (with_reducible refine (spec_EdgeOk.calls a0 ((rd_T43 l1 x8_2).f0) ((rd_T43 l1 x8_2).f1) true _ A13.out).mono ?_); rintro e w15 ⟨rfl, hb⟩; refine ⟨_, rfl, ?_⟩; replace HB := hs_ hb; (try clear hb); (try clear hb2); (try clear hk); (try clear hi)))
       go_roundg k2
       case measure => have := d7.out; have := HK2.out; omega
       case rel => exact ⟨(wrap64 (x8_2 + 1)), qe_, H', ⟨by have := d7.out; have := HK2.out; omega⟩, ⟨qB_⟩⟩
      obtain ⟨d0, hy198⟩ : ∃ y_ : List Int, y_ = (([] : List Int)) := ⟨_, rfl⟩
      replace H : (some (d0, false)) = some (r1, r2) := hq_ hy198 H
      have Ny198 := am_ hy198
      clear hy198
      simp only [Option.some.injEq, Prod.mk.injEq] at H
      obtain ⟨rfl, rfl⟩ := H
      have p196 := dp_ x8_2
      have q196 := dl_ x8_2 l1.length
      obtain ⟨ad196, e196, a3, a4⟩ := at_T43 c3.out x8_2 p196 q196
      cases e196
      replace a3 := qx_ HB a3
      replace a4 := qx_ HB a4
      replace p196 := eq_true p196; replace q196 := eq_true q196
      go_wp2_with (first | ((with_reducible refine gc_ 71 ?_); refine gl_ (some 33) Try.func71 #[.int .i64 a0, .agg #[.int .i64 ((rd_T43 l1 x8_2).f0), .int .i64 ((rd_T43 l1 x8_2).f1)]] ?_; (with_reducible refine (spec_EdgeOk.calls a0 ((rd_T43 l1 x8_2).f0) ((rd_T43 l1 x8_2).f1) false _ A13.out).mono ?_); rintro e w16 ⟨rfl, hb⟩; refine ⟨_, rfl, ?_⟩; replace HB := hs_ hb; (try clear hb); (try clear hb2); (try clear hk); (try clear hi)) | ((with_reducible refine gd_ 35 ?_); refine Kd.R_lit (Kd.int .i64) _ 3 ?hg (N := 35) ?hd (xs := ([] : List Int)) (inner := []) (ok := fun _ => True) (okp := fun _ => True) ?hr ?hp (fun _ hk => hk) trivial (Below.refl _ _) (Nat.le_refl _) (by simp) ?_; (case hd => rfl); (case hg => rfl); (case hr => first | (go_simp; done) | (go_simp; rfl)); (case hp => exact (Reps.none _ _)); intro d9 w17 ho18 hb hg_ hnew_; clear hg_ hnew_; (first | rw [← Ny198.out] at ho18 | (simp only [Int.reduceToNat] at ho18; rw [← Ny198.out] at ho18)); have b7 := am_ (Kd.R_lower ho18 (below_size qB_)); replace HB := hs_ hb; clear hb ho18))
      go_ret2
      exact ⟨_, qr_, qR_ b7, qB_⟩
     refine jg_ H ?_; clear H; intro c19 H
     have c19b0 := eq_true c19
     have c19b1 := decide_eq_true c19
     clear c19
     refine jg_ H ?_; clear H; intro c20 H
     have c20b0 := eq_true c20
     have c20b1 := decide_eq_true c20
     clear c20
     obtain ⟨a5, hy201⟩ : ∃ y_ : List Bool, y_ = (List.replicate (a0 : Int).toNat false) := ⟨_, rfl⟩
     replace H : ((spec_l06Walk.f k2 a0 l1 a2 (-1) a5).bind fun a8 => (if a8.2.1 = true then (some ((([] : List Int)), false)) else (some (a8.1, true)))) = some (r1, r2) := hq_ hy201 H
     have Ny201 := am_ hy201
     clear hy201
     replace H := Option.bind_eq_some_iff.mp H
     obtain ⟨⟨b0, b8, b9⟩, c0, H⟩ := H
     replace H : (if b8 = true then (some ((([] : List Int)), false)) else (some (b0, true))) = some (r1, r2) := H
     have A21 := am_ c0
     clear c0
     refine id_ H ?_ ?_ <;> clear H <;> rintro rfl H
     ·simp only [Option.some.injEq, Prod.mk.injEq] at H
      obtain ⟨rfl, rfl⟩ := H
      go_wp2_with (first | ((with_reducible refine gd_ 41 ?_); refine Kd.R_make Kd.bool _ 4 rfl (N := 41) rfl 136 _ _ rfl a0 rfl rfl Try.underlying136 (.bool false) 1 info4 rfl (by decide) (by omega) false (ok := fun _ => True) (okp := fun _ => True) rfl (fun _ hk => hk) trivial (of_decide_eq_true qa_) (Nat.le_trans (Nat.mul_le_mul_right _ (of_decide_eq_true qa_ : a0.toNat ≤ 281474976710656)) (by omega)) (Below.refl _ _) (Nat.le_refl _) ?_; intro d1 w29 ho30 hb hg_ hnew_; clear hg_ hnew_; (first | rw [← Ny201.out] at ho30 | (simp only [Int.reduceToNat] at ho30; rw [← Ny201.out] at ho30)); have a1 := am_ (Kd.R_lower ho30 (below_size qB_)); replace HB := hs_ hb; clear hb ho30; obtain ⟨b1, b2, d2⟩ := Kd.R_slice a1.out; subst d2) | ((with_reducible refine gc_ 136 ?_); refine gl_ (some 42) Try.func136 #[.int .i64 a0, .slice A1 l1.length c1, .int .i64 a2, .int .i64 (-1), .slice b1 a5.length b2] ?_; (with_reducible refine (spec_l06Walk.calls k2 a0 _ _ l1 a2 (-1) (fun k_ => some k_ = (.slice b1 a5.length b2 : Value).ownBlock) (.slice b1 a5.length b2) a5 b0 false b9 w _ ?side1 ?side2 ?side3 ?side4 A21.out).mono ?_); (case side1 => repeat (first | (with_reducible first | exact HB.out | apply below_alloc | apply pw_below_drewN | apply below_drew1) | exact HB.out)); (case side2 => exact Kd.C_kept_came k43_heap c3.out qB_ (fun k_ hs_ => (fun e_ => Kd.R_base a1.out k_ e_.symm) hs_)); (case side3 => exact d6.out); (case side4 => exact Kd.R_tight rfl a1.out); rintro e w32 ⟨d3, rfl, ho0, hy0, hb, hkp⟩; refine ⟨_, rfl, ?_⟩; have a6 := am_ (Kd.R_mono (ok' := fun k_ => True) ho0 (fun k_ hk_ => trivial)); replace a1 := am_ (Kd.R_reok rfl hy0 (fun k_ e_ => a1.out.1 k_ e_)); replace HB := am_ (hb); (try clear hb); (try clear hkp); (try clear ho0); (try clear hy0)))
      go_ret2
      exact ⟨_, qr_, qR_ a6, qB_⟩
     obtain ⟨d4, hy209⟩ : ∃ y_ : List Int, y_ = (([] : List Int)) := ⟨_, rfl⟩
     replace H : (some (d4, false)) = some (r1, r2) := hq_ hy209 H
     have Ny209 := am_ hy209
     clear hy209
     simp only [Option.some.injEq, Prod.mk.injEq] at H
     obtain ⟨rfl, rfl⟩ := H
     go_wp2_with (first | ((with_reducible refine gd_ 41 ?_); refine Kd.R_make Kd.bool _ 4 rfl (N := 41) rfl 136 _ _ rfl a0 rfl rfl Try.underlying136 (.bool false) 1 info4 rfl (by decide) (by omega) false (ok := fun _ => True) (okp := fun _ => True) rfl (fun _ hk => hk) trivial (of_decide_eq_true qa_) (Nat.le_trans (Nat.mul_le_mul_right _ (of_decide_eq_true qa_ : a0.toNat ≤ 281474976710656)) (by omega)) (Below.refl _ _) (Nat.le_refl _) ?_; intro d1 w23 ho24 hb hg_ hnew_; clear hg_ hnew_; (first | rw [← Ny201.out] at ho24 | (simp only [Int.reduceToNat] at ho24; rw [← Ny201.out] at ho24)); have a1 := am_ (Kd.R_lower ho24 (below_size qB_)); replace HB := hs_ hb; clear hb ho24; obtain ⟨b3, b4, d5⟩ := Kd.R_slice a1.out; subst d5) | ((with_reducible refine gc_ 136 ?_); refine gl_ (some 42) Try.func136 #[.int .i64 a0, .slice A1 l1.length c1, .int .i64 a2, .int .i64 (-1), .slice b3 a5.length b4] ?_; (with_reducible refine (spec_l06Walk.calls k2 a0 _ _ l1 a2 (-1) (fun k_ => some k_ = (.slice b3 a5.length b4 : Value).ownBlock) (.slice b3 a5.length b4) a5 b0 true b9 w _ ?side1 ?side2 ?side3 ?side4 A21.out).mono ?_); (case side1 => repeat (first | (with_reducible first | exact HB.out | apply below_alloc | apply pw_below_drewN | apply below_drew1) | exact HB.out)); (case side2 => exact Kd.C_kept_came k43_heap c3.out qB_ (fun k_ hs_ => (fun e_ => Kd.R_base a1.out k_ e_.symm) hs_)); (case side3 => exact d6.out); (case side4 => exact Kd.R_tight rfl a1.out); rintro e w26 ⟨d3, rfl, ho0, hy0, hb, hkp⟩; refine ⟨_, rfl, ?_⟩; have a6 := am_ (Kd.R_mono (ok' := fun k_ => True) ho0 (fun k_ hk_ => trivial)); replace a1 := am_ (Kd.R_reok rfl hy0 (fun k_ e_ => a1.out.1 k_ e_)); replace HB := am_ (hb); (try clear hb); (try clear hkp); (try clear ho0); (try clear hy0)) | ((with_reducible refine gd_ 46 ?_); refine Kd.R_lit (Kd.int .i64) _ 3 ?hg (N := 46) ?hd (xs := ([] : List Int)) (inner := []) (ok := fun _ => True) (okp := fun _ => True) ?hr ?hp (fun _ hk => hk) trivial (Below.refl _ _) (Nat.le_refl _) (by simp) ?_; (case hd => rfl); (case hg => rfl); (case hr => first | (go_simp; done) | (go_simp; rfl)); (case hp => exact (Reps.none _ _)); intro e0 w27 ho28 hb hg_ hnew_; clear hg_ hnew_; (first | rw [← Ny209.out] at ho28 | (simp only [Int.reduceToNat] at ho28; rw [← Ny209.out] at ho28)); have c2 := am_ (Kd.R_lower (Kd.R_new' ho28 (Kd.R_lt (qR_ a6))) (below_size qB_)); replace a1 := kb_ a1 hb; replace a6 := ke_ a6 ho28 hb; replace HB := hs_ hb; clear hb ho28))
     go_ret2
     exact ⟨_, qr_, by (with_reducible repeat (first | apply Kd.R_alloc | apply Kd.R_drewN | apply Kd.R_drew)); exact Kd.R_mono c2.out (fun _ hk => trivial), qB_⟩
end Go.Proofs.Ytbkklafkoegdpaa.QFnExactWebAdd
