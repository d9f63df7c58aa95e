-- Printed by a program of this session out of the translation; not trusted: Lean checks it.
-- SHRUNK
import Derived.Test.YtlkpnjcbokeoeaaPrint0
namespace Go.Proofs.Ytlkpnjcbokeoeaa.Print
open Go.RowKit Go.Proofs.YtlkpnjcbokeoeaaW.PrintWords Go.Proofs.YtlkpnjcbokeoeaaW.PrintLast Go.Proofs.YtlkpnjcbokeoeaaW.PrintMore
attribute [local go_sem] max2_int min2_int max_two min_two max_three min_three max_four min_four   -- for this text's walks alone
set_option linter.unusedVariables false
set_option linter.unusedSimpArgs false

/-! ### spec_l09Next: function 72 -/
mutual
def spec_l09Next.l0 : Nat → Int → List (S55) → Int → List Int → Int → Option (List Int)
 | 0, _, _, _, _, _ => none
 | k + 1, x0, x1, x2, x7, x8 => if x8 < x0 then (spec_l09Next.l1 k x0 x1 x2 x7 x8 0) else (some x7)
def spec_l09Next.l1 : Nat → Int → List (S55) → Int → List Int → Int → Int → Option (List Int)
 | 0, _, _, _, _, _, _ => none
 | k + 1, x0, x1, x2, x7, x8, x9 => if x9 < (x1.length : Int) then (if 0 ≤ x9 then (if ((rd_T55 x1 x9).f0) = x2 then (if ((rd_T55 x1 x9).f1) = x8 then (if x7.length < 17592186044416 then (spec_l09Next.l1 k x0 x1 x2 (x7 ++ [x8]) x8 (wrap64 (x9 + 1))) else (none)) else (if ((rd_T55 x1 x9).f1) = x2 then (if ((rd_T55 x1 x9).f0) = x8 then (if x7.length < 17592186044416 then (spec_l09Next.l1 k x0 x1 x2 (x7 ++ [x8]) x8 (wrap64 (x9 + 1))) else (none)) else (spec_l09Next.l1 k x0 x1 x2 x7 x8 (wrap64 (x9 + 1)))) else (spec_l09Next.l1 k x0 x1 x2 x7 x8 (wrap64 (x9 + 1))))) else (if ((rd_T55 x1 x9).f1) = x2 then (if ((rd_T55 x1 x9).f0) = x8 then (if x7.length < 17592186044416 then (spec_l09Next.l1 k x0 x1 x2 (x7 ++ [x8]) x8 (wrap64 (x9 + 1))) else (none)) else (spec_l09Next.l1 k x0 x1 x2 x7 x8 (wrap64 (x9 + 1)))) else (spec_l09Next.l1 k x0 x1 x2 x7 x8 (wrap64 (x9 + 1))))) else (none)) else (spec_l09Next.l0 k x0 x1 x2 x7 (wrap64 (x8 + 1)))
end
def spec_l09Next.f (k : Nat) (a0 : Int) (l1 : List (S55)) (a2 : Int) : Option (List Int) := spec_l09Next.l0 k a0 l1 a2 (([] : List Int)) 0
theorem spec_l09Next.mono_l : ∀ k, (∀ y0 y1 y2 y3 y4, LeO (spec_l09Next.l0 k y0 y1 y2 y3 y4) (spec_l09Next.l0 (k + 1) y0 y1 y2 y3 y4)) ∧ (∀ y0 y1 y2 y3 y4 y5, LeO (spec_l09Next.l1 k y0 y1 y2 y3 y4 y5) (spec_l09Next.l1 (k + 1) y0 y1 y2 y3 y4 y5))
 | 0 => ⟨fun _ _ _ _ _ r h => by simp [spec_l09Next.l0] at h, fun _ _ _ _ _ _ r h => by simp [spec_l09Next.l1] at h⟩
 | k + 1 => by
  obtain ⟨ih0, ih1⟩ := spec_l09Next.mono_l k
  refine ⟨?_, ?_⟩
  ·intro y0 y1 y2 y3 y4
   unfold spec_l09Next.l0
   repeat' first
   | (with_reducible exact ih0 _ _ _ _ _)
   | (with_reducible exact ih1 _ _ _ _ _ _)
   | (with_reducible exact LeO.refl _)
   | (with_reducible exact LeO.none _)
   | (with_reducible refine LeO.ite ?_ ?_)
   | (with_reducible refine LeO.bind ?_ (fun _ => ?_))
   | exact ih0 _ _ _ _ _
   | exact ih1 _ _ _ _ _ _
   | exact LeO.none _
   | refine LeO.ite ?_ ?_
   | refine LeO.bind ?_ (fun _ => ?_)
  ·intro y0 y1 y2 y3 y4 y5
   unfold spec_l09Next.l1
   repeat' first
   | (with_reducible exact ih0 _ _ _ _ _)
   | (with_reducible exact ih1 _ _ _ _ _ _)
   | (with_reducible exact LeO.refl _)
   | (with_reducible exact LeO.none _)
   | (with_reducible refine LeO.ite ?_ ?_)
   | (with_reducible refine LeO.bind ?_ (fun _ => ?_))
   | exact ih0 _ _ _ _ _
   | exact ih1 _ _ _ _ _ _
   | exact LeO.none _
   | refine LeO.ite ?_ ?_
   | refine LeO.bind ?_ (fun _ => ?_)
theorem spec_l09Next.mono : ∀ a0 a1 a2 k, LeO (spec_l09Next.f k a0 a1 a2) (spec_l09Next.f (k + 1) a0 a1 a2) := by
 intro a0 a1 a2 k
 obtain ⟨ih0, ih1⟩ := spec_l09Next.mono_l k
 unfold spec_l09Next.f
 repeat' first
   | (with_reducible exact ih0 _ _ _ _ _)
   | (with_reducible exact ih1 _ _ _ _ _ _)
   | (with_reducible exact LeO.refl _)
   | (with_reducible exact LeO.none _)
   | (with_reducible refine LeO.ite ?_ ?_)
   | (with_reducible refine LeO.bind ?_ (fun _ => ?_))
   | exact ih0 _ _ _ _ _
   | exact ih1 _ _ _ _ _ _
   | exact LeO.none _
   | refine LeO.ite ?_ ?_
   | refine LeO.bind ?_ (fun _ => ?_)
set_option maxHeartbeats 8000000 in
set_option maxRecDepth 100000 in
theorem spec_l09Next.calls (k : Nat) (a0 : Int) (A1 : Option Addr) (c1 : Nat) (l1 : List (S55)) (a2 : Int) (r : List Int) (w : World) (hr1 : Kd.C k55 w A1 l1.length l1) (hc1 : l1.length ≤ c1) (h : spec_l09Next.f k a0 l1 a2 = some r) :
  Calls Try.prog 72 #[.int .i64 a0, .slice A1 l1.length c1, .int .i64 a2] w fun e w' => ∃ v0_ : Value, e = .returned (v0_) ∧ Kd.R (Kd.int .i64) 2 w' w.heap.size (fun _ => True) v0_ r ∧ Below w.heap.size w w' := by
 have HR1 := Aside0.mk hr1
 have HC1 := Aside0.mk hc1
 clear hr1 hc1
 have HB := Aside0.mk (Below.refl w.heap.size w)
 have H : (spec_l09Next.l0 k a0 l1 a2 (([] : List Int)) 0) = some r := h
 clear h
 obtain ⟨y197, hy197⟩ : ∃ y_ : List Int, y_ = (([] : List Int)) := ⟨_, rfl⟩
 replace H : (spec_l09Next.l0 k a0 l1 a2 y197 0) = some r := by first | (rw [hy197]; with_reducible exact H) | (have H2_ := (Option.bind_some _ _).symm.trans H; rw [hy197]; with_reducible exact H2_) | (have H2_ := (Option.bind_some _ _).symm.trans H; with_reducible exact H2_) | with_reducible exact H | (rw [hy197]; exact H) | exact H
 have Ny197 := Aside0.mk hy197
 clear hy197
 have H' := Aside0.mk H
 clear H
 go_enter Try.func72, Try.ntmps72
 go_wp2_with (first | ((with_reducible refine gate_dst (N := 10) rfl ?_); refine Kd.R_lit (Kd.int .i64) _ 2 ?hg (N := 10) ?hd (xs := ([] : List Int)) (inner := []) (ok := fun _ => True) (okp := fun _ => True) ?hr ?hp (fun _ hk => hk) trivial (Below.refl _ _) (Nat.le_refl _) (by simp) ?_; (case hd => rfl); (case hg => rfl); (case hr => first | (go_simp; done) | (go_simp; rfl)); (case hp => exact (Reps.none _ _)); intro v198 w4 ho5 hb hg_ hnew_; clear hg_ hnew_; (first | rw [← Ny197.out] at ho5 | (simp only [Int.reduceToNat] at ho5; rw [← Ny197.out] at ho5)); have n0_ := Aside0.mk (Kd.R_lower ho5 (below_size (by repeat (first | (with_reducible first | exact HB.out | apply below_alloc | apply pw_below_drewN | apply below_drew1) | exact HB.out)))); have n1_ := Aside0.mk (below_step (by repeat (first | (with_reducible first | exact HB.out | apply below_alloc | apply pw_below_drewN | apply below_drew1) | exact HB.out)) hb); clear HB; have HO199 := n0_; have HB := n1_; clear n0_ n1_; clear hb ho5))
 go_loopg [7, 8] k (fun kq v7 v8 w' => ∃ (x7_1 : List Int) (x8_1 : Int), v8 = .int .i64 x8_1 ∧ Aside0 (spec_l09Next.l0 kq a0 l1 a2 x7_1 x8_1 = some r) ∧ Aside0 (kq ≤ k) ∧ Aside0 (Kd.R (Kd.int .i64) 2 w' w.heap.size (fun _ => True) v7 x7_1) ∧ Aside0 (Below w.heap.size w w'))
 case atStart => exact ⟨(y197), (0), (by first | rfl | (simp; done) | (simp [*]; done)), H', ⟨Nat.le_refl _⟩, ⟨by (with_reducible repeat (first | apply Kd.R_alloc | apply Kd.R_drewN | apply Kd.R_drew)); exact HO199.out⟩, ⟨by repeat (first | (with_reducible first | exact HB.out | apply below_alloc | apply pw_below_drewN | apply below_drew1) | exact HB.out)⟩⟩
 case round =>
  clear H'
  try clear c1
  try clear p2
  obtain ⟨x7_1, x8_1, rfl, HA, HK1, HO_7, HB⟩ := hrel
  cases gk with
  | zero => exact absurd HA.out (by simp [spec_l09Next.l0])
  | succ k1 =>
   have H := HA.out
   clear HA
   simp only [spec_l09Next.l0] at H
   by_cases c6 : x8_1 < a0
   ·rw [if_pos c6] at H
    have c6b0 : decide (x8_1 < a0) = true := decide_eq_true c6
    clear c6
    have H' := Aside0.mk H
    clear H
    go_wp2
    go_loopg [7, 9] k1 (fun kq v7 v9 w' => ∃ (x7_2 : List Int) (x9_2 : Int), v9 = .int .i64 x9_2 ∧ Aside0 (spec_l09Next.l1 kq a0 l1 a2 x7_2 x8_1 x9_2 = some r) ∧ Aside0 (kq ≤ k1) ∧ Aside0 (Kd.R (Kd.int .i64) 2 w' w.heap.size (fun _ => True) v7 x7_2) ∧ Aside0 (Below w.heap.size w w'))
    case atStart => exact ⟨(x7_1), (0), (by first | rfl | (simp; done) | (simp [*]; done)), H', ⟨Nat.le_refl _⟩, ⟨by (with_reducible repeat (first | apply Kd.R_alloc | apply Kd.R_drewN | apply Kd.R_drew)); exact HO_7.out⟩, ⟨by repeat (first | (with_reducible first | exact HB.out | apply below_alloc | apply pw_below_drewN | apply below_drew1) | exact HB.out)⟩⟩
    case round =>
     clear H'
     try clear c1
     try clear p2
     try clear c6
     try clear c6b0
     try clear p2
     obtain ⟨x7_2, x9_2, rfl, HA, HK2, HO_7, HB⟩ := hrel
     cases gk with
     | zero => exact absurd HA.out (by simp [spec_l09Next.l1])
     | succ k2 =>
      have H := HA.out
      clear HA
      simp only [spec_l09Next.l1] at H
      by_cases c7 : x9_2 < (l1.length : Int)
      ·rw [if_pos c7] at H
       have c7b0 : decide (x9_2 < (l1.length : Int)) = true := decide_eq_true c7
       clear c7
       by_cases c8 : 0 ≤ x9_2
       ·rw [if_pos c8] at H
        have c8b0 : decide (0 ≤ x9_2) = true := decide_eq_true c8
        clear c8
        by_cases c9 : ((rd_T55 l1 x9_2).f0) = a2
        ·rw [if_pos c9] at H
         have c9b0 : (((rd_T55 l1 x9_2).f0) == a2) = true := beq_iff_eq.mpr c9
         have c9b1 : (((rd_T55 l1 x9_2).f0) != a2) = false := bne_eq_false_iff_eq.mpr c9
         clear c9
         by_cases c10 : ((rd_T55 l1 x9_2).f1) = x8_1
         ·rw [if_pos c10] at H
          have c10b0 : (((rd_T55 l1 x9_2).f1) == x8_1) = true := beq_iff_eq.mpr c10
          have c10b1 : (((rd_T55 l1 x9_2).f1) != x8_1) = false := bne_eq_false_iff_eq.mpr c10
          clear c10
          by_cases c11 : x7_2.length < 17592186044416
          ·rw [if_pos c11] at H
           have LMc11 := Aside0.mk c11
           clear c11
           obtain ⟨y202, hy202⟩ : ∃ y_ : List Int, y_ = (x7_2 ++ [x8_1]) := ⟨_, rfl⟩
           replace H : (spec_l09Next.l1 k2 a0 l1 a2 y202 x8_1 (wrap64 (x9_2 + 1))) = some r := by first | (rw [hy202]; with_reducible exact H) | (have H2_ := (Option.bind_some _ _).symm.trans H; rw [hy202]; with_reducible exact H2_) | (have H2_ := (Option.bind_some _ _).symm.trans H; with_reducible exact H2_) | with_reducible exact H | (rw [hy202]; exact H) | exact H
           have Ny202 := Aside0.mk hy202
           clear hy202
           have H' := Aside0.mk H
           clear H
           have p200 : 0 ≤ (x9_2 : Int) := od_
           have q200 : x9_2 < (l1.length : Int) := od_
           obtain ⟨ad200, e200, hx200_0, hx200_1⟩ := at_T55 HR1.out x9_2 p200 q200
           cases e200
           replace hx200_0 := (HB.out.cell (World.block_lt_of_cell? w _ hx200_0)).trans hx200_0
           replace hx200_1 := (HB.out.cell (World.block_lt_of_cell? w _ hx200_1)).trans hx200_1
           replace p200 := eq_true p200
           replace q200 := eq_true q200
           have p201 : 0 ≤ (x9_2 : Int) := od_
           have q201 : x9_2 < (l1.length : Int) := od_
           obtain ⟨ad201, e201, hx201_0, hx201_1⟩ := at_T55 HR1.out x9_2 p201 q201
           obtain rfl : ad200 = ad201 := (by injection e201)
           replace hx201_0 := (HB.out.cell (World.block_lt_of_cell? w _ hx201_0)).trans hx201_0
           replace hx201_1 := (HB.out.cell (World.block_lt_of_cell? w _ hx201_1)).trans hx201_1
           replace p201 := eq_true p201
           replace q201 := eq_true q201
           go_wp2_with (first | ((with_reducible refine gate_builtin (b := .append) (xs := #[.tmp 56, .tmp 58]) rfl ?_); at_builtin; refine Kd.R_append (Kd.int .i64) (w0 := w) w.heap.size rfl (.tmp 56) (.tmp 58) 33 2 (.int .i64 0) 8 rfl Try.underlying33 info2 rfl (by decide) (by omega) u7 x7_2 x8_1 [.int .i64 x8_1] (fun _ => True) (fun _ => False) rfl rfl ?aP (fun _ hk => hk.elim) ?aF ?aO ?aB ?aS ?aL ?_; (case aP => exact rfl); (case aB => exact (by repeat (first | (with_reducible first | exact HB.out | apply below_alloc | apply pw_below_drewN | apply below_drew1) | exact HB.out))); (case aF => exact (fun _ _ => trivial)); (case aO => exact (by (with_reducible repeat (first | apply Kd.R_alloc | apply Kd.R_drewN | apply Kd.R_drew)); exact HO_7.out)); (case aS => exact (below_size (by repeat (first | (with_reducible first | exact HB.out | apply below_alloc | apply pw_below_drewN | apply below_drew1) | exact HB.out)))); (case aL => have := LMc11.out; omega); intro v203 w12 ho hb hg hat; rw [← Ny202.out] at ho; have n0_ := Aside0.mk (hb); have n1_ := Aside0.mk (ho); clear HB; clear HO_7; have HB := n0_; have HO204 := n1_; clear n0_ n1_; clear ho hb hg hat))
           go_roundg k2
           case measure => have := HK1.out; have := HK2.out; omega
           case rel => exact ⟨(y202), (wrap64 (x9_2 + 1)), (by first | rfl | (simp; done) | (simp [*]; done)), H', ⟨by have := HK1.out; have := HK2.out; omega⟩, ⟨by (with_reducible repeat (first | apply Kd.R_alloc | apply Kd.R_drewN | apply Kd.R_drew)); exact HO204.out⟩, ⟨by repeat (first | (with_reducible first | exact HB.out | apply below_alloc | apply pw_below_drewN | apply below_drew1) | exact HB.out)⟩⟩
          ·rw [if_neg c11] at H
           exact absurd H (by simp)
         ·rw [if_neg c10] at H
          have c10b0 : (((rd_T55 l1 x9_2).f1) == x8_1) = false := beq_eq_false_iff_ne.mpr c10
          have c10b1 : (((rd_T55 l1 x9_2).f1) != x8_1) = true := bne_iff_ne.mpr c10
          by_cases c13 : ((rd_T55 l1 x9_2).f1) = a2
          ·rw [if_pos c13] at H
           have c13b0 : (((rd_T55 l1 x9_2).f1) == a2) = true := beq_iff_eq.mpr c13
           have c13b1 : (((rd_T55 l1 x9_2).f1) != a2) = false := bne_eq_false_iff_eq.mpr c13
           clear c13
           by_cases c14 : ((rd_T55 l1 x9_2).f0) = x8_1
           ·rw [if_pos c14] at H
            have c14b0 : (((rd_T55 l1 x9_2).f0) == x8_1) = true := beq_iff_eq.mpr c14
            have c14b1 : (((rd_T55 l1 x9_2).f0) != x8_1) = false := bne_eq_false_iff_eq.mpr c14
            clear c14
            by_cases c15 : x7_2.length < 17592186044416
            ·rw [if_pos c15] at H
             have LMc15 := Aside0.mk c15
             clear c15
             obtain ⟨y207, hy207⟩ : ∃ y_ : List Int, y_ = (x7_2 ++ [x8_1]) := ⟨_, rfl⟩
             replace H : (spec_l09Next.l1 k2 a0 l1 a2 y207 x8_1 (wrap64 (x9_2 + 1))) = some r := by first | (rw [hy207]; with_reducible exact H) | (have H2_ := (Option.bind_some _ _).symm.trans H; rw [hy207]; with_reducible exact H2_) | (have H2_ := (Option.bind_some _ _).symm.trans H; with_reducible exact H2_) | with_reducible exact H | (rw [hy207]; exact H) | exact H
             have Ny207 := Aside0.mk hy207
             clear hy207
             have H' := Aside0.mk H
             clear H
             have p200 : 0 ≤ (x9_2 : Int) := od_
             have q200 : x9_2 < (l1.length : Int) := od_
             obtain ⟨ad200, e200, hx200_0, hx200_1⟩ := at_T55 HR1.out x9_2 p200 q200
             cases e200
             replace hx200_0 := (HB.out.cell (World.block_lt_of_cell? w _ hx200_0)).trans hx200_0
             replace hx200_1 := (HB.out.cell (World.block_lt_of_cell? w _ hx200_1)).trans hx200_1
             replace p200 := eq_true p200
             replace q200 := eq_true q200
             have p201 : 0 ≤ (x9_2 : Int) := od_
             have q201 : x9_2 < (l1.length : Int) := od_
             obtain ⟨ad201, e201, hx201_0, hx201_1⟩ := at_T55 HR1.out x9_2 p201 q201
             obtain rfl : ad200 = ad201 := (by injection e201)
             replace hx201_0 := (HB.out.cell (World.block_lt_of_cell? w _ hx201_0)).trans hx201_0
             replace hx201_1 := (HB.out.cell (World.block_lt_of_cell? w _ hx201_1)).trans hx201_1
             replace p201 := eq_true p201
             replace q201 := eq_true q201
             have p205 : 0 ≤ (x9_2 : Int) := od_
             have q205 : x9_2 < (l1.length : Int) := od_
             obtain ⟨ad205, e205, hx205_0, hx205_1⟩ := at_T55 HR1.out x9_2 p205 q205
             obtain rfl : ad200 = ad205 := (by injection e205)
             replace hx205_0 := (HB.out.cell (World.block_lt_of_cell? w _ hx205_0)).trans hx205_0
             replace hx205_1 := (HB.out.cell (World.block_lt_of_cell? w _ hx205_1)).trans hx205_1
             replace p205 := eq_true p205
             replace q205 := eq_true q205
             have p206 : 0 ≤ (x9_2 : Int) := od_
             have q206 : x9_2 < (l1.length : Int) := od_
             obtain ⟨ad206, e206, hx206_0, hx206_1⟩ := at_T55 HR1.out x9_2 p206 q206
             obtain rfl : ad200 = ad206 := (by injection e206)
             replace hx206_0 := (HB.out.cell (World.block_lt_of_cell? w _ hx206_0)).trans hx206_0
             replace hx206_1 := (HB.out.cell (World.block_lt_of_cell? w _ hx206_1)).trans hx206_1
             replace p206 := eq_true p206
             replace q206 := eq_true q206
             go_wp2_with (first | ((with_reducible refine gate_builtin (b := .append) (xs := #[.tmp 56, .tmp 58]) rfl ?_); at_builtin; refine Kd.R_append (Kd.int .i64) (w0 := w) w.heap.size rfl (.tmp 56) (.tmp 58) 33 2 (.int .i64 0) 8 rfl Try.underlying33 info2 rfl (by decide) (by omega) u7 x7_2 x8_1 [.int .i64 x8_1] (fun _ => True) (fun _ => False) rfl rfl ?aP (fun _ hk => hk.elim) ?aF ?aO ?aB ?aS ?aL ?_; (case aP => exact rfl); (case aB => exact (by repeat (first | (with_reducible first | exact HB.out | apply below_alloc | apply pw_below_drewN | apply below_drew1) | exact HB.out))); (case aF => exact (fun _ _ => trivial)); (case aO => exact (by (with_reducible repeat (first | apply Kd.R_alloc | apply Kd.R_drewN | apply Kd.R_drew)); exact HO_7.out)); (case aS => exact (below_size (by repeat (first | (with_reducible first | exact HB.out | apply below_alloc | apply pw_below_drewN | apply below_drew1) | exact HB.out)))); (case aL => have := LMc15.out; omega); intro v208 w16 ho hb hg hat; rw [← Ny207.out] at ho; have n0_ := Aside0.mk (hb); have n1_ := Aside0.mk (ho); clear HB; clear HO_7; have HB := n0_; have HO209 := n1_; clear n0_ n1_; clear ho hb hg hat))
             go_roundg k2
             case measure => have := HK1.out; have := HK2.out; omega
             case rel => exact ⟨(y207), (wrap64 (x9_2 + 1)), (by first | rfl | (simp; done) | (simp [*]; done)), H', ⟨by have := HK1.out; have := HK2.out; omega⟩, ⟨by (with_reducible repeat (first | apply Kd.R_alloc | apply Kd.R_drewN | apply Kd.R_drew)); exact HO209.out⟩, ⟨by repeat (first | (with_reducible first | exact HB.out | apply below_alloc | apply pw_below_drewN | apply below_drew1) | exact HB.out)⟩⟩
            ·rw [if_neg c15] at H
             exact absurd H (by simp)
           ·rw [if_neg c14] at H
            have c14b0 : (((rd_T55 l1 x9_2).f0) == x8_1) = false := beq_eq_false_iff_ne.mpr c14
            have c14b1 : (((rd_T55 l1 x9_2).f0) != x8_1) = true := bne_iff_ne.mpr c14
            have H' := Aside0.mk H
            clear H
            have p200 : 0 ≤ (x9_2 : Int) := od_
            have q200 : x9_2 < (l1.length : Int) := od_
            obtain ⟨ad200, e200, hx200_0, hx200_1⟩ := at_T55 HR1.out x9_2 p200 q200
            cases e200
            replace hx200_0 := (HB.out.cell (World.block_lt_of_cell? w _ hx200_0)).trans hx200_0
            replace hx200_1 := (HB.out.cell (World.block_lt_of_cell? w _ hx200_1)).trans hx200_1
            replace p200 := eq_true p200
            replace q200 := eq_true q200
            have p201 : 0 ≤ (x9_2 : Int) := od_
            have q201 : x9_2 < (l1.length : Int) := od_
            obtain ⟨ad201, e201, hx201_0, hx201_1⟩ := at_T55 HR1.out x9_2 p201 q201
            obtain rfl : ad200 = ad201 := (by injection e201)
            replace hx201_0 := (HB.out.cell (World.block_lt_of_cell? w _ hx201_0)).trans hx201_0
            replace hx201_1 := (HB.out.cell (World.block_lt_of_cell? w _ hx201_1)).trans hx201_1
            replace p201 := eq_true p201
            replace q201 := eq_true q201
            have p205 : 0 ≤ (x9_2 : Int) := od_
            have q205 : x9_2 < (l1.length : Int) := od_
            obtain ⟨ad205, e205, hx205_0, hx205_1⟩ := at_T55 HR1.out x9_2 p205 q205
            obtain rfl : ad200 = ad205 := (by injection e205)
            replace hx205_0 := (HB.out.cell (World.block_lt_of_cell? w _ hx205_0)).trans hx205_0
            replace hx205_1 := (HB.out.cell (World.block_lt_of_cell? w _ hx205_1)).trans hx205_1
            replace p205 := eq_true p205
            replace q205 := eq_true q205
            have p206 : 0 ≤ (x9_2 : Int) := od_
            have q206 : x9_2 < (l1.length : Int) := od_
            obtain ⟨ad206, e206, hx206_0, hx206_1⟩ := at_T55 HR1.out x9_2 p206 q206
            obtain rfl : ad200 = ad206 := (by injection e206)
            replace hx206_0 := (HB.out.cell (World.block_lt_of_cell? w _ hx206_0)).trans hx206_0
            replace hx206_1 := (HB.out.cell (World.block_lt_of_cell? w _ hx206_1)).trans hx206_1
            replace p206 := eq_true p206
            replace q206 := eq_true q206
            go_wp2
            go_roundg k2
            case measure => have := HK1.out; have := HK2.out; omega
            case rel => exact ⟨(x7_2), (wrap64 (x9_2 + 1)), (by first | rfl | (simp; done) | (simp [*]; done)), H', ⟨by have := HK1.out; have := HK2.out; omega⟩, ⟨by (with_reducible repeat (first | apply Kd.R_alloc | apply Kd.R_drewN | apply Kd.R_drew)); exact HO_7.out⟩, ⟨by repeat (first | (with_reducible first | exact HB.out | apply below_alloc | apply pw_below_drewN | apply below_drew1) | exact HB.out)⟩⟩
          ·rw [if_neg c13] at H
           have c13b0 : (((rd_T55 l1 x9_2).f1) == a2) = false := beq_eq_false_iff_ne.mpr c13
           have c13b1 : (((rd_T55 l1 x9_2).f1) != a2) = true := bne_iff_ne.mpr c13
           have H' := Aside0.mk H
           clear H
           have p200 : 0 ≤ (x9_2 : Int) := od_
           have q200 : x9_2 < (l1.length : Int) := od_
           obtain ⟨ad200, e200, hx200_0, hx200_1⟩ := at_T55 HR1.out x9_2 p200 q200
           cases e200
           replace hx200_0 := (HB.out.cell (World.block_lt_of_cell? w _ hx200_0)).trans hx200_0
           replace hx200_1 := (HB.out.cell (World.block_lt_of_cell? w _ hx200_1)).trans hx200_1
           replace p200 := eq_true p200
           replace q200 := eq_true q200
           have p201 : 0 ≤ (x9_2 : Int) := od_
           have q201 : x9_2 < (l1.length : Int) := od_
           obtain ⟨ad201, e201, hx201_0, hx201_1⟩ := at_T55 HR1.out x9_2 p201 q201
           obtain rfl : ad200 = ad201 := (by injection e201)
           replace hx201_0 := (HB.out.cell (World.block_lt_of_cell? w _ hx201_0)).trans hx201_0
           replace hx201_1 := (HB.out.cell (World.block_lt_of_cell? w _ hx201_1)).trans hx201_1
           replace p201 := eq_true p201
           replace q201 := eq_true q201
           have p205 : 0 ≤ (x9_2 : Int) := od_
           have q205 : x9_2 < (l1.length : Int) := od_
           obtain ⟨ad205, e205, hx205_0, hx205_1⟩ := at_T55 HR1.out x9_2 p205 q205
           obtain rfl : ad200 = ad205 := (by injection e205)
           replace hx205_0 := (HB.out.cell (World.block_lt_of_cell? w _ hx205_0)).trans hx205_0
           replace hx205_1 := (HB.out.cell (World.block_lt_of_cell? w _ hx205_1)).trans hx205_1
           replace p205 := eq_true p205
           replace q205 := eq_true q205
           go_wp2
           go_roundg k2
           case measure => have := HK1.out; have := HK2.out; omega
           case rel => exact ⟨(x7_2), (wrap64 (x9_2 + 1)), (by first | rfl | (simp; done) | (simp [*]; done)), H', ⟨by have := HK1.out; have := HK2.out; omega⟩, ⟨by (with_reducible repeat (first | apply Kd.R_alloc | apply Kd.R_drewN | apply Kd.R_drew)); exact HO_7.out⟩, ⟨by repeat (first | (with_reducible first | exact HB.out | apply below_alloc | apply pw_below_drewN | apply below_drew1) | exact HB.out)⟩⟩
        ·rw [if_neg c9] at H
         have c9b0 : (((rd_T55 l1 x9_2).f0) == a2) = false := beq_eq_false_iff_ne.mpr c9
         have c9b1 : (((rd_T55 l1 x9_2).f0) != a2) = true := bne_iff_ne.mpr c9
         by_cases c17 : ((rd_T55 l1 x9_2).f1) = a2
         ·rw [if_pos c17] at H
          have c17b0 : (((rd_T55 l1 x9_2).f1) == a2) = true := beq_iff_eq.mpr c17
          have c17b1 : (((rd_T55 l1 x9_2).f1) != a2) = false := bne_eq_false_iff_eq.mpr c17
          clear c17
          by_cases c18 : ((rd_T55 l1 x9_2).f0) = x8_1
          ·rw [if_pos c18] at H
           have c18b0 : (((rd_T55 l1 x9_2).f0) == x8_1) = true := beq_iff_eq.mpr c18
           have c18b1 : (((rd_T55 l1 x9_2).f0) != x8_1) = false := bne_eq_false_iff_eq.mpr c18
           clear c18
           by_cases c19 : x7_2.length < 17592186044416
           ·rw [if_pos c19] at H
            have LMc19 := Aside0.mk c19
            clear c19
            obtain ⟨y212, hy212⟩ : ∃ y_ : List Int, y_ = (x7_2 ++ [x8_1]) := ⟨_, rfl⟩
            replace H : (spec_l09Next.l1 k2 a0 l1 a2 y212 x8_1 (wrap64 (x9_2 + 1))) = some r := by first | (rw [hy212]; with_reducible exact H) | (have H2_ := (Option.bind_some _ _).symm.trans H; rw [hy212]; with_reducible exact H2_) | (have H2_ := (Option.bind_some _ _).symm.trans H; with_reducible exact H2_) | with_reducible exact H | (rw [hy212]; exact H) | exact H
            have Ny212 := Aside0.mk hy212
            clear hy212
            have H' := Aside0.mk H
            clear H
            have p200 : 0 ≤ (x9_2 : Int) := od_
            have q200 : x9_2 < (l1.length : Int) := od_
            obtain ⟨ad200, e200, hx200_0, hx200_1⟩ := at_T55 HR1.out x9_2 p200 q200
            cases e200
            replace hx200_0 := (HB.out.cell (World.block_lt_of_cell? w _ hx200_0)).trans hx200_0
            replace hx200_1 := (HB.out.cell (World.block_lt_of_cell? w _ hx200_1)).trans hx200_1
            replace p200 := eq_true p200
            replace q200 := eq_true q200
            have p210 : 0 ≤ (x9_2 : Int) := od_
            have q210 : x9_2 < (l1.length : Int) := od_
            obtain ⟨ad210, e210, hx210_0, hx210_1⟩ := at_T55 HR1.out x9_2 p210 q210
            obtain rfl : ad200 = ad210 := (by injection e210)
            replace hx210_0 := (HB.out.cell (World.block_lt_of_cell? w _ hx210_0)).trans hx210_0
            replace hx210_1 := (HB.out.cell (World.block_lt_of_cell? w _ hx210_1)).trans hx210_1
            replace p210 := eq_true p210
            replace q210 := eq_true q210
            have p211 : 0 ≤ (x9_2 : Int) := od_
            have q211 : x9_2 < (l1.length : Int) := od_
            obtain ⟨ad211, e211, hx211_0, hx211_1⟩ := at_T55 HR1.out x9_2 p211 q211
            obtain rfl : ad200 = ad211 := (by injection e211)
            replace hx211_0 := (HB.out.cell (World.block_lt_of_cell? w _ hx211_0)).trans hx211_0
            replace hx211_1 := (HB.out.cell (World.block_lt_of_cell? w _ hx211_1)).trans hx211_1
            replace p211 := eq_true p211
            replace q211 := eq_true q211
            go_wp2_with (first | ((with_reducible refine gate_builtin (b := .append) (xs := #[.tmp 56, .tmp 58]) rfl ?_); at_builtin; refine Kd.R_append (Kd.int .i64) (w0 := w) w.heap.size rfl (.tmp 56) (.tmp 58) 33 2 (.int .i64 0) 8 rfl Try.underlying33 info2 rfl (by decide) (by omega) u7 x7_2 x8_1 [.int .i64 x8_1] (fun _ => True) (fun _ => False) rfl rfl ?aP (fun _ hk => hk.elim) ?aF ?aO ?aB ?aS ?aL ?_; (case aP => exact rfl); (case aB => exact (by repeat (first | (with_reducible first | exact HB.out | apply below_alloc | apply pw_below_drewN | apply below_drew1) | exact HB.out))); (case aF => exact (fun _ _ => trivial)); (case aO => exact (by (with_reducible repeat (first | apply Kd.R_alloc | apply Kd.R_drewN | apply Kd.R_drew)); exact HO_7.out)); (case aS => exact (below_size (by repeat (first | (with_reducible first | exact HB.out | apply below_alloc | apply pw_below_drewN | apply below_drew1) | exact HB.out)))); (case aL => have := LMc19.out; omega); intro v213 w20 ho hb hg hat; rw [← Ny212.out] at ho; have n0_ := Aside0.mk (hb); have n1_ := Aside0.mk (ho); clear HB; clear HO_7; have HB := n0_; have HO214 := n1_; clear n0_ n1_; clear ho hb hg hat))
            go_roundg k2
            case measure => have := HK1.out; have := HK2.out; omega
            case rel => exact ⟨(y212), (wrap64 (x9_2 + 1)), (by first | rfl | (simp; done) | (simp [*]; done)), H', ⟨by have := HK1.out; have := HK2.out; omega⟩, ⟨by (with_reducible repeat (first | apply Kd.R_alloc | apply Kd.R_drewN | apply Kd.R_drew)); exact HO214.out⟩, ⟨by repeat (first | (with_reducible first | exact HB.out | apply below_alloc | apply pw_below_drewN | apply below_drew1) | exact HB.out)⟩⟩
           ·rw [if_neg c19] at H
            exact absurd H (by simp)
          ·rw [if_neg c18] at H
           have c18b0 : (((rd_T55 l1 x9_2).f0) == x8_1) = false := beq_eq_false_iff_ne.mpr c18
           have c18b1 : (((rd_T55 l1 x9_2).f0) != x8_1) = true := bne_iff_ne.mpr c18
           have H' := Aside0.mk H
           clear H
           have p200 : 0 ≤ (x9_2 : Int) := od_
           have q200 : x9_2 < (l1.length : Int) := od_
           obtain ⟨ad200, e200, hx200_0, hx200_1⟩ := at_T55 HR1.out x9_2 p200 q200
           cases e200
           replace hx200_0 := (HB.out.cell (World.block_lt_of_cell? w _ hx200_0)).trans hx200_0
           replace hx200_1 := (HB.out.cell (World.block_lt_of_cell? w _ hx200_1)).trans hx200_1
           replace p200 := eq_true p200
           replace q200 := eq_true q200
           have p210 : 0 ≤ (x9_2 : Int) := od_
           have q210 : x9_2 < (l1.length : Int) := od_
           obtain ⟨ad210, e210, hx210_0, hx210_1⟩ := at_T55 HR1.out x9_2 p210 q210
           obtain rfl : ad200 = ad210 := (by injection e210)
           replace hx210_0 := (HB.out.cell (World.block_lt_of_cell? w _ hx210_0)).trans hx210_0
           replace hx210_1 := (HB.out.cell (World.block_lt_of_cell? w _ hx210_1)).trans hx210_1
           replace p210 := eq_true p210
           replace q210 := eq_true q210
           have p211 : 0 ≤ (x9_2 : Int) := od_
           have q211 : x9_2 < (l1.length : Int) := od_
           obtain ⟨ad211, e211, hx211_0, hx211_1⟩ := at_T55 HR1.out x9_2 p211 q211
           obtain rfl : ad200 = ad211 := (by injection e211)
           replace hx211_0 := (HB.out.cell (World.block_lt_of_cell? w _ hx211_0)).trans hx211_0
           replace hx211_1 := (HB.out.cell (World.block_lt_of_cell? w _ hx211_1)).trans hx211_1
           replace p211 := eq_true p211
           replace q211 := eq_true q211
           go_wp2
           go_roundg k2
           case measure => have := HK1.out; have := HK2.out; omega
           case rel => exact ⟨(x7_2), (wrap64 (x9_2 + 1)), (by first | rfl | (simp; done) | (simp [*]; done)), H', ⟨by have := HK1.out; have := HK2.out; omega⟩, ⟨by (with_reducible repeat (first | apply Kd.R_alloc | apply Kd.R_drewN | apply Kd.R_drew)); exact HO_7.out⟩, ⟨by repeat (first | (with_reducible first | exact HB.out | apply below_alloc | apply pw_below_drewN | apply below_drew1) | exact HB.out)⟩⟩
         ·rw [if_neg c17] at H
          have c17b0 : (((rd_T55 l1 x9_2).f1) == a2) = false := beq_eq_false_iff_ne.mpr c17
          have c17b1 : (((rd_T55 l1 x9_2).f1) != a2) = true := bne_iff_ne.mpr c17
          have H' := Aside0.mk H
          clear H
          have p200 : 0 ≤ (x9_2 : Int) := od_
          have q200 : x9_2 < (l1.length : Int) := od_
          obtain ⟨ad200, e200, hx200_0, hx200_1⟩ := at_T55 HR1.out x9_2 p200 q200
          cases e200
          replace hx200_0 := (HB.out.cell (World.block_lt_of_cell? w _ hx200_0)).trans hx200_0
          replace hx200_1 := (HB.out.cell (World.block_lt_of_cell? w _ hx200_1)).trans hx200_1
          replace p200 := eq_true p200
          replace q200 := eq_true q200
          have p210 : 0 ≤ (x9_2 : Int) := od_
          have q210 : x9_2 < (l1.length : Int) := od_
          obtain ⟨ad210, e210, hx210_0, hx210_1⟩ := at_T55 HR1.out x9_2 p210 q210
          obtain rfl : ad200 = ad210 := (by injection e210)
          replace hx210_0 := (HB.out.cell (World.block_lt_of_cell? w _ hx210_0)).trans hx210_0
          replace hx210_1 := (HB.out.cell (World.block_lt_of_cell? w _ hx210_1)).trans hx210_1
          replace p210 := eq_true p210
          replace q210 := eq_true q210
          go_wp2
          go_roundg k2
          case measure => have := HK1.out; have := HK2.out; omega
          case rel => exact ⟨(x7_2), (wrap64 (x9_2 + 1)), (by first | rfl | (simp; done) | (simp [*]; done)), H', ⟨by have := HK1.out; have := HK2.out; omega⟩, ⟨by (with_reducible repeat (first | apply Kd.R_alloc | apply Kd.R_drewN | apply Kd.R_drew)); exact HO_7.out⟩, ⟨by repeat (first | (with_reducible first | exact HB.out | apply below_alloc | apply pw_below_drewN | apply below_drew1) | exact HB.out)⟩⟩
       ·rw [if_neg c8] at H
        exact absurd H (by simp)
      ·rw [if_neg c7] at H
       have c7b0 : decide (x9_2 < (l1.length : Int)) = false := decide_eq_false c7
       clear c7
       have H' := Aside0.mk H
       clear H
       go_wp2
       go_roundg k2
       case measure => have := HK1.out; have := HK2.out; omega
       case rel => exact ⟨(x7_2), (wrap64 (x8_1 + 1)), (by first | rfl | (simp; done) | (simp [*]; done)), H', ⟨by have := HK1.out; have := HK2.out; omega⟩, ⟨by (with_reducible repeat (first | apply Kd.R_alloc | apply Kd.R_drewN | apply Kd.R_drew)); exact HO_7.out⟩, ⟨by repeat (first | (with_reducible first | exact HB.out | apply below_alloc | apply pw_below_drewN | apply below_drew1) | exact HB.out)⟩⟩
   ·rw [if_neg c6] at H
    have c6b0 : decide (x8_1 < a0) = false := decide_eq_false c6
    clear c6
    obtain rfl := Option.some.inj H
    go_wp2
    go_ret
    exact ⟨_, by first | rfl | (simp [errW_none, errW_some] <;> rfl) | (simp [*, errW_none, errW_some] <;> rfl), by (with_reducible repeat (first | apply Kd.R_alloc | apply Kd.R_drewN | apply Kd.R_drew)); exact HO_7.out, by repeat (first | (with_reducible first | exact HB.out | apply below_alloc | apply pw_below_drewN | apply below_drew1) | exact HB.out)⟩

end Go.Proofs.Ytlkpnjcbokeoeaa.Print
