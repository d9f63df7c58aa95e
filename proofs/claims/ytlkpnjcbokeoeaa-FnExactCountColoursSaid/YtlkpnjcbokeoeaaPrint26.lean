-- Printed by a program of this session out of the translation; not trusted: Lean checks it.
-- SHRUNK
import Derived.Test.YtlkpnjcbokeoeaaPrint0
import Derived.Test.YtlkpnjcbokeoeaaPrint25
namespace Go.Proofs.Ytlkpnjcbokeoeaa.Print
open Go.RowKit Go.Proofs.YtlkpnjcbokeoeaaW.PrintWords Go.Proofs.YtlkpnjcbokeoeaaW.PrintLast Go.Proofs.YtlkpnjcbokeoeaaW.PrintMore
attribute [local go_sem] max2_int min2_int max_two min_two max_three min_three max_four min_four   -- for this text's walks alone
set_option linter.unusedVariables false
set_option linter.unusedSimpArgs false

/-! ### spec_l09Count: function 75 -/
mutual
def spec_l09Count.l0 : Nat → List (S55) → Int → Int → List Bool → List Int → Int → Option (Int)
 | 0, _, _, _, _, _, _ => none
 | k + 1, x1, x2, x7, x8, x9, x10 => if x10 < x7 then ((spec_l09Apart.f k x1 x10).bind fun t457 => (if x8.length < 140737488355328 then (spec_l09Count.l0 k x1 x2 x7 (x8 ++ [t457]) x9 (wrap64 (x10 + 1))) else (none))) else (if 0 < (x9.length : Int) then (spec_l09Count.l1 k x2 x7 x8 (x9.set (0 : Int).toNat 1) 0) else (none))
def spec_l09Count.l1 : Nat → Int → Int → List Bool → List Int → Int → Option (Int)
 | 0, _, _, _, _, _ => none
 | k + 1, x2, x7, x8, x9, x11 => if x11 < x2 then (if 0 ≤ x7 then (if (x7 : Int).toNat ≤ 35184372088832 then (spec_l09Count.l2 k x2 x7 x8 x9 x11 (List.replicate (x7 : Int).toNat 0) 0) else (none)) else (none)) else (if 0 ≤ (wrap64 (x7 - 1)) then (if (wrap64 (x7 - 1)) < (x9.length : Int) then (some (rd x9 (wrap64 (x7 - 1)))) else (none)) else (none))
def spec_l09Count.l2 : Nat → Int → Int → List Bool → List Int → Int → List Int → Int → Option (Int)
 | 0, _, _, _, _, _, _, _ => none
 | k + 1, x2, x7, x8, x9, x11, x12, x13 => if x13 < x7 then (spec_l09Count.l3 k x2 x7 x8 x9 x11 x12 x13 x13) else (spec_l09Count.l1 k x2 x7 x8 x12 (wrap64 (x11 + 1)))
def spec_l09Count.l3 : Nat → Int → Int → List Bool → List Int → Int → List Int → Int → Int → Option (Int)
 | 0, _, _, _, _, _, _, _, _ => none
 | k + 1, x2, x7, x8, x9, x11, x12, x13, x14 => if 0 ≤ x14 then (if x14 < (x8.length : Int) then (if rdOf false x8 x14 = true then (if 0 ≤ x13 then (if x13 < (x12.length : Int) then (if 0 ≤ (wrap64 (x13 - x14)) then (if (wrap64 (x13 - x14)) < (x9.length : Int) then ((some (x12.set (x13 : Int).toNat (wrap64 ((rd x12 x13) + (rd x9 (wrap64 (x13 - x14))))) : List Int)).bind fun y469 => (if x14 = 0 then (spec_l09Count.l2 k x2 x7 x8 x9 x11 y469 (wrap64 (x13 + 1))) else (spec_l09Count.l3 k x2 x7 x8 x9 x11 y469 x13 (Go.bits .and .i64 (wrap64 (x14 - 1)) x13)))) else (none)) else (none)) else (none)) else (none)) else (if x14 = 0 then (spec_l09Count.l2 k x2 x7 x8 x9 x11 x12 (wrap64 (x13 + 1))) else (spec_l09Count.l3 k x2 x7 x8 x9 x11 x12 x13 (Go.bits .and .i64 (wrap64 (x14 - 1)) x13)))) else (none)) else (none)
end
def spec_l09Count.f (k : Nat) (a0 : Int) (l1 : List (S55)) (a2 : Int) : Option (Int) := if 0 ≤ (IntKind.u64.wrap (a0)) then (if 0 ≤ (shl .i64 1 (IntKind.u64.wrap (a0))) then (if (shl .i64 1 (IntKind.u64.wrap (a0)) : Int).toNat ≤ 35184372088832 then (spec_l09Count.l0 k l1 a2 (shl .i64 1 (IntKind.u64.wrap (a0))) (([] : List Bool)) (List.replicate (shl .i64 1 (IntKind.u64.wrap (a0)) : Int).toNat 0) 0) else (none)) else (none)) else (none)
theorem spec_l09Count.mono_l : ∀ k, (∀ y0 y1 y2 y3 y4 y5, LeO (spec_l09Count.l0 k y0 y1 y2 y3 y4 y5) (spec_l09Count.l0 (k + 1) y0 y1 y2 y3 y4 y5)) ∧ (∀ y0 y1 y2 y3 y4, LeO (spec_l09Count.l1 k y0 y1 y2 y3 y4) (spec_l09Count.l1 (k + 1) y0 y1 y2 y3 y4)) ∧ (∀ y0 y1 y2 y3 y4 y5 y6, LeO (spec_l09Count.l2 k y0 y1 y2 y3 y4 y5 y6) (spec_l09Count.l2 (k + 1) y0 y1 y2 y3 y4 y5 y6)) ∧ (∀ y0 y1 y2 y3 y4 y5 y6 y7, LeO (spec_l09Count.l3 k y0 y1 y2 y3 y4 y5 y6 y7) (spec_l09Count.l3 (k + 1) y0 y1 y2 y3 y4 y5 y6 y7))
 | 0 => ⟨fun _ _ _ _ _ _ r h => by simp [spec_l09Count.l0] at h, fun _ _ _ _ _ r h => by simp [spec_l09Count.l1] at h, fun _ _ _ _ _ _ _ r h => by simp [spec_l09Count.l2] at h, fun _ _ _ _ _ _ _ _ r h => by simp [spec_l09Count.l3] at h⟩
 | k + 1 => by
  obtain ⟨ih0, ih1, ih2, ih3⟩ := spec_l09Count.mono_l k
  refine ⟨?_, ?_, ?_, ?_⟩
  ·intro y0 y1 y2 y3 y4 y5
   unfold spec_l09Count.l0
   repeat' first
   | (with_reducible exact ih0 _ _ _ _ _ _)
   | (with_reducible exact ih1 _ _ _ _ _)
   | (with_reducible exact ih2 _ _ _ _ _ _ _)
   | (with_reducible exact ih3 _ _ _ _ _ _ _ _)
   | (with_reducible exact spec_l09Apart.mono _ _ _)
   | (with_reducible exact LeO.refl _)
   | (with_reducible exact LeO.none _)
   | (with_reducible refine LeO.ite ?_ ?_)
   | (with_reducible refine LeO.bind ?_ (fun _ => ?_))
   | exact ih0 _ _ _ _ _ _
   | exact ih1 _ _ _ _ _
   | exact ih2 _ _ _ _ _ _ _
   | exact ih3 _ _ _ _ _ _ _ _
   | exact spec_l09Apart.mono _ _ _
   | exact LeO.none _
   | refine LeO.ite ?_ ?_
   | refine LeO.bind ?_ (fun _ => ?_)
  ·intro y0 y1 y2 y3 y4
   unfold spec_l09Count.l1
   repeat' first
   | (with_reducible exact ih0 _ _ _ _ _ _)
   | (with_reducible exact ih1 _ _ _ _ _)
   | (with_reducible exact ih2 _ _ _ _ _ _ _)
   | (with_reducible exact ih3 _ _ _ _ _ _ _ _)
   | (with_reducible exact spec_l09Apart.mono _ _ _)
   | (with_reducible exact LeO.refl _)
   | (with_reducible exact LeO.none _)
   | (with_reducible refine LeO.ite ?_ ?_)
   | (with_reducible refine LeO.bind ?_ (fun _ => ?_))
   | exact ih0 _ _ _ _ _ _
   | exact ih1 _ _ _ _ _
   | exact ih2 _ _ _ _ _ _ _
   | exact ih3 _ _ _ _ _ _ _ _
   | exact spec_l09Apart.mono _ _ _
   | exact LeO.none _
   | refine LeO.ite ?_ ?_
   | refine LeO.bind ?_ (fun _ => ?_)
  ·intro y0 y1 y2 y3 y4 y5 y6
   unfold spec_l09Count.l2
   repeat' first
   | (with_reducible exact ih0 _ _ _ _ _ _)
   | (with_reducible exact ih1 _ _ _ _ _)
   | (with_reducible exact ih2 _ _ _ _ _ _ _)
   | (with_reducible exact ih3 _ _ _ _ _ _ _ _)
   | (with_reducible exact spec_l09Apart.mono _ _ _)
   | (with_reducible exact LeO.refl _)
   | (with_reducible exact LeO.none _)
   | (with_reducible refine LeO.ite ?_ ?_)
   | (with_reducible refine LeO.bind ?_ (fun _ => ?_))
   | exact ih0 _ _ _ _ _ _
   | exact ih1 _ _ _ _ _
   | exact ih2 _ _ _ _ _ _ _
   | exact ih3 _ _ _ _ _ _ _ _
   | exact spec_l09Apart.mono _ _ _
   | exact LeO.none _
   | refine LeO.ite ?_ ?_
   | refine LeO.bind ?_ (fun _ => ?_)
  ·intro y0 y1 y2 y3 y4 y5 y6 y7
   unfold spec_l09Count.l3
   repeat' first
   | (with_reducible exact ih0 _ _ _ _ _ _)
   | (with_reducible exact ih1 _ _ _ _ _)
   | (with_reducible exact ih2 _ _ _ _ _ _ _)
   | (with_reducible exact ih3 _ _ _ _ _ _ _ _)
   | (with_reducible exact spec_l09Apart.mono _ _ _)
   | (with_reducible exact LeO.refl _)
   | (with_reducible exact LeO.none _)
   | (with_reducible refine LeO.ite ?_ ?_)
   | (with_reducible refine LeO.bind ?_ (fun _ => ?_))
   | exact ih0 _ _ _ _ _ _
   | exact ih1 _ _ _ _ _
   | exact ih2 _ _ _ _ _ _ _
   | exact ih3 _ _ _ _ _ _ _ _
   | exact spec_l09Apart.mono _ _ _
   | exact LeO.none _
   | refine LeO.ite ?_ ?_
   | refine LeO.bind ?_ (fun _ => ?_)
theorem spec_l09Count.mono : ∀ a0 a1 a2 k, LeO (spec_l09Count.f k a0 a1 a2) (spec_l09Count.f (k + 1) a0 a1 a2) := by
 intro a0 a1 a2 k
 obtain ⟨ih0, ih1, ih2, ih3⟩ := spec_l09Count.mono_l k
 unfold spec_l09Count.f
 repeat' first
   | (with_reducible exact ih0 _ _ _ _ _ _)
   | (with_reducible exact ih1 _ _ _ _ _)
   | (with_reducible exact ih2 _ _ _ _ _ _ _)
   | (with_reducible exact ih3 _ _ _ _ _ _ _ _)
   | (with_reducible exact spec_l09Apart.mono _ _ _)
   | (with_reducible exact LeO.refl _)
   | (with_reducible exact LeO.none _)
   | (with_reducible refine LeO.ite ?_ ?_)
   | (with_reducible refine LeO.bind ?_ (fun _ => ?_))
   | exact ih0 _ _ _ _ _ _
   | exact ih1 _ _ _ _ _
   | exact ih2 _ _ _ _ _ _ _
   | exact ih3 _ _ _ _ _ _ _ _
   | exact spec_l09Apart.mono _ _ _
   | exact LeO.none _
   | refine LeO.ite ?_ ?_
   | refine LeO.bind ?_ (fun _ => ?_)
def spec_l09Count.T19 : Bool × List (List Nat × List Nat) := (true, [([], []), ([], []), ([0, 1], [0, 1]), ([2], [2]), ([], []), ([], []), ([], []), ([5, 6], [5, 6]), ([4, 7], [4, 7]), ([8], [8]), ([3, 9], [3, 9]), ([0, 1, 0, 1, 2, 3, 4, 5, 6, 7, 8, 9, 10], [0, 1]), ([11, 10, 0, 1, 2, 3, 4, 5, 6, 7, 8, 9, 10], [10, 11])])
def spec_l09Count.B19 : List Nat := [0, 0, 3, 7, 0, 0, 0, 96, 240, 496, 1023, 2047, 4095]
theorem spec_l09Count.tab19 : rtab .any (opsOf Try.f75 19) = spec_l09Count.T19 := by kernel_rfl
theorem spec_l09Count.bits19 : waitsOk spec_l09Count.T19.2 spec_l09Count.B19 = true := by kernel_rfl
set_option maxHeartbeats 8000000 in
set_option maxRecDepth 100000 in
theorem spec_l09Count.calls (k : Nat) (a0 : Int) (A1 : Option Addr) (c1 : Nat) (l1 : List (S55)) (a2 : Int) (r : Int) (w : World) (hr1 : Kd.C k55 w A1 l1.length l1) (hc1 : l1.length ≤ c1) (h : spec_l09Count.f k a0 l1 a2 = some r) :
  Calls Try.prog 75 #[.int .i64 a0, .slice A1 l1.length c1, .int .i64 a2] w fun e w' => e = .returned (.int .i64 r) ∧ Below w.heap.size w w' := by
 have HR1 := Aside0.mk hr1
 have HC1 := Aside0.mk hc1
 clear hr1 hc1
 have HB := Aside0.mk (Below.refl w.heap.size w)
 have H : (if 0 ≤ (IntKind.u64.wrap (a0)) then (if 0 ≤ (shl .i64 1 (IntKind.u64.wrap (a0))) then (if (shl .i64 1 (IntKind.u64.wrap (a0)) : Int).toNat ≤ 35184372088832 then (spec_l09Count.l0 k l1 a2 (shl .i64 1 (IntKind.u64.wrap (a0))) (([] : List Bool)) (List.replicate (shl .i64 1 (IntKind.u64.wrap (a0)) : Int).toNat 0) 0) else (none)) else (none)) else (none)) = some r := h
 clear h
 obtain ⟨ji4, hji4⟩ : ∃ j_ : Int, (IntKind.u64.wrap (a0)) = j_ := ⟨_, rfl⟩
 replace H : (if 0 ≤ (ji4) then (if 0 ≤ (shl .i64 1 (ji4)) then (if (shl .i64 1 (ji4) : Int).toNat ≤ 35184372088832 then (spec_l09Count.l0 k l1 a2 (shl .i64 1 (ji4)) (([] : List Bool)) (List.replicate (shl .i64 1 (ji4) : Int).toNat 0) 0) else (none)) else (none)) else (none)) = some r := by first | (rw [hji4] at H; exact H) | (simp only [hji4] at H ⊢; exact H)
 by_cases c5 : 0 ≤ (ji4)
 ·rw [if_pos c5] at H
  have c5b0 := eq_true c5
  have c5b1 : decide (0 ≤ (ji4)) = true := decide_eq_true c5
  clear c5
  obtain ⟨ji6, hji6⟩ : ∃ j_ : Int, (shl .i64 1 (ji4)) = j_ := ⟨_, rfl⟩
  replace H : (if 0 ≤ (ji6) then (if (ji6 : Int).toNat ≤ 35184372088832 then (spec_l09Count.l0 k l1 a2 ji6 (([] : List Bool)) (List.replicate (ji6 : Int).toNat 0) 0) else (none)) else (none)) = some r := by first | (rw [hji6] at H; exact H) | (simp only [hji6] at H ⊢; exact H)
  have hji6_ : (IntKind.i64.wrap (1 * 2 ^ min (ji4).toNat 64)) = ji6 := hji6
  have hji6z : (ji4) ≤ 64 → (IntKind.i64.wrap (1 * 2 ^ (ji4).toNat)) = ji6 := shl_small hji6
  have hji6u : (IntKind.i64.wrap (2 ^ min (ji4).toNat 64)) = ji6 := by have h_ := hji6_; rw [Int.one_mul] at h_; exact h_
  have hji6v : (ji4) ≤ 64 → (IntKind.i64.wrap (2 ^ (ji4).toNat)) = ji6 := fun hle_ => by have h_ := hji6z hle_; rw [Int.one_mul] at h_; exact h_
  have hji6y : (wrap64 (1 * 2 ^ min (ji4).toNat 64)) = ji6 := (i64_w _).symm.trans hji6_
  have hji6x : (ji4) ≤ 64 → (wrap64 (1 * 2 ^ (ji4).toNat)) = ji6 := fun h_ => (i64_w _).symm.trans (hji6z h_)
  obtain ⟨y451, hy451⟩ : ∃ y_ : List Bool, y_ = (([] : List Bool)) := ⟨_, rfl⟩
  replace H : (if 0 ≤ (ji6) then (if (ji6 : Int).toNat ≤ 35184372088832 then (spec_l09Count.l0 k l1 a2 ji6 y451 (List.replicate (ji6 : Int).toNat 0) 0) else (none)) else (none)) = some r := by first | (rw [hy451]; with_reducible exact H) | (have H2_ := (Option.bind_some _ _).symm.trans H; rw [hy451]; with_reducible exact H2_) | (have H2_ := (Option.bind_some _ _).symm.trans H; with_reducible exact H2_) | with_reducible exact H | (rw [hy451]; exact H) | exact H
  have Ny451 := Aside0.mk hy451
  clear hy451
  by_cases c7 : 0 ≤ (ji6)
  ·rw [if_pos c7] at H
   have c7b0 := eq_true c7
   have c7b1 : decide (0 ≤ (ji6)) = true := decide_eq_true c7
   clear c7
   by_cases c8 : (ji6 : Int).toNat ≤ 35184372088832
   ·rw [if_pos c8] at H
    have c8b0 := eq_true c8
    have c8b1 : decide ((ji6 : Int).toNat ≤ 35184372088832) = true := decide_eq_true c8
    clear c8
    obtain ⟨y454, hy454⟩ : ∃ y_ : List Int, y_ = (List.replicate (ji6 : Int).toNat 0) := ⟨_, rfl⟩
    replace H : (spec_l09Count.l0 k l1 a2 ji6 y451 y454 0) = some r := by first | (rw [hy454]; with_reducible exact H) | (have H2_ := (Option.bind_some _ _).symm.trans H; rw [hy454]; with_reducible exact H2_) | (have H2_ := (Option.bind_some _ _).symm.trans H; with_reducible exact H2_) | with_reducible exact H | (rw [hy454]; exact H) | exact H
    have Ny454 := Aside0.mk hy454
    clear hy454
    have H' := Aside0.mk H
    clear H
    go_enter Try.func75, Try.ntmps75
    go_wp2_with (first | ((with_reducible refine gate_dst (N := 18) rfl ?_); refine Kd.R_lit Kd.bool _ 4 ?hg (N := 18) ?hd (xs := ([] : List Bool)) (inner := []) (ok := fun _ => True) (okp := fun _ => True) ?hr ?hp (fun _ hk => hk) trivial (Below.refl _ _) (Nat.le_refl _) (by simp) ?_; (case hd => rfl); (case hg => rfl); (case hr => first | (go_simp; done) | (go_simp; rfl)); (case hp => exact (Reps.none _ _)); intro v452 w9 ho10 hb hg_ hnew_; clear hg_ hnew_; (first | rw [← Ny451.out] at ho10 | (simp only [Int.reduceToNat] at ho10; rw [← Ny451.out] at ho10)); have n0_ := Aside0.mk (Kd.R_lower ho10 (below_size (by repeat (first | (with_reducible first | exact HB.out | apply below_alloc | apply pw_below_drewN | apply below_drew1) | exact HB.out)))); have n1_ := Aside0.mk (below_step (by repeat (first | (with_reducible first | exact HB.out | apply below_alloc | apply pw_below_drewN | apply below_drew1) | exact HB.out)) hb); clear HB; have HO453 := n0_; have HB := n1_; clear n0_ n1_; clear hb ho10) | ((with_reducible refine gate_dst (N := 20) rfl ?_); refine Kd.R_make (Kd.int .i64) _ 2 rfl (N := 20) rfl 33 _ _ rfl ji6 rfl rfl Try.underlying33 (.int .i64 0) 8 info2 rfl (by decide) (by omega) 0 (ok := fun _ => True) (okp := fun _ => True) rfl (fun _ hk => hk) trivial od_ (Nat.le_trans (Nat.mul_le_mul_right _ (od_ : ji6.toNat ≤ 35184372088832)) (by omega)) (Below.refl _ _) (Nat.le_refl _) ?_; intro v455 w11 ho12 hb hg_ hnew_; clear hg_ hnew_; (first | rw [← Ny454.out] at ho12 | (simp only [Int.reduceToNat] at ho12; rw [← Ny454.out] at ho12)); have n0_ := Aside0.mk (Kd.R_below (by (with_reducible repeat (first | apply Kd.R_alloc | apply Kd.R_drewN | apply Kd.R_drew)); exact HO453.out) hb); have n1_ := Aside0.mk (Kd.R_lower ho12 (below_size (by repeat (first | (with_reducible first | exact HB.out | apply below_alloc | apply pw_below_drewN | apply below_drew1) | exact HB.out)))); have n2_ := Aside0.mk (below_step (by repeat (first | (with_reducible first | exact HB.out | apply below_alloc | apply pw_below_drewN | apply below_drew1) | exact HB.out)) hb); clear HO453; clear HB; have HO453 := n0_; have HO456 := n1_; have HB := n2_; clear n0_ n1_ n2_; clear hb ho12))
    go_loopg [8, 10] k (fun kq v8 v10 w' => ∃ (x8_1 : List Bool) (x10_1 : Int), v10 = .int .i64 x10_1 ∧ Aside0 (spec_l09Count.l0 kq l1 a2 ji6 x8_1 y454 x10_1 = some r) ∧ Aside0 (kq ≤ k) ∧ Aside0 (Kd.R Kd.bool 4 w' w.heap.size (fun _ => True) v8 x8_1) ∧ Aside0 (Kd.R (Kd.int .i64) 2 w' w.heap.size (fun _ => True) v455 y454) ∧ Aside0 (Below w.heap.size w w'))
    case atStart => exact ⟨(y451), (0), (by first | rfl | (simp; done) | (simp [*]; done)), H', ⟨Nat.le_refl _⟩, ⟨by (with_reducible repeat (first | apply Kd.R_alloc | apply Kd.R_drewN | apply Kd.R_drew)); exact HO453.out⟩, ⟨by (with_reducible repeat (first | apply Kd.R_alloc | apply Kd.R_drewN | apply Kd.R_drew)); exact HO456.out⟩, ⟨by repeat (first | (with_reducible first | exact HB.out | apply below_alloc | apply pw_below_drewN | apply below_drew1) | exact HB.out)⟩⟩
    case round =>
     clear H'
     try clear c1
     try clear p2
     try clear c5
     try clear c5b0
     try clear c5b1
     try clear p6
     try clear c7
     try clear c7b0
     try clear c7b1
     try clear c8
     try clear c8b0
     try clear c8b1
     obtain ⟨x8_1, x10_1, rfl, HA, HK1, HO_8, HO_9, HB⟩ := hrel
     cases gk with
     | zero => exact absurd HA.out (by simp [spec_l09Count.l0])
     | succ k1 =>
      have H := HA.out
      clear HA
      simp only [spec_l09Count.l0] at H
      by_cases c13 : x10_1 < ji6
      ·rw [if_pos c13] at H
       have c13b0 : decide (x10_1 < ji6) = true := decide_eq_true c13
       clear c13
       replace H := Option.bind_eq_some_iff.mp H
       obtain ⟨t457, A140, H⟩ := H
       replace H : (if x8_1.length < 140737488355328 then (spec_l09Count.l0 k1 l1 a2 ji6 (x8_1 ++ [t457]) y454 (wrap64 (x10_1 + 1))) else (none)) = some r := H
       have A14 := Aside0.mk A140
       clear A140
       by_cases c15 : x8_1.length < 140737488355328
       ·rw [if_pos c15] at H
        have LMc15 := Aside0.mk c15
        clear c15
        obtain ⟨y458, hy458⟩ : ∃ y_ : List Bool, y_ = (x8_1 ++ [t457]) := ⟨_, rfl⟩
        replace H : (spec_l09Count.l0 k1 l1 a2 ji6 y458 y454 (wrap64 (x10_1 + 1))) = some r := by first | (rw [hy458]; with_reducible exact H) | (have H2_ := (Option.bind_some _ _).symm.trans H; rw [hy458]; with_reducible exact H2_) | (have H2_ := (Option.bind_some _ _).symm.trans H; with_reducible exact H2_) | with_reducible exact H | (rw [hy458]; exact H) | exact H
        have Ny458 := Aside0.mk hy458
        clear hy458
        have H' := Aside0.mk H
        clear H
        go_wp2_with (first | ((with_reducible refine gate_callee (f := 93) rfl ?_); refine goesL_ (some 29) rfl rfl Try.func93 (by kernel_rfl) rfl #[.slice A1 l1.length c1, .int .i64 x10_1] rfl (by (try simp only [List.map_toArray, List.map_cons, List.map_nil]); first | done | rfl | (simp only [List.length_drop, List.length_take]; rfl)) ?_; (with_reducible refine (spec_l09Apart.calls k1 _ _ l1 x10_1 t457 _ ?side1 ?side2 A14.out).mono ?_); (case side1 => repeat (first | exact (Kd.C_below HR1.out HB.out) | (with_reducible refine Kd.C_alloc ?_ _) | (with_reducible refine Kd.C_drewN ?_ _) | (with_reducible refine Kd.C_drew ?_))); (case side2 => exact HC1.out); rintro e w' ⟨rfl, ⟨nd, rfl⟩⟩; refine ⟨_, rfl, ?_⟩) | ((with_reducible refine gate_builtin (b := .append) (xs := #[.tmp 26, .tmp 30]) rfl ?_); at_builtin; refine Kd.R_append Kd.bool (w0 := w) w.heap.size rfl (.tmp 26) (.tmp 30) 97 4 (.bool false) 1 rfl Try.underlying97 info4 rfl (by decide) (by omega) u8 x8_1 t457 [.bool t457] (fun _ => True) (fun _ => False) rfl rfl ?aP (fun _ hk => hk.elim) ?aF ?aO ?aB ?aS ?aL ?_; (case aP => exact rfl); (case aB => exact (by repeat (first | (with_reducible first | exact HB.out | apply below_alloc | apply pw_below_drewN | apply below_drew1) | exact HB.out))); (case aF => exact (fun _ _ => trivial)); (case aO => exact (by (with_reducible repeat (first | apply Kd.R_alloc | apply Kd.R_drewN | apply Kd.R_drew)); exact HO_8.out)); (case aS => exact (below_size (by repeat (first | (with_reducible first | exact HB.out | apply below_alloc | apply pw_below_drewN | apply below_drew1) | exact HB.out)))); (case aL => have := LMc15.out; omega); intro v459 w16 ho hb hg hat; rw [← Ny458.out] at ho; have n0_ := Aside0.mk (Kd.R_over' (by (with_reducible repeat (first | apply Kd.R_alloc | apply Kd.R_drewN | apply Kd.R_drew)); exact HO_9.out) (Kd.R_typed (by (with_reducible repeat (first | apply Kd.R_alloc | apply Kd.R_drewN | apply Kd.R_drew)); exact HO_8.out)) (by decide) hg); have n1_ := Aside0.mk (hb); have n2_ := Aside0.mk (ho); clear HO_9; clear HB; clear HO_8; have HO_9 := n0_; have HB := n1_; have HO460 := n2_; clear n0_ n1_ n2_; clear ho hb hg hat))
        go_roundg k1
        case measure => have := HK1.out; omega
        case rel => exact ⟨(y458), (wrap64 (x10_1 + 1)), (by first | rfl | (simp; done) | (simp [*]; done)), H', ⟨by have := HK1.out; omega⟩, ⟨by (with_reducible repeat (first | apply Kd.R_alloc | apply Kd.R_drewN | apply Kd.R_drew)); exact HO460.out⟩, ⟨by (with_reducible repeat (first | apply Kd.R_alloc | apply Kd.R_drewN | apply Kd.R_drew)); exact HO_9.out⟩, ⟨by repeat (first | (with_reducible first | exact HB.out | apply below_alloc | apply pw_below_drewN | apply below_drew1) | exact HB.out)⟩⟩
       ·rw [if_neg c15] at H
        exact absurd H (by simp)
      ·rw [if_neg c13] at H
       have c13b0 : decide (x10_1 < ji6) = false := decide_eq_false c13
       clear c13
       by_cases c17 : 0 < (y454.length : Int)
       ·rw [if_pos c17] at H
        have c17b0 : decide (0 < (y454.length : Int)) = true := decide_eq_true c17
        have c17b1 : decide (0 < y454.length) = true := decide_eq_true (by omega)
        clear c17
        obtain ⟨y461, hy461⟩ : ∃ y_ : List Int, y_ = (y454.set (0 : Int).toNat 1) := ⟨_, rfl⟩
        replace H : (spec_l09Count.l1 k1 a2 ji6 x8_1 y461 0) = some r := by first | (rw [hy461]; with_reducible exact H) | (have H2_ := (Option.bind_some _ _).symm.trans H; rw [hy461]; with_reducible exact H2_) | (have H2_ := (Option.bind_some _ _).symm.trans H; with_reducible exact H2_) | with_reducible exact H | (rw [hy461]; exact H) | exact H
        have Ny461 := Aside0.mk hy461
        clear hy461
        have H' := Aside0.mk H
        clear H
        have p18 : 0 ≤ (0 : Int) := (by omega)
        have q18 : (0 : Int) < ((y454.length : Int) : Int) := od_
        have qi18 : (0 < y454.length) = True := eq_true (by omega)
        obtain ⟨go18, co18, eo18, gb18, gl18, cl18, HG18⟩ := Kd.R_form HO_9.out (by omega)
        (first | cases eo18 | (injection eo18 with ea_ en_ ec_; (first | subst ea_ | (injection ea_ with ea_; subst ea_)); subst ec_; clear en_))
        have GB18 := Aside0.mk gb18
        have GG18 := Aside0.mk HG18
        clear gb18 gl18 HG18
        obtain ⟨hx18_0, hf18_0⟩ := Kd.R_celln 0 HO_9.out (0 : Int) p18 q18
        (try rw [show ((0 : Int)).toNat = 0 from rfl] at hx18_0)
        (try simp only [Nat.reduceMul, Nat.zero_mul, Nat.zero_add, Nat.reduceAdd] at hx18_0)
        (try rw [show ((0 : Int)).toNat = 0 from rfl] at hf18_0)
        (try simp only [Nat.reduceMul, Nat.zero_mul, Nat.zero_add, Nat.reduceAdd] at hf18_0)
        replace p18 := eq_true p18
        replace q18 := eq_true q18
        have HP19 := Kd.R_putg HO_9.out (0 : Int) 1
        go_wp2_with (first | ((with_reducible refine gate_store (t := 2) (p := 33) rfl ?_); refine store_event (t := 2) (p := 33) (v := ?vo_w20) (w1 := (wr.setCell ⟨go18, (0 : Int).toNat, none⟩ (.int .i64 1))) ?hg ?ho ?hn ?hr ?_; (case ho => rfl); (case hg => rfl); (case hn => rfl); (case hr => first | (go_simp; done) | (go_simp; rfl)); intro w20 hw; have hg : wr.grownBy w20 (some go18) := (by rw [hw]; exact HP19.2); have hp_ : Kd.R (Kd.int .i64) 2 w20 w.heap.size (fun _ => True) (.slice (some ⟨go18, 0, none⟩) y454.length co18) y461 := (by rw [hw, Ny461.out]; exact HP19.1); clear HP19; have n0_ := Aside0.mk (Kd.R_over' (v := (.slice (some ⟨go18, 0, none⟩) y454.length co18)) (by (with_reducible repeat (first | apply Kd.R_alloc | apply Kd.R_drewN | apply Kd.R_drew)); exact HO_8.out) (Kd.R_typed HO_9.out) (by decide) hg); have n1_ := Aside0.mk (hp_); have n2_ := Aside0.mk ((by rw [hw]; exact below_set (HB.out) GB18.out : Below w.heap.size w w20)); clear HO_8; clear HO_9; clear HB; have HO_8 := n0_; have HO_9 := n1_; have HB := n2_; clear n0_ n1_ n2_; clear hg hw hp_))
        go_loopg [9, 11] k1 (fun kq v9 v11 w' => ∃ (x9_2 : List Int) (x11_2 : Int), v11 = .int .i64 x11_2 ∧ Aside0 (spec_l09Count.l1 kq a2 ji6 x8_1 x9_2 x11_2 = some r) ∧ Aside0 (kq ≤ k1) ∧ Aside0 (Kd.R Kd.bool 4 w' w.heap.size (fun _ => True) u8 x8_1) ∧ Aside0 (Kd.R (Kd.int .i64) 2 w' w.heap.size (fun _ => True) v9 x9_2) ∧ Aside0 (Below w.heap.size w w'))
        case atStart => exact ⟨(y461), (0), (by first | rfl | (simp; done) | (simp [*]; done)), H', ⟨Nat.le_refl _⟩, ⟨by (with_reducible repeat (first | apply Kd.R_alloc | apply Kd.R_drewN | apply Kd.R_drew)); exact HO_8.out⟩, ⟨by (with_reducible repeat (first | apply Kd.R_alloc | apply Kd.R_drewN | apply Kd.R_drew)); exact HO_9.out⟩, ⟨by repeat (first | (with_reducible first | exact HB.out | apply below_alloc | apply pw_below_drewN | apply below_drew1) | exact HB.out)⟩⟩
        case round =>
         clear H'
         try clear c1
         try clear p1
         try clear q1
         try clear hx1
         try clear qi1
         try clear p2
         try clear c5
         try clear c5b0
         try clear c5b1
         try clear p6
         try clear c7
         try clear c7b0
         try clear c7b1
         try clear c8
         try clear c8b0
         try clear c8b1
         try clear c9
         try clear c13
         try clear c13b0
         try clear c15
         try clear c17
         try clear c17b0
         try clear c17b1
         try clear p18
         try clear q18
         try clear hx18
         try clear qi18
         try clear hf18
         try clear hx18_0
         try clear p18
         try clear p2
         try clear p6
         try clear q18
         obtain ⟨x9_2, x11_2, rfl, HA, HK2, HO_8, HO_9, HB⟩ := hrel
         cases gk with
         | zero => exact absurd HA.out (by simp [spec_l09Count.l1])
         | succ k2 =>
          have H := HA.out
          clear HA
          simp only [spec_l09Count.l1] at H
          by_cases c21 : x11_2 < a2
          ·rw [if_pos c21] at H
           have c21b0 : decide (x11_2 < a2) = true := decide_eq_true c21
           clear c21
           by_cases c22 : 0 ≤ ji6
           ·rw [if_pos c22] at H
            have c22b0 := eq_true c22
            have c22b1 : decide (0 ≤ ji6) = true := decide_eq_true c22
            clear c22
            by_cases c23 : (ji6 : Int).toNat ≤ 35184372088832
            ·rw [if_pos c23] at H
             have c23b0 := eq_true c23
             have c23b1 : decide ((ji6 : Int).toNat ≤ 35184372088832) = true := decide_eq_true c23
             clear c23
             obtain ⟨y463, hy463⟩ : ∃ y_ : List Int, y_ = (List.replicate (ji6 : Int).toNat 0) := ⟨_, rfl⟩
             replace H : (spec_l09Count.l2 k2 a2 ji6 x8_1 x9_2 x11_2 y463 0) = some r := by first | (rw [hy463]; with_reducible exact H) | (have H2_ := (Option.bind_some _ _).symm.trans H; rw [hy463]; with_reducible exact H2_) | (have H2_ := (Option.bind_some _ _).symm.trans H; with_reducible exact H2_) | with_reducible exact H | (rw [hy463]; exact H) | exact H
             have Ny463 := Aside0.mk hy463
             clear hy463
             have H' := Aside0.mk H
             clear H
             go_wp2_with (first | ((with_reducible refine gate_dst (N := 40) rfl ?_); refine Kd.R_make (Kd.int .i64) _ 2 rfl (N := 40) rfl 33 _ _ rfl ji6 rfl rfl Try.underlying33 (.int .i64 0) 8 info2 rfl (by decide) (by omega) 0 (ok := fun _ => True) (okp := fun _ => True) rfl (fun _ hk => hk) trivial od_ (Nat.le_trans (Nat.mul_le_mul_right _ (od_ : ji6.toNat ≤ 35184372088832)) (by omega)) (Below.refl _ _) (Nat.le_refl _) ?_; intro v464 w24 ho25 hb hg_ hnew_; clear hg_ hnew_; (first | rw [← Ny463.out] at ho25 | (simp only [Int.reduceToNat] at ho25; rw [← Ny463.out] at ho25)); have n0_ := Aside0.mk (Kd.R_below (by (with_reducible repeat (first | apply Kd.R_alloc | apply Kd.R_drewN | apply Kd.R_drew)); exact HO_8.out) hb); have n1_ := Aside0.mk (Kd.R_elder' (by (with_reducible repeat (first | apply Kd.R_alloc | apply Kd.R_drewN | apply Kd.R_drew)); exact HO_9.out) (Kd.R_base ho25) hb); have n2_ := Aside0.mk (Kd.R_lower (Kd.R_new' ho25 (Kd.R_lt (by (with_reducible repeat (first | apply Kd.R_alloc | apply Kd.R_drewN | apply Kd.R_drew)); exact HO_9.out))) (below_size (by repeat (first | (with_reducible first | exact HB.out | apply below_alloc | apply pw_below_drewN | apply below_drew1) | exact HB.out)))); have n3_ := Aside0.mk (below_step (by repeat (first | (with_reducible first | exact HB.out | apply below_alloc | apply pw_below_drewN | apply below_drew1) | exact HB.out)) hb); clear HO_8; clear HO_9; clear HB; have HO_8 := n0_; have HO_9 := n1_; have HO465 := n2_; have HB := n3_; clear n0_ n1_ n2_ n3_; clear hb ho25))
             go_loopg [13] k2 (fun kq v13 w' => ∃ (x12_3 : List Int) (x13_3 : Int), v13 = .int .i64 x13_3 ∧ Aside0 (spec_l09Count.l2 kq a2 ji6 x8_1 x9_2 x11_2 x12_3 x13_3 = some r) ∧ Aside0 (kq ≤ k2) ∧ Aside0 (Kd.R Kd.bool 4 w' w.heap.size (fun _ => True) u8 x8_1) ∧ Aside0 (Kd.R (Kd.int .i64) 2 w' w.heap.size (fun k_ => some k_ ≠ (v464 : Value).ownBlock) u9 x9_2) ∧ Aside0 (Kd.R (Kd.int .i64) 2 w' w.heap.size (fun k_ => some k_ ≠ (u9 : Value).ownBlock) v464 x12_3) ∧ Aside0 (Below w.heap.size w w'))
             case atStart => exact ⟨(y463), (0), (by first | rfl | (simp; done) | (simp [*]; done)), H', ⟨Nat.le_refl _⟩, ⟨by (with_reducible repeat (first | apply Kd.R_alloc | apply Kd.R_drewN | apply Kd.R_drew)); exact HO_8.out⟩, ⟨by (with_reducible repeat (first | apply Kd.R_alloc | apply Kd.R_drewN | apply Kd.R_drew)); exact Kd.R_mono HO_9.out (fun _ hk => hk.2)⟩, ⟨by (with_reducible repeat (first | apply Kd.R_alloc | apply Kd.R_drewN | apply Kd.R_drew)); exact Kd.R_mono HO465.out (fun _ hk => hk.2)⟩, ⟨by repeat (first | (with_reducible first | exact HB.out | apply below_alloc | apply pw_below_drewN | apply below_drew1) | exact HB.out)⟩⟩
             case round =>
              clear H'
              try clear c1
              try clear p1
              try clear q1
              try clear hx1
              try clear qi1
              try clear c2
              try clear p2
              try clear c5
              try clear c5b0
              try clear c5b1
              try clear p6
              try clear c7
              try clear c7b0
              try clear c7b1
              try clear c8
              try clear c8b0
              try clear c8b1
              try clear c9
              try clear c13
              try clear c13b0
              try clear c15
              try clear c17
              try clear c17b0
              try clear c17b1
              try clear p18
              try clear q18
              try clear hx18
              try clear qi18
              try clear hf18
              try clear c21
              try clear c21b0
              try clear c22
              try clear c22b0
              try clear c22b1
              try clear c23
              try clear c23b0
              try clear c23b1
              try clear hx18_0
              try clear p1
              try clear p18
              try clear p2
              try clear p6
              try clear q1
              try clear q18
              obtain ⟨x12_3, x13_3, rfl, HA, HK3, HO_8, HO_9, HO_12, HB⟩ := hrel
              cases gk with
              | zero => exact absurd HA.out (by simp [spec_l09Count.l2])
              | succ k3 =>
               have H := HA.out
               clear HA
               simp only [spec_l09Count.l2] at H
               by_cases c26 : x13_3 < ji6
               ·rw [if_pos c26] at H
                have c26b0 : decide (x13_3 < ji6) = true := decide_eq_true c26
                clear c26
                have H' := Aside0.mk H
                clear H
                go_wp2
                go_loopg [14] k3 (fun kq v14 w' => ∃ (x12_4 : List Int) (x14_4 : Int), v14 = .int .i64 x14_4 ∧ Aside0 (spec_l09Count.l3 kq a2 ji6 x8_1 x9_2 x11_2 x12_4 x13_3 x14_4 = some r) ∧ Aside0 (kq ≤ k3) ∧ Aside0 (Kd.R Kd.bool 4 w' w.heap.size (fun _ => True) u8 x8_1) ∧ Aside0 (Kd.R (Kd.int .i64) 2 w' w.heap.size (fun k_ => some k_ ≠ (v464 : Value).ownBlock) u9 x9_2) ∧ Aside0 (Kd.R (Kd.int .i64) 2 w' w.heap.size (fun k_ => some k_ ≠ (u9 : Value).ownBlock) v464 x12_4) ∧ Aside0 (Below w.heap.size w w'))
                case atStart => exact ⟨(x12_3), (x13_3), (by first | rfl | (simp; done) | (simp [*]; done)), H', ⟨Nat.le_refl _⟩, ⟨by (with_reducible repeat (first | apply Kd.R_alloc | apply Kd.R_drewN | apply Kd.R_drew)); exact HO_8.out⟩, ⟨by (with_reducible repeat (first | apply Kd.R_alloc | apply Kd.R_drewN | apply Kd.R_drew)); exact HO_9.out⟩, ⟨by (with_reducible repeat (first | apply Kd.R_alloc | apply Kd.R_drewN | apply Kd.R_drew)); exact HO_12.out⟩, ⟨by repeat (first | (with_reducible first | exact HB.out | apply below_alloc | apply pw_below_drewN | apply below_drew1) | exact HB.out)⟩⟩
                case round =>
                 clear H'
                 try clear c1
                 try clear p1
                 try clear q1
                 try clear hx1
                 try clear qi1
                 try clear c2
                 try clear p2
                 try clear c5
                 try clear c5b0
                 try clear c5b1
                 try clear p6
                 try clear c7
                 try clear c7b0
                 try clear c7b1
                 try clear c8
                 try clear c8b0
                 try clear c8b1
                 try clear c9
                 try clear c13
                 try clear c13b0
                 try clear c15
                 try clear c17
                 try clear c17b0
                 try clear c17b1
                 try clear p18
                 try clear q18
                 try clear hx18
                 try clear qi18
                 try clear hf18
                 try clear c21
                 try clear c21b0
                 try clear c22
                 try clear c22b0
                 try clear c22b1
                 try clear c23
                 try clear c23b0
                 try clear c23b1
                 try clear c26
                 try clear c26b0
                 try clear hx18_0
                 try clear p1
                 try clear p18
                 try clear p2
                 try clear p6
                 try clear q1
                 try clear q18
                 obtain ⟨x12_4, x14_4, rfl, HA, HK4, HO_8, HO_9, HO_12, HB⟩ := hrel
                 cases gk with
                 | zero => exact absurd HA.out (by simp [spec_l09Count.l3])
                 | succ k4 =>
                  have H := HA.out
                  clear HA
                  simp only [spec_l09Count.l3] at H
                  by_cases c27 : 0 ≤ x14_4
                  ·rw [if_pos c27] at H
                   have c27b0 : decide (0 ≤ x14_4) = true := decide_eq_true c27
                   clear c27
                   by_cases c28 : x14_4 < (x8_1.length : Int)
                   ·rw [if_pos c28] at H
                    have c28b0 : decide (x14_4 < (x8_1.length : Int)) = true := decide_eq_true c28
                    clear c28
                    obtain ⟨bq29, hbq29⟩ : ∃ b_ : Bool, b_ = (rdOf false x8_1 x14_4) := ⟨_, rfl⟩
                    replace H : (if bq29 = true then (if 0 ≤ x13_3 then (if x13_3 < (x12_4.length : Int) then (if 0 ≤ (wrap64 (x13_3 - x14_4)) then (if (wrap64 (x13_3 - x14_4)) < (x9_2.length : Int) then ((some (x12_4.set (x13_3 : Int).toNat (wrap64 ((rd x12_4 x13_3) + (rd x9_2 (wrap64 (x13_3 - x14_4))))) : List Int)).bind fun y469 => (if x14_4 = 0 then (spec_l09Count.l2 k4 a2 ji6 x8_1 x9_2 x11_2 y469 (wrap64 (x13_3 + 1))) else (spec_l09Count.l3 k4 a2 ji6 x8_1 x9_2 x11_2 y469 x13_3 (Go.bits .and .i64 (wrap64 (x14_4 - 1)) x13_3)))) else (none)) else (none)) else (none)) else (none)) else (if x14_4 = 0 then (spec_l09Count.l2 k4 a2 ji6 x8_1 x9_2 x11_2 x12_4 (wrap64 (x13_3 + 1))) else (spec_l09Count.l3 k4 a2 ji6 x8_1 x9_2 x11_2 x12_4 x13_3 (Go.bits .and .i64 (wrap64 (x14_4 - 1)) x13_3)))) = some r := by rw [← hbq29] at H; exact H
                    have Nbq29 := Aside0.mk hbq29
                    clear hbq29
                    by_cases c30 : bq29 = true
                    ·subst c30
                     have H1 : (if 0 ≤ x13_3 then (if x13_3 < (x12_4.length : Int) then (if 0 ≤ (wrap64 (x13_3 - x14_4)) then (if (wrap64 (x13_3 - x14_4)) < (x9_2.length : Int) then ((some (x12_4.set (x13_3 : Int).toNat (wrap64 ((rd x12_4 x13_3) + (rd x9_2 (wrap64 (x13_3 - x14_4))))) : List Int)).bind fun y469 => (if x14_4 = 0 then (spec_l09Count.l2 k4 a2 ji6 x8_1 x9_2 x11_2 y469 (wrap64 (x13_3 + 1))) else (spec_l09Count.l3 k4 a2 ji6 x8_1 x9_2 x11_2 y469 x13_3 (Go.bits .and .i64 (wrap64 (x14_4 - 1)) x13_3)))) else (none)) else (none)) else (none)) else (none)) = some r := by rw [if_pos rfl] at H; exact H
                     clear H
                     have H := H1
                     clear H1
                     by_cases c31 : 0 ≤ x13_3
                     ·rw [if_pos c31] at H
                      have c31b0 : decide (0 ≤ x13_3) = true := decide_eq_true c31
                      clear c31
                      by_cases c32 : x13_3 < (x12_4.length : Int)
                      ·rw [if_pos c32] at H
                       have c32b0 : decide (x13_3 < (x12_4.length : Int)) = true := decide_eq_true c32
                       clear c32
                       obtain ⟨ji33, hji33⟩ : ∃ j_ : Int, (wrap64 (x13_3 - x14_4)) = j_ := ⟨_, rfl⟩
                       replace H : (if 0 ≤ (ji33) then (if (ji33) < (x9_2.length : Int) then ((some (x12_4.set (x13_3 : Int).toNat (wrap64 ((rd x12_4 x13_3) + (rd x9_2 (ji33)))) : List Int)).bind fun y469 => (if x14_4 = 0 then (spec_l09Count.l2 k4 a2 ji6 x8_1 x9_2 x11_2 y469 (wrap64 (x13_3 + 1))) else (spec_l09Count.l3 k4 a2 ji6 x8_1 x9_2 x11_2 y469 x13_3 (Go.bits .and .i64 (wrap64 (x14_4 - 1)) x13_3)))) else (none)) else (none)) = some r := by first | (rw [hji33] at H; exact H) | (simp only [hji33] at H ⊢; exact H)
                       have hji33w : (IntKind.i64.wrap (x13_3 - x14_4)) = ji33 := (i64_w _).trans hji33
                       by_cases c34 : 0 ≤ (ji33)
                       ·rw [if_pos c34] at H
                        have c34b0 : decide (0 ≤ (ji33)) = true := decide_eq_true c34
                        clear c34
                        by_cases c35 : (ji33) < (x9_2.length : Int)
                        ·rw [if_pos c35] at H
                         have c35b0 : decide ((ji33) < (x9_2.length : Int)) = true := decide_eq_true c35
                         clear c35
                         obtain ⟨y469, hy469⟩ : ∃ y_ : List Int, y_ = (x12_4.set (x13_3 : Int).toNat (wrap64 ((rd x12_4 x13_3) + (rd x9_2 (ji33))))) := ⟨_, rfl⟩
                         replace H : (if x14_4 = 0 then (spec_l09Count.l2 k4 a2 ji6 x8_1 x9_2 x11_2 y469 (wrap64 (x13_3 + 1))) else (spec_l09Count.l3 k4 a2 ji6 x8_1 x9_2 x11_2 y469 x13_3 (Go.bits .and .i64 (wrap64 (x14_4 - 1)) x13_3))) = some r := by first | (rw [hy469]; with_reducible exact H) | (have H2_ := (Option.bind_some _ _).symm.trans H; rw [hy469]; with_reducible exact H2_) | (have H2_ := (Option.bind_some _ _).symm.trans H; with_reducible exact H2_) | with_reducible exact H | (rw [hy469]; exact H) | exact H
                         have Ny469 := Aside0.mk hy469
                         clear hy469
                         by_cases c37 : x14_4 = 0
                         ·rw [if_pos c37] at H
                          have c37b0 : (x14_4 == 0) = true := beq_iff_eq.mpr c37
                          have c37b1 : (x14_4 != 0) = false := bne_eq_false_iff_eq.mpr c37
                          clear c37
                          have H' := Aside0.mk H
                          clear H
                          obtain ⟨Ao38, co38, eo38⟩ := Kd.R_slice HO_8.out
                          subst eo38
                          have p466 : 0 ≤ (x14_4 : Int) := od_
                          have q466 : x14_4 < (x8_1.length : Int) := od_
                          obtain ⟨ad466, e466, hx466_0⟩ := Kd.at_bool (Kd.R_reads' HO_8.out).2.2 x14_4 p466 q466
                          (try rw [← Nbq29.out] at hx466_0)
                          cases e466
                          replace p466 := eq_true p466
                          replace q466 := eq_true q466
                          try go_wp2
                          have n0_ := Aside0.mk (Kd.R_drew HO_8.out)
                          have n1_ := Aside0.mk (Kd.R_drew HO_9.out)
                          have n2_ := Aside0.mk (Kd.R_drew HO_12.out)
                          have n3_ := Aside0.mk (below_drew1 HB.out)
                          clear HO_8
                          clear HO_9
                          clear HO_12
                          clear HB
                          have HO_8 := n0_
                          have HO_9 := n1_
                          have HO_12 := n2_
                          have HB := n3_
                          clear n0_ n1_ n2_ n3_
                          obtain ⟨Ao40, co40, eo40⟩ := Kd.R_slice HO_12.out
                          (first | subst eo40 | (injection eo40 with f1_ f2_ f3_; have f4_ := f1_.symm; have f5_ := f3_.symm; clear f1_ f2_ f3_; subst f4_; subst f5_))
                          have p467 : 0 ≤ (x13_3 : Int) := od_
                          have q467 : x13_3 < (x12_4.length : Int) := od_
                          obtain ⟨ad467, e467, hx467_0⟩ := Kd.at_int (Kd.R_reads' HO_12.out).2.2 x13_3 p467 q467
                          cases e467
                          replace p467 := eq_true p467
                          replace q467 := eq_true q467
                          obtain ⟨Ao41, co41, eo41⟩ := Kd.R_slice HO_9.out
                          (first | subst eo41 | (injection eo41 with f1_ f2_ f3_; have f4_ := f1_.symm; have f5_ := f3_.symm; clear f1_ f2_ f3_; subst f4_; subst f5_))
                          have p468 : 0 ≤ ((ji33) : Int) := od_
                          have q468 : (ji33) < (x9_2.length : Int) := od_
                          obtain ⟨ad468, e468, hx468_0⟩ := Kd.at_int (Kd.R_reads' HO_9.out).2.2 (ji33) p468 q468
                          cases e468
                          replace p468 := eq_true p468
                          replace q468 := eq_true q468
                          have p36 : 0 ≤ (x13_3 : Int) := od_
                          have q36 : (x13_3 : Int) < ((x12_4.length : Int) : Int) := od_
                          obtain ⟨go36, co36, eo36, gb36, gl36, cl36, HG36⟩ := Kd.R_form HO_12.out (by omega)
                          (first | cases eo36 | (injection eo36 with ea_ en_ ec_; (first | subst ea_ | (injection ea_ with ea_; subst ea_)); subst ec_; clear en_))
                          have GB36 := Aside0.mk gb36
                          have GG36 := Aside0.mk HG36
                          clear gb36 gl36 HG36
                          (first | simp only [add_plain] at hx467_0 | skip)
                          obtain ⟨hx36_0, hf36_0⟩ := Kd.R_celln 0 HO_12.out (x13_3 : Int) p36 q36
                          replace p36 := eq_true p36
                          replace q36 := eq_true q36
                          have HP42 := Kd.R_putn HO_12.out (x13_3 : Int) (wrap64 ((rd x12_4 x13_3) + (rd x9_2 (ji33))))
                          rw [← Ny469.out] at HP42
                          have HQ42 := Aside0.mk HP42
                          clear HP42
                          refine start_ (n := 13) (S := fun w' => w'.cell? ⟨go36, (x13_3).toNat, none⟩ = some (.int .i64 (rd x12_4 x13_3)) ∧ w'.cell? (ad468.add ((ji33)).toNat) = some (.int .i64 (rd x9_2 (ji33)))) (ds := [12]) #[false, false, false, false, false, false, false, false, false, false, false, false, false] (by kernel_rfl) rfl rfl ⟨hx467_0, hx468_0⟩ (fun hHeld => ?_); refine with_tabW spec_l09Count.tab19 spec_l09Count.bits19 (fun HT_ HW_ => ?_)
                          generalize wr.drew = w39 at HO_8 HO_9 HO_12 HB GG36 HQ42 hf36_0 hx36_0 hx467_0 hx468_0 hHeld ⊢
                          refine pure_ (i := 0) (N := some 55) (v := ?_) (a' := ?_) #[true, false, false, false, false, false, false, false, false, false, false, false, false] rfl rfl (any_of HT_.out (by kernel_rfl)) (fun _ _ _ h => h) (Or.inl ⟨by rfl, ?_⟩) ?_ ?_
                          rotate_left
                          ·intro w'
                           go_simp
                           with_reducible rfl
                          rotate_left
                          ·simp only [Act.put, List.setIfInBounds_toArray, List.set_cons_zero, List.set_cons_succ, i64_w, i32_w]
                           rfl
                          refine pure_ (i := 1) (N := some 56) (v := ?_) (a' := ?_) #[true, true, false, false, false, false, false, false, false, false, false, false, false] rfl rfl (any_of HT_.out (by kernel_rfl)) (fun _ _ _ h => h) (Or.inl ⟨by rfl, ?_⟩) ?_ ?_
                          rotate_left
                          ·intro w'
                           go_simp
                           with_reducible rfl
                          rotate_left
                          ·simp only [Act.put, List.setIfInBounds_toArray, List.set_cons_zero, List.set_cons_succ, i64_w, i32_w]
                           rfl
                          refine pure_ (i := 2) (N := some 57) (v := ?_) (a' := ?_) #[true, true, true, false, false, false, false, false, false, false, false, false, false] rfl rfl (any_of HT_.out (by kernel_rfl)) (fun _ _ _ h => h) (Or.inl ⟨by rfl, ?_⟩) ?_ ?_
                          rotate_left
                          ·intro w'
                           go_simp
                           with_reducible rfl
                          rotate_left
                          ·simp only [Act.put, List.setIfInBounds_toArray, List.set_cons_zero, List.set_cons_succ, i64_w, i32_w]
                           rfl
                          refine pure_ (i := 4) (N := some 59) (v := ?_) (a' := ?_) #[true, true, true, false, true, false, false, false, false, false, false, false, false] rfl rfl (any_of HT_.out (by kernel_rfl)) (fun _ _ _ h => h) (Or.inl ⟨by rfl, ?_⟩) ?_ ?_
                          rotate_left
                          ·intro w'
                           go_simp
                           with_reducible rfl
                          rotate_left
                          ·simp only [Act.put, List.setIfInBounds_toArray, List.set_cons_zero, List.set_cons_succ, i64_w, i32_w]
                           rfl
                          refine pure_ (i := 5) (N := some 60) (v := ?_) (a' := ?_) #[true, true, true, false, true, true, false, false, false, false, false, false, false] rfl rfl (any_of HT_.out (by kernel_rfl)) (fun _ _ _ h => h) (Or.inl ⟨by rfl, ?_⟩) ?_ ?_
                          rotate_left
                          ·intro w'
                           go_simp
                           with_reducible rfl
                          rotate_left
                          ·simp only [Act.put, List.setIfInBounds_toArray, List.set_cons_zero, List.set_cons_succ, i64_w, i32_w]
                           rfl
                          refine pure_ (i := 6) (N := some 61) (v := ?_) (a' := ?_) #[true, true, true, false, true, true, true, false, false, false, false, false, false] rfl rfl (any_of HT_.out (by kernel_rfl)) (fun _ _ _ h => h) (Or.inl ⟨by rfl, ?_⟩) ?_ ?_
                          rotate_left
                          ·intro w'
                           go_simp
                           with_reducible rfl
                          rotate_left
                          ·simp only [Act.put, List.setIfInBounds_toArray, List.set_cons_zero, List.set_cons_succ, i64_w, i32_w]
                           rfl
                          refine pure_ (i := 7) (N := some 62) (v := ?_) (a' := ?_) #[true, true, true, false, true, true, true, true, false, false, false, false, false] rfl rfl (any_of HT_.out (by kernel_rfl)) (fun _ _ _ h => h) (Or.inl ⟨by rfl, ?_⟩) ?_ ?_
                          rotate_left
                          ·intro w'
                           go_simp
                           with_reducible rfl
                          rotate_left
                          ·simp only [Act.put, List.setIfInBounds_toArray, List.set_cons_zero, List.set_cons_succ, i64_w, i32_w]
                           rfl
                          refine pure_ (i := 8) (N := some 63) (v := ?_) (a' := ?_) #[true, true, true, false, true, true, true, true, true, false, false, false, false] rfl rfl (any_of HT_.out (by kernel_rfl)) (fun _ _ _ h => h) (Or.inl ⟨by rfl, ?_⟩) ?_ ?_
                          rotate_left
                          ·intro w'
                           go_simp
                           with_reducible rfl
                          rotate_left
                          ·simp only [Act.put, List.setIfInBounds_toArray, List.set_cons_zero, List.set_cons_succ, i64_w, i32_w]
                           rfl
                          refine take_ (i := 3) (N := some 58) (v := ?_) (a' := ?_) #[true, true, true, true, true, true, true, true, true, false, false, false, false] rfl rfl (take_ofW HT_.out HW_.out (by kernel_rfl)) (fun _ _ _ h => h) (Or.inl ⟨by rfl, ?_⟩) hHeld ?_ ?_
                          rotate_left
                          ·rintro w' ⟨s0, s1⟩
                           go_simp
                           with_reducible rfl
                          rotate_left
                          ·simp only [Act.put, List.setIfInBounds_toArray, List.set_cons_zero, List.set_cons_succ, i64_w, i32_w]
                           rfl
                          refine take_ (i := 9) (N := some 64) (v := ?_) (a' := ?_) #[true, true, true, true, true, true, true, true, true, true, false, false, false] rfl rfl (take_ofW HT_.out HW_.out (by kernel_rfl)) (fun _ _ _ h => h) (Or.inl ⟨by rfl, ?_⟩) hHeld ?_ ?_
                          rotate_left
                          ·rintro w' ⟨s0, s1⟩
                           go_simp
                           with_reducible rfl
                          rotate_left
                          ·simp only [Act.put, List.setIfInBounds_toArray, List.set_cons_zero, List.set_cons_succ, i64_w, i32_w]
                           rfl
                          refine pure_ (i := 10) (N := some 65) (v := ?_) (a' := ?_) #[true, true, true, true, true, true, true, true, true, true, true, false, false] rfl rfl (any_of HT_.out (by kernel_rfl)) (fun _ _ _ h => h) (Or.inl ⟨by rfl, ?_⟩) ?_ ?_
                          rotate_left
                          ·intro w'
                           go_simp
                           with_reducible rfl
                          rotate_left
                          ·simp only [Act.put, List.setIfInBounds_toArray, List.set_cons_zero, List.set_cons_succ, i64_w, i32_w]
                           rfl
                          refine pure_ (i := 11) (N := some 66) (v := ?_) (a' := ?_) #[true, true, true, true, true, true, true, true, true, true, true, true, false] rfl rfl (any_of HT_.out (by kernel_rfl)) (fun _ _ _ h => h) (Or.inl ⟨by rfl, ?_⟩) ?_ ?_
                          rotate_left
                          ·intro w'
                           go_simp
                           with_reducible rfl
                          rotate_left
                          ·simp only [Act.put, List.setIfInBounds_toArray, List.set_cons_zero, List.set_cons_succ, i64_w, i32_w]
                           rfl
                          refine last_ (i := 12) (N := none) #[true, true, true, true, true, true, true, true, true, true, true, true, true] rfl rfl (one_of HT_.out (by kernel_rfl)) (by decide) (fun K hK => ?_)
                          refine skip_ (w1 := ?_) (by rfl) rfl ?_ ?_
                          rotate_left
                          ·go_simp
                           rfl
                          refine hK.out _ _ ?_
                          clear hK K
                          refine done_ (done_of HT_.out (by kernel_rfl)) ?_
                          try go_wp2
                          go_roundg k4
                          case measure => have := HK1.out; have := HK2.out; have := HK3.out; have := HK4.out; omega
                          case rel => exact ⟨(y469), (wrap64 (x13_3 + 1)), (by first | rfl | (simp; done) | (simp [*]; done)), H', ⟨by have := HK1.out; have := HK2.out; have := HK3.out; have := HK4.out; omega⟩, ⟨by (with_reducible repeat (first | apply Kd.R_alloc | apply Kd.R_drewN | apply Kd.R_drew)); exact Kd.R_mono (Kd.R_far (p := ⟨go36, (x13_3 : Int).toNat, none⟩) (Kd.R_types HO_8.out GG36.out (by decide)) (fun _ hk => hk.2) (.int .i64 (wrap64 ((rd x12_4 x13_3) + (rd x9_2 (ji33)))))) (fun _ hk => trivial)⟩, ⟨by (with_reducible repeat (first | apply Kd.R_alloc | apply Kd.R_drewN | apply Kd.R_drew)); exact Kd.R_mono (Kd.R_far (p := ⟨go36, (x13_3 : Int).toNat, none⟩) (Kd.R_mono HO_9.out (fun k_ hk => (⟨hk, fun e_ => hk (by rw [e_]; rfl)⟩ : _ ∧ k_ ≠ go36))) (fun _ hk => hk.2) (.int .i64 (wrap64 ((rd x12_4 x13_3) + (rd x9_2 (ji33)))))) (fun _ hk => hk.1)⟩, ⟨by (with_reducible repeat (first | apply Kd.R_alloc | apply Kd.R_drewN | apply Kd.R_drew)); exact HQ42.out⟩, ⟨by repeat (first | (with_reducible first | exact HB.out | apply below_alloc | apply pw_below_drewN | apply below_drew1 | refine below_set ?_ GB36.out) | exact HB.out)⟩⟩
                         ·rw [if_neg c37] at H
                          have c37b0 : (x14_4 == 0) = false := beq_eq_false_iff_ne.mpr c37
                          have c37b1 : (x14_4 != 0) = true := bne_iff_ne.mpr c37
                          have H' := Aside0.mk H
                          clear H
                          obtain ⟨Ao43, co43, eo43⟩ := Kd.R_slice HO_8.out
                          subst eo43
                          have p466 : 0 ≤ (x14_4 : Int) := od_
                          have q466 : x14_4 < (x8_1.length : Int) := od_
                          obtain ⟨ad466, e466, hx466_0⟩ := Kd.at_bool (Kd.R_reads' HO_8.out).2.2 x14_4 p466 q466
                          (try rw [← Nbq29.out] at hx466_0)
                          cases e466
                          replace p466 := eq_true p466
                          replace q466 := eq_true q466
                          try go_wp2
                          have n0_ := Aside0.mk (Kd.R_drew HO_8.out)
                          have n1_ := Aside0.mk (Kd.R_drew HO_9.out)
                          have n2_ := Aside0.mk (Kd.R_drew HO_12.out)
                          have n3_ := Aside0.mk (below_drew1 HB.out)
                          clear HO_8
                          clear HO_9
                          clear HO_12
                          clear HB
                          have HO_8 := n0_
                          have HO_9 := n1_
                          have HO_12 := n2_
                          have HB := n3_
                          clear n0_ n1_ n2_ n3_
                          obtain ⟨Ao45, co45, eo45⟩ := Kd.R_slice HO_12.out
                          (first | subst eo45 | (injection eo45 with f1_ f2_ f3_; have f4_ := f1_.symm; have f5_ := f3_.symm; clear f1_ f2_ f3_; subst f4_; subst f5_))
                          have p467 : 0 ≤ (x13_3 : Int) := od_
                          have q467 : x13_3 < (x12_4.length : Int) := od_
                          obtain ⟨ad467, e467, hx467_0⟩ := Kd.at_int (Kd.R_reads' HO_12.out).2.2 x13_3 p467 q467
                          cases e467
                          replace p467 := eq_true p467
                          replace q467 := eq_true q467
                          obtain ⟨Ao46, co46, eo46⟩ := Kd.R_slice HO_9.out
                          (first | subst eo46 | (injection eo46 with f1_ f2_ f3_; have f4_ := f1_.symm; have f5_ := f3_.symm; clear f1_ f2_ f3_; subst f4_; subst f5_))
                          have p468 : 0 ≤ ((ji33) : Int) := od_
                          have q468 : (ji33) < (x9_2.length : Int) := od_
                          obtain ⟨ad468, e468, hx468_0⟩ := Kd.at_int (Kd.R_reads' HO_9.out).2.2 (ji33) p468 q468
                          cases e468
                          replace p468 := eq_true p468
                          replace q468 := eq_true q468
                          have p36 : 0 ≤ (x13_3 : Int) := od_
                          have q36 : (x13_3 : Int) < ((x12_4.length : Int) : Int) := od_
                          obtain ⟨go36, co36, eo36, gb36, gl36, cl36, HG36⟩ := Kd.R_form HO_12.out (by omega)
                          (first | cases eo36 | (injection eo36 with ea_ en_ ec_; (first | subst ea_ | (injection ea_ with ea_; subst ea_)); subst ec_; clear en_))
                          have GB36 := Aside0.mk gb36
                          have GG36 := Aside0.mk HG36
                          clear gb36 gl36 HG36
                          (first | simp only [add_plain] at hx467_0 | skip)
                          obtain ⟨hx36_0, hf36_0⟩ := Kd.R_celln 0 HO_12.out (x13_3 : Int) p36 q36
                          replace p36 := eq_true p36
                          replace q36 := eq_true q36
                          have HP47 := Kd.R_putn HO_12.out (x13_3 : Int) (wrap64 ((rd x12_4 x13_3) + (rd x9_2 (ji33))))
                          rw [← Ny469.out] at HP47
                          have HQ47 := Aside0.mk HP47
                          clear HP47
                          refine start_ (n := 13) (S := fun w' => w'.cell? ⟨go36, (x13_3).toNat, none⟩ = some (.int .i64 (rd x12_4 x13_3)) ∧ w'.cell? (ad468.add ((ji33)).toNat) = some (.int .i64 (rd x9_2 (ji33)))) (ds := [12]) #[false, false, false, false, false, false, false, false, false, false, false, false, false] (by kernel_rfl) rfl rfl ⟨hx467_0, hx468_0⟩ (fun hHeld => ?_); refine with_tabW spec_l09Count.tab19 spec_l09Count.bits19 (fun HT_ HW_ => ?_)
                          generalize wr.drew = w44 at HO_8 HO_9 HO_12 HB GG36 HQ47 hf36_0 hx36_0 hx467_0 hx468_0 hHeld ⊢
                          refine pure_ (i := 0) (N := some 55) (v := ?_) (a' := ?_) #[true, false, false, false, false, false, false, false, false, false, false, false, false] rfl rfl (any_of HT_.out (by kernel_rfl)) (fun _ _ _ h => h) (Or.inl ⟨by rfl, ?_⟩) ?_ ?_
                          rotate_left
                          ·intro w'
                           go_simp
                           with_reducible rfl
                          rotate_left
                          ·simp only [Act.put, List.setIfInBounds_toArray, List.set_cons_zero, List.set_cons_succ, i64_w, i32_w]
                           rfl
                          refine pure_ (i := 1) (N := some 56) (v := ?_) (a' := ?_) #[true, true, false, false, false, false, false, false, false, false, false, false, false] rfl rfl (any_of HT_.out (by kernel_rfl)) (fun _ _ _ h => h) (Or.inl ⟨by rfl, ?_⟩) ?_ ?_
                          rotate_left
                          ·intro w'
                           go_simp
                           with_reducible rfl
                          rotate_left
                          ·simp only [Act.put, List.setIfInBounds_toArray, List.set_cons_zero, List.set_cons_succ, i64_w, i32_w]
                           rfl
                          refine pure_ (i := 2) (N := some 57) (v := ?_) (a' := ?_) #[true, true, true, false, false, false, false, false, false, false, false, false, false] rfl rfl (any_of HT_.out (by kernel_rfl)) (fun _ _ _ h => h) (Or.inl ⟨by rfl, ?_⟩) ?_ ?_
                          rotate_left
                          ·intro w'
                           go_simp
                           with_reducible rfl
                          rotate_left
                          ·simp only [Act.put, List.setIfInBounds_toArray, List.set_cons_zero, List.set_cons_succ, i64_w, i32_w]
                           rfl
                          refine pure_ (i := 4) (N := some 59) (v := ?_) (a' := ?_) #[true, true, true, false, true, false, false, false, false, false, false, false, false] rfl rfl (any_of HT_.out (by kernel_rfl)) (fun _ _ _ h => h) (Or.inl ⟨by rfl, ?_⟩) ?_ ?_
                          rotate_left
                          ·intro w'
                           go_simp
                           with_reducible rfl
                          rotate_left
                          ·simp only [Act.put, List.setIfInBounds_toArray, List.set_cons_zero, List.set_cons_succ, i64_w, i32_w]
                           rfl
                          refine pure_ (i := 5) (N := some 60) (v := ?_) (a' := ?_) #[true, true, true, false, true, true, false, false, false, false, false, false, false] rfl rfl (any_of HT_.out (by kernel_rfl)) (fun _ _ _ h => h) (Or.inl ⟨by rfl, ?_⟩) ?_ ?_
                          rotate_left
                          ·intro w'
                           go_simp
                           with_reducible rfl
                          rotate_left
                          ·simp only [Act.put, List.setIfInBounds_toArray, List.set_cons_zero, List.set_cons_succ, i64_w, i32_w]
                           rfl
                          refine pure_ (i := 6) (N := some 61) (v := ?_) (a' := ?_) #[true, true, true, false, true, true, true, false, false, false, false, false, false] rfl rfl (any_of HT_.out (by kernel_rfl)) (fun _ _ _ h => h) (Or.inl ⟨by rfl, ?_⟩) ?_ ?_
                          rotate_left
                          ·intro w'
                           go_simp
                           with_reducible rfl
                          rotate_left
                          ·simp only [Act.put, List.setIfInBounds_toArray, List.set_cons_zero, List.set_cons_succ, i64_w, i32_w]
                           rfl
                          refine pure_ (i := 7) (N := some 62) (v := ?_) (a' := ?_) #[true, true, true, false, true, true, true, true, false, false, false, false, false] rfl rfl (any_of HT_.out (by kernel_rfl)) (fun _ _ _ h => h) (Or.inl ⟨by rfl, ?_⟩) ?_ ?_
                          rotate_left
                          ·intro w'
                           go_simp
                           with_reducible rfl
                          rotate_left
                          ·simp only [Act.put, List.setIfInBounds_toArray, List.set_cons_zero, List.set_cons_succ, i64_w, i32_w]
                           rfl
                          refine pure_ (i := 8) (N := some 63) (v := ?_) (a' := ?_) #[true, true, true, false, true, true, true, true, true, false, false, false, false] rfl rfl (any_of HT_.out (by kernel_rfl)) (fun _ _ _ h => h) (Or.inl ⟨by rfl, ?_⟩) ?_ ?_
                          rotate_left
                          ·intro w'
                           go_simp
                           with_reducible rfl
                          rotate_left
                          ·simp only [Act.put, List.setIfInBounds_toArray, List.set_cons_zero, List.set_cons_succ, i64_w, i32_w]
                           rfl
                          refine take_ (i := 3) (N := some 58) (v := ?_) (a' := ?_) #[true, true, true, true, true, true, true, true, true, false, false, false, false] rfl rfl (take_ofW HT_.out HW_.out (by kernel_rfl)) (fun _ _ _ h => h) (Or.inl ⟨by rfl, ?_⟩) hHeld ?_ ?_
                          rotate_left
                          ·rintro w' ⟨s0, s1⟩
                           go_simp
                           with_reducible rfl
                          rotate_left
                          ·simp only [Act.put, List.setIfInBounds_toArray, List.set_cons_zero, List.set_cons_succ, i64_w, i32_w]
                           rfl
                          refine take_ (i := 9) (N := some 64) (v := ?_) (a' := ?_) #[true, true, true, true, true, true, true, true, true, true, false, false, false] rfl rfl (take_ofW HT_.out HW_.out (by kernel_rfl)) (fun _ _ _ h => h) (Or.inl ⟨by rfl, ?_⟩) hHeld ?_ ?_
                          rotate_left
                          ·rintro w' ⟨s0, s1⟩
                           go_simp
                           with_reducible rfl
                          rotate_left
                          ·simp only [Act.put, List.setIfInBounds_toArray, List.set_cons_zero, List.set_cons_succ, i64_w, i32_w]
                           rfl
                          refine pure_ (i := 10) (N := some 65) (v := ?_) (a' := ?_) #[true, true, true, true, true, true, true, true, true, true, true, false, false] rfl rfl (any_of HT_.out (by kernel_rfl)) (fun _ _ _ h => h) (Or.inl ⟨by rfl, ?_⟩) ?_ ?_
                          rotate_left
                          ·intro w'
                           go_simp
                           with_reducible rfl
                          rotate_left
                          ·simp only [Act.put, List.setIfInBounds_toArray, List.set_cons_zero, List.set_cons_succ, i64_w, i32_w]
                           rfl
                          refine pure_ (i := 11) (N := some 66) (v := ?_) (a' := ?_) #[true, true, true, true, true, true, true, true, true, true, true, true, false] rfl rfl (any_of HT_.out (by kernel_rfl)) (fun _ _ _ h => h) (Or.inl ⟨by rfl, ?_⟩) ?_ ?_
                          rotate_left
                          ·intro w'
                           go_simp
                           with_reducible rfl
                          rotate_left
                          ·simp only [Act.put, List.setIfInBounds_toArray, List.set_cons_zero, List.set_cons_succ, i64_w, i32_w]
                           rfl
                          refine last_ (i := 12) (N := none) #[true, true, true, true, true, true, true, true, true, true, true, true, true] rfl rfl (one_of HT_.out (by kernel_rfl)) (by decide) (fun K hK => ?_)
                          refine skip_ (w1 := ?_) (by rfl) rfl ?_ ?_
                          rotate_left
                          ·go_simp
                           rfl
                          refine hK.out _ _ ?_
                          clear hK K
                          refine done_ (done_of HT_.out (by kernel_rfl)) ?_
                          try go_wp2
                          go_roundg k4
                          case measure => have := HK1.out; have := HK2.out; have := HK3.out; have := HK4.out; omega
                          case rel => exact ⟨(y469), (Go.bits .and .i64 (wrap64 (x14_4 - 1)) x13_3), (by first | rfl | (simp; done) | (simp [*]; done)), H', ⟨by have := HK1.out; have := HK2.out; have := HK3.out; have := HK4.out; omega⟩, ⟨by (with_reducible repeat (first | apply Kd.R_alloc | apply Kd.R_drewN | apply Kd.R_drew)); exact Kd.R_mono (Kd.R_far (p := ⟨go36, (x13_3 : Int).toNat, none⟩) (Kd.R_types HO_8.out GG36.out (by decide)) (fun _ hk => hk.2) (.int .i64 (wrap64 ((rd x12_4 x13_3) + (rd x9_2 (ji33)))))) (fun _ hk => trivial)⟩, ⟨by (with_reducible repeat (first | apply Kd.R_alloc | apply Kd.R_drewN | apply Kd.R_drew)); exact Kd.R_mono (Kd.R_far (p := ⟨go36, (x13_3 : Int).toNat, none⟩) (Kd.R_mono HO_9.out (fun k_ hk => (⟨hk, fun e_ => hk (by rw [e_]; rfl)⟩ : _ ∧ k_ ≠ go36))) (fun _ hk => hk.2) (.int .i64 (wrap64 ((rd x12_4 x13_3) + (rd x9_2 (ji33)))))) (fun _ hk => hk.1)⟩, ⟨by (with_reducible repeat (first | apply Kd.R_alloc | apply Kd.R_drewN | apply Kd.R_drew)); exact HQ47.out⟩, ⟨by repeat (first | (with_reducible first | exact HB.out | apply below_alloc | apply pw_below_drewN | apply below_drew1 | refine below_set ?_ GB36.out) | exact HB.out)⟩⟩
                        ·rw [if_neg c35] at H
                         exact absurd H (by simp)
                       ·rw [if_neg c34] at H
                        exact absurd H (by simp)
                      ·rw [if_neg c32] at H
                       exact absurd H (by simp)
                     ·rw [if_neg c31] at H
                      exact absurd H (by simp)
                    ·replace c30 := Bool.eq_false_iff.mpr c30
                     subst c30
                     have H1 : (if x14_4 = 0 then (spec_l09Count.l2 k4 a2 ji6 x8_1 x9_2 x11_2 x12_4 (wrap64 (x13_3 + 1))) else (spec_l09Count.l3 k4 a2 ji6 x8_1 x9_2 x11_2 x12_4 x13_3 (Go.bits .and .i64 (wrap64 (x14_4 - 1)) x13_3))) = some r := by rw [if_neg (show ¬ (false = true) by decide)] at H; exact H
                     clear H
                     have H := H1
                     clear H1
                     by_cases c48 : x14_4 = 0
                     ·rw [if_pos c48] at H
                      have c48b0 : (x14_4 == 0) = true := beq_iff_eq.mpr c48
                      have c48b1 : (x14_4 != 0) = false := bne_eq_false_iff_eq.mpr c48
                      clear c48
                      have H' := Aside0.mk H
                      clear H
                      obtain ⟨Ao49, co49, eo49⟩ := Kd.R_slice HO_8.out
                      subst eo49
                      have p466 : 0 ≤ (x14_4 : Int) := od_
                      have q466 : x14_4 < (x8_1.length : Int) := od_
                      obtain ⟨ad466, e466, hx466_0⟩ := Kd.at_bool (Kd.R_reads' HO_8.out).2.2 x14_4 p466 q466
                      (try rw [← Nbq29.out] at hx466_0)
                      cases e466
                      replace p466 := eq_true p466
                      replace q466 := eq_true q466
                      go_wp2
                      go_roundg k4
                      case measure => have := HK1.out; have := HK2.out; have := HK3.out; have := HK4.out; omega
                      case rel => exact ⟨(x12_4), (wrap64 (x13_3 + 1)), (by first | rfl | (simp; done) | (simp [*]; done)), H', ⟨by have := HK1.out; have := HK2.out; have := HK3.out; have := HK4.out; omega⟩, ⟨by (with_reducible repeat (first | apply Kd.R_alloc | apply Kd.R_drewN | apply Kd.R_drew)); exact HO_8.out⟩, ⟨by (with_reducible repeat (first | apply Kd.R_alloc | apply Kd.R_drewN | apply Kd.R_drew)); exact HO_9.out⟩, ⟨by (with_reducible repeat (first | apply Kd.R_alloc | apply Kd.R_drewN | apply Kd.R_drew)); exact HO_12.out⟩, ⟨by repeat (first | (with_reducible first | exact HB.out | apply below_alloc | apply pw_below_drewN | apply below_drew1) | exact HB.out)⟩⟩
                     ·rw [if_neg c48] at H
                      have c48b0 : (x14_4 == 0) = false := beq_eq_false_iff_ne.mpr c48
                      have c48b1 : (x14_4 != 0) = true := bne_iff_ne.mpr c48
                      have H' := Aside0.mk H
                      clear H
                      obtain ⟨Ao50, co50, eo50⟩ := Kd.R_slice HO_8.out
                      subst eo50
                      have p466 : 0 ≤ (x14_4 : Int) := od_
                      have q466 : x14_4 < (x8_1.length : Int) := od_
                      obtain ⟨ad466, e466, hx466_0⟩ := Kd.at_bool (Kd.R_reads' HO_8.out).2.2 x14_4 p466 q466
                      (try rw [← Nbq29.out] at hx466_0)
                      cases e466
                      replace p466 := eq_true p466
                      replace q466 := eq_true q466
                      go_wp2
                      go_roundg k4
                      case measure => have := HK1.out; have := HK2.out; have := HK3.out; have := HK4.out; omega
                      case rel => exact ⟨(x12_4), (Go.bits .and .i64 (wrap64 (x14_4 - 1)) x13_3), (by first | rfl | (simp; done) | (simp [*]; done)), H', ⟨by have := HK1.out; have := HK2.out; have := HK3.out; have := HK4.out; omega⟩, ⟨by (with_reducible repeat (first | apply Kd.R_alloc | apply Kd.R_drewN | apply Kd.R_drew)); exact HO_8.out⟩, ⟨by (with_reducible repeat (first | apply Kd.R_alloc | apply Kd.R_drewN | apply Kd.R_drew)); exact HO_9.out⟩, ⟨by (with_reducible repeat (first | apply Kd.R_alloc | apply Kd.R_drewN | apply Kd.R_drew)); exact HO_12.out⟩, ⟨by repeat (first | (with_reducible first | exact HB.out | apply below_alloc | apply pw_below_drewN | apply below_drew1) | exact HB.out)⟩⟩
                   ·rw [if_neg c28] at H
                    exact absurd H (by simp)
                  ·rw [if_neg c27] at H
                   exact absurd H (by simp)
               ·rw [if_neg c26] at H
                have c26b0 : decide (x13_3 < ji6) = false := decide_eq_false c26
                clear c26
                have H' := Aside0.mk H
                clear H
                go_wp2
                go_roundg k3
                case measure => have := HK1.out; have := HK2.out; have := HK3.out; omega
                case rel => exact ⟨(x12_3), (wrap64 (x11_2 + 1)), (by first | rfl | (simp; done) | (simp [*]; done)), H', ⟨by have := HK1.out; have := HK2.out; have := HK3.out; omega⟩, ⟨by (with_reducible repeat (first | apply Kd.R_alloc | apply Kd.R_drewN | apply Kd.R_drew)); exact HO_8.out⟩, ⟨by (with_reducible repeat (first | apply Kd.R_alloc | apply Kd.R_drewN | apply Kd.R_drew)); exact Kd.R_mono HO_12.out (fun _ hk => trivial)⟩, ⟨by repeat (first | (with_reducible first | exact HB.out | apply below_alloc | apply pw_below_drewN | apply below_drew1) | exact HB.out)⟩⟩
            ·rw [if_neg c23] at H
             exact absurd H (by simp)
           ·rw [if_neg c22] at H
            exact absurd H (by simp)
          ·rw [if_neg c21] at H
           have c21b0 : decide (x11_2 < a2) = false := decide_eq_false c21
           clear c21
           obtain ⟨ji51, hji51⟩ : ∃ j_ : Int, (wrap64 (ji6 - 1)) = j_ := ⟨_, rfl⟩
           replace H : (if 0 ≤ (ji51) then (if (ji51) < (x9_2.length : Int) then (some (rd x9_2 (ji51))) else (none)) else (none)) = some r := by first | (rw [hji51] at H; exact H) | (simp only [hji51] at H ⊢; exact H)
           have hji51w : (IntKind.i64.wrap (ji6 - 1)) = ji51 := (i64_w _).trans hji51
           by_cases c52 : 0 ≤ (ji51)
           ·rw [if_pos c52] at H
            have c52b0 : decide (0 ≤ (ji51)) = true := decide_eq_true c52
            clear c52
            by_cases c53 : (ji51) < (x9_2.length : Int)
            ·rw [if_pos c53] at H
             have c53b0 : decide ((ji51) < (x9_2.length : Int)) = true := decide_eq_true c53
             clear c53
             obtain rfl := Option.some.inj H
             obtain ⟨Ao54, co54, eo54⟩ := Kd.R_slice HO_9.out
             subst eo54
             have p462 : 0 ≤ ((ji51) : Int) := od_
             have q462 : (ji51) < (x9_2.length : Int) := od_
             obtain ⟨ad462, e462, hx462_0⟩ := Kd.at_int (Kd.R_reads' HO_9.out).2.2 (ji51) p462 q462
             cases e462
             replace p462 := eq_true p462
             replace q462 := eq_true q462
             go_wp2
             go_ret
             exact ⟨by first | rfl | (simp [errW_none, errW_some] <;> rfl) | (simp only [← hji4, ← hji6, ← hji51]; first | rfl | (simp [errW_none, errW_some] <;> rfl)) | (simp [*, errW_none, errW_some] <;> rfl), by repeat (first | (with_reducible first | exact HB.out | apply below_alloc | apply pw_below_drewN | apply below_drew1) | exact HB.out)⟩
            ·rw [if_neg c53] at H
             exact absurd H (by simp)
           ·rw [if_neg c52] at H
            exact absurd H (by simp)
       ·rw [if_neg c17] at H
        exact absurd H (by simp)
   ·rw [if_neg c8] at H
    exact absurd H (by simp)
  ·rw [if_neg c7] at H
   exact absurd H (by simp)
 ·rw [if_neg c5] at H
  exact absurd H (by simp)

end Go.Proofs.Ytlkpnjcbokeoeaa.Print
