-- Printed by a program of this session out of the translation; not trusted: Lean checks it.
import Derived.Test.YtidommcimkmmfaaPrint0
import Derived.Test.YtidommcimkmmfaaPrint11
import Derived.Test.YtidommcimkmmfaaPrint19
import Derived.Test.YtidommcimkmmfaaPrint22
namespace Go.Proofs.Ytidommcimkmmfaa.Print
open Go.RowKit Go.Proofs.YtidommcimkmmfaaW.PrintWords Go.Proofs.YtidommcimkmmfaaW.PrintLast Go.Proofs.YtidommcimkmmfaaW.PrintMore
attribute [local go_sem] max2_int min2_int max_two min_two max_three min_three max_four min_four   -- for this text's walks alone
set_option linter.unusedVariables false
set_option linter.unusedSimpArgs false

/-! ### spec_RowFill: function 42 -/
mutual
def spec_RowFill.j0 : Nat → List (S36) → List Int → Int → Int → Bool → Option (Int × Int)
  | 0, _, _, _, _, _ => none
  | k + 1, x0, x1, x2, x8, x20 => if x20 = true then (spec_RowFill.j1 k x0 x1 x2 2) else (spec_RowFill.j1 k x0 x1 x2 x8)
def spec_RowFill.j1 : Nat → List (S36) → List Int → Int → Int → Option (Int × Int)
  | 0, _, _, _, _ => none
  | k + 1, x0, x1, x2, x8 => if x8 = 0 then ((spec_l11Fault.f k x0 x1).bind fun t404 => (spec_RowFill.j2 k x0 x1 x2 x8 (decide (t404 ≥ 0)))) else (spec_RowFill.j2 k x0 x1 x2 x8 false)
def spec_RowFill.j2 : Nat → List (S36) → List Int → Int → Int → Bool → Option (Int × Int)
  | 0, _, _, _, _, _ => none
  | k + 1, x0, x1, x2, x8, x28 => if x28 = true then (spec_RowFill.j3 k x0 x1 x2 9) else (spec_RowFill.j3 k x0 x1 x2 x8)
def spec_RowFill.j3 : Nat → List (S36) → List Int → Int → Int → Option (Int × Int)
  | 0, _, _, _, _ => none
  | k + 1, x0, x1, x2, x8 => if x8 = 0 then (spec_RowFill.l0 k x0 x1 x2 0 0) else (some (0, x8))
def spec_RowFill.l0 : Nat → List (S36) → List Int → Int → Int → Int → Option (Int × Int)
  | 0, _, _, _, _, _ => none
  | k + 1, x0, x1, x2, x9, x10 => if x10 < (x0.length : Int) then (if 0 ≤ x10 then (if ((rd_T36 x0 x10).f0) = x2 then (if x10 < (x1.length : Int) then (if (rd x1 x10) ≥ 0 then (spec_RowFill.l0 k x0 x1 x2 (wrap64 (x9 + ((rd_T36 x0 x10).f1))) (wrap64 (x10 + 1))) else (spec_RowFill.l0 k x0 x1 x2 x9 (wrap64 (x10 + 1)))) else (none)) else (spec_RowFill.l0 k x0 x1 x2 x9 (wrap64 (x10 + 1)))) else (none)) else (some (x9, 0))
end
def spec_RowFill.f (k : Nat) (l0 : List (S36)) (l1 : List Int) (a2 : Int) : Option (Int × Int) := (spec_l11Code.f k l0 l1).bind fun t402 => (if t402 = 0 then ((spec_l00In.f a2 0 11).bind fun t403 => (spec_RowFill.j0 k l0 l1 a2 t402 (!t403))) else (spec_RowFill.j0 k l0 l1 a2 t402 false))
theorem spec_RowFill.mono_l : ∀ k, (∀ y0 y1 y2 y3 y4, LeO (spec_RowFill.j0 k y0 y1 y2 y3 y4) (spec_RowFill.j0 (k + 1) y0 y1 y2 y3 y4)) ∧ (∀ y0 y1 y2 y3, LeO (spec_RowFill.j1 k y0 y1 y2 y3) (spec_RowFill.j1 (k + 1) y0 y1 y2 y3)) ∧ (∀ y0 y1 y2 y3 y4, LeO (spec_RowFill.j2 k y0 y1 y2 y3 y4) (spec_RowFill.j2 (k + 1) y0 y1 y2 y3 y4)) ∧ (∀ y0 y1 y2 y3, LeO (spec_RowFill.j3 k y0 y1 y2 y3) (spec_RowFill.j3 (k + 1) y0 y1 y2 y3)) ∧ (∀ y0 y1 y2 y3 y4, LeO (spec_RowFill.l0 k y0 y1 y2 y3 y4) (spec_RowFill.l0 (k + 1) y0 y1 y2 y3 y4))
  | 0 => ⟨fun _ _ _ _ _ r h => by simp [spec_RowFill.j0] at h, fun _ _ _ _ r h => by simp [spec_RowFill.j1] at h, fun _ _ _ _ _ r h => by simp [spec_RowFill.j2] at h, fun _ _ _ _ r h => by simp [spec_RowFill.j3] at h, fun _ _ _ _ _ r h => by simp [spec_RowFill.l0] at h⟩
  | k + 1 => by
    obtain ⟨ih0, ih1, ih2, ih3, ih4⟩ := spec_RowFill.mono_l k
    refine ⟨?_, ?_, ?_, ?_, ?_⟩
    · intro y0 y1 y2 y3 y4
      unfold spec_RowFill.j0
      repeat' first
      | (with_reducible exact ih0 _ _ _ _ _)
      | (with_reducible exact ih1 _ _ _ _)
      | (with_reducible exact ih2 _ _ _ _ _)
      | (with_reducible exact ih3 _ _ _ _)
      | (with_reducible exact ih4 _ _ _ _ _)
      | (with_reducible exact spec_l11Code.mono _ _ _)
      | (with_reducible exact spec_l11Fault.mono _ _ _)
      | (with_reducible exact LeO.refl _)
      | (with_reducible exact LeO.none _)
      | (with_reducible refine LeO.ite ?_ ?_)
      | (with_reducible refine LeO.bind ?_ (fun _ => ?_))
      | exact ih0 _ _ _ _ _
      | exact ih1 _ _ _ _
      | exact ih2 _ _ _ _ _
      | exact ih3 _ _ _ _
      | exact ih4 _ _ _ _ _
      | exact spec_l11Code.mono _ _ _
      | exact spec_l11Fault.mono _ _ _
      | exact LeO.none _
      | refine LeO.ite ?_ ?_
      | refine LeO.bind ?_ (fun _ => ?_)
    · intro y0 y1 y2 y3
      unfold spec_RowFill.j1
      repeat' first
      | (with_reducible exact ih0 _ _ _ _ _)
      | (with_reducible exact ih1 _ _ _ _)
      | (with_reducible exact ih2 _ _ _ _ _)
      | (with_reducible exact ih3 _ _ _ _)
      | (with_reducible exact ih4 _ _ _ _ _)
      | (with_reducible exact spec_l11Code.mono _ _ _)
      | (with_reducible exact spec_l11Fault.mono _ _ _)
      | (with_reducible exact LeO.refl _)
      | (with_reducible exact LeO.none _)
      | (with_reducible refine LeO.ite ?_ ?_)
      | (with_reducible refine LeO.bind ?_ (fun _ => ?_))
      | exact ih0 _ _ _ _ _
      | exact ih1 _ _ _ _
      | exact ih2 _ _ _ _ _
      | exact ih3 _ _ _ _
      | exact ih4 _ _ _ _ _
      | exact spec_l11Code.mono _ _ _
      | exact spec_l11Fault.mono _ _ _
      | exact LeO.none _
      | refine LeO.ite ?_ ?_
      | refine LeO.bind ?_ (fun _ => ?_)
    · intro y0 y1 y2 y3 y4
      unfold spec_RowFill.j2
      repeat' first
      | (with_reducible exact ih0 _ _ _ _ _)
      | (with_reducible exact ih1 _ _ _ _)
      | (with_reducible exact ih2 _ _ _ _ _)
      | (with_reducible exact ih3 _ _ _ _)
      | (with_reducible exact ih4 _ _ _ _ _)
      | (with_reducible exact spec_l11Code.mono _ _ _)
      | (with_reducible exact spec_l11Fault.mono _ _ _)
      | (with_reducible exact LeO.refl _)
      | (with_reducible exact LeO.none _)
      | (with_reducible refine LeO.ite ?_ ?_)
      | (with_reducible refine LeO.bind ?_ (fun _ => ?_))
      | exact ih0 _ _ _ _ _
      | exact ih1 _ _ _ _
      | exact ih2 _ _ _ _ _
      | exact ih3 _ _ _ _
      | exact ih4 _ _ _ _ _
      | exact spec_l11Code.mono _ _ _
      | exact spec_l11Fault.mono _ _ _
      | exact LeO.none _
      | refine LeO.ite ?_ ?_
      | refine LeO.bind ?_ (fun _ => ?_)
    · intro y0 y1 y2 y3
      unfold spec_RowFill.j3
      repeat' first
      | (with_reducible exact ih0 _ _ _ _ _)
      | (with_reducible exact ih1 _ _ _ _)
      | (with_reducible exact ih2 _ _ _ _ _)
      | (with_reducible exact ih3 _ _ _ _)
      | (with_reducible exact ih4 _ _ _ _ _)
      | (with_reducible exact spec_l11Code.mono _ _ _)
      | (with_reducible exact spec_l11Fault.mono _ _ _)
      | (with_reducible exact LeO.refl _)
      | (with_reducible exact LeO.none _)
      | (with_reducible refine LeO.ite ?_ ?_)
      | (with_reducible refine LeO.bind ?_ (fun _ => ?_))
      | exact ih0 _ _ _ _ _
      | exact ih1 _ _ _ _
      | exact ih2 _ _ _ _ _
      | exact ih3 _ _ _ _
      | exact ih4 _ _ _ _ _
      | exact spec_l11Code.mono _ _ _
      | exact spec_l11Fault.mono _ _ _
      | exact LeO.none _
      | refine LeO.ite ?_ ?_
      | refine LeO.bind ?_ (fun _ => ?_)
    · intro y0 y1 y2 y3 y4
      unfold spec_RowFill.l0
      repeat' first
      | (with_reducible exact ih0 _ _ _ _ _)
      | (with_reducible exact ih1 _ _ _ _)
      | (with_reducible exact ih2 _ _ _ _ _)
      | (with_reducible exact ih3 _ _ _ _)
      | (with_reducible exact ih4 _ _ _ _ _)
      | (with_reducible exact spec_l11Code.mono _ _ _)
      | (with_reducible exact spec_l11Fault.mono _ _ _)
      | (with_reducible exact LeO.refl _)
      | (with_reducible exact LeO.none _)
      | (with_reducible refine LeO.ite ?_ ?_)
      | (with_reducible refine LeO.bind ?_ (fun _ => ?_))
      | exact ih0 _ _ _ _ _
      | exact ih1 _ _ _ _
      | exact ih2 _ _ _ _ _
      | exact ih3 _ _ _ _
      | exact ih4 _ _ _ _ _
      | exact spec_l11Code.mono _ _ _
      | exact spec_l11Fault.mono _ _ _
      | exact LeO.none _
      | refine LeO.ite ?_ ?_
      | refine LeO.bind ?_ (fun _ => ?_)
theorem spec_RowFill.mono : ∀ a0 a1 a2 k, LeO (spec_RowFill.f k a0 a1 a2) (spec_RowFill.f (k + 1) a0 a1 a2) := by
  intro a0 a1 a2 k
  obtain ⟨ih0, ih1, ih2, ih3, ih4⟩ := spec_RowFill.mono_l k
  unfold spec_RowFill.f
  repeat' first
      | (with_reducible exact ih0 _ _ _ _ _)
      | (with_reducible exact ih1 _ _ _ _)
      | (with_reducible exact ih2 _ _ _ _ _)
      | (with_reducible exact ih3 _ _ _ _)
      | (with_reducible exact ih4 _ _ _ _ _)
      | (with_reducible exact spec_l11Code.mono _ _ _)
      | (with_reducible exact spec_l11Fault.mono _ _ _)
      | (with_reducible exact LeO.refl _)
      | (with_reducible exact LeO.none _)
      | (with_reducible refine LeO.ite ?_ ?_)
      | (with_reducible refine LeO.bind ?_ (fun _ => ?_))
      | exact ih0 _ _ _ _ _
      | exact ih1 _ _ _ _
      | exact ih2 _ _ _ _ _
      | exact ih3 _ _ _ _
      | exact ih4 _ _ _ _ _
      | exact spec_l11Code.mono _ _ _
      | exact spec_l11Fault.mono _ _ _
      | exact LeO.none _
      | refine LeO.ite ?_ ?_
      | refine LeO.bind ?_ (fun _ => ?_)
set_option maxHeartbeats 8000000 in
set_option maxRecDepth 100000 in
theorem spec_RowFill.calls (k : Nat) (A0 : Option Addr) (c0 : Nat) (l0 : List (S36)) (A1 : Option Addr) (c1 : Nat) (l1 : List Int) (a2 : Int) (r1 : Int) (r2 : Int) (w : World) (hr0 : Kd.C k36 w A0 l0.length l0) (hc0 : l0.length ≤ c0) (hr1 : Kd.C (Kd.int .i64) w A1 l1.length l1) (hc1 : l1.length ≤ c1) (h : spec_RowFill.f k l0 l1 a2 = some (r1, r2)) :
    Calls Try.prog 42 #[.slice A0 l0.length c0, .slice A1 l1.length c1, .int .i64 a2] w fun e w' => e = .returned (.tuple #[.int .i64 r1, .int .i64 r2]) ∧ Drawn0 w w' := by
  have HR0 := Aside0.mk hr0
  have HC0 := Aside0.mk hc0
  clear hr0 hc0
  have HR1 := Aside0.mk hr1
  have HC1 := Aside0.mk hc1
  clear hr1 hc1
  have H : ((spec_l11Code.f k l0 l1).bind fun t402 => (if t402 = 0 then ((spec_l00In.f a2 0 11).bind fun t403 => (spec_RowFill.j0 k l0 l1 a2 t402 (!t403))) else (spec_RowFill.j0 k l0 l1 a2 t402 false))) = some (r1, r2) := h
  clear h
  replace H := Option.bind_eq_some_iff.mp H
  obtain ⟨t402, A40, H⟩ := H
  replace H : (if t402 = 0 then ((spec_l00In.f a2 0 11).bind fun t403 => (spec_RowFill.j0 k l0 l1 a2 t402 (!t403))) else (spec_RowFill.j0 k l0 l1 a2 t402 false)) = some (r1, r2) := H
  have A4 := Aside0.mk A40
  clear A40
  have HC5 := Aside0.mk H
  clear H
  go_enter Try.func42, Try.ntmps42
  go_upto_region 2 with (first | ((with_reducible refine gate_callee (f := 68) rfl ?_); refine goesL_ (some 13) rfl rfl Try.func68 (by kernel_rfl) rfl #[.slice A0 l0.length c0, .slice A1 l1.length c1] rfl (by (try simp only [List.map_toArray, List.map_cons, List.map_nil]); first | done | rfl | (simp only [List.length_drop, List.length_take]; rfl)) ?_; (with_reducible refine (spec_l11Code.calls k _ _ l0 _ _ l1 t402 _ ?side1 ?side2 ?side3 ?side4 A4.out).mono ?_); (case side1 => repeat (first | exact HR0.out | (with_reducible refine Kd.C_alloc ?_ _) | (with_reducible refine Kd.C_drewN ?_ _) | (with_reducible refine Kd.C_drew ?_))); (case side2 => exact HC0.out); (case side3 => repeat (first | exact HR1.out | (with_reducible refine Kd.C_alloc ?_ _) | (with_reducible refine Kd.C_drewN ?_ _) | (with_reducible refine Kd.C_drew ?_))); (case side4 => exact HC1.out); rintro e w' ⟨rfl, ⟨nd, rfl⟩⟩; refine ⟨_, rfl, ?_⟩))
  (try simp only [Act.put, List.setIfInBounds_toArray, List.set_cons_zero, List.set_cons_succ])
  go_cut [20] (fun v20 wc => ∃ (kq : Nat) (x20_4 : Bool), v20 = .bool x20_4 ∧ Aside0 (spec_RowFill.j0 kq l0 l1 a2 t402 x20_4 = some (r1, r2)) ∧ Aside0 (kq ≤ k) ∧ Drawn0 w wc)
  case first =>
    have H := HC5.out
    clear HC5
    by_cases c6 : t402 = 0
    · rw [if_pos c6] at H
      have c6b0 : (t402 == 0) = true := beq_iff_eq.mpr c6
      have c6b1 : (t402 != 0) = false := bne_eq_false_iff_eq.mpr c6
      clear c6
      (first | rw [c6b0] | (simp only [i64_w, i32_w]; rw [c6b0]) | skip)
      replace H := Option.bind_eq_some_iff.mp H
      obtain ⟨t403, A70, H⟩ := H
      replace H : (spec_RowFill.j0 k l0 l1 a2 t402 (!t403)) = some (r1, r2) := H
      have A7 := Aside0.mk A70
      clear A70
      have H' := Aside0.mk H
      clear H
      go_wp2_with (first | (go_at_call 58; (with_reducible refine (spec_l00In.calls a2 0 11 t403 _ A7.out).mono ?_); rintro e w' ⟨rfl, ⟨nd, rfl⟩⟩))
      go_meet
      case rel => exact ⟨_, (!t403), (by first | rfl | (simp; done) | (simp [*]; done)), H', ⟨by first | omega | exact Nat.le_refl _⟩, by repeat (first | exact Drawn0.refl _ | apply Drawn0.step)⟩
    · rw [if_neg c6] at H
      have c6b0 : (t402 == 0) = false := beq_eq_false_iff_ne.mpr c6
      have c6b1 : (t402 != 0) = true := bne_iff_ne.mpr c6
      (first | rw [c6b0] | (simp only [i64_w, i32_w]; rw [c6b0]) | skip)
      have H' := Aside0.mk H
      clear H
      go_wp2
      go_meet
      case rel => exact ⟨_, (false), (by first | rfl | (simp; done) | (simp [*]; done)), H', ⟨by first | omega | exact Nat.le_refl _⟩, by repeat (first | exact Drawn0.refl _ | apply Drawn0.step)⟩
  case rest =>
    clear HC5
    try clear c1
    try clear p2
    try clear c4
    try clear c6
    try clear c6b0
    try clear c6b1
    obtain ⟨kq, x20_4, rfl, HA, HJ4, ⟨mc4, rfl⟩⟩ := hcut
    cases kq with
    | zero => exact absurd HA.out (by simp [spec_RowFill.j0])
    | succ kj4 =>
      have H := HA.out
      clear HA
      simp only [spec_RowFill.j0] at H
      have HC8 := Aside0.mk H
      clear H
      go_upto_if 20 with (fail)
      go_cut [8] (fun v8 wc => ∃ (kq : Nat) (x8_7 : Int), v8 = .int .i64 x8_7 ∧ Aside0 (spec_RowFill.j1 kq l0 l1 a2 x8_7 = some (r1, r2)) ∧ Aside0 (kq ≤ kj4) ∧ Drawn0 w wc)
      case first =>
        have H := HC8.out
        clear HC8
        by_cases c9 : x20_4 = true
        · subst c9
          have H1 : (spec_RowFill.j1 kj4 l0 l1 a2 2) = some (r1, r2) := by rw [if_pos rfl] at H; exact H
          clear H
          have H := H1
          clear H1
          have H' := Aside0.mk H
          clear H
          go_wp2
          go_meet
          case rel => exact ⟨_, (2), (by first | rfl | (simp; done) | (simp [*]; done)), H', ⟨by have := HJ4.out; first | omega | exact Nat.le_refl _⟩, by repeat (first | exact Drawn0.refl _ | apply Drawn0.step)⟩
        · replace c9 := Bool.eq_false_iff.mpr c9
          subst c9
          have H1 : (spec_RowFill.j1 kj4 l0 l1 a2 t402) = some (r1, r2) := by rw [if_neg (show ¬ (false = true) by decide)] at H; exact H
          clear H
          have H := H1
          clear H1
          have H' := Aside0.mk H
          clear H
          go_wp2
          go_meet
          case rel => exact ⟨_, (t402), (by first | rfl | (simp; done) | (simp [*]; done)), H', ⟨by have := HJ4.out; first | omega | exact Nat.le_refl _⟩, by repeat (first | exact Drawn0.refl _ | apply Drawn0.step)⟩
      case rest =>
        clear HC8
        try clear c1
        try clear p2
        try clear c4
        try clear c6
        try clear c6b0
        try clear c6b1
        try clear c9
        try clear p2
        obtain ⟨kq, x8_7, rfl, HA, HJ7, ⟨mc7, rfl⟩⟩ := hcut
        cases kq with
        | zero => exact absurd HA.out (by simp [spec_RowFill.j1])
        | succ kj7 =>
          have H := HA.out
          clear HA
          simp only [spec_RowFill.j1] at H
          have HC10 := Aside0.mk H
          clear H
          go_upto_region 4 with (fail)
          go_cut [28] (fun v28 wc => ∃ (kq : Nat) (x28_9 : Bool), v28 = .bool x28_9 ∧ Aside0 (spec_RowFill.j2 kq l0 l1 a2 x8_7 x28_9 = some (r1, r2)) ∧ Aside0 (kq ≤ kj7) ∧ Drawn0 w wc)
          case first =>
            have H := HC10.out
            clear HC10
            by_cases c11 : x8_7 = 0
            · rw [if_pos c11] at H
              have c11b0 : (x8_7 == 0) = true := beq_iff_eq.mpr c11
              have c11b1 : (x8_7 != 0) = false := bne_eq_false_iff_eq.mpr c11
              clear c11
              (first | rw [c11b0] | (simp only [i64_w, i32_w]; rw [c11b0]) | skip)
              replace H := Option.bind_eq_some_iff.mp H
              obtain ⟨t404, A120, H⟩ := H
              replace H : (spec_RowFill.j2 kj7 l0 l1 a2 x8_7 (decide (t404 ≥ 0))) = some (r1, r2) := H
              have A12 := Aside0.mk A120
              clear A120
              have H' := Aside0.mk H
              clear H
              go_wp2_with (first | (go_at_call 69; (with_reducible refine (spec_l11Fault.calls kj7 _ _ l0 _ _ l1 t404 _ ?side1 ?side2 ?side3 ?side4 A12.out).mono ?_); (case side1 => repeat (first | exact HR0.out | (with_reducible refine Kd.C_alloc ?_ _) | (with_reducible refine Kd.C_drewN ?_ _) | (with_reducible refine Kd.C_drew ?_))); (case side2 => exact HC0.out); (case side3 => repeat (first | exact HR1.out | (with_reducible refine Kd.C_alloc ?_ _) | (with_reducible refine Kd.C_drewN ?_ _) | (with_reducible refine Kd.C_drew ?_))); (case side4 => exact HC1.out); rintro e w' ⟨rfl, ⟨nd, rfl⟩⟩))
              go_meet
              case rel => exact ⟨_, (decide (t404 ≥ 0)), (by first | rfl | (simp; done) | (simp [*]; done)), H', ⟨by have := HJ4.out; have := HJ7.out; first | omega | exact Nat.le_refl _⟩, by repeat (first | exact Drawn0.refl _ | apply Drawn0.step)⟩
            · rw [if_neg c11] at H
              have c11b0 : (x8_7 == 0) = false := beq_eq_false_iff_ne.mpr c11
              have c11b1 : (x8_7 != 0) = true := bne_iff_ne.mpr c11
              (first | rw [c11b0] | (simp only [i64_w, i32_w]; rw [c11b0]) | skip)
              have H' := Aside0.mk H
              clear H
              go_wp2
              go_meet
              case rel => exact ⟨_, (false), (by first | rfl | (simp; done) | (simp [*]; done)), H', ⟨by have := HJ4.out; have := HJ7.out; first | omega | exact Nat.le_refl _⟩, by repeat (first | exact Drawn0.refl _ | apply Drawn0.step)⟩
          case rest =>
            clear HC10
            try clear c1
            try clear p2
            try clear c4
            try clear c6
            try clear c6b0
            try clear c6b1
            try clear c7
            try clear c9
            try clear c11
            try clear c11b0
            try clear c11b1
            try clear p2
            obtain ⟨kq, x28_9, rfl, HA, HJ9, ⟨mc9, rfl⟩⟩ := hcut
            cases kq with
            | zero => exact absurd HA.out (by simp [spec_RowFill.j2])
            | succ kj9 =>
              have H := HA.out
              clear HA
              simp only [spec_RowFill.j2] at H
              have HC13 := Aside0.mk H
              clear H
              go_upto_if 28 with (fail)
              go_cut [8] (fun v8 wc => ∃ (kq : Nat) (x8_12 : Int), v8 = .int .i64 x8_12 ∧ Aside0 (spec_RowFill.j3 kq l0 l1 a2 x8_12 = some (r1, r2)) ∧ Aside0 (kq ≤ kj9) ∧ Drawn0 w wc)
              case first =>
                have H := HC13.out
                clear HC13
                by_cases c14 : x28_9 = true
                · subst c14
                  have H1 : (spec_RowFill.j3 kj9 l0 l1 a2 9) = some (r1, r2) := by rw [if_pos rfl] at H; exact H
                  clear H
                  have H := H1
                  clear H1
                  have H' := Aside0.mk H
                  clear H
                  go_wp2
                  go_meet
                  case rel => exact ⟨_, (9), (by first | rfl | (simp; done) | (simp [*]; done)), H', ⟨by have := HJ4.out; have := HJ7.out; have := HJ9.out; first | omega | exact Nat.le_refl _⟩, by repeat (first | exact Drawn0.refl _ | apply Drawn0.step)⟩
                · replace c14 := Bool.eq_false_iff.mpr c14
                  subst c14
                  have H1 : (spec_RowFill.j3 kj9 l0 l1 a2 x8_7) = some (r1, r2) := by rw [if_neg (show ¬ (false = true) by decide)] at H; exact H
                  clear H
                  have H := H1
                  clear H1
                  have H' := Aside0.mk H
                  clear H
                  go_wp2
                  go_meet
                  case rel => exact ⟨_, (x8_7), (by first | rfl | (simp; done) | (simp [*]; done)), H', ⟨by have := HJ4.out; have := HJ7.out; have := HJ9.out; first | omega | exact Nat.le_refl _⟩, by repeat (first | exact Drawn0.refl _ | apply Drawn0.step)⟩
              case rest =>
                clear HC13
                try clear c1
                try clear p2
                try clear c4
                try clear c6
                try clear c6b0
                try clear c6b1
                try clear c7
                try clear c9
                try clear c11
                try clear c11b0
                try clear c11b1
                try clear c14
                try clear p2
                obtain ⟨kq, x8_12, rfl, HA, HJ12, ⟨mc12, rfl⟩⟩ := hcut
                cases kq with
                | zero => exact absurd HA.out (by simp [spec_RowFill.j3])
                | succ kj12 =>
                  have H := HA.out
                  clear HA
                  simp only [spec_RowFill.j3] at H
                  by_cases c15 : x8_12 = 0
                  · rw [if_pos c15] at H
                    have c15b0 : (x8_12 == 0) = true := beq_iff_eq.mpr c15
                    have c15b1 : (x8_12 != 0) = false := bne_eq_false_iff_eq.mpr c15
                    clear c15
                    have H' := Aside0.mk H
                    clear H
                    go_wp2
                    go_loopg [9, 10] kj12 (fun kq v9 v10 w' => ∃ (x9_5 : Int) (x10_5 : Int), v9 = .int .i64 x9_5 ∧ v10 = .int .i64 x10_5 ∧ Aside0 (spec_RowFill.l0 kq l0 l1 a2 x9_5 x10_5 = some (r1, r2)) ∧ Aside0 (kq ≤ kj12) ∧ Drawn0 w w')
                    case atStart => exact ⟨(0), (0), (by first | rfl | (simp; done) | (simp [*]; done)), (by first | rfl | (simp; done) | (simp [*]; done)), H', ⟨Nat.le_refl _⟩, by repeat (first | exact Drawn0.refl _ | apply Drawn0.step)⟩
                    case round =>
                      clear H'
                      try clear c1
                      try clear p2
                      try clear c4
                      try clear c6
                      try clear c6b0
                      try clear c6b1
                      try clear c7
                      try clear c9
                      try clear c11
                      try clear c11b0
                      try clear c11b1
                      try clear c12
                      try clear c14
                      try clear c15
                      try clear c15b0
                      try clear c15b1
                      try clear p2
                      obtain ⟨x9_5, x10_5, rfl, rfl, HA, HK5, ⟨m5, rfl⟩⟩ := hrel
                      cases gk with
                      | zero => exact absurd HA.out (by simp [spec_RowFill.l0])
                      | succ k5 =>
                        have H := HA.out
                        clear HA
                        simp only [spec_RowFill.l0] at H
                        by_cases c16 : x10_5 < (l0.length : Int)
                        · rw [if_pos c16] at H
                          have c16b0 : decide (x10_5 < (l0.length : Int)) = true := decide_eq_true c16
                          clear c16
                          by_cases c17 : 0 ≤ x10_5
                          · rw [if_pos c17] at H
                            have c17b0 : decide (0 ≤ x10_5) = true := decide_eq_true c17
                            clear c17
                            by_cases c18 : ((rd_T36 l0 x10_5).f0) = a2
                            · rw [if_pos c18] at H
                              have c18b0 : (((rd_T36 l0 x10_5).f0) == a2) = true := beq_iff_eq.mpr c18
                              have c18b1 : (((rd_T36 l0 x10_5).f0) != a2) = false := bne_eq_false_iff_eq.mpr c18
                              clear c18
                              by_cases c19 : x10_5 < (l1.length : Int)
                              · rw [if_pos c19] at H
                                have c19b0 : decide (x10_5 < (l1.length : Int)) = true := decide_eq_true c19
                                clear c19
                                by_cases c20 : (rd l1 x10_5) ≥ 0
                                · rw [if_pos c20] at H
                                  have c20b0 : decide (0 ≤ (rd l1 x10_5)) = true := decide_eq_true c20
                                  clear c20
                                  have H' := Aside0.mk H
                                  clear H
                                  have p405 : 0 ≤ (x10_5 : Int) := of_decide_eq_true (by first | (with_reducible assumption) | assumption)
                                  have q405 : x10_5 < (l0.length : Int) := of_decide_eq_true (by first | (with_reducible assumption) | assumption)
                                  obtain ⟨ad405, A405_2, c405_2, e405, hx405_0, hx405_1, hx405_2, hx405_3, hl405_2, hi405_2⟩ := at_T36 HR0.out x10_5 p405 q405
                                  cases e405
                                  have HR405_2 := Aside0.mk hi405_2
                                  have HC405_2 := Aside0.mk hl405_2
                                  clear hi405_2 hl405_2
                                  replace p405 := eq_true p405
                                  replace q405 := eq_true q405
                                  have p406 : 0 ≤ (x10_5 : Int) := of_decide_eq_true (by first | (with_reducible assumption) | assumption)
                                  have q406 : x10_5 < (l1.length : Int) := of_decide_eq_true (by first | (with_reducible assumption) | assumption)
                                  obtain ⟨ad406, e406, hx406_0⟩ := Kd.at_int HR1.out x10_5 p406 q406
                                  cases e406
                                  replace p406 := eq_true p406
                                  replace q406 := eq_true q406
                                  have p407 : 0 ≤ (x10_5 : Int) := of_decide_eq_true (by first | (with_reducible assumption) | assumption)
                                  have q407 : x10_5 < (l0.length : Int) := of_decide_eq_true (by first | (with_reducible assumption) | assumption)
                                  obtain ⟨ad407, A407_2, c407_2, e407, hx407_0, hx407_1, hx407_2, hx407_3, hl407_2, hi407_2⟩ := at_T36 HR0.out x10_5 p407 q407
                                  obtain rfl : ad405 = ad407 := (by injection e407)
                                  have HR407_2 := Aside0.mk hi407_2
                                  have HC407_2 := Aside0.mk hl407_2
                                  clear hi407_2 hl407_2
                                  replace p407 := eq_true p407
                                  replace q407 := eq_true q407
                                  have ea_ := Option.some.inj (hx405_2.symm.trans hx407_2)
                                  injection ea_ with ea_ en_ ec_
                                  subst ea_
                                  subst ec_
                                  clear en_
                                  go_wp2
                                  go_roundg k5
                                  case measure => have := HJ4.out; have := HJ7.out; have := HJ9.out; have := HJ12.out; have := HK5.out; omega
                                  case rel => exact ⟨(wrap64 (x9_5 + ((rd_T36 l0 x10_5).f1))), (wrap64 (x10_5 + 1)), (by first | rfl | (simp; done) | (simp [*]; done)), (by first | rfl | (simp; done) | (simp [*]; done)), H', ⟨by have := HJ4.out; have := HJ7.out; have := HJ9.out; have := HJ12.out; have := HK5.out; omega⟩, by repeat (first | exact Drawn0.refl _ | apply Drawn0.step)⟩
                                · rw [if_neg c20] at H
                                  have c20b0 : decide (0 ≤ (rd l1 x10_5)) = false := decide_eq_false c20
                                  clear c20
                                  have H' := Aside0.mk H
                                  clear H
                                  have p405 : 0 ≤ (x10_5 : Int) := of_decide_eq_true (by first | (with_reducible assumption) | assumption)
                                  have q405 : x10_5 < (l0.length : Int) := of_decide_eq_true (by first | (with_reducible assumption) | assumption)
                                  obtain ⟨ad405, A405_2, c405_2, e405, hx405_0, hx405_1, hx405_2, hx405_3, hl405_2, hi405_2⟩ := at_T36 HR0.out x10_5 p405 q405
                                  cases e405
                                  have HR405_2 := Aside0.mk hi405_2
                                  have HC405_2 := Aside0.mk hl405_2
                                  clear hi405_2 hl405_2
                                  replace p405 := eq_true p405
                                  replace q405 := eq_true q405
                                  have p406 : 0 ≤ (x10_5 : Int) := of_decide_eq_true (by first | (with_reducible assumption) | assumption)
                                  have q406 : x10_5 < (l1.length : Int) := of_decide_eq_true (by first | (with_reducible assumption) | assumption)
                                  obtain ⟨ad406, e406, hx406_0⟩ := Kd.at_int HR1.out x10_5 p406 q406
                                  cases e406
                                  replace p406 := eq_true p406
                                  replace q406 := eq_true q406
                                  go_wp2
                                  go_roundg k5
                                  case measure => have := HJ4.out; have := HJ7.out; have := HJ9.out; have := HJ12.out; have := HK5.out; omega
                                  case rel => exact ⟨(x9_5), (wrap64 (x10_5 + 1)), (by first | rfl | (simp; done) | (simp [*]; done)), (by first | rfl | (simp; done) | (simp [*]; done)), H', ⟨by have := HJ4.out; have := HJ7.out; have := HJ9.out; have := HJ12.out; have := HK5.out; omega⟩, by repeat (first | exact Drawn0.refl _ | apply Drawn0.step)⟩
                              · rw [if_neg c19] at H
                                exact absurd H (by simp)
                            · rw [if_neg c18] at H
                              have c18b0 : (((rd_T36 l0 x10_5).f0) == a2) = false := beq_eq_false_iff_ne.mpr c18
                              have c18b1 : (((rd_T36 l0 x10_5).f0) != a2) = true := bne_iff_ne.mpr c18
                              have H' := Aside0.mk H
                              clear H
                              have p405 : 0 ≤ (x10_5 : Int) := of_decide_eq_true (by first | (with_reducible assumption) | assumption)
                              have q405 : x10_5 < (l0.length : Int) := of_decide_eq_true (by first | (with_reducible assumption) | assumption)
                              obtain ⟨ad405, A405_2, c405_2, e405, hx405_0, hx405_1, hx405_2, hx405_3, hl405_2, hi405_2⟩ := at_T36 HR0.out x10_5 p405 q405
                              cases e405
                              have HR405_2 := Aside0.mk hi405_2
                              have HC405_2 := Aside0.mk hl405_2
                              clear hi405_2 hl405_2
                              replace p405 := eq_true p405
                              replace q405 := eq_true q405
                              go_wp2
                              go_roundg k5
                              case measure => have := HJ4.out; have := HJ7.out; have := HJ9.out; have := HJ12.out; have := HK5.out; omega
                              case rel => exact ⟨(x9_5), (wrap64 (x10_5 + 1)), (by first | rfl | (simp; done) | (simp [*]; done)), (by first | rfl | (simp; done) | (simp [*]; done)), H', ⟨by have := HJ4.out; have := HJ7.out; have := HJ9.out; have := HJ12.out; have := HK5.out; omega⟩, by repeat (first | exact Drawn0.refl _ | apply Drawn0.step)⟩
                          · rw [if_neg c17] at H
                            exact absurd H (by simp)
                        · rw [if_neg c16] at H
                          have c16b0 : decide (x10_5 < (l0.length : Int)) = false := decide_eq_false c16
                          clear c16
                          simp only [Option.some.injEq, Prod.mk.injEq] at H
                          obtain ⟨rfl, rfl⟩ := H
                          go_wp2
                          go_ret2
                          exact ⟨by first | rfl | (simp; done) | (simp [*]; done), by repeat (first | exact Drawn0.refl _ | apply Drawn0.step)⟩
                  · rw [if_neg c15] at H
                    have c15b0 : (x8_12 == 0) = false := beq_eq_false_iff_ne.mpr c15
                    have c15b1 : (x8_12 != 0) = true := bne_iff_ne.mpr c15
                    simp only [Option.some.injEq, Prod.mk.injEq] at H
                    obtain ⟨rfl, rfl⟩ := H
                    go_wp2
                    go_ret2
                    exact ⟨by first | rfl | (simp; done) | (simp [*]; done), by repeat (first | exact Drawn0.refl _ | apply Drawn0.step)⟩

end Go.Proofs.Ytidommcimkmmfaa.Print
