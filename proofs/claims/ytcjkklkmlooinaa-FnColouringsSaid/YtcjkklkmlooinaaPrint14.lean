-- Printed by a program of this session out of the translation; not trusted: Lean checks it.
-- SHRUNK
import Derived.Test.YtcjkklkmlooinaaPrint0
import Derived.Test.YtcjkklkmlooinaaPrint1
import Derived.Test.YtcjkklkmlooinaaPrint13
namespace Go.Proofs.Ytcjkklkmlooinaa.Print
open Go.RowKit Go.Proofs.YtcjkklkmlooinaaW.PrintWords Go.Proofs.YtcjkklkmlooinaaW.PrintLast Go.Proofs.YtcjkklkmlooinaaW.PrintMore
attribute [local go_sem] max2_int min2_int max_two min_two max_three min_three max_four min_four   -- for this text's walks alone
set_option linter.unusedVariables false
set_option linter.unusedSimpArgs false

attribute [local go_sem high] eqA58
/-! ### spec_l09Ok: function 51 -/
mutual
def spec_l09Ok.l0 : Nat → Int → List (S58) → Int → Option (Bool)
 | 0, _, _, _ => none
 | k + 1, x0, x1, x5 => if x5 < (x1.length : Int) then (if 0 ≤ x5 then ((spec_l00In.f ((rd_T58 x1 x5).f1) 0 (wrap64 (x0 - 1))).bind fun t280 => (if t280 = true then ((spec_l00In.f ((rd_T58 x1 x5).f0) 0 (wrap64 (((rd_T58 x1 x5).f1) - 1))).bind fun t283 => (spec_l09Ok.j1 k x0 x1 x5 (!t283))) else (spec_l09Ok.j1 k x0 x1 x5 true))) else (none)) else (some (decide ((x1.length : Int) ≤ 30)))
def spec_l09Ok.j1 : Nat → Int → List (S58) → Int → Bool → Option (Bool)
 | 0, _, _, _, _ => none
 | k + 1, x0, x1, x5, x39 => if x39 = true then (some false) else (spec_l09Ok.l1 k x0 x1 x5 0)
def spec_l09Ok.l1 : Nat → Int → List (S58) → Int → Int → Option (Bool)
 | 0, _, _, _, _ => none
 | k + 1, x0, x1, x5, x6 => if x6 < x5 then (if 0 ≤ x6 then (if x6 < (x1.length : Int) then (if 0 ≤ x5 then (if x5 < (x1.length : Int) then (if (((rd_T58 x1 x6).f0) == ((rd_T58 x1 x5).f0) && (((rd_T58 x1 x6).f1) == ((rd_T58 x1 x5).f1))) = true then (some false) else (spec_l09Ok.l1 k x0 x1 x5 (wrap64 (x6 + 1)))) else (none)) else (none)) else (none)) else (none)) else (spec_l09Ok.l0 k x0 x1 (wrap64 (x5 + 1)))
end
def spec_l09Ok.f (k : Nat) (a0 : Int) (l1 : List (S58)) : Option (Bool) := (spec_l00In.f a0 1 10).bind fun t278 => (if t278 = true then (spec_l09Ok.l0 k a0 l1 0) else (some false))
theorem spec_l09Ok.mono_l : ∀ k, (∀ y0 y1 y2, LeO (spec_l09Ok.l0 k y0 y1 y2) (spec_l09Ok.l0 (k + 1) y0 y1 y2)) ∧ (∀ y0 y1 y2 y3, LeO (spec_l09Ok.j1 k y0 y1 y2 y3) (spec_l09Ok.j1 (k + 1) y0 y1 y2 y3)) ∧ (∀ y0 y1 y2 y3, LeO (spec_l09Ok.l1 k y0 y1 y2 y3) (spec_l09Ok.l1 (k + 1) y0 y1 y2 y3))
 | 0 => ⟨fun _ _ _ r h => by simp [spec_l09Ok.l0] at h, fun _ _ _ _ r h => by simp [spec_l09Ok.j1] at h, fun _ _ _ _ r h => by simp [spec_l09Ok.l1] at h⟩
 | k + 1 => by
  obtain ⟨ih0, ih1, ih2⟩ := spec_l09Ok.mono_l k
  refine ⟨?_, ?_, ?_⟩
  ·intro y0 y1 y2
   unfold spec_l09Ok.l0
   repeat' first
   | (with_reducible exact ih0 _ _ _)
   | (with_reducible exact ih1 _ _ _ _)
   | (with_reducible exact ih2 _ _ _ _)
   | (with_reducible exact LeO.refl _)
   | (with_reducible exact LeO.none _)
   | (with_reducible refine LeO.ite ?_ ?_)
   | (with_reducible refine LeO.bind ?_ (fun _ => ?_))
   | exact ih0 _ _ _
   | exact ih1 _ _ _ _
   | exact ih2 _ _ _ _
   | exact LeO.none _
   | refine LeO.ite ?_ ?_
   | refine LeO.bind ?_ (fun _ => ?_)
  ·intro y0 y1 y2 y3
   unfold spec_l09Ok.j1
   repeat' first
   | (with_reducible exact ih0 _ _ _)
   | (with_reducible exact ih1 _ _ _ _)
   | (with_reducible exact ih2 _ _ _ _)
   | (with_reducible exact LeO.refl _)
   | (with_reducible exact LeO.none _)
   | (with_reducible refine LeO.ite ?_ ?_)
   | (with_reducible refine LeO.bind ?_ (fun _ => ?_))
   | exact ih0 _ _ _
   | exact ih1 _ _ _ _
   | exact ih2 _ _ _ _
   | exact LeO.none _
   | refine LeO.ite ?_ ?_
   | refine LeO.bind ?_ (fun _ => ?_)
  ·intro y0 y1 y2 y3
   unfold spec_l09Ok.l1
   repeat' first
   | (with_reducible exact ih0 _ _ _)
   | (with_reducible exact ih1 _ _ _ _)
   | (with_reducible exact ih2 _ _ _ _)
   | (with_reducible exact LeO.refl _)
   | (with_reducible exact LeO.none _)
   | (with_reducible refine LeO.ite ?_ ?_)
   | (with_reducible refine LeO.bind ?_ (fun _ => ?_))
   | exact ih0 _ _ _
   | exact ih1 _ _ _ _
   | exact ih2 _ _ _ _
   | exact LeO.none _
   | refine LeO.ite ?_ ?_
   | refine LeO.bind ?_ (fun _ => ?_)
theorem spec_l09Ok.mono : ∀ a0 a1 k, LeO (spec_l09Ok.f k a0 a1) (spec_l09Ok.f (k + 1) a0 a1) := by
 intro a0 a1 k
 obtain ⟨ih0, ih1, ih2⟩ := spec_l09Ok.mono_l k
 unfold spec_l09Ok.f
 repeat' first
   | (with_reducible exact ih0 _ _ _)
   | (with_reducible exact ih1 _ _ _ _)
   | (with_reducible exact ih2 _ _ _ _)
   | (with_reducible exact LeO.refl _)
   | (with_reducible exact LeO.none _)
   | (with_reducible refine LeO.ite ?_ ?_)
   | (with_reducible refine LeO.bind ?_ (fun _ => ?_))
   | exact ih0 _ _ _
   | exact ih1 _ _ _ _
   | exact ih2 _ _ _ _
   | exact LeO.none _
   | refine LeO.ite ?_ ?_
   | refine LeO.bind ?_ (fun _ => ?_)
set_option maxHeartbeats 8000000 in
set_option maxRecDepth 100000 in
theorem spec_l09Ok.calls (k : Nat) (a0 : Int) (A1 : Option Addr) (c1 : Nat) (l1 : List (S58)) (r : Bool) (w : World) (hr1 : Kd.C k58 w A1 l1.length l1) (hc1 : l1.length ≤ c1) (h : spec_l09Ok.f k a0 l1 = some r) :
  Calls Try.prog 51 #[.int .i64 a0, .slice A1 l1.length c1] w fun e w' => e = .returned (.bool r) ∧ Drawn0 w w' := by
 have hu58 := Try.underlying58
 have HR1 := Aside0.mk hr1
 have HC1 := Aside0.mk hc1
 clear hr1 hc1
 have H : ((spec_l00In.f a0 1 10).bind fun t278 => (if t278 = true then (spec_l09Ok.l0 k a0 l1 0) else (some false))) = some r := h
 clear h
 replace H := Option.bind_eq_some_iff.mp H
 obtain ⟨t278, A30, H⟩ := H
 replace H : (if t278 = true then (spec_l09Ok.l0 k a0 l1 0) else (some false)) = some r := H
 have A3 := Aside0.mk A30
 clear A30
 by_cases c4 : t278 = true
 ·subst c4
  have H1 : (spec_l09Ok.l0 k a0 l1 0) = some r := by rw [if_pos rfl] at H; exact H
  clear H
  have H := H1
  clear H1
  have H' := Aside0.mk H
  clear H
  go_enter Try.func51, Try.ntmps51
  go_wp2_with (first | (go_at_call 75; (with_reducible refine (spec_l00In.calls a0 1 10 true _ A3.out).mono ?_); rintro e w' ⟨rfl, ⟨nd, rfl⟩⟩; (try first | exact ⟨rfl, _, World.drewN_drewN _ _ _⟩ | exact ⟨rfl, _, Eq.trans (World.drewN_drewN _ _ _) (congrArg (World.drewN _) (Nat.add_assoc _ _ _))⟩)))
  repeat (go_quiet (first | (go_at_call 75; (try simp only [i64_w, i32_w]); (with_reducible refine (spec_l00In.calls a0 1 10 true _ A3.out).mono ?_); rintro e w' ⟨rfl, ⟨nd, rfl⟩⟩; (try first | exact ⟨rfl, _, World.drewN_drewN _ _ _⟩ | exact ⟨rfl, _, Eq.trans (World.drewN_drewN _ _ _) (congrArg (World.drewN _) (Nat.add_assoc _ _ _))⟩))); try go_wp2_with (first | (go_at_call 75; (with_reducible refine (spec_l00In.calls a0 1 10 true _ A3.out).mono ?_); rintro e w' ⟨rfl, ⟨nd, rfl⟩⟩; (try first | exact ⟨rfl, _, World.drewN_drewN _ _ _⟩ | exact ⟨rfl, _, Eq.trans (World.drewN_drewN _ _ _) (congrArg (World.drewN _) (Nat.add_assoc _ _ _))⟩))))
  go_loopg [5] k (fun kq v5 w' => ∃ (x5_1 : Int), v5 = .int .i64 x5_1 ∧ Aside0 (spec_l09Ok.l0 kq a0 l1 x5_1 = some r) ∧ Aside0 (kq ≤ k) ∧ Drawn0 w w')
  case atStart => exact ⟨(0), (by first | rfl | (simp; done) | (simp [*]; done)), H', ⟨Nat.le_refl _⟩, by repeat (first | exact Drawn0.refl _ | apply Drawn0.step)⟩
  case round =>
   clear H'
   try clear c1
   try clear p2
   try clear c4
   obtain ⟨x5_1, rfl, HA, HK1, ⟨m1, rfl⟩⟩ := hrel
   cases gk with
   | zero => exact absurd HA.out (by simp [spec_l09Ok.l0])
   | succ k1 =>
    have H := HA.out
    clear HA
    simp only [spec_l09Ok.l0] at H
    by_cases c5 : x5_1 < (l1.length : Int)
    ·rw [if_pos c5] at H
     have c5b0 : decide (x5_1 < (l1.length : Int)) = true := decide_eq_true c5
     clear c5
     have HC6 := Aside0.mk H
     clear H
     go_upto_region 6 with (fail)
     repeat (go_quiet (fail); go_upto_region 6 with (fail))
     go_cut [39] (fun v39 wc => ∃ (kq : Nat) (x39_5 : Bool), v39 = .bool x39_5 ∧ Aside0 (spec_l09Ok.j1 kq a0 l1 x5_1 x39_5 = some r) ∧ Aside0 (kq ≤ k1) ∧ Drawn0 w wc)
     case first =>
      have H := HC6.out
      clear HC6
      by_cases c7 : 0 ≤ x5_1
      ·rw [if_pos c7] at H
       have c7b0 : decide (0 ≤ x5_1) = true := decide_eq_true c7
       clear c7
       (first | rw [c7b0] | (simp only [i64_w, i32_w]; rw [c7b0]) | skip)
       replace H := Option.bind_eq_some_iff.mp H
       obtain ⟨t280, A80, H⟩ := H
       replace H : (if t280 = true then ((spec_l00In.f ((rd_T58 l1 x5_1).f0) 0 (wrap64 (((rd_T58 l1 x5_1).f1) - 1))).bind fun t283 => (spec_l09Ok.j1 k1 a0 l1 x5_1 (!t283))) else (spec_l09Ok.j1 k1 a0 l1 x5_1 true)) = some r := H
       have A8 := Aside0.mk A80
       clear A80
       by_cases c9 : t280 = true
       ·subst c9
        have H1 : ((spec_l00In.f ((rd_T58 l1 x5_1).f0) 0 (wrap64 (((rd_T58 l1 x5_1).f1) - 1))).bind fun t283 => (spec_l09Ok.j1 k1 a0 l1 x5_1 (!t283))) = some r := by rw [if_pos rfl] at H; exact H
        clear H
        have H := H1
        clear H1
        replace H := Option.bind_eq_some_iff.mp H
        obtain ⟨t283, A100, H⟩ := H
        replace H : (spec_l09Ok.j1 k1 a0 l1 x5_1 (!t283)) = some r := H
        have A10 := Aside0.mk A100
        clear A100
        have H' := Aside0.mk H
        clear H
        have p279 : 0 ≤ (x5_1 : Int) := od_
        have q279 : x5_1 < (l1.length : Int) := od_
        obtain ⟨ad279, e279, hx279_0, hx279_1⟩ := at_T58 HR1.out x5_1 p279 q279
        cases e279
        replace p279 := eq_true p279
        replace q279 := eq_true q279
        go_wp2_with (first | (go_at_call 75; (with_reducible refine (spec_l00In.calls ((rd_T58 l1 x5_1).f1) 0 (wrap64 (a0 - 1)) true _ A8.out).mono ?_); rintro e w' ⟨rfl, ⟨nd, rfl⟩⟩; (try first | exact ⟨rfl, _, World.drewN_drewN _ _ _⟩ | exact ⟨rfl, _, Eq.trans (World.drewN_drewN _ _ _) (congrArg (World.drewN _) (Nat.add_assoc _ _ _))⟩); have p281 : 0 ≤ (x5_1 : Int) := od_; have q281 : x5_1 < (l1.length : Int) := od_; obtain ⟨ad281, e281, hx281_0, hx281_1⟩ := at_T58 HR1.out x5_1 p281 q281; obtain rfl : ad279 = ad281 := (by injection e281); replace p281 := eq_true p281; replace q281 := eq_true q281; have p282 : 0 ≤ (x5_1 : Int) := od_; have q282 : x5_1 < (l1.length : Int) := od_; obtain ⟨ad282, e282, hx282_0, hx282_1⟩ := at_T58 HR1.out x5_1 p282 q282; obtain rfl : ad279 = ad282 := (by injection e282); replace p282 := eq_true p282; replace q282 := eq_true q282) | (go_at_call 75; (with_reducible refine (spec_l00In.calls ((rd_T58 l1 x5_1).f0) 0 (wrap64 (((rd_T58 l1 x5_1).f1) - 1)) t283 _ A10.out).mono ?_); rintro e w' ⟨rfl, ⟨nd, rfl⟩⟩; (try first | exact ⟨rfl, _, World.drewN_drewN _ _ _⟩ | exact ⟨rfl, _, Eq.trans (World.drewN_drewN _ _ _) (congrArg (World.drewN _) (Nat.add_assoc _ _ _))⟩)))
        repeat (go_quiet (first | (go_at_call 75; (try simp only [i64_w, i32_w]); (with_reducible refine (spec_l00In.calls ((rd_T58 l1 x5_1).f1) 0 (wrap64 (a0 - 1)) true _ A8.out).mono ?_); rintro e w' ⟨rfl, ⟨nd, rfl⟩⟩; (try first | exact ⟨rfl, _, World.drewN_drewN _ _ _⟩ | exact ⟨rfl, _, Eq.trans (World.drewN_drewN _ _ _) (congrArg (World.drewN _) (Nat.add_assoc _ _ _))⟩); have p281 : 0 ≤ (x5_1 : Int) := od_; have q281 : x5_1 < (l1.length : Int) := od_; obtain ⟨ad281, e281, hx281_0, hx281_1⟩ := at_T58 HR1.out x5_1 p281 q281; obtain rfl : ad279 = ad281 := (by injection e281); replace p281 := eq_true p281; replace q281 := eq_true q281; have p282 : 0 ≤ (x5_1 : Int) := od_; have q282 : x5_1 < (l1.length : Int) := od_; obtain ⟨ad282, e282, hx282_0, hx282_1⟩ := at_T58 HR1.out x5_1 p282 q282; obtain rfl : ad279 = ad282 := (by injection e282); replace p282 := eq_true p282; replace q282 := eq_true q282) | (go_at_call 75; (try simp only [i64_w, i32_w]); (with_reducible refine (spec_l00In.calls ((rd_T58 l1 x5_1).f0) 0 (wrap64 (((rd_T58 l1 x5_1).f1) - 1)) t283 _ A10.out).mono ?_); rintro e w' ⟨rfl, ⟨nd, rfl⟩⟩; (try first | exact ⟨rfl, _, World.drewN_drewN _ _ _⟩ | exact ⟨rfl, _, Eq.trans (World.drewN_drewN _ _ _) (congrArg (World.drewN _) (Nat.add_assoc _ _ _))⟩))); try go_wp2_with (first | (go_at_call 75; (with_reducible refine (spec_l00In.calls ((rd_T58 l1 x5_1).f1) 0 (wrap64 (a0 - 1)) true _ A8.out).mono ?_); rintro e w' ⟨rfl, ⟨nd, rfl⟩⟩; (try first | exact ⟨rfl, _, World.drewN_drewN _ _ _⟩ | exact ⟨rfl, _, Eq.trans (World.drewN_drewN _ _ _) (congrArg (World.drewN _) (Nat.add_assoc _ _ _))⟩); have p281 : 0 ≤ (x5_1 : Int) := od_; have q281 : x5_1 < (l1.length : Int) := od_; obtain ⟨ad281, e281, hx281_0, hx281_1⟩ := at_T58 HR1.out x5_1 p281 q281; obtain rfl : ad279 = ad281 := (by injection e281); replace p281 := eq_true p281; replace q281 := eq_true q281; have p282 : 0 ≤ (x5_1 : Int) := od_; have q282 : x5_1 < (l1.length : Int) := od_; obtain ⟨ad282, e282, hx282_0, hx282_1⟩ := at_T58 HR1.out x5_1 p282 q282; obtain rfl : ad279 = ad282 := (by injection e282); replace p282 := eq_true p282; replace q282 := eq_true q282) | (go_at_call 75; (with_reducible refine (spec_l00In.calls ((rd_T58 l1 x5_1).f0) 0 (wrap64 (((rd_T58 l1 x5_1).f1) - 1)) t283 _ A10.out).mono ?_); rintro e w' ⟨rfl, ⟨nd, rfl⟩⟩; (try first | exact ⟨rfl, _, World.drewN_drewN _ _ _⟩ | exact ⟨rfl, _, Eq.trans (World.drewN_drewN _ _ _) (congrArg (World.drewN _) (Nat.add_assoc _ _ _))⟩))))
        go_meet
        case rel => exact ⟨_, (!t283), (by first | rfl | (simp; done) | (simp [*]; done)), H', ⟨by have := HK1.out; first | omega | exact Nat.le_refl _⟩, by repeat (first | exact Drawn0.refl _ | apply Drawn0.step)⟩
       ·replace c9 := Bool.eq_false_iff.mpr c9
        subst c9
        have H1 : (spec_l09Ok.j1 k1 a0 l1 x5_1 true) = some r := by rw [if_neg (show ¬ (false = true) by decide)] at H; exact H
        clear H
        have H := H1
        clear H1
        have H' := Aside0.mk H
        clear H
        have p279 : 0 ≤ (x5_1 : Int) := od_
        have q279 : x5_1 < (l1.length : Int) := od_
        obtain ⟨ad279, e279, hx279_0, hx279_1⟩ := at_T58 HR1.out x5_1 p279 q279
        cases e279
        replace p279 := eq_true p279
        replace q279 := eq_true q279
        go_wp2_with (first | (go_at_call 75; (with_reducible refine (spec_l00In.calls ((rd_T58 l1 x5_1).f1) 0 (wrap64 (a0 - 1)) false _ A8.out).mono ?_); rintro e w' ⟨rfl, ⟨nd, rfl⟩⟩; (try first | exact ⟨rfl, _, World.drewN_drewN _ _ _⟩ | exact ⟨rfl, _, Eq.trans (World.drewN_drewN _ _ _) (congrArg (World.drewN _) (Nat.add_assoc _ _ _))⟩)))
        repeat (go_quiet (first | (go_at_call 75; (try simp only [i64_w, i32_w]); (with_reducible refine (spec_l00In.calls ((rd_T58 l1 x5_1).f1) 0 (wrap64 (a0 - 1)) false _ A8.out).mono ?_); rintro e w' ⟨rfl, ⟨nd, rfl⟩⟩; (try first | exact ⟨rfl, _, World.drewN_drewN _ _ _⟩ | exact ⟨rfl, _, Eq.trans (World.drewN_drewN _ _ _) (congrArg (World.drewN _) (Nat.add_assoc _ _ _))⟩))); try go_wp2_with (first | (go_at_call 75; (with_reducible refine (spec_l00In.calls ((rd_T58 l1 x5_1).f1) 0 (wrap64 (a0 - 1)) false _ A8.out).mono ?_); rintro e w' ⟨rfl, ⟨nd, rfl⟩⟩; (try first | exact ⟨rfl, _, World.drewN_drewN _ _ _⟩ | exact ⟨rfl, _, Eq.trans (World.drewN_drewN _ _ _) (congrArg (World.drewN _) (Nat.add_assoc _ _ _))⟩))))
        go_meet
        case rel => exact ⟨_, (true), (by first | rfl | (simp; done) | (simp [*]; done)), H', ⟨by have := HK1.out; first | omega | exact Nat.le_refl _⟩, by repeat (first | exact Drawn0.refl _ | apply Drawn0.step)⟩
      ·rw [if_neg c7] at H
       exact absurd H (by simp)
     case rest =>
      clear HC6
      try clear c1
      try clear p2
      try clear q2
      try clear hx2
      try clear c4
      try clear c5
      try clear c5b0
      try clear p6
      try clear c7
      try clear c7b0
      try clear c9
      try clear hx279_0
      try clear hx279_1
      try clear hx281_0
      try clear hx281_1
      try clear hx282_0
      try clear hx282_1
      try clear p2
      try clear p279
      try clear p281
      try clear p282
      try clear q279
      try clear q281
      try clear q282
      obtain ⟨kq, x39_5, rfl, HA, HJ5, ⟨mc5, rfl⟩⟩ := hcut
      cases kq with
      | zero => exact absurd HA.out (by simp [spec_l09Ok.j1])
      | succ kj5 =>
       have H := HA.out
       clear HA
       simp only [spec_l09Ok.j1] at H
       by_cases c11 : x39_5 = true
       ·subst c11
        have H1 : (some false) = some r := by rw [if_pos rfl] at H; exact H
        clear H
        have H := H1
        clear H1
        obtain rfl := Option.some.inj H
        go_wp2
        repeat (go_quiet (fail); try go_wp2)
        go_ret
        exact ⟨by first | rfl | (simp; done) | (simp [*]; done), by repeat (first | exact Drawn0.refl _ | apply Drawn0.step)⟩
       ·replace c11 := Bool.eq_false_iff.mpr c11
        subst c11
        have H1 : (spec_l09Ok.l1 kj5 a0 l1 x5_1 0) = some r := by rw [if_neg (show ¬ (false = true) by decide)] at H; exact H
        clear H
        have H := H1
        clear H1
        have H' := Aside0.mk H
        clear H
        go_wp2
        repeat (go_quiet (fail); try go_wp2)
        go_loopg [6] kj5 (fun kq v6 w' => ∃ (x6_3 : Int), v6 = .int .i64 x6_3 ∧ Aside0 (spec_l09Ok.l1 kq a0 l1 x5_1 x6_3 = some r) ∧ Aside0 (kq ≤ kj5) ∧ Drawn0 w w')
        case atStart => exact ⟨(0), (by first | rfl | (simp; done) | (simp [*]; done)), H', ⟨Nat.le_refl _⟩, by repeat (first | exact Drawn0.refl _ | apply Drawn0.step)⟩
        case round =>
         clear H'
         try clear c1
         try clear p2
         try clear q2
         try clear hx2
         try clear c4
         try clear c5
         try clear c5b0
         try clear p6
         try clear c7
         try clear c7b0
         try clear c9
         try clear c11
         try clear hx279_0
         try clear hx279_1
         try clear hx281_0
         try clear hx281_1
         try clear hx282_0
         try clear hx282_1
         try clear p2
         try clear p279
         try clear p281
         try clear p282
         try clear p6
         try clear q2
         try clear q279
         try clear q281
         try clear q282
         obtain ⟨x6_3, rfl, HA, HK3, ⟨m3, rfl⟩⟩ := hrel
         cases gk with
         | zero => exact absurd HA.out (by simp [spec_l09Ok.l1])
         | succ k3 =>
          have H := HA.out
          clear HA
          simp only [spec_l09Ok.l1] at H
          by_cases c12 : x6_3 < x5_1
          ·rw [if_pos c12] at H
           have c12b0 : decide (x6_3 < x5_1) = true := decide_eq_true c12
           clear c12
           by_cases c13 : 0 ≤ x6_3
           ·rw [if_pos c13] at H
            have c13b0 : decide (0 ≤ x6_3) = true := decide_eq_true c13
            clear c13
            by_cases c14 : x6_3 < (l1.length : Int)
            ·rw [if_pos c14] at H
             have c14b0 : decide (x6_3 < (l1.length : Int)) = true := decide_eq_true c14
             clear c14
             by_cases c15 : 0 ≤ x5_1
             ·rw [if_pos c15] at H
              have c15b0 : decide (0 ≤ x5_1) = true := decide_eq_true c15
              clear c15
              by_cases c16 : x5_1 < (l1.length : Int)
              ·rw [if_pos c16] at H
               have c16b0 : decide (x5_1 < (l1.length : Int)) = true := decide_eq_true c16
               clear c16
               by_cases c17 : (((rd_T58 l1 x6_3).f0) == ((rd_T58 l1 x5_1).f0) && (((rd_T58 l1 x6_3).f1) == ((rd_T58 l1 x5_1).f1))) = true
               ·rw [if_pos c17] at H
                have c17b0 : (((rd_T58 l1 x6_3).f0) == ((rd_T58 l1 x5_1).f0) && (((rd_T58 l1 x6_3).f1) == ((rd_T58 l1 x5_1).f1))) = true := c17
                (try (have c17b1 : decide (((rd_T58 l1 x6_3).f0) = ((rd_T58 l1 x5_1).f0) && (((rd_T58 l1 x6_3).f1) == ((rd_T58 l1 x5_1).f1))) = true := by simpa using c17))
                (try (have c17b2 : (((rd_T58 l1 x6_3).f0) == ((rd_T58 l1 x5_1).f0) && (((rd_T58 l1 x6_3).f1) == ((rd_T58 l1 x5_1).f1))) = true := by simpa using c17))
                clear c17
                obtain rfl := Option.some.inj H
                have p284 : 0 ≤ (x6_3 : Int) := od_
                have q284 : x6_3 < (l1.length : Int) := od_
                obtain ⟨ad284, e284, hx284_0, hx284_1⟩ := at_T58 HR1.out x6_3 p284 q284
                cases e284
                replace p284 := eq_true p284
                replace q284 := eq_true q284
                have p285 : 0 ≤ (x5_1 : Int) := od_
                have q285 : x5_1 < (l1.length : Int) := od_
                obtain ⟨ad285, e285, hx285_0, hx285_1⟩ := at_T58 HR1.out x5_1 p285 q285
                obtain rfl : ad284 = ad285 := (by injection e285)
                replace p285 := eq_true p285
                replace q285 := eq_true q285
                go_wp2
                repeat (go_quiet (fail); try go_wp2)
                go_ret
                exact ⟨by first | rfl | (simp; done) | (simp [*]; done), by repeat (first | exact Drawn0.refl _ | apply Drawn0.step)⟩
               ·rw [if_neg c17] at H
                have c17b0 : (((rd_T58 l1 x6_3).f0) == ((rd_T58 l1 x5_1).f0) && (((rd_T58 l1 x6_3).f1) == ((rd_T58 l1 x5_1).f1))) = false := by simpa using c17
                (try (have c17b1 : decide (((rd_T58 l1 x6_3).f0) = ((rd_T58 l1 x5_1).f0) && (((rd_T58 l1 x6_3).f1) == ((rd_T58 l1 x5_1).f1))) = false := by simpa using c17))
                (try (have c17b2 : (((rd_T58 l1 x6_3).f0) == ((rd_T58 l1 x5_1).f0) && (((rd_T58 l1 x6_3).f1) == ((rd_T58 l1 x5_1).f1))) = false := by simpa using c17))
                (try (have c17b3 : ¬ (((rd_T58 l1 x6_3).f0) = ((rd_T58 l1 x5_1).f0) && (((rd_T58 l1 x6_3).f1) == ((rd_T58 l1 x5_1).f1))) := by simpa using c17))
                clear c17
                have H' := Aside0.mk H
                clear H
                have p284 : 0 ≤ (x6_3 : Int) := od_
                have q284 : x6_3 < (l1.length : Int) := od_
                obtain ⟨ad284, e284, hx284_0, hx284_1⟩ := at_T58 HR1.out x6_3 p284 q284
                cases e284
                replace p284 := eq_true p284
                replace q284 := eq_true q284
                have p285 : 0 ≤ (x5_1 : Int) := od_
                have q285 : x5_1 < (l1.length : Int) := od_
                obtain ⟨ad285, e285, hx285_0, hx285_1⟩ := at_T58 HR1.out x5_1 p285 q285
                obtain rfl : ad284 = ad285 := (by injection e285)
                replace p285 := eq_true p285
                replace q285 := eq_true q285
                go_wp2
                repeat (go_quiet (fail); try go_wp2)
                go_roundg k3
                case measure => have := HK1.out; have := HJ5.out; have := HK3.out; omega
                case rel => exact ⟨(wrap64 (x6_3 + 1)), (by first | rfl | (simp; done) | (simp [*]; done)), H', ⟨by have := HK1.out; have := HJ5.out; have := HK3.out; omega⟩, by repeat (first | exact Drawn0.refl _ | apply Drawn0.step)⟩
              ·rw [if_neg c16] at H
               exact absurd H (by simp)
             ·rw [if_neg c15] at H
              exact absurd H (by simp)
            ·rw [if_neg c14] at H
             exact absurd H (by simp)
           ·rw [if_neg c13] at H
            exact absurd H (by simp)
          ·rw [if_neg c12] at H
           have c12b0 : decide (x6_3 < x5_1) = false := decide_eq_false c12
           clear c12
           have H' := Aside0.mk H
           clear H
           go_wp2
           repeat (go_quiet (fail); try go_wp2)
           go_roundg k3
           case measure => have := HK1.out; have := HJ5.out; have := HK3.out; omega
           case rel => exact ⟨(wrap64 (x5_1 + 1)), (by first | rfl | (simp; done) | (simp [*]; done)), H', ⟨by have := HK1.out; have := HJ5.out; have := HK3.out; omega⟩, by repeat (first | exact Drawn0.refl _ | apply Drawn0.step)⟩
    ·rw [if_neg c5] at H
     have c5b0 : decide (x5_1 < (l1.length : Int)) = false := decide_eq_false c5
     clear c5
     obtain rfl := Option.some.inj H
     go_wp2
     repeat (go_quiet (fail); try go_wp2)
     go_ret
     exact ⟨by first | rfl | (simp; done) | (simp [*]; done), by repeat (first | exact Drawn0.refl _ | apply Drawn0.step)⟩
 ·replace c4 := Bool.eq_false_iff.mpr c4
  subst c4
  have H1 : (some false) = some r := by rw [if_neg (show ¬ (false = true) by decide)] at H; exact H
  clear H
  have H := H1
  clear H1
  obtain rfl := Option.some.inj H
  go_enter Try.func51, Try.ntmps51
  go_wp2_with (first | (go_at_call 75; (with_reducible refine (spec_l00In.calls a0 1 10 false _ A3.out).mono ?_); rintro e w' ⟨rfl, ⟨nd, rfl⟩⟩; (try first | exact ⟨rfl, _, World.drewN_drewN _ _ _⟩ | exact ⟨rfl, _, Eq.trans (World.drewN_drewN _ _ _) (congrArg (World.drewN _) (Nat.add_assoc _ _ _))⟩)))
  repeat (go_quiet (first | (go_at_call 75; (try simp only [i64_w, i32_w]); (with_reducible refine (spec_l00In.calls a0 1 10 false _ A3.out).mono ?_); rintro e w' ⟨rfl, ⟨nd, rfl⟩⟩; (try first | exact ⟨rfl, _, World.drewN_drewN _ _ _⟩ | exact ⟨rfl, _, Eq.trans (World.drewN_drewN _ _ _) (congrArg (World.drewN _) (Nat.add_assoc _ _ _))⟩))); try go_wp2_with (first | (go_at_call 75; (with_reducible refine (spec_l00In.calls a0 1 10 false _ A3.out).mono ?_); rintro e w' ⟨rfl, ⟨nd, rfl⟩⟩; (try first | exact ⟨rfl, _, World.drewN_drewN _ _ _⟩ | exact ⟨rfl, _, Eq.trans (World.drewN_drewN _ _ _) (congrArg (World.drewN _) (Nat.add_assoc _ _ _))⟩))))
  go_ret
  exact ⟨by first | rfl | (simp; done) | (simp [*]; done), by repeat (first | exact Drawn0.refl _ | apply Drawn0.step)⟩

end Go.Proofs.Ytcjkklkmlooinaa.Print
