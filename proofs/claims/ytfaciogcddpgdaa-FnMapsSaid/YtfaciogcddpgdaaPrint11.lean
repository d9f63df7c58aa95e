-- Printed by a program of this session out of the translation; not trusted: Lean checks it.
-- SQUEEZED
-- SHRUNK
import Derived.Test.YtfaciogcddpgdaaPrint0
import Derived.Test.YtfaciogcddpgdaaPrint9
namespace Go.Proofs.Ytfaciogcddpgdaa.Print
open Go.RowKit Go.Proofs.YtfaciogcddpgdaaW.PrintWords Go.Proofs.YtfaciogcddpgdaaW.PrintLast Go.Proofs.YtfaciogcddpgdaaW.PrintMore
attribute [local go_sem] max2_int min2_int max_two min_two max_three min_three max_four min_four   -- for this text's walks alone
set_option linter.unusedVariables false
set_option linter.unusedSimpArgs false

/-! ### spec_l03Sine: function 65 -/
mutual
def spec_l03Sine.j0 : Nat → Int → Option (Int)
 | 0, _ => none
 | k + 1, x4 => if x4 > 648000 then ((spec_l03Sine.f k (wrap64 (x4 - 648000))).bind fun t247 => (some (wrap64 (-t247)))) else ((spec_l00Round.f (wrap64 ((wrap64 (16 * (wrap64 (x4 * (wrap64 (648000 - x4)))))) * 1000000)) (wrap64 (2099520000000 - (wrap64 (4 * (wrap64 (x4 * (wrap64 (648000 - x4))))))))).bind fun t248 => (some t248))
def spec_l03Sine.f : Nat → Int → Option (Int)
 | 0, _ => none
 | k + 1, a0 => if (Int.tmod a0 1296000) < 0 then (spec_l03Sine.j0 k (wrap64 ((Int.tmod a0 1296000) + 1296000))) else (spec_l03Sine.j0 k (Int.tmod a0 1296000))
end
theorem spec_l03Sine.mono_l : ∀ k, (∀ y0, LeO (spec_l03Sine.f k y0) (spec_l03Sine.f (k + 1) y0)) ∧ (∀ y0, LeO (spec_l03Sine.j0 k y0) (spec_l03Sine.j0 (k + 1) y0))
 | 0 => ⟨fun _ r h => by simp [spec_l03Sine.f] at h, fun _ r h => by simp [spec_l03Sine.j0] at h⟩
 | k + 1 => by
  obtain ⟨ih0, ih1⟩ := spec_l03Sine.mono_l k
  refine ⟨?_, ?_⟩
  ·intro y0
   unfold spec_l03Sine.f
   repeat' first
   | (with_reducible exact ih0 _)
   | (with_reducible exact ih1 _)
   | (with_reducible exact LeO.refl _)
   | (with_reducible exact LeO.none _)
   | (with_reducible refine LeO.ite ?_ ?_)
   | (with_reducible refine LeO.bind ?_ (fun _ => ?_))
   | exact ih0 _
   | exact ih1 _
   | exact LeO.none _
   | refine LeO.ite ?_ ?_
   | refine LeO.bind ?_ (fun _ => ?_)
  ·intro y0
   unfold spec_l03Sine.j0
   repeat' first
   | (with_reducible exact ih0 _)
   | (with_reducible exact ih1 _)
   | (with_reducible exact LeO.refl _)
   | (with_reducible exact LeO.none _)
   | (with_reducible refine LeO.ite ?_ ?_)
   | (with_reducible refine LeO.bind ?_ (fun _ => ?_))
   | exact ih0 _
   | exact ih1 _
   | exact LeO.none _
   | refine LeO.ite ?_ ?_
   | refine LeO.bind ?_ (fun _ => ?_)
theorem spec_l03Sine.mono : ∀ a0 k, LeO (spec_l03Sine.f k a0) (spec_l03Sine.f (k + 1) a0) := by
 intro a0 k
 obtain ⟨ih0, ih1⟩ := spec_l03Sine.mono_l k
 exact ih0 a0
set_option maxHeartbeats 8000000 in
set_option maxRecDepth 100000 in
theorem spec_l03Sine.calls (k : Nat) : ∀ (a0 : Int) (r : Int) (w : World) (h : spec_l03Sine.f k a0 = some r),
  Calls Try.prog 65 #[.int .i64 a0] w fun e w' => e = .returned (.int .i64 r) ∧ Drawn0 w w' := by
 induction k using Nat.strongRecOn with
 | _ k ih =>
 intro a0 r w h
 cases k with
 | zero => exact absurd h (by simp [spec_l03Sine.f])
 | succ k =>
 simp only [spec_l03Sine.f] at h
 have H : (if (Int.tmod a0 1296000) < 0 then (spec_l03Sine.j0 k (wrap64 ((Int.tmod a0 1296000) + 1296000))) else (spec_l03Sine.j0 k (Int.tmod a0 1296000))) = some r := h
 clear h
 have HC2 := Aside0.mk H
 clear H
 go_enter Try.func65, Try.ntmps65
 go_upto_if 10 with (fail)
 go_cut [4] (fun v4 wc => ∃ (kq : Nat) (x4_1 : Int), v4 = .int .i64 x4_1 ∧ Aside0 (spec_l03Sine.j0 kq x4_1 = some r) ∧ Aside0 (kq ≤ k) ∧ Drawn0 w wc)
 case first =>
  have H := HC2.out
  clear HC2
  by_cases c3 : (Int.tmod a0 1296000) < 0
  ·rw [if_pos c3] at H
   have c3b0 : decide ((Int.tmod a0 1296000) < 0) = true := decide_eq_true c3
   clear c3
   (first | rw [c3b0] | (simp only [i64_w, i32_w]; rw [c3b0]) | skip)
   have H' := Aside0.mk H
   clear H
   go_wp2
   go_meet
   case rel => exact ⟨_, (wrap64 ((Int.tmod a0 1296000) + 1296000)), (by first | rfl | (simp; done) | (simp [*]; done)), H', ⟨by first | omega | exact Nat.le_refl _⟩, by repeat (first | exact Drawn0.refl _ | apply Drawn0.step)⟩
  ·rw [if_neg c3] at H
   have c3b0 : decide ((Int.tmod a0 1296000) < 0) = false := decide_eq_false c3
   clear c3
   (first | rw [c3b0] | (simp only [i64_w, i32_w]; rw [c3b0]) | skip)
   have H' := Aside0.mk H
   clear H
   go_wp2
   go_meet
   case rel => exact ⟨_, (Int.tmod a0 1296000), (by first | rfl | (simp; done) | (simp [*]; done)), H', ⟨by first | omega | exact Nat.le_refl _⟩, by repeat (first | exact Drawn0.refl _ | apply Drawn0.step)⟩
 case rest =>
  clear HC2
  try clear p2
  try clear c3
  try clear c3b0
  obtain ⟨kq, x4_1, rfl, HA, HJ1, ⟨mc1, rfl⟩⟩ := hcut
  cases kq with
  | zero => exact absurd HA.out (by simp [spec_l03Sine.j0])
  | succ kj1 =>
   have H := HA.out
   clear HA
   simp only [spec_l03Sine.j0] at H
   by_cases c4 : x4_1 > 648000
   ·rw [if_pos c4] at H
    have c4b0 : decide (648000 < x4_1) = true := decide_eq_true c4
    clear c4
    replace H := Option.bind_eq_some_iff.mp H
    obtain ⟨t247, A50, H⟩ := H
    replace H : (some (wrap64 (-t247))) = some r := H
    have A5 := Aside0.mk A50
    clear A50
    obtain rfl := Option.some.inj H
    go_wp2_with (first | ((with_reducible refine gate_callee (f := 65) rfl ?_); refine goesL_ (some 19) rfl rfl Try.func65 (by kernel_rfl) rfl #[.int .i64 (wrap64 (x4_1 - 648000))] rfl gl_ ?_; (with_reducible refine (ih kj1 (by have := HJ1.out; omega) (wrap64 (x4_1 - 648000)) t247 _ A5.out).mono ?_); rintro e w' ⟨rfl, ⟨nd, rfl⟩⟩; refine ⟨_, rfl, ?_⟩))
    go_ret
    exact ⟨by first | rfl | (simp; done) | (simp [*]; done), by repeat (first | exact Drawn0.refl _ | apply Drawn0.step)⟩
   ·rw [if_neg c4] at H
    have c4b0 : decide (648000 < x4_1) = false := decide_eq_false c4
    clear c4
    replace H := Option.bind_eq_some_iff.mp H
    obtain ⟨t248, A60, H⟩ := H
    replace H : (some t248) = some r := H
    have A6 := Aside0.mk A60
    clear A60
    obtain rfl := Option.some.inj H
    go_wp2_with (first | ((with_reducible refine gate_callee (f := 53) rfl ?_); refine goesL_ (some 37) rfl rfl Try.func53 (by kernel_rfl) rfl #[.int .i64 (wrap64 ((wrap64 (16 * (wrap64 (x4_1 * (wrap64 (648000 - x4_1)))))) * 1000000)), .int .i64 (wrap64 (2099520000000 - (wrap64 (4 * (wrap64 (x4_1 * (wrap64 (648000 - x4_1))))))))] rfl gl_ ?_; (with_reducible refine (spec_l00Round.calls (wrap64 ((wrap64 (16 * (wrap64 (x4_1 * (wrap64 (648000 - x4_1)))))) * 1000000)) (wrap64 (2099520000000 - (wrap64 (4 * (wrap64 (x4_1 * (wrap64 (648000 - x4_1)))))))) t248 _ A6.out).mono ?_); rintro e w' ⟨rfl, ⟨nd, rfl⟩⟩; refine ⟨_, rfl, ?_⟩))
    go_ret
    exact ⟨by first | rfl | (simp; done) | (simp [*]; done), by repeat (first | exact Drawn0.refl _ | apply Drawn0.step)⟩

/-! ### spec_l03Cosine: function 54 -/
def spec_l03Cosine.f (k : Nat) (a0 : Int) : Option (Int) := (spec_l03Sine.f k (wrap64 (a0 + 324000))).bind fun t249 => (some t249)
theorem spec_l03Cosine.mono : ∀ a0 k, LeO (spec_l03Cosine.f k a0) (spec_l03Cosine.f (k + 1) a0) := by
 intro a0 k
 unfold spec_l03Cosine.f
 repeat' first
   | (with_reducible exact spec_l03Sine.mono _ _)
   | (with_reducible exact LeO.refl _)
   | (with_reducible exact LeO.none _)
   | (with_reducible refine LeO.ite ?_ ?_)
   | (with_reducible refine LeO.bind ?_ (fun _ => ?_))
   | exact spec_l03Sine.mono _ _
   | exact LeO.none _
   | refine LeO.ite ?_ ?_
   | refine LeO.bind ?_ (fun _ => ?_)
set_option maxHeartbeats 8000000 in
set_option maxRecDepth 100000 in
theorem spec_l03Cosine.calls (k : Nat) (a0 : Int) (r : Int) (w : World) (h : spec_l03Cosine.f k a0 = some r) :
  Calls Try.prog 54 #[.int .i64 a0] w fun e w' => e = .returned (.int .i64 r) ∧ Drawn0 w w' := by
 have H : ((spec_l03Sine.f k (wrap64 (a0 + 324000))).bind fun t249 => (some t249)) = some r := h
 clear h
 replace H := Option.bind_eq_some_iff.mp H
 obtain ⟨t249, A20, H⟩ := H
 replace H : (some t249) = some r := H
 have A2 := Aside0.mk A20
 clear A20
 obtain rfl := Option.some.inj H
 go_enter Try.func54, Try.ntmps54
 go_wp2_with (first | ((with_reducible refine gate_callee (f := 65) rfl ?_); refine goesL_ (some 5) rfl rfl Try.func65 (by kernel_rfl) rfl #[.int .i64 (wrap64 (a0 + 324000))] rfl gl_ ?_; (with_reducible refine (spec_l03Sine.calls k (wrap64 (a0 + 324000)) t249 _ A2.out).mono ?_); rintro e w' ⟨rfl, ⟨nd, rfl⟩⟩; refine ⟨_, rfl, ?_⟩))
 go_ret
 exact ⟨by first | rfl | (simp; done) | (simp [*]; done), by repeat (first | exact Drawn0.refl _ | apply Drawn0.step)⟩

end Go.Proofs.Ytfaciogcddpgdaa.Print
