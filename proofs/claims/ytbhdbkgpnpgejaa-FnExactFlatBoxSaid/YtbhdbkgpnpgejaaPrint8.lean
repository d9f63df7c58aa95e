-- Printed by a program of this session out of the translation; not trusted: Lean checks it.
-- SHRUNK
import Derived.Test.YtbhdbkgpnpgejaaPrint0
import Derived.Test.YtbhdbkgpnpgejaaPrint7
namespace Go.Proofs.Ytbhdbkgpnpgejaa.Print
open Go.RowKit Go.Proofs.YtbhdbkgpnpgejaaW.PrintWords Go.Proofs.YtbhdbkgpnpgejaaW.PrintLast Go.Proofs.YtbhdbkgpnpgejaaW.PrintMore
attribute [local go_sem] max2_int min2_int max_two min_two max_three min_three max_four min_four   -- for this text's walks alone
set_option linter.unusedVariables false
set_option linter.unusedSimpArgs false

/-! ### impl_around: function 99 -/
def impl_around.f (a0 : Int) : Option (Int) := some (Int.tmod (wrap64 ((Int.tmod a0 1296000) + 1296000)) 1296000)
set_option maxHeartbeats 8000000 in
set_option maxRecDepth 100000 in
theorem impl_around.calls (a0 : Int) (r : Int) (w : World) (h : impl_around.f a0 = some r) :
  Calls Try.prog 99 #[.int .i64 a0] w fun e w' => e = .returned (.int .i64 r) ∧ Drawn0 w w' := by
 have H : (some (Int.tmod (wrap64 ((Int.tmod a0 1296000) + 1296000)) 1296000)) = some r := h
 clear h
 obtain rfl := Option.some.inj H
 go_enter Try.func99, Try.ntmps99
 go_wp2
 go_ret
 exact ⟨by first | rfl | (simp; done) | (simp [*]; done), by repeat (first | exact Drawn0.refl _ | apply Drawn0.step)⟩

/-! ### impl_sine: function 91 -/
def impl_sine.f : Nat → Int → Option (Int)
 | 0, _ => none
 | k + 1, a0 => (impl_around.f a0).bind fun t157 => (if t157 ≥ 648000 then ((impl_sine.f k (wrap64 (t157 - 648000))).bind fun t158 => (some (wrap64 (-t158)))) else ((impl_nearest.f (wrap64 (16000000 * (wrap64 (t157 * (wrap64 (648000 - t157)))))) (wrap64 (2099520000000 - (wrap64 (4 * (wrap64 (t157 * (wrap64 (648000 - t157))))))))).bind fun t159 => (some t159)))
theorem impl_sine.mono_l : ∀ k, (∀ y0, LeO (impl_sine.f k y0) (impl_sine.f (k + 1) y0))
 | 0 => fun _ r h => by simp [impl_sine.f] at h
 | k + 1 => by
  have ih0 := impl_sine.mono_l k
  ·intro y0
   unfold impl_sine.f
   repeat' first
   | (with_reducible exact ih0 _)
   | (with_reducible exact LeO.refl _)
   | (with_reducible exact LeO.none _)
   | (with_reducible refine LeO.ite ?_ ?_)
   | (with_reducible refine LeO.bind ?_ (fun _ => ?_))
   | exact ih0 _
   | exact LeO.none _
   | refine LeO.ite ?_ ?_
   | refine LeO.bind ?_ (fun _ => ?_)
theorem impl_sine.mono : ∀ a0 k, LeO (impl_sine.f k a0) (impl_sine.f (k + 1) a0) := by
 intro a0 k
 have ih0 := impl_sine.mono_l k
 exact ih0 a0
set_option maxHeartbeats 8000000 in
set_option maxRecDepth 100000 in
theorem impl_sine.calls (k : Nat) : ∀ (a0 : Int) (r : Int) (w : World) (h : impl_sine.f k a0 = some r),
  Calls Try.prog 91 #[.int .i64 a0] w fun e w' => e = .returned (.int .i64 r) ∧ Drawn0 w w' := by
 induction k using Nat.strongRecOn with
 | _ k ih =>
 intro a0 r w h
 cases k with
 | zero => exact absurd h (by simp [impl_sine.f])
 | succ k =>
 simp only [impl_sine.f] at h
 have H : ((impl_around.f a0).bind fun t157 => (if t157 ≥ 648000 then ((impl_sine.f k (wrap64 (t157 - 648000))).bind fun t158 => (some (wrap64 (-t158)))) else ((impl_nearest.f (wrap64 (16000000 * (wrap64 (t157 * (wrap64 (648000 - t157)))))) (wrap64 (2099520000000 - (wrap64 (4 * (wrap64 (t157 * (wrap64 (648000 - t157))))))))).bind fun t159 => (some t159)))) = some r := h
 clear h
 replace H := Option.bind_eq_some_iff.mp H
 obtain ⟨t157, A20, H⟩ := H
 replace H : (if t157 ≥ 648000 then ((impl_sine.f k (wrap64 (t157 - 648000))).bind fun t158 => (some (wrap64 (-t158)))) else ((impl_nearest.f (wrap64 (16000000 * (wrap64 (t157 * (wrap64 (648000 - t157)))))) (wrap64 (2099520000000 - (wrap64 (4 * (wrap64 (t157 * (wrap64 (648000 - t157))))))))).bind fun t159 => (some t159))) = some r := H
 have A2 := Aside0.mk A20
 clear A20
 by_cases c3 : t157 ≥ 648000
 ·rw [if_pos c3] at H
  have c3b0 : decide (648000 ≤ t157) = true := decide_eq_true c3
  clear c3
  replace H := Option.bind_eq_some_iff.mp H
  obtain ⟨t158, A40, H⟩ := H
  replace H : (some (wrap64 (-t158))) = some r := H
  have A4 := Aside0.mk A40
  clear A40
  obtain rfl := Option.some.inj H
  go_enter Try.func91, Try.ntmps91
  go_wp2_with (first | ((with_reducible refine gate_callee (f := 99) rfl ?_); refine goesL_ (some 6) rfl rfl Try.func99 (by kernel_rfl) rfl #[.int .i64 a0] rfl (by (try simp only [List.map_toArray, List.map_cons, List.map_nil]); first | done | rfl | (simp only [List.length_drop, List.length_take]; rfl)) ?_; (with_reducible refine (impl_around.calls a0 t157 _ A2.out).mono ?_); rintro e w' ⟨rfl, ⟨nd, rfl⟩⟩; refine ⟨_, rfl, ?_⟩) | ((with_reducible refine gate_callee (f := 91) rfl ?_); refine goesL_ (some 11) rfl rfl Try.func91 (by kernel_rfl) rfl #[.int .i64 (wrap64 (t157 - 648000))] rfl (by (try simp only [List.map_toArray, List.map_cons, List.map_nil]); first | done | rfl | (simp only [List.length_drop, List.length_take]; rfl)) ?_; (with_reducible refine (ih k (by omega) (wrap64 (t157 - 648000)) t158 _ A4.out).mono ?_); rintro e w' ⟨rfl, ⟨nd, rfl⟩⟩; refine ⟨_, rfl, ?_⟩))
  go_ret
  exact ⟨by first | rfl | (simp; done) | (simp [*]; done), by repeat (first | exact Drawn0.refl _ | apply Drawn0.step)⟩
 ·rw [if_neg c3] at H
  have c3b0 : decide (648000 ≤ t157) = false := decide_eq_false c3
  clear c3
  replace H := Option.bind_eq_some_iff.mp H
  obtain ⟨t159, A50, H⟩ := H
  replace H : (some t159) = some r := H
  have A5 := Aside0.mk A50
  clear A50
  obtain rfl := Option.some.inj H
  go_enter Try.func91, Try.ntmps91
  go_wp2_with (first | ((with_reducible refine gate_callee (f := 99) rfl ?_); refine goesL_ (some 6) rfl rfl Try.func99 (by kernel_rfl) rfl #[.int .i64 a0] rfl (by (try simp only [List.map_toArray, List.map_cons, List.map_nil]); first | done | rfl | (simp only [List.length_drop, List.length_take]; rfl)) ?_; (with_reducible refine (impl_around.calls a0 t157 _ A2.out).mono ?_); rintro e w' ⟨rfl, ⟨nd, rfl⟩⟩; refine ⟨_, rfl, ?_⟩) | ((with_reducible refine gate_callee (f := 53) rfl ?_); refine goesL_ (some 22) rfl rfl Try.func53 (by kernel_rfl) rfl #[.int .i64 (wrap64 (16000000 * (wrap64 (t157 * (wrap64 (648000 - t157)))))), .int .i64 (wrap64 (2099520000000 - (wrap64 (4 * (wrap64 (t157 * (wrap64 (648000 - t157))))))))] rfl (by (try simp only [List.map_toArray, List.map_cons, List.map_nil]); first | done | rfl | (simp only [List.length_drop, List.length_take]; rfl)) ?_; (with_reducible refine (impl_nearest.calls (wrap64 (16000000 * (wrap64 (t157 * (wrap64 (648000 - t157)))))) (wrap64 (2099520000000 - (wrap64 (4 * (wrap64 (t157 * (wrap64 (648000 - t157)))))))) t159 _ A5.out).mono ?_); rintro e w' ⟨rfl, ⟨nd, rfl⟩⟩; refine ⟨_, rfl, ?_⟩))
  go_ret
  exact ⟨by first | rfl | (simp; done) | (simp [*]; done), by repeat (first | exact Drawn0.refl _ | apply Drawn0.step)⟩

/-! ### impl_cosine: function 52 -/
def impl_cosine.f (k : Nat) (a0 : Int) : Option (Int) := (impl_sine.f k (wrap64 (a0 + 324000))).bind fun t160 => (some t160)
theorem impl_cosine.mono : ∀ a0 k, LeO (impl_cosine.f k a0) (impl_cosine.f (k + 1) a0) := by
 intro a0 k
 unfold impl_cosine.f
 repeat' first
   | (with_reducible exact impl_sine.mono _ _)
   | (with_reducible exact LeO.refl _)
   | (with_reducible exact LeO.none _)
   | (with_reducible refine LeO.ite ?_ ?_)
   | (with_reducible refine LeO.bind ?_ (fun _ => ?_))
   | exact impl_sine.mono _ _
   | exact LeO.none _
   | refine LeO.ite ?_ ?_
   | refine LeO.bind ?_ (fun _ => ?_)
set_option maxHeartbeats 8000000 in
set_option maxRecDepth 100000 in
theorem impl_cosine.calls (k : Nat) (a0 : Int) (r : Int) (w : World) (h : impl_cosine.f k a0 = some r) :
  Calls Try.prog 52 #[.int .i64 a0] w fun e w' => e = .returned (.int .i64 r) ∧ Drawn0 w w' := by
 have H : ((impl_sine.f k (wrap64 (a0 + 324000))).bind fun t160 => (some t160)) = some r := h
 clear h
 replace H := Option.bind_eq_some_iff.mp H
 obtain ⟨t160, A20, H⟩ := H
 replace H : (some t160) = some r := H
 have A2 := Aside0.mk A20
 clear A20
 obtain rfl := Option.some.inj H
 go_enter Try.func52, Try.ntmps52
 go_wp2_with (first | ((with_reducible refine gate_callee (f := 91) rfl ?_); refine goesL_ (some 5) rfl rfl Try.func91 (by kernel_rfl) rfl #[.int .i64 (wrap64 (a0 + 324000))] rfl (by (try simp only [List.map_toArray, List.map_cons, List.map_nil]); first | done | rfl | (simp only [List.length_drop, List.length_take]; rfl)) ?_; (with_reducible refine (impl_sine.calls k (wrap64 (a0 + 324000)) t160 _ A2.out).mono ?_); rintro e w' ⟨rfl, ⟨nd, rfl⟩⟩; refine ⟨_, rfl, ?_⟩))
 go_ret
 exact ⟨by first | rfl | (simp; done) | (simp [*]; done), by repeat (first | exact Drawn0.refl _ | apply Drawn0.step)⟩

end Go.Proofs.Ytbhdbkgpnpgejaa.Print
