-- Printed by a program of this session out of the translation; not trusted: Lean checks it.
-- SHRUNK
import Derived.Test.YtcjkklkmlooinaaPrint0
import Derived.Test.YtcjkklkmlooinaaPrint3
import Derived.Test.YtcjkklkmlooinaaPrint5
import Derived.Test.YtcjkklkmlooinaaPrint6
import Derived.Test.YtcjkklkmlooinaaPrint9
import Derived.Test.YtcjkklkmlooinaaPrint11
import Derived.Test.YtcjkklkmlooinaaPrint12
import Derived.Test.YtcjkklkmlooinaaPrint16
namespace Go.Proofs.Ytcjkklkmlooinaa.Print
open Go.RowKit Go.Proofs.YtcjkklkmlooinaaW.PrintWords Go.Proofs.YtcjkklkmlooinaaW.PrintLast Go.Proofs.YtcjkklkmlooinaaW.PrintMore
attribute [local go_sem] max2_int min2_int max_two min_two max_three min_three max_four min_four   -- for this text's walks alone
set_option linter.unusedVariables false
set_option linter.unusedSimpArgs false

/-! ### impl_SwapColours: function 22 -/
mutual
def impl_SwapColours.j0 : Nat → List (S58) → List Int → Int → Int → Bool → Option (List Int × Int)
 | 0, _, _, _, _, _ => none
 | k + 1, x1, x2, x3, x4, x36 => if x36 = true then (some (([] : List Int), 2)) else ((impl_firstClash.f x1 x2).bind fun t301 => (if t301 ≥ 0 then (some (([] : List Int), 6)) else (if 0 ≤ x3 then (if x3 < (x2.length : Int) then (if (rd x2 x3) = x4 then (some (([] : List Int), 9)) else ((slices_Clone_int64_int64.f x2).bind fun t303 => (impl_SwapColours.l0 k x1 x2 x4 (rd x2 x3) t303 (([x3] : List Int)) 0))) else (none)) else (none))))
def impl_SwapColours.l0 : Nat → List (S58) → List Int → Int → Int → List Int → List Int → Int → Option (List Int × Int)
 | 0, _, _, _, _, _, _, _ => none
 | k + 1, x1, x2, x4, x12, x13, x14, x15 => if x15 < (x14.length : Int) then (if 0 ≤ x15 then (if 0 ≤ (rd x14 x15) then (if (rd x14 x15) < (x2.length : Int) then (if (rd x14 x15) < (x13.length : Int) then ((impl_neighboursOf.f k x1 (rd x14 x15)).bind fun t314 => (impl_SwapColours.l1 k x1 x2 x4 x12 (x13.set ((rd x14 x15) : Int).toNat (wrap64 ((wrap64 (x12 + x4)) - (rd x2 (rd x14 x15))))) x14 x15 t314 (t314.length : Int) 0)) else (none)) else (none)) else (none)) else (none)) else (some (x13, 0))
def impl_SwapColours.l1 : Nat → List (S58) → List Int → Int → Int → List Int → List Int → Int → List Int → Int → Int → Option (List Int × Int)
 | 0, _, _, _, _, _, _, _, _, _, _ => none
 | k + 1, x1, x2, x4, x12, x13, x14, x15, x80, x81, x82 => if x82 < x81 then (if 0 ≤ x82 then (if x82 < (x80.length : Int) then (if 0 ≤ (rd x80 x82) then (if (rd x80 x82) < (x2.length : Int) then (if (rd x2 (rd x80 x82)) = x12 then ((slices_Contains_int64_int64.f k x14 (rd x80 x82)).bind fun t319 => (if t319 = true then (impl_SwapColours.l1 k x1 x2 x4 x12 x13 x14 x15 x80 x81 (wrap64 (x82 + 1))) else (if x14.length < 17592186044416 then (impl_SwapColours.l1 k x1 x2 x4 x12 x13 (x14 ++ [rd x80 x82]) x15 x80 x81 (wrap64 (x82 + 1))) else (none)))) else (if (rd x2 (rd x80 x82)) = x4 then ((slices_Contains_int64_int64.f k x14 (rd x80 x82)).bind fun t324 => (if t324 = true then (impl_SwapColours.l1 k x1 x2 x4 x12 x13 x14 x15 x80 x81 (wrap64 (x82 + 1))) else (if x14.length < 17592186044416 then (impl_SwapColours.l1 k x1 x2 x4 x12 x13 (x14 ++ [rd x80 x82]) x15 x80 x81 (wrap64 (x82 + 1))) else (none)))) else (impl_SwapColours.l1 k x1 x2 x4 x12 x13 x14 x15 x80 x81 (wrap64 (x82 + 1))))) else (none)) else (none)) else (none)) else (none)) else (impl_SwapColours.l0 k x1 x2 x4 x12 x13 x14 (wrap64 (x15 + 1)))
end
def impl_SwapColours.f (k : Nat) (a0 : Int) (l1 : List (S58)) (l2 : List Int) (a3 : Int) (a4 : Int) : Option (List Int × Int) := (impl_ValidBorders.f k a0 l1).bind fun t297 => (if t297 = true then ((impl_isLand.f a0 a3).bind fun t298 => (if t298 = true then ((impl_areColours.f k a0 l2).bind fun t299 => (if t299 = true then ((impl_within.f a4 0 9).bind fun t300 => (impl_SwapColours.j0 k l1 l2 a3 a4 (!t300))) else (impl_SwapColours.j0 k l1 l2 a3 a4 true))) else (impl_SwapColours.j0 k l1 l2 a3 a4 true))) else (some (([] : List Int), 1)))
theorem impl_SwapColours.mono_l : ∀ k, (∀ y0 y1 y2 y3 y4, LeO (impl_SwapColours.j0 k y0 y1 y2 y3 y4) (impl_SwapColours.j0 (k + 1) y0 y1 y2 y3 y4)) ∧ (∀ y0 y1 y2 y3 y4 y5 y6, LeO (impl_SwapColours.l0 k y0 y1 y2 y3 y4 y5 y6) (impl_SwapColours.l0 (k + 1) y0 y1 y2 y3 y4 y5 y6)) ∧ (∀ y0 y1 y2 y3 y4 y5 y6 y7 y8 y9, LeO (impl_SwapColours.l1 k y0 y1 y2 y3 y4 y5 y6 y7 y8 y9) (impl_SwapColours.l1 (k + 1) y0 y1 y2 y3 y4 y5 y6 y7 y8 y9))
 | 0 => ⟨fun _ _ _ _ _ r h => by simp [impl_SwapColours.j0] at h, fun _ _ _ _ _ _ _ r h => by simp [impl_SwapColours.l0] at h, fun _ _ _ _ _ _ _ _ _ _ r h => by simp [impl_SwapColours.l1] at h⟩
 | k + 1 => by
  obtain ⟨ih0, ih1, ih2⟩ := impl_SwapColours.mono_l k
  refine ⟨?_, ?_, ?_⟩
  ·intro y0 y1 y2 y3 y4
   unfold impl_SwapColours.j0
   repeat' first
   | (with_reducible exact ih0 _ _ _ _ _)
   | (with_reducible exact ih1 _ _ _ _ _ _ _)
   | (with_reducible exact ih2 _ _ _ _ _ _ _ _ _ _)
   | (with_reducible exact impl_ValidBorders.mono _ _ _)
   | (with_reducible exact impl_areColours.mono _ _ _)
   | (with_reducible exact impl_neighboursOf.mono _ _ _)
   | (with_reducible exact slices_Contains_int64_int64.mono _ _ _)
   | (with_reducible exact LeO.refl _)
   | (with_reducible exact LeO.none _)
   | (with_reducible refine LeO.ite ?_ ?_)
   | (with_reducible refine LeO.bind ?_ (fun _ => ?_))
   | exact ih0 _ _ _ _ _
   | exact ih1 _ _ _ _ _ _ _
   | exact ih2 _ _ _ _ _ _ _ _ _ _
   | exact impl_ValidBorders.mono _ _ _
   | exact impl_areColours.mono _ _ _
   | exact impl_neighboursOf.mono _ _ _
   | exact slices_Contains_int64_int64.mono _ _ _
   | exact LeO.none _
   | refine LeO.ite ?_ ?_
   | refine LeO.bind ?_ (fun _ => ?_)
  ·intro y0 y1 y2 y3 y4 y5 y6
   unfold impl_SwapColours.l0
   repeat' first
   | (with_reducible exact ih0 _ _ _ _ _)
   | (with_reducible exact ih1 _ _ _ _ _ _ _)
   | (with_reducible exact ih2 _ _ _ _ _ _ _ _ _ _)
   | (with_reducible exact impl_ValidBorders.mono _ _ _)
   | (with_reducible exact impl_areColours.mono _ _ _)
   | (with_reducible exact impl_neighboursOf.mono _ _ _)
   | (with_reducible exact slices_Contains_int64_int64.mono _ _ _)
   | (with_reducible exact LeO.refl _)
   | (with_reducible exact LeO.none _)
   | (with_reducible refine LeO.ite ?_ ?_)
   | (with_reducible refine LeO.bind ?_ (fun _ => ?_))
   | exact ih0 _ _ _ _ _
   | exact ih1 _ _ _ _ _ _ _
   | exact ih2 _ _ _ _ _ _ _ _ _ _
   | exact impl_ValidBorders.mono _ _ _
   | exact impl_areColours.mono _ _ _
   | exact impl_neighboursOf.mono _ _ _
   | exact slices_Contains_int64_int64.mono _ _ _
   | exact LeO.none _
   | refine LeO.ite ?_ ?_
   | refine LeO.bind ?_ (fun _ => ?_)
  ·intro y0 y1 y2 y3 y4 y5 y6 y7 y8 y9
   unfold impl_SwapColours.l1
   repeat' first
   | (with_reducible exact ih0 _ _ _ _ _)
   | (with_reducible exact ih1 _ _ _ _ _ _ _)
   | (with_reducible exact ih2 _ _ _ _ _ _ _ _ _ _)
   | (with_reducible exact impl_ValidBorders.mono _ _ _)
   | (with_reducible exact impl_areColours.mono _ _ _)
   | (with_reducible exact impl_neighboursOf.mono _ _ _)
   | (with_reducible exact slices_Contains_int64_int64.mono _ _ _)
   | (with_reducible exact LeO.refl _)
   | (with_reducible exact LeO.none _)
   | (with_reducible refine LeO.ite ?_ ?_)
   | (with_reducible refine LeO.bind ?_ (fun _ => ?_))
   | exact ih0 _ _ _ _ _
   | exact ih1 _ _ _ _ _ _ _
   | exact ih2 _ _ _ _ _ _ _ _ _ _
   | exact impl_ValidBorders.mono _ _ _
   | exact impl_areColours.mono _ _ _
   | exact impl_neighboursOf.mono _ _ _
   | exact slices_Contains_int64_int64.mono _ _ _
   | exact LeO.none _
   | refine LeO.ite ?_ ?_
   | refine LeO.bind ?_ (fun _ => ?_)
theorem impl_SwapColours.mono : ∀ a0 a1 a2 a3 a4 k, LeO (impl_SwapColours.f k a0 a1 a2 a3 a4) (impl_SwapColours.f (k + 1) a0 a1 a2 a3 a4) := by
 intro a0 a1 a2 a3 a4 k
 obtain ⟨ih0, ih1, ih2⟩ := impl_SwapColours.mono_l k
 unfold impl_SwapColours.f
 repeat' first
   | (with_reducible exact ih0 _ _ _ _ _)
   | (with_reducible exact ih1 _ _ _ _ _ _ _)
   | (with_reducible exact ih2 _ _ _ _ _ _ _ _ _ _)
   | (with_reducible exact impl_ValidBorders.mono _ _ _)
   | (with_reducible exact impl_areColours.mono _ _ _)
   | (with_reducible exact impl_neighboursOf.mono _ _ _)
   | (with_reducible exact slices_Contains_int64_int64.mono _ _ _)
   | (with_reducible exact LeO.refl _)
   | (with_reducible exact LeO.none _)
   | (with_reducible refine LeO.ite ?_ ?_)
   | (with_reducible refine LeO.bind ?_ (fun _ => ?_))
   | exact ih0 _ _ _ _ _
   | exact ih1 _ _ _ _ _ _ _
   | exact ih2 _ _ _ _ _ _ _ _ _ _
   | exact impl_ValidBorders.mono _ _ _
   | exact impl_areColours.mono _ _ _
   | exact impl_neighboursOf.mono _ _ _
   | exact slices_Contains_int64_int64.mono _ _ _
   | exact LeO.none _
   | refine LeO.ite ?_ ?_
   | refine LeO.bind ?_ (fun _ => ?_)
def impl_SwapColours.T14 : Bool × List (List Nat × List Nat) := (true, [([], []), ([], []), ([], []), ([1, 2], [1, 2]), ([3], [3]), ([], []), ([], []), ([5, 6], [5, 6]), ([], []), ([], []), ([], []), ([9, 10], [9, 10]), ([11], [11]), ([8, 12], [8, 12]), ([13], [13]), ([7, 14], [7, 14]), ([0, 4, 0, 1, 2, 3, 4, 5, 6, 7, 8, 9, 10, 11, 12, 13, 14, 15], [0, 4]), ([16, 15, 0, 1, 2, 3, 4, 5, 6, 7, 8, 9, 10, 11, 12, 13, 14, 15], [15, 16])])
def impl_SwapColours.B14 : List Nat := [0, 0, 0, 6, 14, 0, 0, 96, 0, 0, 0, 1536, 3584, 7936, 16128, 32736, 65535, 131071]
theorem impl_SwapColours.tab14 : rtab .any (opsOf Try.f22 14) = impl_SwapColours.T14 := by kernel_rfl
theorem impl_SwapColours.bits14 : waitsOk impl_SwapColours.T14.2 impl_SwapColours.B14 = true := by kernel_rfl
set_option maxHeartbeats 8000000 in
set_option maxRecDepth 100000 in
theorem impl_SwapColours.calls (k : Nat) (a0 : Int) (A1 : Option Addr) (c1 : Nat) (l1 : List (S58)) (A2 : Option Addr) (c2 : Nat) (l2 : List Int) (a3 : Int) (a4 : Int) (r1 : List Int) (r2 : Int) (w : World) (hr1 : Kd.C k58 w A1 l1.length l1) (hc1 : l1.length ≤ c1) (hr2 : Kd.C (Kd.int .i64) w A2 l2.length l2) (hc2 : l2.length ≤ c2) (h : impl_SwapColours.f k a0 l1 l2 a3 a4 = some (r1, r2)) :
  Calls Try.prog 22 #[.int .i64 a0, .slice A1 l1.length c1, .slice A2 l2.length c2, .int .i64 a3, .int .i64 a4] w fun e w' => ∃ v0_ : Value, e = .returned (.tuple #[v0_, .int .i64 r2]) ∧ Kd.R (Kd.int .i64) 2 w' w.heap.size (fun _ => True) v0_ r1 ∧ Below w.heap.size w w' := by
 have HR1 := Aside0.mk hr1
 have HC1 := Aside0.mk hc1
 clear hr1 hc1
 have HR2 := Aside0.mk hr2
 have HC2 := Aside0.mk hc2
 clear hr2 hc2
 have HB := Aside0.mk (Below.refl w.heap.size w)
 have H : ((impl_ValidBorders.f k a0 l1).bind fun t297 => (if t297 = true then ((impl_isLand.f a0 a3).bind fun t298 => (if t298 = true then ((impl_areColours.f k a0 l2).bind fun t299 => (if t299 = true then ((impl_within.f a4 0 9).bind fun t300 => (impl_SwapColours.j0 k l1 l2 a3 a4 (!t300))) else (impl_SwapColours.j0 k l1 l2 a3 a4 true))) else (impl_SwapColours.j0 k l1 l2 a3 a4 true))) else (some (([] : List Int), 1)))) = some (r1, r2) := h
 clear h
 replace H := Option.bind_eq_some_iff.mp H
 obtain ⟨t297, A60, H⟩ := H
 replace H : (if t297 = true then ((impl_isLand.f a0 a3).bind fun t298 => (if t298 = true then ((impl_areColours.f k a0 l2).bind fun t299 => (if t299 = true then ((impl_within.f a4 0 9).bind fun t300 => (impl_SwapColours.j0 k l1 l2 a3 a4 (!t300))) else (impl_SwapColours.j0 k l1 l2 a3 a4 true))) else (impl_SwapColours.j0 k l1 l2 a3 a4 true))) else (some (([] : List Int), 1))) = some (r1, r2) := H
 have A6 := Aside0.mk A60
 clear A60
 by_cases c7 : t297 = true
 ·subst c7
  have H1 : ((impl_isLand.f a0 a3).bind fun t298 => (if t298 = true then ((impl_areColours.f k a0 l2).bind fun t299 => (if t299 = true then ((impl_within.f a4 0 9).bind fun t300 => (impl_SwapColours.j0 k l1 l2 a3 a4 (!t300))) else (impl_SwapColours.j0 k l1 l2 a3 a4 true))) else (impl_SwapColours.j0 k l1 l2 a3 a4 true))) = some (r1, r2) := by rw [if_pos rfl] at H; exact H
  clear H
  have H := H1
  clear H1
  have HC8 := Aside0.mk H
  clear H
  go_enter Try.func22, Try.ntmps22
  go_upto_region 3 with (first | ((with_reducible refine gate_callee (f := 36) rfl ?_); refine goesL_ (some 20) rfl rfl Try.func36 (by kernel_rfl) rfl #[.int .i64 a0, .slice A1 l1.length c1] rfl (by (try simp only [List.map_toArray, List.map_cons, List.map_nil]); first | done | rfl | (simp only [List.length_drop, List.length_take]; rfl)) ?_; (with_reducible refine (impl_ValidBorders.calls k a0 _ _ l1 true _ ?side1 ?side2 A6.out).mono ?_); (case side1 => repeat (first | exact HR1.out | (with_reducible refine Kd.C_alloc ?_ _) | (with_reducible refine Kd.C_drewN ?_ _) | (with_reducible refine Kd.C_drew ?_))); (case side2 => exact HC1.out); rintro e w9 ⟨rfl, hb⟩; refine ⟨_, rfl, ?_⟩; have n0_ := Aside0.mk (below_step (by repeat (first | (with_reducible first | exact HB.out | apply below_alloc | apply pw_below_drewN | apply below_drew1) | exact HB.out)) hb); clear HB; have HB := n0_; clear n0_; (try clear hb); (try clear hb2); (try clear hk); (try clear hi)))
  (try simp only [Act.put, List.setIfInBounds_toArray, List.set_cons_zero, List.set_cons_succ])
  go_cut [36] (fun v36 wc => ∃ (kq : Nat) (x36_7 : Bool), v36 = .bool x36_7 ∧ Aside0 (impl_SwapColours.j0 kq l1 l2 a3 a4 x36_7 = some (r1, r2)) ∧ Aside0 (kq ≤ k) ∧ Aside0 (Below w.heap.size w wc))
  case first =>
   have H := HC8.out
   clear HC8
   replace H := Option.bind_eq_some_iff.mp H
   obtain ⟨t298, A100, H⟩ := H
   replace H : (if t298 = true then ((impl_areColours.f k a0 l2).bind fun t299 => (if t299 = true then ((impl_within.f a4 0 9).bind fun t300 => (impl_SwapColours.j0 k l1 l2 a3 a4 (!t300))) else (impl_SwapColours.j0 k l1 l2 a3 a4 true))) else (impl_SwapColours.j0 k l1 l2 a3 a4 true)) = some (r1, r2) := H
   have A10 := Aside0.mk A100
   clear A100
   by_cases c11 : t298 = true
   ·subst c11
    have H1 : ((impl_areColours.f k a0 l2).bind fun t299 => (if t299 = true then ((impl_within.f a4 0 9).bind fun t300 => (impl_SwapColours.j0 k l1 l2 a3 a4 (!t300))) else (impl_SwapColours.j0 k l1 l2 a3 a4 true))) = some (r1, r2) := by rw [if_pos rfl] at H; exact H
    clear H
    have H := H1
    clear H1
    replace H := Option.bind_eq_some_iff.mp H
    obtain ⟨t299, A120, H⟩ := H
    replace H : (if t299 = true then ((impl_within.f a4 0 9).bind fun t300 => (impl_SwapColours.j0 k l1 l2 a3 a4 (!t300))) else (impl_SwapColours.j0 k l1 l2 a3 a4 true)) = some (r1, r2) := H
    have A12 := Aside0.mk A120
    clear A120
    by_cases c13 : t299 = true
    ·subst c13
     have H1 : ((impl_within.f a4 0 9).bind fun t300 => (impl_SwapColours.j0 k l1 l2 a3 a4 (!t300))) = some (r1, r2) := by rw [if_pos rfl] at H; exact H
     clear H
     have H := H1
     clear H1
     replace H := Option.bind_eq_some_iff.mp H
     obtain ⟨t300, A140, H⟩ := H
     replace H : (impl_SwapColours.j0 k l1 l2 a3 a4 (!t300)) = some (r1, r2) := H
     have A14 := Aside0.mk A140
     clear A140
     have H' := Aside0.mk H
     clear H
     go_wp2_with (first | ((with_reducible refine gate_callee (f := 39) rfl ?_); refine goesL_ (some 24) rfl rfl Try.func39 (by kernel_rfl) rfl #[.int .i64 a0, .int .i64 a3] rfl (by (try simp only [List.map_toArray, List.map_cons, List.map_nil]); first | done | rfl | (simp only [List.length_drop, List.length_take]; rfl)) ?_; (with_reducible refine (impl_isLand.calls a0 a3 true _ A10.out).mono ?_); rintro e w' ⟨rfl, ⟨nd, rfl⟩⟩; refine ⟨_, rfl, ?_⟩) | (go_at_call 46; (with_reducible refine (impl_areColours.calls k a0 _ _ l2 true _ ?side1 ?side2 A12.out).mono ?_); (case side1 => repeat (first | exact (Kd.C_below HR2.out (by repeat (first | (with_reducible first | exact HB.out | apply below_alloc | apply pw_below_drewN | apply below_drew1) | exact HB.out))) | (with_reducible refine Kd.C_alloc ?_ _) | (with_reducible refine Kd.C_drewN ?_ _) | (with_reducible refine Kd.C_drew ?_))); (case side2 => exact HC2.out); rintro e w' ⟨rfl, ⟨nd, rfl⟩⟩) | (go_at_call 54; (with_reducible refine (impl_within.calls a4 0 9 t300 _ A14.out).mono ?_); rintro e w' ⟨rfl, ⟨nd, rfl⟩⟩))
     go_meet
     case rel => exact ⟨_, (!t300), (by first | rfl | (simp; done) | (simp [*]; done)), H', ⟨by first | omega | exact Nat.le_refl _⟩, ⟨by repeat (first | (with_reducible first | exact HB.out | apply below_alloc | apply pw_below_drewN | apply below_drew1) | exact HB.out)⟩⟩
    ·replace c13 := Bool.eq_false_iff.mpr c13
     subst c13
     have H1 : (impl_SwapColours.j0 k l1 l2 a3 a4 true) = some (r1, r2) := by rw [if_neg (show ¬ (false = true) by decide)] at H; exact H
     clear H
     have H := H1
     clear H1
     have H' := Aside0.mk H
     clear H
     go_wp2_with (first | ((with_reducible refine gate_callee (f := 39) rfl ?_); refine goesL_ (some 24) rfl rfl Try.func39 (by kernel_rfl) rfl #[.int .i64 a0, .int .i64 a3] rfl (by (try simp only [List.map_toArray, List.map_cons, List.map_nil]); first | done | rfl | (simp only [List.length_drop, List.length_take]; rfl)) ?_; (with_reducible refine (impl_isLand.calls a0 a3 true _ A10.out).mono ?_); rintro e w' ⟨rfl, ⟨nd, rfl⟩⟩; refine ⟨_, rfl, ?_⟩) | (go_at_call 46; (with_reducible refine (impl_areColours.calls k a0 _ _ l2 false _ ?side1 ?side2 A12.out).mono ?_); (case side1 => repeat (first | exact (Kd.C_below HR2.out (by repeat (first | (with_reducible first | exact HB.out | apply below_alloc | apply pw_below_drewN | apply below_drew1) | exact HB.out))) | (with_reducible refine Kd.C_alloc ?_ _) | (with_reducible refine Kd.C_drewN ?_ _) | (with_reducible refine Kd.C_drew ?_))); (case side2 => exact HC2.out); rintro e w' ⟨rfl, ⟨nd, rfl⟩⟩))
     go_meet
     case rel => exact ⟨_, (true), (by first | rfl | (simp; done) | (simp [*]; done)), H', ⟨by first | omega | exact Nat.le_refl _⟩, ⟨by repeat (first | (with_reducible first | exact HB.out | apply below_alloc | apply pw_below_drewN | apply below_drew1) | exact HB.out)⟩⟩
   ·replace c11 := Bool.eq_false_iff.mpr c11
    subst c11
    have H1 : (impl_SwapColours.j0 k l1 l2 a3 a4 true) = some (r1, r2) := by rw [if_neg (show ¬ (false = true) by decide)] at H; exact H
    clear H
    have H := H1
    clear H1
    have H' := Aside0.mk H
    clear H
    go_wp2_with (first | ((with_reducible refine gate_callee (f := 39) rfl ?_); refine goesL_ (some 24) rfl rfl Try.func39 (by kernel_rfl) rfl #[.int .i64 a0, .int .i64 a3] rfl (by (try simp only [List.map_toArray, List.map_cons, List.map_nil]); first | done | rfl | (simp only [List.length_drop, List.length_take]; rfl)) ?_; (with_reducible refine (impl_isLand.calls a0 a3 false _ A10.out).mono ?_); rintro e w' ⟨rfl, ⟨nd, rfl⟩⟩; refine ⟨_, rfl, ?_⟩))
    go_meet
    case rel => exact ⟨_, (true), (by first | rfl | (simp; done) | (simp [*]; done)), H', ⟨by first | omega | exact Nat.le_refl _⟩, ⟨by repeat (first | (with_reducible first | exact HB.out | apply below_alloc | apply pw_below_drewN | apply below_drew1) | exact HB.out)⟩⟩
  case rest =>
   clear HC8
   try clear c1
   try clear c2
   try clear p2
   try clear c3
   try clear c7
   try clear c11
   try clear c13
   obtain ⟨kq, x36_7, rfl, HA, HJ7, HB⟩ := hcut
   cases kq with
   | zero => exact absurd HA.out (by simp [impl_SwapColours.j0])
   | succ kj7 =>
    have H := HA.out
    clear HA
    simp only [impl_SwapColours.j0] at H
    by_cases c15 : x36_7 = true
    ·subst c15
     have H1 : (some (([] : List Int), 2)) = some (r1, r2) := by rw [if_pos rfl] at H; exact H
     clear H
     have H := H1
     clear H1
     simp only [Option.some.injEq, Prod.mk.injEq] at H
     obtain ⟨rfl, rfl⟩ := H
     go_wp2
     go_ret2
     exact ⟨_, by first | rfl | (simp [errW_none, errW_some] <;> rfl) | (simp [*, errW_none, errW_some] <;> rfl), by first | exact Kd.R_nil _ _ _ _ _ | exact Kd.N_nil _ _ _ _ _ | exact Kd.V_nil _ _ _ _ _ | exact Kd.Q_nil _ _ _ _ _ | exact Kd.S_nil _ _ _ _ _, by repeat (first | (with_reducible first | exact HB.out | apply below_alloc | apply pw_below_drewN | apply below_drew1) | exact HB.out)⟩
    ·replace c15 := Bool.eq_false_iff.mpr c15
     subst c15
     have H1 : ((impl_firstClash.f l1 l2).bind fun t301 => (if t301 ≥ 0 then (some (([] : List Int), 6)) else (if 0 ≤ a3 then (if a3 < (l2.length : Int) then (if (rd l2 a3) = a4 then (some (([] : List Int), 9)) else ((slices_Clone_int64_int64.f l2).bind fun t303 => (impl_SwapColours.l0 kj7 l1 l2 a4 (rd l2 a3) t303 (([a3] : List Int)) 0))) else (none)) else (none)))) = some (r1, r2) := by rw [if_neg (show ¬ (false = true) by decide)] at H; exact H
     clear H
     have H := H1
     clear H1
     replace H := Option.bind_eq_some_iff.mp H
     obtain ⟨t301, A160, H⟩ := H
     replace H : (if t301 ≥ 0 then (some (([] : List Int), 6)) else (if 0 ≤ a3 then (if a3 < (l2.length : Int) then (if (rd l2 a3) = a4 then (some (([] : List Int), 9)) else ((slices_Clone_int64_int64.f l2).bind fun t303 => (impl_SwapColours.l0 kj7 l1 l2 a4 (rd l2 a3) t303 (([a3] : List Int)) 0))) else (none)) else (none))) = some (r1, r2) := H
     have A16 := Aside0.mk A160
     clear A160
     by_cases c17 : t301 ≥ 0
     ·rw [if_pos c17] at H
      have c17b0 : decide (0 ≤ t301) = true := decide_eq_true c17
      clear c17
      simp only [Option.some.injEq, Prod.mk.injEq] at H
      obtain ⟨rfl, rfl⟩ := H
      go_wp2_with (first | ((with_reducible refine gate_callee (f := 47) rfl ?_); refine goesL_ (some 39) rfl rfl Try.func47 (by kernel_rfl) rfl #[.slice A1 l1.length c1, .slice A2 l2.length c2] rfl (by (try simp only [List.map_toArray, List.map_cons, List.map_nil]); first | done | rfl | (simp only [List.length_drop, List.length_take]; rfl)) ?_; (with_reducible refine (impl_firstClash.calls _ _ l1 _ _ l2 t301 _ ?side1 ?side2 ?side3 ?side4 A16.out).mono ?_); (case side1 => repeat (first | exact (Kd.C_below HR1.out HB.out) | (with_reducible refine Kd.C_alloc ?_ _) | (with_reducible refine Kd.C_drewN ?_ _) | (with_reducible refine Kd.C_drew ?_))); (case side2 => exact HC1.out); (case side3 => repeat (first | exact (Kd.C_below HR2.out HB.out) | (with_reducible refine Kd.C_alloc ?_ _) | (with_reducible refine Kd.C_drewN ?_ _) | (with_reducible refine Kd.C_drew ?_))); (case side4 => exact HC2.out); rintro e w18 ⟨rfl, hb⟩; refine ⟨_, rfl, ?_⟩; have n0_ := Aside0.mk (below_step (by repeat (first | (with_reducible first | exact HB.out | apply below_alloc | apply pw_below_drewN | apply below_drew1) | exact HB.out)) hb); clear HB; have HB := n0_; clear n0_; (try clear hb); (try clear hb2); (try clear hk); (try clear hi)))
      go_ret2
      exact ⟨_, by first | rfl | (simp [errW_none, errW_some] <;> rfl) | (simp [*, errW_none, errW_some] <;> rfl), by first | exact Kd.R_nil _ _ _ _ _ | exact Kd.N_nil _ _ _ _ _ | exact Kd.V_nil _ _ _ _ _ | exact Kd.Q_nil _ _ _ _ _ | exact Kd.S_nil _ _ _ _ _, by repeat (first | (with_reducible first | exact HB.out | apply below_alloc | apply pw_below_drewN | apply below_drew1) | exact HB.out)⟩
     ·rw [if_neg c17] at H
      have c17b0 : decide (0 ≤ t301) = false := decide_eq_false c17
      clear c17
      by_cases c19 : 0 ≤ a3
      ·rw [if_pos c19] at H
       have c19b0 : decide (0 ≤ a3) = true := decide_eq_true c19
       clear c19
       by_cases c20 : a3 < (l2.length : Int)
       ·rw [if_pos c20] at H
        have c20b0 : decide (a3 < (l2.length : Int)) = true := decide_eq_true c20
        clear c20
        by_cases c21 : (rd l2 a3) = a4
        ·rw [if_pos c21] at H
         have c21b0 : ((rd l2 a3) == a4) = true := beq_iff_eq.mpr c21
         have c21b1 : ((rd l2 a3) != a4) = false := bne_eq_false_iff_eq.mpr c21
         clear c21
         simp only [Option.some.injEq, Prod.mk.injEq] at H
         obtain ⟨rfl, rfl⟩ := H
         go_wp2_with (first | ((with_reducible refine gate_callee (f := 47) rfl ?_); refine goesL_ (some 39) rfl rfl Try.func47 (by kernel_rfl) rfl #[.slice A1 l1.length c1, .slice A2 l2.length c2] rfl (by (try simp only [List.map_toArray, List.map_cons, List.map_nil]); first | done | rfl | (simp only [List.length_drop, List.length_take]; rfl)) ?_; (with_reducible refine (impl_firstClash.calls _ _ l1 _ _ l2 t301 _ ?side1 ?side2 ?side3 ?side4 A16.out).mono ?_); (case side1 => repeat (first | exact (Kd.C_below HR1.out HB.out) | (with_reducible refine Kd.C_alloc ?_ _) | (with_reducible refine Kd.C_drewN ?_ _) | (with_reducible refine Kd.C_drew ?_))); (case side2 => exact HC1.out); (case side3 => repeat (first | exact (Kd.C_below HR2.out HB.out) | (with_reducible refine Kd.C_alloc ?_ _) | (with_reducible refine Kd.C_drewN ?_ _) | (with_reducible refine Kd.C_drew ?_))); (case side4 => exact HC2.out); rintro e w22 ⟨rfl, hb⟩; refine ⟨_, rfl, ?_⟩; have n0_ := Aside0.mk (below_step (by repeat (first | (with_reducible first | exact HB.out | apply below_alloc | apply pw_below_drewN | apply below_drew1) | exact HB.out)) hb); clear HB; have HB := n0_; clear n0_; (try clear hb); (try clear hb2); (try clear hk); (try clear hi); have p302 : 0 ≤ (a3 : Int) := od_; have q302 : a3 < (l2.length : Int) := od_; obtain ⟨ad302, e302, hx302_0⟩ := Kd.at_int HR2.out a3 p302 q302; cases e302; replace hx302_0 := (HB.out.cell (World.block_lt_of_cell? w _ hx302_0)).trans hx302_0; replace p302 := eq_true p302; replace q302 := eq_true q302))
         go_ret2
         exact ⟨_, by first | rfl | (simp [errW_none, errW_some] <;> rfl) | (simp [*, errW_none, errW_some] <;> rfl), by first | exact Kd.R_nil _ _ _ _ _ | exact Kd.N_nil _ _ _ _ _ | exact Kd.V_nil _ _ _ _ _ | exact Kd.Q_nil _ _ _ _ _ | exact Kd.S_nil _ _ _ _ _, by repeat (first | (with_reducible first | exact HB.out | apply below_alloc | apply pw_below_drewN | apply below_drew1) | exact HB.out)⟩
        ·rw [if_neg c21] at H
         have c21b0 : ((rd l2 a3) == a4) = false := beq_eq_false_iff_ne.mpr c21
         have c21b1 : ((rd l2 a3) != a4) = true := bne_iff_ne.mpr c21
         replace H := Option.bind_eq_some_iff.mp H
         obtain ⟨t303, A230, H⟩ := H
         replace H : (impl_SwapColours.l0 kj7 l1 l2 a4 (rd l2 a3) t303 (([a3] : List Int)) 0) = some (r1, r2) := H
         have A23 := Aside0.mk A230
         clear A230
         obtain ⟨y306, hy306⟩ : ∃ y_ : List Int, y_ = (([a3] : List Int)) := ⟨_, rfl⟩
         replace H : (impl_SwapColours.l0 kj7 l1 l2 a4 (rd l2 a3) t303 y306 0) = some (r1, r2) := by first | (rw [hy306]; with_reducible exact H) | (have H2_ := (Option.bind_some _ _).symm.trans H; rw [hy306]; with_reducible exact H2_) | (have H2_ := (Option.bind_some _ _).symm.trans H; with_reducible exact H2_) | with_reducible exact H | (rw [hy306]; exact H) | exact H
         have Ny306 := Aside0.mk hy306
         clear hy306
         have H' := Aside0.mk H
         clear H
         go_wp2_with (first | ((with_reducible refine gate_callee (f := 47) rfl ?_); refine goesL_ (some 39) rfl rfl Try.func47 (by kernel_rfl) rfl #[.slice A1 l1.length c1, .slice A2 l2.length c2] rfl (by (try simp only [List.map_toArray, List.map_cons, List.map_nil]); first | done | rfl | (simp only [List.length_drop, List.length_take]; rfl)) ?_; (with_reducible refine (impl_firstClash.calls _ _ l1 _ _ l2 t301 _ ?side1 ?side2 ?side3 ?side4 A16.out).mono ?_); (case side1 => repeat (first | exact (Kd.C_below HR1.out HB.out) | (with_reducible refine Kd.C_alloc ?_ _) | (with_reducible refine Kd.C_drewN ?_ _) | (with_reducible refine Kd.C_drew ?_))); (case side2 => exact HC1.out); (case side3 => repeat (first | exact (Kd.C_below HR2.out HB.out) | (with_reducible refine Kd.C_alloc ?_ _) | (with_reducible refine Kd.C_drewN ?_ _) | (with_reducible refine Kd.C_drew ?_))); (case side4 => exact HC2.out); rintro e w24 ⟨rfl, hb⟩; refine ⟨_, rfl, ?_⟩; have n0_ := Aside0.mk (below_step (by repeat (first | (with_reducible first | exact HB.out | apply below_alloc | apply pw_below_drewN | apply below_drew1) | exact HB.out)) hb); clear HB; have HB := n0_; clear n0_; (try clear hb); (try clear hb2); (try clear hk); (try clear hi); have p302 : 0 ≤ (a3 : Int) := od_; have q302 : a3 < (l2.length : Int) := od_; obtain ⟨ad302, e302, hx302_0⟩ := Kd.at_int HR2.out a3 p302 q302; cases e302; replace hx302_0 := (HB.out.cell (World.block_lt_of_cell? w _ hx302_0)).trans hx302_0; replace p302 := eq_true p302; replace q302 := eq_true q302) | ((with_reducible refine gate_callee (f := 55) rfl ?_); refine goesL_ (some 49) rfl rfl Try.func55 (by kernel_rfl) rfl #[.slice (some ad302) l2.length c2] rfl (by (try simp only [List.map_toArray, List.map_cons, List.map_nil]); first | done | rfl | (simp only [List.length_drop, List.length_take]; rfl)) ?_; (with_reducible refine (slices_Clone_int64_int64.calls _ _ l2 t303 _ ?side1 ?side2 A23.out).mono ?_); (case side1 => repeat (first | exact (Kd.C_below HR2.out HB.out) | (with_reducible refine Kd.C_alloc ?_ _) | (with_reducible refine Kd.C_drewN ?_ _) | (with_reducible refine Kd.C_drew ?_))); (case side2 => exact HC2.out); rintro e w25 ⟨v304, rfl, ho0, hb⟩; refine ⟨_, rfl, ?_⟩; have n0_ := Aside0.mk (Kd.R_lower ho0 (below_size (by repeat (first | (with_reducible first | exact HB.out | apply below_alloc | apply pw_below_drewN | apply below_drew1) | exact HB.out)))); have n1_ := Aside0.mk (below_step (by repeat (first | (with_reducible first | exact HB.out | apply below_alloc | apply pw_below_drewN | apply below_drew1) | exact HB.out)) hb); clear HB; have HO305 := n0_; have HB := n1_; clear n0_ n1_; (try clear hb); (try clear hb2); (try clear hk); (try clear hi); (try clear ho0)) | ((with_reducible refine gate_dst (N := 51) rfl ?_); refine Kd.R_lit (Kd.int .i64) _ 2 ?hg (N := 51) ?hd (xs := ([a3] : List Int)) (inner := [.int .i64 a3]) (ok := fun _ => True) (okp := fun _ => True) ?hr ?hp (fun _ hk => hk) trivial (Below.refl _ _) (Nat.le_refl _) (by simp) ?_; (case hd => rfl); (case hg => rfl); (case hr => first | (go_simp; done) | (go_simp; rfl)); (case hp => exact (Reps.one (show Kd.M (Kd.int .i64) _ _ _ a3 [.int .i64 a3] from rfl) (Reps.none _ _))); intro v307 w26 ho27 hb hg_ hnew_; clear hg_ hnew_; (first | rw [← Ny306.out] at ho27 | (simp only [Int.reduceToNat] at ho27; rw [← Ny306.out] at ho27)); have n0_ := Aside0.mk (Kd.R_elder' (by (with_reducible repeat (first | apply Kd.R_alloc | apply Kd.R_drewN | apply Kd.R_drew)); exact HO305.out) (Kd.R_base ho27) hb); have n1_ := Aside0.mk (Kd.R_lower (Kd.R_new' ho27 (Kd.R_lt (by (with_reducible repeat (first | apply Kd.R_alloc | apply Kd.R_drewN | apply Kd.R_drew)); exact HO305.out))) (below_size (by repeat (first | (with_reducible first | exact HB.out | apply below_alloc | apply pw_below_drewN | apply below_drew1) | exact HB.out)))); have n2_ := Aside0.mk (below_step (by repeat (first | (with_reducible first | exact HB.out | apply below_alloc | apply pw_below_drewN | apply below_drew1) | exact HB.out)) hb); clear HO305; clear HB; have HO305 := n0_; have HO308 := n1_; have HB := n2_; clear n0_ n1_ n2_; clear hb ho27))
         go_loopg [14, 15] kj7 (fun kq v14 v15 w' => ∃ (x13_2 : List Int) (x14_2 : List Int) (x15_2 : Int), v15 = .int .i64 x15_2 ∧ Aside0 (impl_SwapColours.l0 kq l1 l2 a4 (rd l2 a3) x13_2 x14_2 x15_2 = some (r1, r2)) ∧ Aside0 (kq ≤ kj7) ∧ Aside0 (Kd.R (Kd.int .i64) 2 w' w.heap.size (fun k_ => some k_ ≠ (v14 : Value).ownBlock) v304 x13_2) ∧ Aside0 (Kd.R (Kd.int .i64) 2 w' w.heap.size (fun k_ => some k_ ≠ (v304 : Value).ownBlock) v14 x14_2) ∧ Aside0 (Below w.heap.size w w'))
         case atStart => exact ⟨(t303), (y306), (0), (by first | rfl | (simp; done) | (simp [*]; done)), H', ⟨Nat.le_refl _⟩, ⟨by (with_reducible repeat (first | apply Kd.R_alloc | apply Kd.R_drewN | apply Kd.R_drew)); exact Kd.R_mono HO305.out (fun _ hk => hk.2)⟩, ⟨by (with_reducible repeat (first | apply Kd.R_alloc | apply Kd.R_drewN | apply Kd.R_drew)); exact Kd.R_mono HO308.out (fun _ hk => hk.2)⟩, ⟨by repeat (first | (with_reducible first | exact HB.out | apply below_alloc | apply pw_below_drewN | apply below_drew1) | exact HB.out)⟩⟩
         case round =>
          clear H'
          try clear c1
          try clear c2
          try clear p2
          try clear c3
          try clear p3
          try clear q3
          try clear hx3
          try clear c4
          try clear c5
          try clear c7
          try clear c11
          try clear c13
          try clear c15
          try clear c17
          try clear c17b0
          try clear c19
          try clear c19b0
          try clear c20
          try clear c20b0
          try clear c21
          try clear c21b0
          try clear c21b1
          try clear c22
          try clear hx302_0
          try clear p2
          try clear p302
          try clear q302
          obtain ⟨x13_2, x14_2, x15_2, rfl, HA, HK2, HO_13, HO_14, HB⟩ := hrel
          cases gk with
          | zero => exact absurd HA.out (by simp [impl_SwapColours.l0])
          | succ k2 =>
           have H := HA.out
           clear HA
           simp only [impl_SwapColours.l0] at H
           by_cases c28 : x15_2 < (x14_2.length : Int)
           ·rw [if_pos c28] at H
            have c28b0 : decide (x15_2 < (x14_2.length : Int)) = true := decide_eq_true c28
            clear c28
            by_cases c29 : 0 ≤ x15_2
            ·rw [if_pos c29] at H
             have c29b0 : decide (0 ≤ x15_2) = true := decide_eq_true c29
             clear c29
             by_cases c30 : 0 ≤ (rd x14_2 x15_2)
             ·rw [if_pos c30] at H
              have c30b0 : decide (0 ≤ (rd x14_2 x15_2)) = true := decide_eq_true c30
              clear c30
              by_cases c31 : (rd x14_2 x15_2) < (l2.length : Int)
              ·rw [if_pos c31] at H
               have c31b0 : decide ((rd x14_2 x15_2) < (l2.length : Int)) = true := decide_eq_true c31
               clear c31
               by_cases c32 : (rd x14_2 x15_2) < (x13_2.length : Int)
               ·rw [if_pos c32] at H
                have c32b0 : decide ((rd x14_2 x15_2) < (x13_2.length : Int)) = true := decide_eq_true c32
                clear c32
                obtain ⟨y312, hy312⟩ : ∃ y_ : List Int, y_ = (x13_2.set ((rd x14_2 x15_2) : Int).toNat (wrap64 ((wrap64 ((rd l2 a3) + a4)) - (rd l2 (rd x14_2 x15_2))))) := ⟨_, rfl⟩
                replace H : ((impl_neighboursOf.f k2 l1 (rd x14_2 x15_2)).bind fun t314 => (impl_SwapColours.l1 k2 l1 l2 a4 (rd l2 a3) y312 x14_2 x15_2 t314 (t314.length : Int) 0)) = some (r1, r2) := by first | (rw [hy312]; with_reducible exact H) | (have H2_ := (Option.bind_some _ _).symm.trans H; rw [hy312]; with_reducible exact H2_) | (have H2_ := (Option.bind_some _ _).symm.trans H; with_reducible exact H2_) | with_reducible exact H | (rw [hy312]; exact H) | exact H
                have Ny312 := Aside0.mk hy312
                clear hy312
                replace H := Option.bind_eq_some_iff.mp H
                obtain ⟨t314, A340, H⟩ := H
                replace H : (impl_SwapColours.l1 k2 l1 l2 a4 (rd l2 a3) y312 x14_2 x15_2 t314 (t314.length : Int) 0) = some (r1, r2) := H
                have A34 := Aside0.mk A340
                clear A340
                have H' := Aside0.mk H
                clear H
                obtain ⟨Ao35, co35, eo35⟩ := Kd.R_slice HO_14.out
                subst eo35
                try go_wp2
                have n0_ := Aside0.mk (Kd.R_drew HO_13.out)
                have n1_ := Aside0.mk (Kd.R_drew HO_14.out)
                have n2_ := Aside0.mk (below_drew1 HB.out)
                clear HO_13
                clear HO_14
                clear HB
                have HO_13 := n0_
                have HO_14 := n1_
                have HB := n2_
                clear n0_ n1_ n2_
                have p309 : 0 ≤ (x15_2 : Int) := od_
                have q309 : x15_2 < (x14_2.length : Int) := od_
                obtain ⟨ad309, e309, hx309_0⟩ := Kd.at_int (Kd.R_reads' HO_14.out).2.2 x15_2 p309 q309
                cases e309
                replace p309 := eq_true p309
                replace q309 := eq_true q309
                have p310 : 0 ≤ (x15_2 : Int) := od_
                have q310 : x15_2 < (x14_2.length : Int) := od_
                obtain ⟨ad310, e310, hx310_0⟩ := Kd.at_int (Kd.R_reads' HO_14.out).2.2 x15_2 p310 q310
                obtain rfl : ad309 = ad310 := (by injection e310)
                replace p310 := eq_true p310
                replace q310 := eq_true q310
                have p311 : 0 ≤ ((rd x14_2 x15_2) : Int) := od_
                have q311 : (rd x14_2 x15_2) < (l2.length : Int) := od_
                obtain ⟨ad311, e311, hx311_0⟩ := Kd.at_int HR2.out (rd x14_2 x15_2) p311 q311
                have hw311_0 := hx311_0
                obtain rfl : ad302 = ad311 := (by injection e311)
                replace hx311_0 := (HB.out.cell (World.block_lt_of_cell? w _ hx311_0)).trans hx311_0
                replace p311 := eq_true p311
                replace q311 := eq_true q311
                have p33 : 0 ≤ ((rd x14_2 x15_2) : Int) := od_
                have q33 : ((rd x14_2 x15_2) : Int) < ((x13_2.length : Int) : Int) := od_
                obtain ⟨go33, co33, eo33, gb33, gl33, cl33, HG33⟩ := Kd.R_form HO_13.out (by omega)
                (first | cases eo33 | (injection eo33 with ea_ en_ ec_; (first | subst ea_ | (injection ea_ with ea_; subst ea_)); subst ec_; clear en_))
                have GB33 := Aside0.mk gb33
                have GG33 := Aside0.mk HG33
                clear gb33 gl33 HG33
                obtain ⟨hx33_0, hf33_0⟩ := Kd.R_celln 0 HO_13.out ((rd x14_2 x15_2) : Int) p33 q33
                replace p33 := eq_true p33
                replace q33 := eq_true q33
                have HP37 := Kd.R_putn HO_13.out ((rd x14_2 x15_2) : Int) (wrap64 ((wrap64 ((rd l2 a3) + a4)) - (rd l2 (rd x14_2 x15_2))))
                rw [← Ny312.out] at HP37
                have HQ37 := Aside0.mk HP37
                clear HP37
                refine start_ (n := 18) (S := fun w' => w'.cell? (ad309.add (x15_2).toNat) = some (.int .i64 (rd x14_2 x15_2)) ∧ w'.cell? (ad309.add (x15_2).toNat) = some (.int .i64 (rd x14_2 x15_2)) ∧ w'.cell? (ad302.add ((rd x14_2 x15_2)).toNat) = some (.int .i64 (rd l2 (rd x14_2 x15_2)))) (ds := [17]) #[false, false, false, false, false, false, false, false, false, false, false, false, false, false, false, false, false, false] (by kernel_rfl) rfl rfl ⟨hx309_0, hx310_0, ((HB.out.cell (World.block_lt_of_cell? w _ hw311_0)).trans hw311_0)⟩ (fun hHeld => ?_); refine with_tabW impl_SwapColours.tab14 impl_SwapColours.bits14 (fun HT_ HW_ => ?_)
                generalize wr.drew = w36 at HO_13 HO_14 HB GG33 HQ37 hf33_0 hx309_0 hx310_0 hx311_0 hx33_0 hHeld ⊢
                refine pure_ (i := 0) (N := some 58) (v := ?_) (a' := ?_) #[true, false, false, false, false, false, false, false, false, false, false, false, false, false, false, false, false, false] rfl rfl (any_of HT_.out (by kernel_rfl)) (fun _ _ _ h => h) (Or.inl ⟨by rfl, ?_⟩) ?_ ?_
                rotate_left
                ·intro w'
                 go_simp
                 with_reducible rfl
                rotate_left
                ·simp only [Act.put, List.setIfInBounds_toArray, List.set_cons_zero, List.set_cons_succ, i64_w, i32_w]
                 rfl
                refine pure_ (i := 1) (N := some 59) (v := ?_) (a' := ?_) #[true, true, false, false, false, false, false, false, false, false, false, false, false, false, false, false, false, false] rfl rfl (any_of HT_.out (by kernel_rfl)) (fun _ _ _ h => h) (Or.inl ⟨by rfl, ?_⟩) ?_ ?_
                rotate_left
                ·intro w'
                 go_simp
                 with_reducible rfl
                rotate_left
                ·simp only [Act.put, List.setIfInBounds_toArray, List.set_cons_zero, List.set_cons_succ, i64_w, i32_w]
                 rfl
                refine pure_ (i := 2) (N := some 60) (v := ?_) (a' := ?_) #[true, true, true, false, false, false, false, false, false, false, false, false, false, false, false, false, false, false] rfl rfl (any_of HT_.out (by kernel_rfl)) (fun _ _ _ h => h) (Or.inl ⟨by rfl, ?_⟩) ?_ ?_
                rotate_left
                ·intro w'
                 go_simp
                 with_reducible rfl
                rotate_left
                ·simp only [Act.put, List.setIfInBounds_toArray, List.set_cons_zero, List.set_cons_succ, i64_w, i32_w]
                 rfl
                refine pure_ (i := 3) (N := some 61) (v := ?_) (a' := ?_) #[true, true, true, true, false, false, false, false, false, false, false, false, false, false, false, false, false, false] rfl rfl (any_of HT_.out (by kernel_rfl)) (fun _ _ _ h => h) (Or.inl ⟨by rfl, ?_⟩) ?_ ?_
                rotate_left
                ·intro w'
                 go_simp
                 with_reducible rfl
                rotate_left
                ·simp only [Act.put, List.setIfInBounds_toArray, List.set_cons_zero, List.set_cons_succ, i64_w, i32_w]
                 rfl
                refine pure_ (i := 5) (N := some 63) (v := ?_) (a' := ?_) #[true, true, true, true, false, true, false, false, false, false, false, false, false, false, false, false, false, false] rfl rfl (any_of HT_.out (by kernel_rfl)) (fun _ _ _ h => h) (Or.inl ⟨by rfl, ?_⟩) ?_ ?_
                rotate_left
                ·intro w'
                 go_simp
                 with_reducible rfl
                rotate_left
                ·simp only [Act.put, List.setIfInBounds_toArray, List.set_cons_zero, List.set_cons_succ, i64_w, i32_w]
                 rfl
                refine pure_ (i := 6) (N := some 64) (v := ?_) (a' := ?_) #[true, true, true, true, false, true, true, false, false, false, false, false, false, false, false, false, false, false] rfl rfl (any_of HT_.out (by kernel_rfl)) (fun _ _ _ h => h) (Or.inl ⟨by rfl, ?_⟩) ?_ ?_
                rotate_left
                ·intro w'
                 go_simp
                 with_reducible rfl
                rotate_left
                ·simp only [Act.put, List.setIfInBounds_toArray, List.set_cons_zero, List.set_cons_succ, i64_w, i32_w]
                 rfl
                refine pure_ (i := 7) (N := some 65) (v := ?_) (a' := ?_) #[true, true, true, true, false, true, true, true, false, false, false, false, false, false, false, false, false, false] rfl rfl (any_of HT_.out (by kernel_rfl)) (fun _ _ _ h => h) (Or.inl ⟨by rfl, ?_⟩) ?_ ?_
                rotate_left
                ·intro w'
                 go_simp
                 with_reducible rfl
                rotate_left
                ·simp only [Act.put, List.setIfInBounds_toArray, List.set_cons_zero, List.set_cons_succ, i64_w, i32_w]
                 rfl
                refine pure_ (i := 8) (N := some 66) (v := ?_) (a' := ?_) #[true, true, true, true, false, true, true, true, true, false, false, false, false, false, false, false, false, false] rfl rfl (any_of HT_.out (by kernel_rfl)) (fun _ _ _ h => h) (Or.inl ⟨by rfl, ?_⟩) ?_ ?_
                rotate_left
                ·intro w'
                 go_simp
                 with_reducible rfl
                rotate_left
                ·simp only [Act.put, List.setIfInBounds_toArray, List.set_cons_zero, List.set_cons_succ, i64_w, i32_w]
                 rfl
                refine pure_ (i := 9) (N := some 67) (v := ?_) (a' := ?_) #[true, true, true, true, false, true, true, true, true, true, false, false, false, false, false, false, false, false] rfl rfl (any_of HT_.out (by kernel_rfl)) (fun _ _ _ h => h) (Or.inl ⟨by rfl, ?_⟩) ?_ ?_
                rotate_left
                ·intro w'
                 go_simp
                 with_reducible rfl
                rotate_left
                ·simp only [Act.put, List.setIfInBounds_toArray, List.set_cons_zero, List.set_cons_succ, i64_w, i32_w]
                 rfl
                refine pure_ (i := 10) (N := some 68) (v := ?_) (a' := ?_) #[true, true, true, true, false, true, true, true, true, true, true, false, false, false, false, false, false, false] rfl rfl (any_of HT_.out (by kernel_rfl)) (fun _ _ _ h => h) (Or.inl ⟨by rfl, ?_⟩) ?_ ?_
                rotate_left
                ·intro w'
                 go_simp
                 with_reducible rfl
                rotate_left
                ·simp only [Act.put, List.setIfInBounds_toArray, List.set_cons_zero, List.set_cons_succ, i64_w, i32_w]
                 rfl
                refine pure_ (i := 11) (N := some 69) (v := ?_) (a' := ?_) #[true, true, true, true, false, true, true, true, true, true, true, true, false, false, false, false, false, false] rfl rfl (any_of HT_.out (by kernel_rfl)) (fun _ _ _ h => h) (Or.inl ⟨by rfl, ?_⟩) ?_ ?_
                rotate_left
                ·intro w'
                 go_simp
                 with_reducible rfl
                rotate_left
                ·simp only [Act.put, List.setIfInBounds_toArray, List.set_cons_zero, List.set_cons_succ, i64_w, i32_w]
                 rfl
                refine take_ (i := 4) (N := some 62) (v := ?_) (a' := ?_) #[true, true, true, true, true, true, true, true, true, true, true, true, false, false, false, false, false, false] rfl rfl (take_ofW HT_.out HW_.out (by kernel_rfl)) (fun _ _ _ h => h) (Or.inl ⟨by rfl, ?_⟩) hHeld ?_ ?_
                rotate_left
                ·rintro w' ⟨s0, s1, s2⟩
                 go_simp
                 with_reducible rfl
                rotate_left
                ·simp only [Act.put, List.setIfInBounds_toArray, List.set_cons_zero, List.set_cons_succ, i64_w, i32_w]
                 rfl
                refine take_ (i := 12) (N := some 70) (v := ?_) (a' := ?_) #[true, true, true, true, true, true, true, true, true, true, true, true, true, false, false, false, false, false] rfl rfl (take_ofW HT_.out HW_.out (by kernel_rfl)) (fun _ _ _ h => h) (Or.inl ⟨by rfl, ?_⟩) hHeld ?_ ?_
                rotate_left
                ·rintro w' ⟨s0, s1, s2⟩
                 go_simp
                 with_reducible rfl
                rotate_left
                ·simp only [Act.put, List.setIfInBounds_toArray, List.set_cons_zero, List.set_cons_succ, i64_w, i32_w]
                 rfl
                refine pure_ (i := 13) (N := some 71) (v := ?_) (a' := ?_) #[true, true, true, true, true, true, true, true, true, true, true, true, true, true, false, false, false, false] rfl rfl (any_of HT_.out (by kernel_rfl)) (fun _ _ _ h => h) (Or.inl ⟨by rfl, ?_⟩) ?_ ?_
                rotate_left
                ·intro w'
                 go_simp
                 with_reducible rfl
                rotate_left
                ·simp only [Act.put, List.setIfInBounds_toArray, List.set_cons_zero, List.set_cons_succ, i64_w, i32_w]
                 rfl
                refine take_ (i := 14) (N := some 72) (v := ?_) (a' := ?_) #[true, true, true, true, true, true, true, true, true, true, true, true, true, true, true, false, false, false] rfl rfl (take_ofW HT_.out HW_.out (by kernel_rfl)) (fun _ _ _ h => h) (Or.inl ⟨by rfl, ?_⟩) hHeld ?_ ?_
                rotate_left
                ·rintro w' ⟨s0, s1, s2⟩
                 go_simp
                 with_reducible rfl
                rotate_left
                ·simp only [Act.put, List.setIfInBounds_toArray, List.set_cons_zero, List.set_cons_succ, i64_w, i32_w]
                 rfl
                refine pure_ (i := 15) (N := some 73) (v := ?_) (a' := ?_) #[true, true, true, true, true, true, true, true, true, true, true, true, true, true, true, true, false, false] rfl rfl (any_of HT_.out (by kernel_rfl)) (fun _ _ _ h => h) (Or.inl ⟨by rfl, ?_⟩) ?_ ?_
                rotate_left
                ·intro w'
                 go_simp
                 with_reducible rfl
                rotate_left
                ·simp only [Act.put, List.setIfInBounds_toArray, List.set_cons_zero, List.set_cons_succ, i64_w, i32_w]
                 rfl
                refine pure_ (i := 16) (N := some 74) (v := ?_) (a' := ?_) #[true, true, true, true, true, true, true, true, true, true, true, true, true, true, true, true, true, false] rfl rfl (any_of HT_.out (by kernel_rfl)) (fun _ _ _ h => h) (Or.inl ⟨by rfl, ?_⟩) ?_ ?_
                rotate_left
                ·intro w'
                 go_simp
                 with_reducible rfl
                rotate_left
                ·simp only [Act.put, List.setIfInBounds_toArray, List.set_cons_zero, List.set_cons_succ, i64_w, i32_w]
                 rfl
                refine last_ (i := 17) (N := none) #[true, true, true, true, true, true, true, true, true, true, true, true, true, true, true, true, true, true] rfl rfl (one_of HT_.out (by kernel_rfl)) (by decide) (fun K hK => ?_)
                refine skip_ (w1 := ?_) (by rfl) rfl ?_ ?_
                rotate_left
                ·go_simp
                 rfl
                refine hK.out _ _ ?_
                clear hK K
                refine done_ (done_of HT_.out (by kernel_rfl)) ?_
                have p313 : 0 ≤ (x15_2 : Int) := od_
                have q313 : x15_2 < (x14_2.length : Int) := od_
                obtain ⟨ad313, e313, hx313_0⟩ := Kd.at_int (Kd.R_reads' HO_14.out).2.2 x15_2 p313 q313
                obtain rfl : ad309 = ad313 := (by injection e313)
                have hn313_0 : ad309.block ≠ go33 := Kd.own_blk (Kd.R_away HO_14.out (fun k_ hk e_ => (hk) (by subst e_; rfl)))
                replace hx313_0 := (cell_far (p := ⟨go33, ((rd x14_2 x15_2) : Int).toNat, none⟩) (by first | (rw [add_block]; exact hn313_0) | (show (Addr.add _ _).block ≠ _; rw [add_block]; exact hn313_0) | exact hn313_0) (.int .i64 (wrap64 ((wrap64 ((rd l2 a3) + a4)) - (rd l2 (rd x14_2 x15_2)))))).trans hx313_0
                clear hn313_0
                replace p313 := eq_true p313
                replace q313 := eq_true q313
                try go_wp2_with (first | ((with_reducible refine gate_callee (f := 40) rfl ?_); refine goesL_ (some 80) rfl rfl Try.func40 (by kernel_rfl) rfl #[.slice A1 l1.length c1, .int .i64 (rd x14_2 x15_2)] rfl (by (try simp only [List.map_toArray, List.map_cons, List.map_nil]); first | done | rfl | (simp only [List.length_drop, List.length_take]; rfl)) ?_; (with_reducible refine (impl_neighboursOf.calls k2 _ _ l1 (rd x14_2 x15_2) t314 _ ?side1 ?side2 A34.out).mono ?_); (case side1 => exact Kd.C_below HR1.out (by repeat (first | (with_reducible first | exact HB.out | apply below_alloc | apply pw_below_drewN | apply below_drew1 | refine below_set ?_ GB33.out) | exact HB.out))); (case side2 => exact HC1.out); rintro e w38 ⟨v315, rfl, ho0, hb⟩; refine ⟨_, rfl, ?_⟩; have n0_ := Aside0.mk (Kd.R_elder' (by (with_reducible repeat (first | apply Kd.R_alloc | apply Kd.R_drewN | apply Kd.R_drew)); exact HQ37.out) (Kd.R_base ho0) hb); have n1_ := Aside0.mk (Kd.R_elder' (by (with_reducible repeat (first | apply Kd.R_alloc | apply Kd.R_drewN | apply Kd.R_drew)); exact (Kd.R_mono (Kd.R_far (p := ⟨go33, ((rd x14_2 x15_2) : Int).toNat, none⟩) (Kd.R_mono HO_14.out (fun k_ hk => (⟨hk, fun e_ => hk (by rw [e_]; rfl)⟩ : _ ∧ k_ ≠ go33))) (fun _ hk => hk.2) (.int .i64 (wrap64 ((wrap64 ((rd l2 a3) + a4)) - (rd l2 (rd x14_2 x15_2)))))) (fun _ h_ => h_.1))) (Kd.R_base ho0) hb); have n2_ := Aside0.mk (Kd.R_lower (Kd.R_new' (Kd.R_new' ho0 (Kd.R_lt (by (with_reducible repeat (first | apply Kd.R_alloc | apply Kd.R_drewN | apply Kd.R_drew)); exact HQ37.out))) (Kd.R_lt (by (with_reducible repeat (first | apply Kd.R_alloc | apply Kd.R_drewN | apply Kd.R_drew)); exact (Kd.R_mono (Kd.R_far (p := ⟨go33, ((rd x14_2 x15_2) : Int).toNat, none⟩) (Kd.R_mono HO_14.out (fun k_ hk => (⟨hk, fun e_ => hk (by rw [e_]; rfl)⟩ : _ ∧ k_ ≠ go33))) (fun _ hk => hk.2) (.int .i64 (wrap64 ((wrap64 ((rd l2 a3) + a4)) - (rd l2 (rd x14_2 x15_2)))))) (fun _ h_ => h_.1))))) (below_size (by repeat (first | (with_reducible first | exact HB.out | apply below_alloc | apply pw_below_drewN | apply below_drew1 | refine below_set ?_ GB33.out) | exact HB.out)))); have n3_ := Aside0.mk (below_step (by repeat (first | (with_reducible first | exact HB.out | apply below_alloc | apply pw_below_drewN | apply below_drew1 | refine below_set ?_ GB33.out) | exact HB.out)) hb); clear HO_13; clear HO_14; clear HB; have HO_13 := n0_; have HO_14 := n1_; have HO316 := n2_; have HB := n3_; clear n0_ n1_ n2_ n3_; (try clear hb); (try clear hb2); (try clear hk); (try clear hi); (try clear ho0); obtain ⟨Ao39, co39, eo39⟩ := Kd.R_slice HO316.out; subst eo39))
                go_loopg [14, 82] k2 (fun kq v14 v82 w' => ∃ (x14_3 : List Int) (x82_3 : Int), v82 = .int .i64 x82_3 ∧ Aside0 (impl_SwapColours.l1 kq l1 l2 a4 (rd l2 a3) y312 x14_3 x15_2 t314 (t314.length : Int) x82_3 = some (r1, r2)) ∧ Aside0 (kq ≤ k2) ∧ Aside0 (Kd.R (Kd.int .i64) 2 w' w.heap.size (fun k_ => some k_ ≠ (v14 : Value).ownBlock ∧ some k_ ≠ ((.slice Ao39 t314.length co39) : Value).ownBlock) (.slice (some ⟨go33, 0, none⟩) x13_2.length co33) y312) ∧ Aside0 (Kd.R (Kd.int .i64) 2 w' w.heap.size (fun k_ => some k_ ≠ ((.slice (some ⟨go33, 0, none⟩) x13_2.length co33) : Value).ownBlock ∧ some k_ ≠ ((.slice Ao39 t314.length co39) : Value).ownBlock) v14 x14_3) ∧ Aside0 (Kd.R (Kd.int .i64) 2 w' w.heap.size (fun k_ => some k_ ≠ ((.slice (some ⟨go33, 0, none⟩) x13_2.length co33) : Value).ownBlock ∧ some k_ ≠ (v14 : Value).ownBlock) (.slice Ao39 t314.length co39) t314) ∧ Aside0 (Below w.heap.size w w'))
                case atStart => exact ⟨(x14_2), (0), (by first | rfl | (simp; done) | (simp [*]; done)), H', ⟨Nat.le_refl _⟩, ⟨by (with_reducible repeat (first | apply Kd.R_alloc | apply Kd.R_drewN | apply Kd.R_drew)); exact HO_13.out⟩, ⟨by (with_reducible repeat (first | apply Kd.R_alloc | apply Kd.R_drewN | apply Kd.R_drew)); exact HO_14.out⟩, ⟨by (with_reducible repeat (first | apply Kd.R_alloc | apply Kd.R_drewN | apply Kd.R_drew)); exact Kd.R_mono HO316.out (fun _ hk => ⟨hk.1.2, hk.2⟩)⟩, ⟨by repeat (first | (with_reducible first | exact HB.out | apply below_alloc | apply pw_below_drewN | apply below_drew1) | exact HB.out)⟩⟩
                case round =>
                 clear H'
                 try clear c1
                 try clear c2
                 try clear p2
                 try clear c3
                 try clear p3
                 try clear q3
                 try clear hx3
                 try clear c4
                 try clear c5
                 try clear p6
                 try clear c7
                 try clear c11
                 try clear c13
                 try clear c15
                 try clear c17
                 try clear c17b0
                 try clear c19
                 try clear c19b0
                 try clear c20
                 try clear c20b0
                 try clear c21
                 try clear c21b0
                 try clear c21b1
                 try clear c22
                 try clear c28
                 try clear c28b0
                 try clear c29
                 try clear c29b0
                 try clear c30
                 try clear c30b0
                 try clear p30
                 try clear q30
                 try clear hx30
                 try clear c31
                 try clear c31b0
                 try clear p31
                 try clear q31
                 try clear hx31
                 try clear c32
                 try clear c32b0
                 try clear p33
                 try clear q33
                 try clear hx33
                 try clear hf33
                 try clear c36
                 try clear c39
                 try clear hx302_0
                 try clear hx309_0
                 try clear hx310_0
                 try clear hx311_0
                 try clear hx313_0
                 try clear hx33_0
                 try clear p2
                 try clear p3
                 try clear p302
                 try clear p309
                 try clear p310
                 try clear p311
                 try clear p313
                 try clear p33
                 try clear q3
                 try clear q302
                 try clear q309
                 try clear q310
                 try clear q311
                 try clear q313
                 try clear q33
                 obtain ⟨x14_3, x82_3, rfl, HA, HK3, HO_13, HO_14, HO_80, HB⟩ := hrel
                 have hl13_3 := (Kd.R_reads' HO_13.out).1
                 rw [hl13_3] at HO_13
                 (try simp only [hl13_3])
                 (try simp only [hl13_3] at HO_14)
                 (try simp only [hl13_3] at HO_80)
                 cases gk with
                 | zero => exact absurd HA.out (by simp [impl_SwapColours.l1])
                 | succ k3 =>
                  have H := HA.out
                  clear HA
                  simp only [impl_SwapColours.l1] at H
                  by_cases c40 : x82_3 < (t314.length : Int)
                  ·rw [if_pos c40] at H
                   have c40b0 : decide (x82_3 < (t314.length : Int)) = true := decide_eq_true c40
                   clear c40
                   by_cases c41 : 0 ≤ x82_3
                   ·rw [if_pos c41] at H
                    have c41b0 : decide (0 ≤ x82_3) = true := decide_eq_true c41
                    clear c41
                    by_cases c42 : x82_3 < (t314.length : Int)
                    ·rw [if_pos c42] at H
                     have c42b0 : decide (x82_3 < (t314.length : Int)) = true := decide_eq_true c42
                     clear c42
                     by_cases c43 : 0 ≤ (rd t314 x82_3)
                     ·rw [if_pos c43] at H
                      have c43b0 : decide (0 ≤ (rd t314 x82_3)) = true := decide_eq_true c43
                      clear c43
                      by_cases c44 : (rd t314 x82_3) < (l2.length : Int)
                      ·rw [if_pos c44] at H
                       have c44b0 : decide ((rd t314 x82_3) < (l2.length : Int)) = true := decide_eq_true c44
                       clear c44
                       by_cases c45 : (rd l2 (rd t314 x82_3)) = (rd l2 a3)
                       ·rw [if_pos c45] at H
                        have c45b0 : ((rd l2 (rd t314 x82_3)) == (rd l2 a3)) = true := beq_iff_eq.mpr c45
                        have c45b1 : ((rd l2 (rd t314 x82_3)) != (rd l2 a3)) = false := bne_eq_false_iff_eq.mpr c45
                        clear c45
                        replace H := Option.bind_eq_some_iff.mp H
                        obtain ⟨t319, A460, H⟩ := H
                        replace H : (if t319 = true then (impl_SwapColours.l1 k3 l1 l2 a4 (rd l2 a3) y312 x14_3 x15_2 t314 (t314.length : Int) (wrap64 (x82_3 + 1))) else (if x14_3.length < 17592186044416 then (impl_SwapColours.l1 k3 l1 l2 a4 (rd l2 a3) y312 (x14_3 ++ [rd t314 x82_3]) x15_2 t314 (t314.length : Int) (wrap64 (x82_3 + 1))) else (none))) = some (r1, r2) := H
                        have A46 := Aside0.mk A460
                        clear A460
                        by_cases c47 : t319 = true
                        ·subst c47
                         have H1 : (impl_SwapColours.l1 k3 l1 l2 a4 (rd l2 a3) y312 x14_3 x15_2 t314 (t314.length : Int) (wrap64 (x82_3 + 1))) = some (r1, r2) := by rw [if_pos rfl] at H; exact H
                         clear H
                         have H := H1
                         clear H1
                         have H' := Aside0.mk H
                         clear H
                         have p317 : 0 ≤ (x82_3 : Int) := od_
                         have q317 : x82_3 < (t314.length : Int) := od_
                         obtain ⟨ad317, e317, hx317_0⟩ := Kd.at_int (Kd.R_reads' HO_80.out).2.2 x82_3 p317 q317
                         cases e317
                         replace p317 := eq_true p317
                         replace q317 := eq_true q317
                         have p318 : 0 ≤ ((rd t314 x82_3) : Int) := od_
                         have q318 : (rd t314 x82_3) < (l2.length : Int) := od_
                         obtain ⟨ad318, e318, hx318_0⟩ := Kd.at_int HR2.out (rd t314 x82_3) p318 q318
                         obtain rfl : ad302 = ad318 := (by injection e318)
                         replace hx318_0 := (HB.out.cell (World.block_lt_of_cell? w _ hx318_0)).trans hx318_0
                         replace p318 := eq_true p318
                         replace q318 := eq_true q318
                         obtain ⟨Ao48, co48, eo48⟩ := Kd.R_slice HO_14.out
                         subst eo48
                         go_wp2_with (first | (go_at_call 44; (with_reducible refine (slices_Contains_int64_int64.calls k3 _ _ x14_3 (rd t314 x82_3) true _ ?side1 ?side2 A46.out).mono ?_); (case side1 => repeat (first | exact (Kd.R_reads' HO_14.out).2.2 | (with_reducible refine Kd.C_alloc ?_ _) | (with_reducible refine Kd.C_drewN ?_ _) | (with_reducible refine Kd.C_drew ?_))); (case side2 => exact (Kd.R_reads' HO_14.out).2.1); rintro e w' ⟨rfl, ⟨nd, rfl⟩⟩))
                         (try simp only [← hl13_3])
                         go_roundg k3
                         case measure => have := HJ7.out; have := HK2.out; have := HK3.out; omega
                         case rel => exact ⟨(x14_3), (wrap64 (x82_3 + 1)), (by first | rfl | (simp; done) | (simp [*]; done)), H', ⟨by have := HJ7.out; have := HK2.out; have := HK3.out; omega⟩, ⟨by (try simp only [hl13_3]); (with_reducible repeat (first | apply Kd.R_alloc | apply Kd.R_drewN | apply Kd.R_drew)); exact HO_13.out⟩, ⟨by (try simp only [hl13_3]); (with_reducible repeat (first | apply Kd.R_alloc | apply Kd.R_drewN | apply Kd.R_drew)); exact HO_14.out⟩, ⟨by (try simp only [hl13_3]); (with_reducible repeat (first | apply Kd.R_alloc | apply Kd.R_drewN | apply Kd.R_drew)); exact HO_80.out⟩, ⟨by repeat (first | (with_reducible first | exact HB.out | apply below_alloc | apply pw_below_drewN | apply below_drew1) | exact HB.out)⟩⟩
                        ·replace c47 := Bool.eq_false_iff.mpr c47
                         subst c47
                         have H1 : (if x14_3.length < 17592186044416 then (impl_SwapColours.l1 k3 l1 l2 a4 (rd l2 a3) y312 (x14_3 ++ [rd t314 x82_3]) x15_2 t314 (t314.length : Int) (wrap64 (x82_3 + 1))) else (none)) = some (r1, r2) := by rw [if_neg (show ¬ (false = true) by decide)] at H; exact H
                         clear H
                         have H := H1
                         clear H1
                         by_cases c49 : x14_3.length < 17592186044416
                         ·rw [if_pos c49] at H
                          have LMc49 := Aside0.mk c49
                          clear c49
                          obtain ⟨y320, hy320⟩ : ∃ y_ : List Int, y_ = (x14_3 ++ [rd t314 x82_3]) := ⟨_, rfl⟩
                          replace H : (impl_SwapColours.l1 k3 l1 l2 a4 (rd l2 a3) y312 y320 x15_2 t314 (t314.length : Int) (wrap64 (x82_3 + 1))) = some (r1, r2) := by first | (rw [hy320]; with_reducible exact H) | (have H2_ := (Option.bind_some _ _).symm.trans H; rw [hy320]; with_reducible exact H2_) | (have H2_ := (Option.bind_some _ _).symm.trans H; with_reducible exact H2_) | with_reducible exact H | (rw [hy320]; exact H) | exact H
                          have Ny320 := Aside0.mk hy320
                          clear hy320
                          have H' := Aside0.mk H
                          clear H
                          have p317 : 0 ≤ (x82_3 : Int) := od_
                          have q317 : x82_3 < (t314.length : Int) := od_
                          obtain ⟨ad317, e317, hx317_0⟩ := Kd.at_int (Kd.R_reads' HO_80.out).2.2 x82_3 p317 q317
                          cases e317
                          replace p317 := eq_true p317
                          replace q317 := eq_true q317
                          have p318 : 0 ≤ ((rd t314 x82_3) : Int) := od_
                          have q318 : (rd t314 x82_3) < (l2.length : Int) := od_
                          obtain ⟨ad318, e318, hx318_0⟩ := Kd.at_int HR2.out (rd t314 x82_3) p318 q318
                          obtain rfl : ad302 = ad318 := (by injection e318)
                          replace hx318_0 := (HB.out.cell (World.block_lt_of_cell? w _ hx318_0)).trans hx318_0
                          replace p318 := eq_true p318
                          replace q318 := eq_true q318
                          obtain ⟨Ao50, co50, eo50⟩ := Kd.R_slice HO_14.out
                          subst eo50
                          go_wp2_with (first | (go_at_call 44; (with_reducible refine (slices_Contains_int64_int64.calls k3 _ _ x14_3 (rd t314 x82_3) false _ ?side1 ?side2 A46.out).mono ?_); (case side1 => repeat (first | exact (Kd.R_reads' HO_14.out).2.2 | (with_reducible refine Kd.C_alloc ?_ _) | (with_reducible refine Kd.C_drewN ?_ _) | (with_reducible refine Kd.C_drew ?_))); (case side2 => exact (Kd.R_reads' HO_14.out).2.1); rintro e w' ⟨rfl, ⟨nd, rfl⟩⟩) | ((with_reducible refine gate_builtin (b := .append) (xs := #[.tmp 106, .tmp 108]) rfl ?_); at_builtin; refine Kd.R_append (Kd.int .i64) (w0 := w) w.heap.size rfl (.tmp 106) (.tmp 108) 27 2 (.int .i64 0) 8 rfl Try.underlying27 info2 rfl (by decide) (by omega) (.slice Ao50 x14_3.length co50) x14_3 (rd t314 x82_3) [.int .i64 (rd t314 x82_3)] (fun k_ => some k_ ≠ (.slice (some ⟨go33, 0, none⟩) y312.length co33 : Value).ownBlock ∧ some k_ ≠ (.slice (some ad317) t314.length co39 : Value).ownBlock) (fun _ => False) rfl rfl ?aP (fun _ hk => hk.elim) ?aF ?aO ?aB ?aS ?aL ?_; (case aP => exact rfl); (case aB => exact (by repeat (first | (with_reducible first | exact HB.out | apply below_alloc | apply pw_below_drewN | apply below_drew1) | exact HB.out))); (case aF => exact (fun k_ hk => ⟨Kd.fresh' (Kd.R_lt (by (with_reducible repeat (first | apply Kd.R_alloc | apply Kd.R_drewN | apply Kd.R_drew)); exact HO_13.out)) k_ hk, Kd.fresh' (Kd.R_lt (by (with_reducible repeat (first | apply Kd.R_alloc | apply Kd.R_drewN | apply Kd.R_drew)); exact HO_80.out)) k_ hk⟩)); (case aO => exact (by (with_reducible repeat (first | apply Kd.R_alloc | apply Kd.R_drewN | apply Kd.R_drew)); exact HO_14.out)); (case aS => exact (below_size (by repeat (first | (with_reducible first | exact HB.out | apply below_alloc | apply pw_below_drewN | apply below_drew1) | exact HB.out)))); (case aL => have := LMc49.out; omega); intro v321 w51 ho hb hg hat; rw [← Ny320.out] at ho; have n0_ := Aside0.mk (Kd.R_after (ok := (fun k_ => some k_ ≠ (.slice (some ad317) t314.length co39 : Value).ownBlock)) (by (with_reducible repeat (first | apply Kd.R_alloc | apply Kd.R_drewN | apply Kd.R_drew)); exact Kd.R_mono HO_13.out (fun _ hk => ⟨hk.2, hk.1⟩)) hg hat); have n1_ := Aside0.mk (Kd.R_after (ok := (fun k_ => some k_ ≠ (.slice (some ⟨go33, 0, none⟩) y312.length co33 : Value).ownBlock)) (by (with_reducible repeat (first | apply Kd.R_alloc | apply Kd.R_drewN | apply Kd.R_drew)); exact HO_80.out) hg hat); have n2_ := Aside0.mk (hb); have n3_ := Aside0.mk (ho); clear HO_13; clear HO_80; clear HB; clear HO_14; have HO_13 := n0_; have HO_80 := n1_; have HB := n2_; have HO322 := n3_; clear n0_ n1_ n2_ n3_; clear ho hb hg hat))
                          (try simp only [← hl13_3])
                          go_roundg k3
                          case measure => have := HJ7.out; have := HK2.out; have := HK3.out; omega
                          case rel => exact ⟨(y320), (wrap64 (x82_3 + 1)), (by first | rfl | (simp; done) | (simp [*]; done)), H', ⟨by have := HJ7.out; have := HK2.out; have := HK3.out; omega⟩, ⟨by (try simp only [hl13_3]); (with_reducible repeat (first | apply Kd.R_alloc | apply Kd.R_drewN | apply Kd.R_drew)); exact Kd.R_mono HO_13.out (fun _ hk => ⟨hk.2, hk.1⟩)⟩, ⟨by (try simp only [hl13_3]); (with_reducible repeat (first | apply Kd.R_alloc | apply Kd.R_drewN | apply Kd.R_drew)); exact HO322.out⟩, ⟨by (try simp only [hl13_3]); (with_reducible repeat (first | apply Kd.R_alloc | apply Kd.R_drewN | apply Kd.R_drew)); exact HO_80.out⟩, ⟨by repeat (first | (with_reducible first | exact HB.out | apply below_alloc | apply pw_below_drewN | apply below_drew1) | exact HB.out)⟩⟩
                         ·rw [if_neg c49] at H
                          exact absurd H (by simp)
                       ·rw [if_neg c45] at H
                        have c45b0 : ((rd l2 (rd t314 x82_3)) == (rd l2 a3)) = false := beq_eq_false_iff_ne.mpr c45
                        have c45b1 : ((rd l2 (rd t314 x82_3)) != (rd l2 a3)) = true := bne_iff_ne.mpr c45
                        by_cases c52 : (rd l2 (rd t314 x82_3)) = a4
                        ·rw [if_pos c52] at H
                         have c52b0 : ((rd l2 (rd t314 x82_3)) == a4) = true := beq_iff_eq.mpr c52
                         have c52b1 : ((rd l2 (rd t314 x82_3)) != a4) = false := bne_eq_false_iff_eq.mpr c52
                         clear c52
                         replace H := Option.bind_eq_some_iff.mp H
                         obtain ⟨t324, A530, H⟩ := H
                         replace H : (if t324 = true then (impl_SwapColours.l1 k3 l1 l2 a4 (rd l2 a3) y312 x14_3 x15_2 t314 (t314.length : Int) (wrap64 (x82_3 + 1))) else (if x14_3.length < 17592186044416 then (impl_SwapColours.l1 k3 l1 l2 a4 (rd l2 a3) y312 (x14_3 ++ [rd t314 x82_3]) x15_2 t314 (t314.length : Int) (wrap64 (x82_3 + 1))) else (none))) = some (r1, r2) := H
                         have A53 := Aside0.mk A530
                         clear A530
                         by_cases c54 : t324 = true
                         ·subst c54
                          have H1 : (impl_SwapColours.l1 k3 l1 l2 a4 (rd l2 a3) y312 x14_3 x15_2 t314 (t314.length : Int) (wrap64 (x82_3 + 1))) = some (r1, r2) := by rw [if_pos rfl] at H; exact H
                          clear H
                          have H := H1
                          clear H1
                          have H' := Aside0.mk H
                          clear H
                          have p317 : 0 ≤ (x82_3 : Int) := od_
                          have q317 : x82_3 < (t314.length : Int) := od_
                          obtain ⟨ad317, e317, hx317_0⟩ := Kd.at_int (Kd.R_reads' HO_80.out).2.2 x82_3 p317 q317
                          cases e317
                          replace p317 := eq_true p317
                          replace q317 := eq_true q317
                          have p318 : 0 ≤ ((rd t314 x82_3) : Int) := od_
                          have q318 : (rd t314 x82_3) < (l2.length : Int) := od_
                          obtain ⟨ad318, e318, hx318_0⟩ := Kd.at_int HR2.out (rd t314 x82_3) p318 q318
                          obtain rfl : ad302 = ad318 := (by injection e318)
                          replace hx318_0 := (HB.out.cell (World.block_lt_of_cell? w _ hx318_0)).trans hx318_0
                          replace p318 := eq_true p318
                          replace q318 := eq_true q318
                          have p323 : 0 ≤ ((rd t314 x82_3) : Int) := od_
                          have q323 : (rd t314 x82_3) < (l2.length : Int) := od_
                          obtain ⟨ad323, e323, hx323_0⟩ := Kd.at_int HR2.out (rd t314 x82_3) p323 q323
                          obtain rfl : ad302 = ad323 := (by injection e323)
                          replace hx323_0 := (HB.out.cell (World.block_lt_of_cell? w _ hx323_0)).trans hx323_0
                          replace p323 := eq_true p323
                          replace q323 := eq_true q323
                          obtain ⟨Ao55, co55, eo55⟩ := Kd.R_slice HO_14.out
                          subst eo55
                          go_wp2_with (first | (go_at_call 44; (with_reducible refine (slices_Contains_int64_int64.calls k3 _ _ x14_3 (rd t314 x82_3) true _ ?side1 ?side2 A53.out).mono ?_); (case side1 => repeat (first | exact (Kd.R_reads' HO_14.out).2.2 | (with_reducible refine Kd.C_alloc ?_ _) | (with_reducible refine Kd.C_drewN ?_ _) | (with_reducible refine Kd.C_drew ?_))); (case side2 => exact (Kd.R_reads' HO_14.out).2.1); rintro e w' ⟨rfl, ⟨nd, rfl⟩⟩))
                          (try simp only [← hl13_3])
                          go_roundg k3
                          case measure => have := HJ7.out; have := HK2.out; have := HK3.out; omega
                          case rel => exact ⟨(x14_3), (wrap64 (x82_3 + 1)), (by first | rfl | (simp; done) | (simp [*]; done)), H', ⟨by have := HJ7.out; have := HK2.out; have := HK3.out; omega⟩, ⟨by (try simp only [hl13_3]); (with_reducible repeat (first | apply Kd.R_alloc | apply Kd.R_drewN | apply Kd.R_drew)); exact HO_13.out⟩, ⟨by (try simp only [hl13_3]); (with_reducible repeat (first | apply Kd.R_alloc | apply Kd.R_drewN | apply Kd.R_drew)); exact HO_14.out⟩, ⟨by (try simp only [hl13_3]); (with_reducible repeat (first | apply Kd.R_alloc | apply Kd.R_drewN | apply Kd.R_drew)); exact HO_80.out⟩, ⟨by repeat (first | (with_reducible first | exact HB.out | apply below_alloc | apply pw_below_drewN | apply below_drew1) | exact HB.out)⟩⟩
                         ·replace c54 := Bool.eq_false_iff.mpr c54
                          subst c54
                          have H1 : (if x14_3.length < 17592186044416 then (impl_SwapColours.l1 k3 l1 l2 a4 (rd l2 a3) y312 (x14_3 ++ [rd t314 x82_3]) x15_2 t314 (t314.length : Int) (wrap64 (x82_3 + 1))) else (none)) = some (r1, r2) := by rw [if_neg (show ¬ (false = true) by decide)] at H; exact H
                          clear H
                          have H := H1
                          clear H1
                          by_cases c56 : x14_3.length < 17592186044416
                          ·rw [if_pos c56] at H
                           have LMc56 := Aside0.mk c56
                           clear c56
                           obtain ⟨y325, hy325⟩ : ∃ y_ : List Int, y_ = (x14_3 ++ [rd t314 x82_3]) := ⟨_, rfl⟩
                           replace H : (impl_SwapColours.l1 k3 l1 l2 a4 (rd l2 a3) y312 y325 x15_2 t314 (t314.length : Int) (wrap64 (x82_3 + 1))) = some (r1, r2) := by first | (rw [hy325]; with_reducible exact H) | (have H2_ := (Option.bind_some _ _).symm.trans H; rw [hy325]; with_reducible exact H2_) | (have H2_ := (Option.bind_some _ _).symm.trans H; with_reducible exact H2_) | with_reducible exact H | (rw [hy325]; exact H) | exact H
                           have Ny325 := Aside0.mk hy325
                           clear hy325
                           have H' := Aside0.mk H
                           clear H
                           have p317 : 0 ≤ (x82_3 : Int) := od_
                           have q317 : x82_3 < (t314.length : Int) := od_
                           obtain ⟨ad317, e317, hx317_0⟩ := Kd.at_int (Kd.R_reads' HO_80.out).2.2 x82_3 p317 q317
                           cases e317
                           replace p317 := eq_true p317
                           replace q317 := eq_true q317
                           have p318 : 0 ≤ ((rd t314 x82_3) : Int) := od_
                           have q318 : (rd t314 x82_3) < (l2.length : Int) := od_
                           obtain ⟨ad318, e318, hx318_0⟩ := Kd.at_int HR2.out (rd t314 x82_3) p318 q318
                           obtain rfl : ad302 = ad318 := (by injection e318)
                           replace hx318_0 := (HB.out.cell (World.block_lt_of_cell? w _ hx318_0)).trans hx318_0
                           replace p318 := eq_true p318
                           replace q318 := eq_true q318
                           have p323 : 0 ≤ ((rd t314 x82_3) : Int) := od_
                           have q323 : (rd t314 x82_3) < (l2.length : Int) := od_
                           obtain ⟨ad323, e323, hx323_0⟩ := Kd.at_int HR2.out (rd t314 x82_3) p323 q323
                           obtain rfl : ad302 = ad323 := (by injection e323)
                           replace hx323_0 := (HB.out.cell (World.block_lt_of_cell? w _ hx323_0)).trans hx323_0
                           replace p323 := eq_true p323
                           replace q323 := eq_true q323
                           obtain ⟨Ao57, co57, eo57⟩ := Kd.R_slice HO_14.out
                           subst eo57
                           go_wp2_with (first | (go_at_call 44; (with_reducible refine (slices_Contains_int64_int64.calls k3 _ _ x14_3 (rd t314 x82_3) false _ ?side1 ?side2 A53.out).mono ?_); (case side1 => repeat (first | exact (Kd.R_reads' HO_14.out).2.2 | (with_reducible refine Kd.C_alloc ?_ _) | (with_reducible refine Kd.C_drewN ?_ _) | (with_reducible refine Kd.C_drew ?_))); (case side2 => exact (Kd.R_reads' HO_14.out).2.1); rintro e w' ⟨rfl, ⟨nd, rfl⟩⟩) | ((with_reducible refine gate_builtin (b := .append) (xs := #[.tmp 106, .tmp 108]) rfl ?_); at_builtin; refine Kd.R_append (Kd.int .i64) (w0 := w) w.heap.size rfl (.tmp 106) (.tmp 108) 27 2 (.int .i64 0) 8 rfl Try.underlying27 info2 rfl (by decide) (by omega) (.slice Ao57 x14_3.length co57) x14_3 (rd t314 x82_3) [.int .i64 (rd t314 x82_3)] (fun k_ => some k_ ≠ (.slice (some ⟨go33, 0, none⟩) y312.length co33 : Value).ownBlock ∧ some k_ ≠ (.slice (some ad317) t314.length co39 : Value).ownBlock) (fun _ => False) rfl rfl ?aP (fun _ hk => hk.elim) ?aF ?aO ?aB ?aS ?aL ?_; (case aP => exact rfl); (case aB => exact (by repeat (first | (with_reducible first | exact HB.out | apply below_alloc | apply pw_below_drewN | apply below_drew1) | exact HB.out))); (case aF => exact (fun k_ hk => ⟨Kd.fresh' (Kd.R_lt (by (with_reducible repeat (first | apply Kd.R_alloc | apply Kd.R_drewN | apply Kd.R_drew)); exact HO_13.out)) k_ hk, Kd.fresh' (Kd.R_lt (by (with_reducible repeat (first | apply Kd.R_alloc | apply Kd.R_drewN | apply Kd.R_drew)); exact HO_80.out)) k_ hk⟩)); (case aO => exact (by (with_reducible repeat (first | apply Kd.R_alloc | apply Kd.R_drewN | apply Kd.R_drew)); exact HO_14.out)); (case aS => exact (below_size (by repeat (first | (with_reducible first | exact HB.out | apply below_alloc | apply pw_below_drewN | apply below_drew1) | exact HB.out)))); (case aL => have := LMc56.out; omega); intro v326 w58 ho hb hg hat; rw [← Ny325.out] at ho; have n0_ := Aside0.mk (Kd.R_after (ok := (fun k_ => some k_ ≠ (.slice (some ad317) t314.length co39 : Value).ownBlock)) (by (with_reducible repeat (first | apply Kd.R_alloc | apply Kd.R_drewN | apply Kd.R_drew)); exact Kd.R_mono HO_13.out (fun _ hk => ⟨hk.2, hk.1⟩)) hg hat); have n1_ := Aside0.mk (Kd.R_after (ok := (fun k_ => some k_ ≠ (.slice (some ⟨go33, 0, none⟩) y312.length co33 : Value).ownBlock)) (by (with_reducible repeat (first | apply Kd.R_alloc | apply Kd.R_drewN | apply Kd.R_drew)); exact HO_80.out) hg hat); have n2_ := Aside0.mk (hb); have n3_ := Aside0.mk (ho); clear HO_13; clear HO_80; clear HB; clear HO_14; have HO_13 := n0_; have HO_80 := n1_; have HB := n2_; have HO327 := n3_; clear n0_ n1_ n2_ n3_; clear ho hb hg hat))
                           (try simp only [← hl13_3])
                           go_roundg k3
                           case measure => have := HJ7.out; have := HK2.out; have := HK3.out; omega
                           case rel => exact ⟨(y325), (wrap64 (x82_3 + 1)), (by first | rfl | (simp; done) | (simp [*]; done)), H', ⟨by have := HJ7.out; have := HK2.out; have := HK3.out; omega⟩, ⟨by (try simp only [hl13_3]); (with_reducible repeat (first | apply Kd.R_alloc | apply Kd.R_drewN | apply Kd.R_drew)); exact Kd.R_mono HO_13.out (fun _ hk => ⟨hk.2, hk.1⟩)⟩, ⟨by (try simp only [hl13_3]); (with_reducible repeat (first | apply Kd.R_alloc | apply Kd.R_drewN | apply Kd.R_drew)); exact HO327.out⟩, ⟨by (try simp only [hl13_3]); (with_reducible repeat (first | apply Kd.R_alloc | apply Kd.R_drewN | apply Kd.R_drew)); exact HO_80.out⟩, ⟨by repeat (first | (with_reducible first | exact HB.out | apply below_alloc | apply pw_below_drewN | apply below_drew1) | exact HB.out)⟩⟩
                          ·rw [if_neg c56] at H
                           exact absurd H (by simp)
                        ·rw [if_neg c52] at H
                         have c52b0 : ((rd l2 (rd t314 x82_3)) == a4) = false := beq_eq_false_iff_ne.mpr c52
                         have c52b1 : ((rd l2 (rd t314 x82_3)) != a4) = true := bne_iff_ne.mpr c52
                         have H' := Aside0.mk H
                         clear H
                         have p317 : 0 ≤ (x82_3 : Int) := od_
                         have q317 : x82_3 < (t314.length : Int) := od_
                         obtain ⟨ad317, e317, hx317_0⟩ := Kd.at_int (Kd.R_reads' HO_80.out).2.2 x82_3 p317 q317
                         cases e317
                         replace p317 := eq_true p317
                         replace q317 := eq_true q317
                         have p318 : 0 ≤ ((rd t314 x82_3) : Int) := od_
                         have q318 : (rd t314 x82_3) < (l2.length : Int) := od_
                         obtain ⟨ad318, e318, hx318_0⟩ := Kd.at_int HR2.out (rd t314 x82_3) p318 q318
                         obtain rfl : ad302 = ad318 := (by injection e318)
                         replace hx318_0 := (HB.out.cell (World.block_lt_of_cell? w _ hx318_0)).trans hx318_0
                         replace p318 := eq_true p318
                         replace q318 := eq_true q318
                         have p323 : 0 ≤ ((rd t314 x82_3) : Int) := od_
                         have q323 : (rd t314 x82_3) < (l2.length : Int) := od_
                         obtain ⟨ad323, e323, hx323_0⟩ := Kd.at_int HR2.out (rd t314 x82_3) p323 q323
                         obtain rfl : ad302 = ad323 := (by injection e323)
                         replace hx323_0 := (HB.out.cell (World.block_lt_of_cell? w _ hx323_0)).trans hx323_0
                         replace p323 := eq_true p323
                         replace q323 := eq_true q323
                         go_wp2
                         (try simp only [← hl13_3])
                         go_roundg k3
                         case measure => have := HJ7.out; have := HK2.out; have := HK3.out; omega
                         case rel => exact ⟨(x14_3), (wrap64 (x82_3 + 1)), (by first | rfl | (simp; done) | (simp [*]; done)), H', ⟨by have := HJ7.out; have := HK2.out; have := HK3.out; omega⟩, ⟨by (try simp only [hl13_3]); (with_reducible repeat (first | apply Kd.R_alloc | apply Kd.R_drewN | apply Kd.R_drew)); exact HO_13.out⟩, ⟨by (try simp only [hl13_3]); (with_reducible repeat (first | apply Kd.R_alloc | apply Kd.R_drewN | apply Kd.R_drew)); exact HO_14.out⟩, ⟨by (try simp only [hl13_3]); (with_reducible repeat (first | apply Kd.R_alloc | apply Kd.R_drewN | apply Kd.R_drew)); exact HO_80.out⟩, ⟨by repeat (first | (with_reducible first | exact HB.out | apply below_alloc | apply pw_below_drewN | apply below_drew1) | exact HB.out)⟩⟩
                      ·rw [if_neg c44] at H
                       exact absurd H (by simp)
                     ·rw [if_neg c43] at H
                      exact absurd H (by simp)
                    ·rw [if_neg c42] at H
                     exact absurd H (by simp)
                   ·rw [if_neg c41] at H
                    exact absurd H (by simp)
                  ·rw [if_neg c40] at H
                   have c40b0 : decide (x82_3 < (t314.length : Int)) = false := decide_eq_false c40
                   clear c40
                   have H' := Aside0.mk H
                   clear H
                   go_wp2
                   (try simp only [← hl13_3])
                   go_roundg k3
                   case measure => have := HJ7.out; have := HK2.out; have := HK3.out; omega
                   case rel => exact ⟨(y312), (x14_3), (wrap64 (x15_2 + 1)), (by first | rfl | (simp; done) | (simp [*]; done)), H', ⟨by have := HJ7.out; have := HK2.out; have := HK3.out; omega⟩, ⟨by (try simp only [hl13_3]); (with_reducible repeat (first | apply Kd.R_alloc | apply Kd.R_drewN | apply Kd.R_drew)); exact Kd.R_mono HO_13.out (fun _ hk => hk.1)⟩, ⟨by (try simp only [hl13_3]); (with_reducible repeat (first | apply Kd.R_alloc | apply Kd.R_drewN | apply Kd.R_drew)); exact Kd.R_mono HO_14.out (fun _ hk => hk.1)⟩, ⟨by repeat (first | (with_reducible first | exact HB.out | apply below_alloc | apply pw_below_drewN | apply below_drew1) | exact HB.out)⟩⟩
               ·rw [if_neg c32] at H
                exact absurd H (by simp)
              ·rw [if_neg c31] at H
               exact absurd H (by simp)
             ·rw [if_neg c30] at H
              exact absurd H (by simp)
            ·rw [if_neg c29] at H
             exact absurd H (by simp)
           ·rw [if_neg c28] at H
            have c28b0 : decide (x15_2 < (x14_2.length : Int)) = false := decide_eq_false c28
            clear c28
            simp only [Option.some.injEq, Prod.mk.injEq] at H
            obtain ⟨rfl, rfl⟩ := H
            obtain ⟨Ao59, co59, eo59⟩ := Kd.R_slice HO_14.out
            subst eo59
            go_wp2
            go_ret2
            exact ⟨_, by first | rfl | (simp [errW_none, errW_some] <;> rfl) | (simp [*, errW_none, errW_some] <;> rfl), by (with_reducible repeat (first | apply Kd.R_alloc | apply Kd.R_drewN | apply Kd.R_drew)); exact Kd.R_mono HO_13.out (fun _ hk => trivial), by repeat (first | (with_reducible first | exact HB.out | apply below_alloc | apply pw_below_drewN | apply below_drew1) | exact HB.out)⟩
       ·rw [if_neg c20] at H
        exact absurd H (by simp)
      ·rw [if_neg c19] at H
       exact absurd H (by simp)
 ·replace c7 := Bool.eq_false_iff.mpr c7
  subst c7
  have H1 : (some (([] : List Int), 1)) = some (r1, r2) := by rw [if_neg (show ¬ (false = true) by decide)] at H; exact H
  clear H
  have H := H1
  clear H1
  simp only [Option.some.injEq, Prod.mk.injEq] at H
  obtain ⟨rfl, rfl⟩ := H
  go_enter Try.func22, Try.ntmps22
  go_wp2_with (first | ((with_reducible refine gate_callee (f := 36) rfl ?_); refine goesL_ (some 20) rfl rfl Try.func36 (by kernel_rfl) rfl #[.int .i64 a0, .slice A1 l1.length c1] rfl (by (try simp only [List.map_toArray, List.map_cons, List.map_nil]); first | done | rfl | (simp only [List.length_drop, List.length_take]; rfl)) ?_; (with_reducible refine (impl_ValidBorders.calls k a0 _ _ l1 false _ ?side1 ?side2 A6.out).mono ?_); (case side1 => repeat (first | exact HR1.out | (with_reducible refine Kd.C_alloc ?_ _) | (with_reducible refine Kd.C_drewN ?_ _) | (with_reducible refine Kd.C_drew ?_))); (case side2 => exact HC1.out); rintro e w60 ⟨rfl, hb⟩; refine ⟨_, rfl, ?_⟩; have n0_ := Aside0.mk (below_step (by repeat (first | (with_reducible first | exact HB.out | apply below_alloc | apply pw_below_drewN | apply below_drew1) | exact HB.out)) hb); clear HB; have HB := n0_; clear n0_; (try clear hb); (try clear hb2); (try clear hk); (try clear hi)))
  go_ret2
  exact ⟨_, by first | rfl | (simp [errW_none, errW_some] <;> rfl) | (simp [*, errW_none, errW_some] <;> rfl), by first | exact Kd.R_nil _ _ _ _ _ | exact Kd.N_nil _ _ _ _ _ | exact Kd.V_nil _ _ _ _ _ | exact Kd.Q_nil _ _ _ _ _ | exact Kd.S_nil _ _ _ _ _, by repeat (first | (with_reducible first | exact HB.out | apply below_alloc | apply pw_below_drewN | apply below_drew1) | exact HB.out)⟩

end Go.Proofs.Ytcjkklkmlooinaa.Print
