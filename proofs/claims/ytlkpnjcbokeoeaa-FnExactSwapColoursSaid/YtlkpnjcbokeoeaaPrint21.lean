-- Printed by a program of this session out of the translation; not trusted: Lean checks it.
-- SHRUNK
import Derived.Test.YtlkpnjcbokeoeaaPrint0
import Derived.Test.YtlkpnjcbokeoeaaPrint11
import Derived.Test.YtlkpnjcbokeoeaaPrint12
import Derived.Test.YtlkpnjcbokeoeaaPrint13
import Derived.Test.YtlkpnjcbokeoeaaPrint14
import Derived.Test.YtlkpnjcbokeoeaaPrint20
namespace Go.Proofs.Ytlkpnjcbokeoeaa.Print
open Go.RowKit Go.Proofs.YtlkpnjcbokeoeaaW.PrintWords Go.Proofs.YtlkpnjcbokeoeaaW.PrintLast Go.Proofs.YtlkpnjcbokeoeaaW.PrintMore
attribute [local go_sem] max2_int min2_int max_two min_two max_three min_three max_four min_four   -- for this text's walks alone
set_option linter.unusedVariables false
set_option linter.unusedSimpArgs false

/-! ### spec_SwapColours: function 44 -/
mutual
def spec_SwapColours.j0 : Nat → Int → List (S55) → List Int → Int → Int → Bool → Option (List Int × Int)
 | 0, _, _, _, _, _, _ => none
 | k + 1, x0, x1, x2, x3, x4, x39 => if x39 = true then (some (([] : List Int), 2)) else ((spec_l09Clash.f k x1 x2).bind fun t346 => (if t346 ≥ 0 then (some (([] : List Int), 6)) else (if 0 ≤ x3 then (if x3 < (x2.length : Int) then (if (rd x2 x3) = x4 then (some (([] : List Int), 9)) else (spec_SwapColours.l0 k x0 x1 x2 x4 (rd x2 x3) (([x3] : List Int)) 0)) else (none)) else (none))))
def spec_SwapColours.l0 : Nat → Int → List (S55) → List Int → Int → Int → List Int → Int → Option (List Int × Int)
 | 0, _, _, _, _, _, _, _ => none
 | k + 1, x0, x1, x2, x4, x12, x13, x14 => if x14 < (x13.length : Int) then (if 0 ≤ x14 then ((spec_l09Next.f k x0 x1 (rd x13 x14)).bind fun t352 => (spec_SwapColours.l1 k x0 x1 x2 x4 x12 x13 x14 t352 0)) else (none)) else ((spec_l00Own.f x2).bind fun t369 => (spec_SwapColours.l2 k x4 x12 x13 t369 0))
def spec_SwapColours.l1 : Nat → Int → List (S55) → List Int → Int → Int → List Int → Int → List Int → Int → Option (List Int × Int)
 | 0, _, _, _, _, _, _, _, _, _ => none
 | k + 1, x0, x1, x2, x4, x12, x13, x14, x15, x16 => if x16 < (x15.length : Int) then (if 0 ≤ x16 then (if 0 ≤ (rd x15 x16) then (if (rd x15 x16) < (x2.length : Int) then (if (rd x2 (rd x15 x16)) = x12 then ((spec_l00Has.f k x13 (rd x15 x16)).bind fun t358 => (if t358 = true then (spec_SwapColours.l1 k x0 x1 x2 x4 x12 x13 x14 x15 (wrap64 (x16 + 1))) else (if x13.length < 17592186044416 then (spec_SwapColours.l1 k x0 x1 x2 x4 x12 (x13 ++ [rd x15 x16]) x14 x15 (wrap64 (x16 + 1))) else (none)))) else (if (rd x2 (rd x15 x16)) = x4 then ((spec_l00Has.f k x13 (rd x15 x16)).bind fun t364 => (if t364 = true then (spec_SwapColours.l1 k x0 x1 x2 x4 x12 x13 x14 x15 (wrap64 (x16 + 1))) else (if x13.length < 17592186044416 then (spec_SwapColours.l1 k x0 x1 x2 x4 x12 (x13 ++ [rd x15 x16]) x14 x15 (wrap64 (x16 + 1))) else (none)))) else (spec_SwapColours.l1 k x0 x1 x2 x4 x12 x13 x14 x15 (wrap64 (x16 + 1))))) else (none)) else (none)) else (none)) else (spec_SwapColours.l0 k x0 x1 x2 x4 x12 x13 (wrap64 (x14 + 1)))
def spec_SwapColours.l2 : Nat → Int → Int → List Int → List Int → Int → Option (List Int × Int)
 | 0, _, _, _, _, _ => none
 | k + 1, x4, x12, x13, x18, x19 => if x19 < (x13.length : Int) then (if 0 ≤ x19 then (if 0 ≤ (rd x13 x19) then (if (rd x13 x19) < (x18.length : Int) then (if (rd x18 (rd x13 x19)) = x12 then (spec_SwapColours.l2 k x4 x12 x13 (x18.set ((rd x13 x19) : Int).toNat x4) (wrap64 (x19 + 1))) else (spec_SwapColours.l2 k x4 x12 x13 (x18.set ((rd x13 x19) : Int).toNat x12) (wrap64 (x19 + 1)))) else (none)) else (none)) else (none)) else (some (x18, 0))
end
def spec_SwapColours.f (k : Nat) (a0 : Int) (l1 : List (S55)) (l2 : List Int) (a3 : Int) (a4 : Int) : Option (List Int × Int) := (spec_l09Ok.f k a0 l1).bind fun t342 => (if t342 = true then ((spec_l09Colours.f k a0 l2).bind fun t343 => (if t343 = true then ((spec_l00In.f a3 0 (wrap64 (a0 - 1))).bind fun t344 => (if t344 = true then ((spec_l00In.f a4 0 9).bind fun t345 => (spec_SwapColours.j0 k a0 l1 l2 a3 a4 (!t345))) else (spec_SwapColours.j0 k a0 l1 l2 a3 a4 true))) else (spec_SwapColours.j0 k a0 l1 l2 a3 a4 true))) else (some (([] : List Int), 1)))
theorem spec_SwapColours.mono_l : ∀ k, (∀ y0 y1 y2 y3 y4 y5, LeO (spec_SwapColours.j0 k y0 y1 y2 y3 y4 y5) (spec_SwapColours.j0 (k + 1) y0 y1 y2 y3 y4 y5)) ∧ (∀ y0 y1 y2 y3 y4 y5 y6, LeO (spec_SwapColours.l0 k y0 y1 y2 y3 y4 y5 y6) (spec_SwapColours.l0 (k + 1) y0 y1 y2 y3 y4 y5 y6)) ∧ (∀ y0 y1 y2 y3 y4 y5 y6 y7 y8, LeO (spec_SwapColours.l1 k y0 y1 y2 y3 y4 y5 y6 y7 y8) (spec_SwapColours.l1 (k + 1) y0 y1 y2 y3 y4 y5 y6 y7 y8)) ∧ (∀ y0 y1 y2 y3 y4, LeO (spec_SwapColours.l2 k y0 y1 y2 y3 y4) (spec_SwapColours.l2 (k + 1) y0 y1 y2 y3 y4))
 | 0 => ⟨fun _ _ _ _ _ _ r h => by simp [spec_SwapColours.j0] at h, fun _ _ _ _ _ _ _ r h => by simp [spec_SwapColours.l0] at h, fun _ _ _ _ _ _ _ _ _ r h => by simp [spec_SwapColours.l1] at h, fun _ _ _ _ _ r h => by simp [spec_SwapColours.l2] at h⟩
 | k + 1 => by
  obtain ⟨ih0, ih1, ih2, ih3⟩ := spec_SwapColours.mono_l k
  refine ⟨?_, ?_, ?_, ?_⟩
  ·intro y0 y1 y2 y3 y4 y5
   unfold spec_SwapColours.j0
   repeat' first
   | (with_reducible exact ih0 _ _ _ _ _ _)
   | (with_reducible exact ih1 _ _ _ _ _ _ _)
   | (with_reducible exact ih2 _ _ _ _ _ _ _ _ _)
   | (with_reducible exact ih3 _ _ _ _ _)
   | (with_reducible exact spec_l00Has.mono _ _ _)
   | (with_reducible exact spec_l09Clash.mono _ _ _)
   | (with_reducible exact spec_l09Colours.mono _ _ _)
   | (with_reducible exact spec_l09Next.mono _ _ _ _)
   | (with_reducible exact spec_l09Ok.mono _ _ _)
   | (with_reducible exact LeO.refl _)
   | (with_reducible exact LeO.none _)
   | (with_reducible refine LeO.ite ?_ ?_)
   | (with_reducible refine LeO.bind ?_ (fun _ => ?_))
   | exact ih0 _ _ _ _ _ _
   | exact ih1 _ _ _ _ _ _ _
   | exact ih2 _ _ _ _ _ _ _ _ _
   | exact ih3 _ _ _ _ _
   | exact spec_l00Has.mono _ _ _
   | exact spec_l09Clash.mono _ _ _
   | exact spec_l09Colours.mono _ _ _
   | exact spec_l09Next.mono _ _ _ _
   | exact spec_l09Ok.mono _ _ _
   | exact LeO.none _
   | refine LeO.ite ?_ ?_
   | refine LeO.bind ?_ (fun _ => ?_)
  ·intro y0 y1 y2 y3 y4 y5 y6
   unfold spec_SwapColours.l0
   repeat' first
   | (with_reducible exact ih0 _ _ _ _ _ _)
   | (with_reducible exact ih1 _ _ _ _ _ _ _)
   | (with_reducible exact ih2 _ _ _ _ _ _ _ _ _)
   | (with_reducible exact ih3 _ _ _ _ _)
   | (with_reducible exact spec_l00Has.mono _ _ _)
   | (with_reducible exact spec_l09Clash.mono _ _ _)
   | (with_reducible exact spec_l09Colours.mono _ _ _)
   | (with_reducible exact spec_l09Next.mono _ _ _ _)
   | (with_reducible exact spec_l09Ok.mono _ _ _)
   | (with_reducible exact LeO.refl _)
   | (with_reducible exact LeO.none _)
   | (with_reducible refine LeO.ite ?_ ?_)
   | (with_reducible refine LeO.bind ?_ (fun _ => ?_))
   | exact ih0 _ _ _ _ _ _
   | exact ih1 _ _ _ _ _ _ _
   | exact ih2 _ _ _ _ _ _ _ _ _
   | exact ih3 _ _ _ _ _
   | exact spec_l00Has.mono _ _ _
   | exact spec_l09Clash.mono _ _ _
   | exact spec_l09Colours.mono _ _ _
   | exact spec_l09Next.mono _ _ _ _
   | exact spec_l09Ok.mono _ _ _
   | exact LeO.none _
   | refine LeO.ite ?_ ?_
   | refine LeO.bind ?_ (fun _ => ?_)
  ·intro y0 y1 y2 y3 y4 y5 y6 y7 y8
   unfold spec_SwapColours.l1
   repeat' first
   | (with_reducible exact ih0 _ _ _ _ _ _)
   | (with_reducible exact ih1 _ _ _ _ _ _ _)
   | (with_reducible exact ih2 _ _ _ _ _ _ _ _ _)
   | (with_reducible exact ih3 _ _ _ _ _)
   | (with_reducible exact spec_l00Has.mono _ _ _)
   | (with_reducible exact spec_l09Clash.mono _ _ _)
   | (with_reducible exact spec_l09Colours.mono _ _ _)
   | (with_reducible exact spec_l09Next.mono _ _ _ _)
   | (with_reducible exact spec_l09Ok.mono _ _ _)
   | (with_reducible exact LeO.refl _)
   | (with_reducible exact LeO.none _)
   | (with_reducible refine LeO.ite ?_ ?_)
   | (with_reducible refine LeO.bind ?_ (fun _ => ?_))
   | exact ih0 _ _ _ _ _ _
   | exact ih1 _ _ _ _ _ _ _
   | exact ih2 _ _ _ _ _ _ _ _ _
   | exact ih3 _ _ _ _ _
   | exact spec_l00Has.mono _ _ _
   | exact spec_l09Clash.mono _ _ _
   | exact spec_l09Colours.mono _ _ _
   | exact spec_l09Next.mono _ _ _ _
   | exact spec_l09Ok.mono _ _ _
   | exact LeO.none _
   | refine LeO.ite ?_ ?_
   | refine LeO.bind ?_ (fun _ => ?_)
  ·intro y0 y1 y2 y3 y4
   unfold spec_SwapColours.l2
   repeat' first
   | (with_reducible exact ih0 _ _ _ _ _ _)
   | (with_reducible exact ih1 _ _ _ _ _ _ _)
   | (with_reducible exact ih2 _ _ _ _ _ _ _ _ _)
   | (with_reducible exact ih3 _ _ _ _ _)
   | (with_reducible exact spec_l00Has.mono _ _ _)
   | (with_reducible exact spec_l09Clash.mono _ _ _)
   | (with_reducible exact spec_l09Colours.mono _ _ _)
   | (with_reducible exact spec_l09Next.mono _ _ _ _)
   | (with_reducible exact spec_l09Ok.mono _ _ _)
   | (with_reducible exact LeO.refl _)
   | (with_reducible exact LeO.none _)
   | (with_reducible refine LeO.ite ?_ ?_)
   | (with_reducible refine LeO.bind ?_ (fun _ => ?_))
   | exact ih0 _ _ _ _ _ _
   | exact ih1 _ _ _ _ _ _ _
   | exact ih2 _ _ _ _ _ _ _ _ _
   | exact ih3 _ _ _ _ _
   | exact spec_l00Has.mono _ _ _
   | exact spec_l09Clash.mono _ _ _
   | exact spec_l09Colours.mono _ _ _
   | exact spec_l09Next.mono _ _ _ _
   | exact spec_l09Ok.mono _ _ _
   | exact LeO.none _
   | refine LeO.ite ?_ ?_
   | refine LeO.bind ?_ (fun _ => ?_)
theorem spec_SwapColours.mono : ∀ a0 a1 a2 a3 a4 k, LeO (spec_SwapColours.f k a0 a1 a2 a3 a4) (spec_SwapColours.f (k + 1) a0 a1 a2 a3 a4) := by
 intro a0 a1 a2 a3 a4 k
 obtain ⟨ih0, ih1, ih2, ih3⟩ := spec_SwapColours.mono_l k
 unfold spec_SwapColours.f
 repeat' first
   | (with_reducible exact ih0 _ _ _ _ _ _)
   | (with_reducible exact ih1 _ _ _ _ _ _ _)
   | (with_reducible exact ih2 _ _ _ _ _ _ _ _ _)
   | (with_reducible exact ih3 _ _ _ _ _)
   | (with_reducible exact spec_l00Has.mono _ _ _)
   | (with_reducible exact spec_l09Clash.mono _ _ _)
   | (with_reducible exact spec_l09Colours.mono _ _ _)
   | (with_reducible exact spec_l09Next.mono _ _ _ _)
   | (with_reducible exact spec_l09Ok.mono _ _ _)
   | (with_reducible exact LeO.refl _)
   | (with_reducible exact LeO.none _)
   | (with_reducible refine LeO.ite ?_ ?_)
   | (with_reducible refine LeO.bind ?_ (fun _ => ?_))
   | exact ih0 _ _ _ _ _ _
   | exact ih1 _ _ _ _ _ _ _
   | exact ih2 _ _ _ _ _ _ _ _ _
   | exact ih3 _ _ _ _ _
   | exact spec_l00Has.mono _ _ _
   | exact spec_l09Clash.mono _ _ _
   | exact spec_l09Colours.mono _ _ _
   | exact spec_l09Next.mono _ _ _ _
   | exact spec_l09Ok.mono _ _ _
   | exact LeO.none _
   | refine LeO.ite ?_ ?_
   | refine LeO.bind ?_ (fun _ => ?_)
set_option maxHeartbeats 8000000 in
set_option maxRecDepth 100000 in
theorem spec_SwapColours.calls (k : Nat) (a0 : Int) (A1 : Option Addr) (c1 : Nat) (l1 : List (S55)) (A2 : Option Addr) (c2 : Nat) (l2 : List Int) (a3 : Int) (a4 : Int) (r1 : List Int) (r2 : Int) (w : World) (hr1 : Kd.C k55 w A1 l1.length l1) (hc1 : l1.length ≤ c1) (hr2 : Kd.C (Kd.int .i64) w A2 l2.length l2) (hc2 : l2.length ≤ c2) (h : spec_SwapColours.f k a0 l1 l2 a3 a4 = some (r1, r2)) :
  Calls Try.prog 44 #[.int .i64 a0, .slice A1 l1.length c1, .slice A2 l2.length c2, .int .i64 a3, .int .i64 a4] w fun e w' => ∃ v0_ : Value, e = .returned (.tuple #[v0_, .int .i64 r2]) ∧ Kd.R (Kd.int .i64) 2 w' w.heap.size (fun _ => True) v0_ r1 ∧ Below w.heap.size w w' := by
 have HR1 := Aside0.mk hr1
 have HC1 := Aside0.mk hc1
 clear hr1 hc1
 have HR2 := Aside0.mk hr2
 have HC2 := Aside0.mk hc2
 clear hr2 hc2
 have HB := Aside0.mk (Below.refl w.heap.size w)
 have H : ((spec_l09Ok.f k a0 l1).bind fun t342 => (if t342 = true then ((spec_l09Colours.f k a0 l2).bind fun t343 => (if t343 = true then ((spec_l00In.f a3 0 (wrap64 (a0 - 1))).bind fun t344 => (if t344 = true then ((spec_l00In.f a4 0 9).bind fun t345 => (spec_SwapColours.j0 k a0 l1 l2 a3 a4 (!t345))) else (spec_SwapColours.j0 k a0 l1 l2 a3 a4 true))) else (spec_SwapColours.j0 k a0 l1 l2 a3 a4 true))) else (some (([] : List Int), 1)))) = some (r1, r2) := h
 clear h
 replace H := Option.bind_eq_some_iff.mp H
 obtain ⟨t342, A60, H⟩ := H
 replace H : (if t342 = true then ((spec_l09Colours.f k a0 l2).bind fun t343 => (if t343 = true then ((spec_l00In.f a3 0 (wrap64 (a0 - 1))).bind fun t344 => (if t344 = true then ((spec_l00In.f a4 0 9).bind fun t345 => (spec_SwapColours.j0 k a0 l1 l2 a3 a4 (!t345))) else (spec_SwapColours.j0 k a0 l1 l2 a3 a4 true))) else (spec_SwapColours.j0 k a0 l1 l2 a3 a4 true))) else (some (([] : List Int), 1))) = some (r1, r2) := H
 have A6 := Aside0.mk A60
 clear A60
 by_cases c7 : t342 = true
 ·subst c7
  have H1 : ((spec_l09Colours.f k a0 l2).bind fun t343 => (if t343 = true then ((spec_l00In.f a3 0 (wrap64 (a0 - 1))).bind fun t344 => (if t344 = true then ((spec_l00In.f a4 0 9).bind fun t345 => (spec_SwapColours.j0 k a0 l1 l2 a3 a4 (!t345))) else (spec_SwapColours.j0 k a0 l1 l2 a3 a4 true))) else (spec_SwapColours.j0 k a0 l1 l2 a3 a4 true))) = some (r1, r2) := by rw [if_pos rfl] at H; exact H
  clear H
  have H := H1
  clear H1
  have HC8 := Aside0.mk H
  clear H
  go_enter Try.func44, Try.ntmps44
  go_upto_region 3 with (first | ((with_reducible refine gate_callee (f := 46) rfl ?_); refine goesL_ (some 22) rfl rfl Try.func46 (by kernel_rfl) rfl #[.int .i64 a0, .slice A1 l1.length c1] rfl (by (try simp only [List.map_toArray, List.map_cons, List.map_nil]); first | done | rfl | (simp only [List.length_drop, List.length_take]; rfl)) ?_; (with_reducible refine (spec_l09Ok.calls k a0 _ _ l1 true _ ?side1 ?side2 A6.out).mono ?_); (case side1 => repeat (first | exact HR1.out | (with_reducible refine Kd.C_alloc ?_ _) | (with_reducible refine Kd.C_drewN ?_ _) | (with_reducible refine Kd.C_drew ?_))); (case side2 => exact HC1.out); rintro e w' ⟨rfl, ⟨nd, rfl⟩⟩; refine ⟨_, rfl, ?_⟩))
  (try simp only [Act.put, List.setIfInBounds_toArray, List.set_cons_zero, List.set_cons_succ])
  go_cut [39] (fun v39 wc => ∃ (kq : Nat) (x39_7 : Bool), v39 = .bool x39_7 ∧ Aside0 (spec_SwapColours.j0 kq a0 l1 l2 a3 a4 x39_7 = some (r1, r2)) ∧ Aside0 (kq ≤ k) ∧ Aside0 (Below w.heap.size w wc))
  case first =>
   have H := HC8.out
   clear HC8
   replace H := Option.bind_eq_some_iff.mp H
   obtain ⟨t343, A90, H⟩ := H
   replace H : (if t343 = true then ((spec_l00In.f a3 0 (wrap64 (a0 - 1))).bind fun t344 => (if t344 = true then ((spec_l00In.f a4 0 9).bind fun t345 => (spec_SwapColours.j0 k a0 l1 l2 a3 a4 (!t345))) else (spec_SwapColours.j0 k a0 l1 l2 a3 a4 true))) else (spec_SwapColours.j0 k a0 l1 l2 a3 a4 true)) = some (r1, r2) := H
   have A9 := Aside0.mk A90
   clear A90
   by_cases c10 : t343 = true
   ·subst c10
    have H1 : ((spec_l00In.f a3 0 (wrap64 (a0 - 1))).bind fun t344 => (if t344 = true then ((spec_l00In.f a4 0 9).bind fun t345 => (spec_SwapColours.j0 k a0 l1 l2 a3 a4 (!t345))) else (spec_SwapColours.j0 k a0 l1 l2 a3 a4 true))) = some (r1, r2) := by rw [if_pos rfl] at H; exact H
    clear H
    have H := H1
    clear H1
    replace H := Option.bind_eq_some_iff.mp H
    obtain ⟨t344, A110, H⟩ := H
    replace H : (if t344 = true then ((spec_l00In.f a4 0 9).bind fun t345 => (spec_SwapColours.j0 k a0 l1 l2 a3 a4 (!t345))) else (spec_SwapColours.j0 k a0 l1 l2 a3 a4 true)) = some (r1, r2) := H
    have A11 := Aside0.mk A110
    clear A110
    by_cases c12 : t344 = true
    ·subst c12
     have H1 : ((spec_l00In.f a4 0 9).bind fun t345 => (spec_SwapColours.j0 k a0 l1 l2 a3 a4 (!t345))) = some (r1, r2) := by rw [if_pos rfl] at H; exact H
     clear H
     have H := H1
     clear H1
     replace H := Option.bind_eq_some_iff.mp H
     obtain ⟨t345, A130, H⟩ := H
     replace H : (spec_SwapColours.j0 k a0 l1 l2 a3 a4 (!t345)) = some (r1, r2) := H
     have A13 := Aside0.mk A130
     clear A130
     have H' := Aside0.mk H
     clear H
     go_wp2_with (first | ((with_reducible refine gate_callee (f := 58) rfl ?_); refine goesL_ (some 26) rfl rfl Try.func58 (by kernel_rfl) rfl #[.int .i64 a0, .slice A2 l2.length c2] rfl (by (try simp only [List.map_toArray, List.map_cons, List.map_nil]); first | done | rfl | (simp only [List.length_drop, List.length_take]; rfl)) ?_; (with_reducible refine (spec_l09Colours.calls k a0 _ _ l2 true _ ?side1 ?side2 A9.out).mono ?_); (case side1 => repeat (first | exact (Kd.C_below HR2.out HB.out) | (with_reducible refine Kd.C_alloc ?_ _) | (with_reducible refine Kd.C_drewN ?_ _) | (with_reducible refine Kd.C_drew ?_))); (case side2 => exact HC2.out); rintro e w' ⟨rfl, ⟨nd, rfl⟩⟩; refine ⟨_, rfl, ?_⟩) | (go_at_call 71; (with_reducible refine (spec_l00In.calls a3 0 (wrap64 (a0 - 1)) true _ A11.out).mono ?_); rintro e w' ⟨rfl, ⟨nd, rfl⟩⟩) | (go_at_call 71; (with_reducible refine (spec_l00In.calls a4 0 9 t345 _ A13.out).mono ?_); rintro e w' ⟨rfl, ⟨nd, rfl⟩⟩))
     go_meet
     case rel => exact ⟨_, (!t345), (by first | rfl | (simp; done) | (simp [*]; done)), H', ⟨by first | omega | exact Nat.le_refl _⟩, ⟨by repeat (first | (with_reducible first | exact HB.out | apply below_alloc | apply pw_below_drewN | apply below_drew1) | exact HB.out)⟩⟩
    ·replace c12 := Bool.eq_false_iff.mpr c12
     subst c12
     have H1 : (spec_SwapColours.j0 k a0 l1 l2 a3 a4 true) = some (r1, r2) := by rw [if_neg (show ¬ (false = true) by decide)] at H; exact H
     clear H
     have H := H1
     clear H1
     have H' := Aside0.mk H
     clear H
     go_wp2_with (first | ((with_reducible refine gate_callee (f := 58) rfl ?_); refine goesL_ (some 26) rfl rfl Try.func58 (by kernel_rfl) rfl #[.int .i64 a0, .slice A2 l2.length c2] rfl (by (try simp only [List.map_toArray, List.map_cons, List.map_nil]); first | done | rfl | (simp only [List.length_drop, List.length_take]; rfl)) ?_; (with_reducible refine (spec_l09Colours.calls k a0 _ _ l2 true _ ?side1 ?side2 A9.out).mono ?_); (case side1 => repeat (first | exact (Kd.C_below HR2.out HB.out) | (with_reducible refine Kd.C_alloc ?_ _) | (with_reducible refine Kd.C_drewN ?_ _) | (with_reducible refine Kd.C_drew ?_))); (case side2 => exact HC2.out); rintro e w' ⟨rfl, ⟨nd, rfl⟩⟩; refine ⟨_, rfl, ?_⟩) | (go_at_call 71; (with_reducible refine (spec_l00In.calls a3 0 (wrap64 (a0 - 1)) false _ A11.out).mono ?_); rintro e w' ⟨rfl, ⟨nd, rfl⟩⟩))
     go_meet
     case rel => exact ⟨_, (true), (by first | rfl | (simp; done) | (simp [*]; done)), H', ⟨by first | omega | exact Nat.le_refl _⟩, ⟨by repeat (first | (with_reducible first | exact HB.out | apply below_alloc | apply pw_below_drewN | apply below_drew1) | exact HB.out)⟩⟩
   ·replace c10 := Bool.eq_false_iff.mpr c10
    subst c10
    have H1 : (spec_SwapColours.j0 k a0 l1 l2 a3 a4 true) = some (r1, r2) := by rw [if_neg (show ¬ (false = true) by decide)] at H; exact H
    clear H
    have H := H1
    clear H1
    have H' := Aside0.mk H
    clear H
    go_wp2_with (first | ((with_reducible refine gate_callee (f := 58) rfl ?_); refine goesL_ (some 26) rfl rfl Try.func58 (by kernel_rfl) rfl #[.int .i64 a0, .slice A2 l2.length c2] rfl (by (try simp only [List.map_toArray, List.map_cons, List.map_nil]); first | done | rfl | (simp only [List.length_drop, List.length_take]; rfl)) ?_; (with_reducible refine (spec_l09Colours.calls k a0 _ _ l2 false _ ?side1 ?side2 A9.out).mono ?_); (case side1 => repeat (first | exact (Kd.C_below HR2.out HB.out) | (with_reducible refine Kd.C_alloc ?_ _) | (with_reducible refine Kd.C_drewN ?_ _) | (with_reducible refine Kd.C_drew ?_))); (case side2 => exact HC2.out); rintro e w' ⟨rfl, ⟨nd, rfl⟩⟩; refine ⟨_, rfl, ?_⟩))
    go_meet
    case rel => exact ⟨_, (true), (by first | rfl | (simp; done) | (simp [*]; done)), H', ⟨by first | omega | exact Nat.le_refl _⟩, ⟨by repeat (first | (with_reducible first | exact HB.out | apply below_alloc | apply pw_below_drewN | apply below_drew1) | exact HB.out)⟩⟩
  case rest =>
   clear HC8
   try clear c1
   try clear c2
   try clear p2
   try clear c4
   try clear c5
   try clear p6
   try clear c7
   try clear c10
   try clear c12
   obtain ⟨kq, x39_7, rfl, HA, HJ7, HB⟩ := hcut
   cases kq with
   | zero => exact absurd HA.out (by simp [spec_SwapColours.j0])
   | succ kj7 =>
    have H := HA.out
    clear HA
    simp only [spec_SwapColours.j0] at H
    by_cases c14 : x39_7 = true
    ·subst c14
     have H1 : (some (([] : List Int), 2)) = some (r1, r2) := by rw [if_pos rfl] at H; exact H
     clear H
     have H := H1
     clear H1
     simp only [Option.some.injEq, Prod.mk.injEq] at H
     obtain ⟨rfl, rfl⟩ := H
     go_wp2
     go_ret2
     exact ⟨_, by first | rfl | (simp [errW_none, errW_some] <;> rfl) | (simp [*, errW_none, errW_some] <;> rfl), by first | exact Kd.R_nil _ _ _ _ _ | exact Kd.N_nil _ _ _ _ _ | exact Kd.V_nil _ _ _ _ _ | exact Kd.Q_nil _ _ _ _ _ | exact Kd.S_nil _ _ _ _ _, by repeat (first | (with_reducible first | exact HB.out | apply below_alloc | apply pw_below_drewN | apply below_drew1) | exact HB.out)⟩
    ·replace c14 := Bool.eq_false_iff.mpr c14
     subst c14
     have H1 : ((spec_l09Clash.f kj7 l1 l2).bind fun t346 => (if t346 ≥ 0 then (some (([] : List Int), 6)) else (if 0 ≤ a3 then (if a3 < (l2.length : Int) then (if (rd l2 a3) = a4 then (some (([] : List Int), 9)) else (spec_SwapColours.l0 kj7 a0 l1 l2 a4 (rd l2 a3) (([a3] : List Int)) 0)) else (none)) else (none)))) = some (r1, r2) := by rw [if_neg (show ¬ (false = true) by decide)] at H; exact H
     clear H
     have H := H1
     clear H1
     replace H := Option.bind_eq_some_iff.mp H
     obtain ⟨t346, A150, H⟩ := H
     replace H : (if t346 ≥ 0 then (some (([] : List Int), 6)) else (if 0 ≤ a3 then (if a3 < (l2.length : Int) then (if (rd l2 a3) = a4 then (some (([] : List Int), 9)) else (spec_SwapColours.l0 kj7 a0 l1 l2 a4 (rd l2 a3) (([a3] : List Int)) 0)) else (none)) else (none))) = some (r1, r2) := H
     have A15 := Aside0.mk A150
     clear A150
     by_cases c16 : t346 ≥ 0
     ·rw [if_pos c16] at H
      have c16b0 : decide (0 ≤ t346) = true := decide_eq_true c16
      clear c16
      simp only [Option.some.injEq, Prod.mk.injEq] at H
      obtain ⟨rfl, rfl⟩ := H
      go_wp2_with (first | ((with_reducible refine gate_callee (f := 59) rfl ?_); refine goesL_ (some 42) rfl rfl Try.func59 (by kernel_rfl) rfl #[.slice A1 l1.length c1, .slice A2 l2.length c2] rfl (by (try simp only [List.map_toArray, List.map_cons, List.map_nil]); first | done | rfl | (simp only [List.length_drop, List.length_take]; rfl)) ?_; (with_reducible refine (spec_l09Clash.calls kj7 _ _ l1 _ _ l2 t346 _ ?side1 ?side2 ?side3 ?side4 A15.out).mono ?_); (case side1 => repeat (first | exact (Kd.C_below HR1.out HB.out) | (with_reducible refine Kd.C_alloc ?_ _) | (with_reducible refine Kd.C_drewN ?_ _) | (with_reducible refine Kd.C_drew ?_))); (case side2 => exact HC1.out); (case side3 => repeat (first | exact (Kd.C_below HR2.out HB.out) | (with_reducible refine Kd.C_alloc ?_ _) | (with_reducible refine Kd.C_drewN ?_ _) | (with_reducible refine Kd.C_drew ?_))); (case side4 => exact HC2.out); rintro e w' ⟨rfl, ⟨nd, rfl⟩⟩; refine ⟨_, rfl, ?_⟩))
      go_ret2
      exact ⟨_, by first | rfl | (simp [errW_none, errW_some] <;> rfl) | (simp [*, errW_none, errW_some] <;> rfl), by first | exact Kd.R_nil _ _ _ _ _ | exact Kd.N_nil _ _ _ _ _ | exact Kd.V_nil _ _ _ _ _ | exact Kd.Q_nil _ _ _ _ _ | exact Kd.S_nil _ _ _ _ _, by repeat (first | (with_reducible first | exact HB.out | apply below_alloc | apply pw_below_drewN | apply below_drew1) | exact HB.out)⟩
     ·rw [if_neg c16] at H
      have c16b0 : decide (0 ≤ t346) = false := decide_eq_false c16
      clear c16
      by_cases c17 : 0 ≤ a3
      ·rw [if_pos c17] at H
       have c17b0 : decide (0 ≤ a3) = true := decide_eq_true c17
       clear c17
       by_cases c18 : a3 < (l2.length : Int)
       ·rw [if_pos c18] at H
        have c18b0 : decide (a3 < (l2.length : Int)) = true := decide_eq_true c18
        clear c18
        by_cases c19 : (rd l2 a3) = a4
        ·rw [if_pos c19] at H
         have c19b0 : ((rd l2 a3) == a4) = true := beq_iff_eq.mpr c19
         have c19b1 : ((rd l2 a3) != a4) = false := bne_eq_false_iff_eq.mpr c19
         clear c19
         simp only [Option.some.injEq, Prod.mk.injEq] at H
         obtain ⟨rfl, rfl⟩ := H
         go_wp2_with (first | ((with_reducible refine gate_callee (f := 59) rfl ?_); refine goesL_ (some 42) rfl rfl Try.func59 (by kernel_rfl) rfl #[.slice A1 l1.length c1, .slice A2 l2.length c2] rfl (by (try simp only [List.map_toArray, List.map_cons, List.map_nil]); first | done | rfl | (simp only [List.length_drop, List.length_take]; rfl)) ?_; (with_reducible refine (spec_l09Clash.calls kj7 _ _ l1 _ _ l2 t346 _ ?side1 ?side2 ?side3 ?side4 A15.out).mono ?_); (case side1 => repeat (first | exact (Kd.C_below HR1.out HB.out) | (with_reducible refine Kd.C_alloc ?_ _) | (with_reducible refine Kd.C_drewN ?_ _) | (with_reducible refine Kd.C_drew ?_))); (case side2 => exact HC1.out); (case side3 => repeat (first | exact (Kd.C_below HR2.out HB.out) | (with_reducible refine Kd.C_alloc ?_ _) | (with_reducible refine Kd.C_drewN ?_ _) | (with_reducible refine Kd.C_drew ?_))); (case side4 => exact HC2.out); rintro e w' ⟨rfl, ⟨nd, rfl⟩⟩; refine ⟨_, rfl, ?_⟩; have p347 : 0 ≤ (a3 : Int) := od_; have q347 : a3 < (l2.length : Int) := od_; obtain ⟨ad347, e347, hx347_0⟩ := Kd.at_int HR2.out a3 p347 q347; cases e347; replace hx347_0 := (HB.out.cell (World.block_lt_of_cell? w _ hx347_0)).trans hx347_0; replace p347 := eq_true p347; replace q347 := eq_true q347))
         go_ret2
         exact ⟨_, by first | rfl | (simp [errW_none, errW_some] <;> rfl) | (simp [*, errW_none, errW_some] <;> rfl), by first | exact Kd.R_nil _ _ _ _ _ | exact Kd.N_nil _ _ _ _ _ | exact Kd.V_nil _ _ _ _ _ | exact Kd.Q_nil _ _ _ _ _ | exact Kd.S_nil _ _ _ _ _, by repeat (first | (with_reducible first | exact HB.out | apply below_alloc | apply pw_below_drewN | apply below_drew1) | exact HB.out)⟩
        ·rw [if_neg c19] at H
         have c19b0 : ((rd l2 a3) == a4) = false := beq_eq_false_iff_ne.mpr c19
         have c19b1 : ((rd l2 a3) != a4) = true := bne_iff_ne.mpr c19
         obtain ⟨y348, hy348⟩ : ∃ y_ : List Int, y_ = (([a3] : List Int)) := ⟨_, rfl⟩
         replace H : (spec_SwapColours.l0 kj7 a0 l1 l2 a4 (rd l2 a3) y348 0) = some (r1, r2) := by first | (rw [hy348]; with_reducible exact H) | (have H2_ := (Option.bind_some _ _).symm.trans H; rw [hy348]; with_reducible exact H2_) | (have H2_ := (Option.bind_some _ _).symm.trans H; with_reducible exact H2_) | with_reducible exact H | (rw [hy348]; exact H) | exact H
         have Ny348 := Aside0.mk hy348
         clear hy348
         have H' := Aside0.mk H
         clear H
         go_wp2_with (first | ((with_reducible refine gate_callee (f := 59) rfl ?_); refine goesL_ (some 42) rfl rfl Try.func59 (by kernel_rfl) rfl #[.slice A1 l1.length c1, .slice A2 l2.length c2] rfl (by (try simp only [List.map_toArray, List.map_cons, List.map_nil]); first | done | rfl | (simp only [List.length_drop, List.length_take]; rfl)) ?_; (with_reducible refine (spec_l09Clash.calls kj7 _ _ l1 _ _ l2 t346 _ ?side1 ?side2 ?side3 ?side4 A15.out).mono ?_); (case side1 => repeat (first | exact (Kd.C_below HR1.out HB.out) | (with_reducible refine Kd.C_alloc ?_ _) | (with_reducible refine Kd.C_drewN ?_ _) | (with_reducible refine Kd.C_drew ?_))); (case side2 => exact HC1.out); (case side3 => repeat (first | exact (Kd.C_below HR2.out HB.out) | (with_reducible refine Kd.C_alloc ?_ _) | (with_reducible refine Kd.C_drewN ?_ _) | (with_reducible refine Kd.C_drew ?_))); (case side4 => exact HC2.out); rintro e w' ⟨rfl, ⟨nd, rfl⟩⟩; refine ⟨_, rfl, ?_⟩; have p347 : 0 ≤ (a3 : Int) := od_; have q347 : a3 < (l2.length : Int) := od_; obtain ⟨ad347, e347, hx347_0⟩ := Kd.at_int HR2.out a3 p347 q347; cases e347; replace hx347_0 := (HB.out.cell (World.block_lt_of_cell? w _ hx347_0)).trans hx347_0; replace p347 := eq_true p347; replace q347 := eq_true q347) | ((with_reducible refine gate_dst (N := 52) rfl ?_); refine Kd.R_lit (Kd.int .i64) _ 2 ?hg (N := 52) ?hd (xs := ([a3] : List Int)) (inner := [.int .i64 a3]) (ok := fun _ => True) (okp := fun _ => True) ?hr ?hp (fun _ hk => hk) trivial (Below.refl _ _) (Nat.le_refl _) (by simp) ?_; (case hd => rfl); (case hg => rfl); (case hr => first | (go_simp; done) | (go_simp; rfl)); (case hp => exact (Reps.one (show Kd.M (Kd.int .i64) _ _ _ a3 [.int .i64 a3] from rfl) (Reps.none _ _))); intro v349 w20 ho21 hb hg_ hnew_; clear hg_ hnew_; (first | rw [← Ny348.out] at ho21 | (simp only [Int.reduceToNat] at ho21; rw [← Ny348.out] at ho21)); have n0_ := Aside0.mk (Kd.R_lower ho21 (below_size (by repeat (first | (with_reducible first | exact HB.out | apply below_alloc | apply pw_below_drewN | apply below_drew1) | exact HB.out)))); have n1_ := Aside0.mk (below_step (by repeat (first | (with_reducible first | exact HB.out | apply below_alloc | apply pw_below_drewN | apply below_drew1) | exact HB.out)) hb); clear HB; have HO350 := n0_; have HB := n1_; clear n0_ n1_; clear hb ho21))
         go_loopg [13, 14] kj7 (fun kq v13 v14 w' => ∃ (x13_2 : List Int) (x14_2 : Int), v14 = .int .i64 x14_2 ∧ Aside0 (spec_SwapColours.l0 kq a0 l1 l2 a4 (rd l2 a3) x13_2 x14_2 = some (r1, r2)) ∧ Aside0 (kq ≤ kj7) ∧ Aside0 (Kd.R (Kd.int .i64) 2 w' w.heap.size (fun _ => True) v13 x13_2) ∧ Aside0 (Below w.heap.size w w'))
         case atStart => exact ⟨(y348), (0), (by first | rfl | (simp; done) | (simp [*]; done)), H', ⟨Nat.le_refl _⟩, ⟨by (with_reducible repeat (first | apply Kd.R_alloc | apply Kd.R_drewN | apply Kd.R_drew)); exact HO350.out⟩, ⟨by repeat (first | (with_reducible first | exact HB.out | apply below_alloc | apply pw_below_drewN | apply below_drew1) | exact HB.out)⟩⟩
         case round =>
          clear H'
          try clear c1
          try clear c2
          try clear p2
          try clear p3
          try clear q3
          try clear hx3
          try clear c4
          try clear c5
          try clear p6
          try clear c7
          try clear c10
          try clear c12
          try clear c14
          try clear c16
          try clear c16b0
          try clear c17
          try clear c17b0
          try clear c18
          try clear c18b0
          try clear c19
          try clear c19b0
          try clear c19b1
          try clear hx347_0
          try clear p2
          try clear p347
          try clear p6
          try clear q347
          obtain ⟨x13_2, x14_2, rfl, HA, HK2, HO_13, HB⟩ := hrel
          cases gk with
          | zero => exact absurd HA.out (by simp [spec_SwapColours.l0])
          | succ k2 =>
           have H := HA.out
           clear HA
           simp only [spec_SwapColours.l0] at H
           by_cases c22 : x14_2 < (x13_2.length : Int)
           ·rw [if_pos c22] at H
            have c22b0 : decide (x14_2 < (x13_2.length : Int)) = true := decide_eq_true c22
            clear c22
            by_cases c23 : 0 ≤ x14_2
            ·rw [if_pos c23] at H
             have c23b0 : decide (0 ≤ x14_2) = true := decide_eq_true c23
             clear c23
             replace H := Option.bind_eq_some_iff.mp H
             obtain ⟨t352, A240, H⟩ := H
             replace H : (spec_SwapColours.l1 k2 a0 l1 l2 a4 (rd l2 a3) x13_2 x14_2 t352 0) = some (r1, r2) := H
             have A24 := Aside0.mk A240
             clear A240
             have H' := Aside0.mk H
             clear H
             obtain ⟨Ao25, co25, eo25⟩ := Kd.R_slice HO_13.out
             subst eo25
             have p351 : 0 ≤ (x14_2 : Int) := od_
             have q351 : x14_2 < (x13_2.length : Int) := od_
             obtain ⟨ad351, e351, hx351_0⟩ := Kd.at_int (Kd.R_reads' HO_13.out).2.2 x14_2 p351 q351
             cases e351
             replace p351 := eq_true p351
             replace q351 := eq_true q351
             go_wp2_with (first | ((with_reducible refine gate_callee (f := 72) rfl ?_); refine goesL_ (some 65) rfl rfl Try.func72 (by kernel_rfl) rfl #[.int .i64 a0, .slice A1 l1.length c1, .int .i64 (rd x13_2 x14_2)] rfl (by (try simp only [List.map_toArray, List.map_cons, List.map_nil]); first | done | rfl | (simp only [List.length_drop, List.length_take]; rfl)) ?_; (with_reducible refine (spec_l09Next.calls k2 a0 _ _ l1 (rd x13_2 x14_2) t352 _ ?side1 ?side2 A24.out).mono ?_); (case side1 => repeat (first | exact (Kd.C_below HR1.out HB.out) | (with_reducible refine Kd.C_alloc ?_ _) | (with_reducible refine Kd.C_drewN ?_ _) | (with_reducible refine Kd.C_drew ?_))); (case side2 => exact HC1.out); rintro e w26 ⟨v353, rfl, ho0, hb⟩; refine ⟨_, rfl, ?_⟩; have n0_ := Aside0.mk (Kd.R_elder' (by (with_reducible repeat (first | apply Kd.R_alloc | apply Kd.R_drewN | apply Kd.R_drew)); exact HO_13.out) (Kd.R_base ho0) hb); have n1_ := Aside0.mk (Kd.R_lower (Kd.R_new' ho0 (Kd.R_lt (by (with_reducible repeat (first | apply Kd.R_alloc | apply Kd.R_drewN | apply Kd.R_drew)); exact HO_13.out))) (below_size (by repeat (first | (with_reducible first | exact HB.out | apply below_alloc | apply pw_below_drewN | apply below_drew1) | exact HB.out)))); have n2_ := Aside0.mk (below_step (by repeat (first | (with_reducible first | exact HB.out | apply below_alloc | apply pw_below_drewN | apply below_drew1) | exact HB.out)) hb); clear HO_13; clear HB; have HO_13 := n0_; have HO354 := n1_; have HB := n2_; clear n0_ n1_ n2_; (try clear hb); (try clear hb2); (try clear hk); (try clear hi); (try clear ho0)))
             go_loopg [13, 16] k2 (fun kq v13 v16 w' => ∃ (x13_3 : List Int) (x16_3 : Int), v16 = .int .i64 x16_3 ∧ Aside0 (spec_SwapColours.l1 kq a0 l1 l2 a4 (rd l2 a3) x13_3 x14_2 t352 x16_3 = some (r1, r2)) ∧ Aside0 (kq ≤ k2) ∧ Aside0 (Kd.R (Kd.int .i64) 2 w' w.heap.size (fun k_ => some k_ ≠ (v353 : Value).ownBlock) v13 x13_3) ∧ Aside0 (Kd.R (Kd.int .i64) 2 w' w.heap.size (fun k_ => some k_ ≠ (v13 : Value).ownBlock) v353 t352) ∧ Aside0 (Below w.heap.size w w'))
             case atStart => exact ⟨(x13_2), (0), (by first | rfl | (simp; done) | (simp [*]; done)), H', ⟨Nat.le_refl _⟩, ⟨by (with_reducible repeat (first | apply Kd.R_alloc | apply Kd.R_drewN | apply Kd.R_drew)); exact Kd.R_mono HO_13.out (fun _ hk => hk.2)⟩, ⟨by (with_reducible repeat (first | apply Kd.R_alloc | apply Kd.R_drewN | apply Kd.R_drew)); exact Kd.R_mono HO354.out (fun _ hk => hk.2)⟩, ⟨by repeat (first | (with_reducible first | exact HB.out | apply below_alloc | apply pw_below_drewN | apply below_drew1) | exact HB.out)⟩⟩
             case round =>
              clear H'
              try clear c1
              try clear c2
              try clear p2
              try clear p3
              try clear q3
              try clear hx3
              try clear c4
              try clear c5
              try clear p6
              try clear c7
              try clear c10
              try clear c12
              try clear c14
              try clear c16
              try clear c16b0
              try clear c17
              try clear c17b0
              try clear c18
              try clear c18b0
              try clear c19
              try clear c19b0
              try clear c19b1
              try clear c22
              try clear c22b0
              try clear c23
              try clear c23b0
              try clear hx347_0
              try clear hx351_0
              try clear p2
              try clear p3
              try clear p347
              try clear p351
              try clear p6
              try clear q3
              try clear q347
              try clear q351
              obtain ⟨x13_3, x16_3, rfl, HA, HK3, HO_13, HO_15, HB⟩ := hrel
              cases gk with
              | zero => exact absurd HA.out (by simp [spec_SwapColours.l1])
              | succ k3 =>
               have H := HA.out
               clear HA
               simp only [spec_SwapColours.l1] at H
               by_cases c27 : x16_3 < (t352.length : Int)
               ·rw [if_pos c27] at H
                have c27b0 : decide (x16_3 < (t352.length : Int)) = true := decide_eq_true c27
                clear c27
                by_cases c28 : 0 ≤ x16_3
                ·rw [if_pos c28] at H
                 have c28b0 : decide (0 ≤ x16_3) = true := decide_eq_true c28
                 clear c28
                 by_cases c29 : 0 ≤ (rd t352 x16_3)
                 ·rw [if_pos c29] at H
                  have c29b0 : decide (0 ≤ (rd t352 x16_3)) = true := decide_eq_true c29
                  clear c29
                  by_cases c30 : (rd t352 x16_3) < (l2.length : Int)
                  ·rw [if_pos c30] at H
                   have c30b0 : decide ((rd t352 x16_3) < (l2.length : Int)) = true := decide_eq_true c30
                   clear c30
                   by_cases c31 : (rd l2 (rd t352 x16_3)) = (rd l2 a3)
                   ·rw [if_pos c31] at H
                    have c31b0 : ((rd l2 (rd t352 x16_3)) == (rd l2 a3)) = true := beq_iff_eq.mpr c31
                    have c31b1 : ((rd l2 (rd t352 x16_3)) != (rd l2 a3)) = false := bne_eq_false_iff_eq.mpr c31
                    clear c31
                    replace H := Option.bind_eq_some_iff.mp H
                    obtain ⟨t358, A320, H⟩ := H
                    replace H : (if t358 = true then (spec_SwapColours.l1 k3 a0 l1 l2 a4 (rd l2 a3) x13_3 x14_2 t352 (wrap64 (x16_3 + 1))) else (if x13_3.length < 17592186044416 then (spec_SwapColours.l1 k3 a0 l1 l2 a4 (rd l2 a3) (x13_3 ++ [rd t352 x16_3]) x14_2 t352 (wrap64 (x16_3 + 1))) else (none))) = some (r1, r2) := H
                    have A32 := Aside0.mk A320
                    clear A320
                    by_cases c33 : t358 = true
                    ·subst c33
                     have H1 : (spec_SwapColours.l1 k3 a0 l1 l2 a4 (rd l2 a3) x13_3 x14_2 t352 (wrap64 (x16_3 + 1))) = some (r1, r2) := by rw [if_pos rfl] at H; exact H
                     clear H
                     have H := H1
                     clear H1
                     have H' := Aside0.mk H
                     clear H
                     obtain ⟨Ao34, co34, eo34⟩ := Kd.R_slice HO_15.out
                     subst eo34
                     have p355 : 0 ≤ (x16_3 : Int) := od_
                     have q355 : x16_3 < (t352.length : Int) := od_
                     obtain ⟨ad355, e355, hx355_0⟩ := Kd.at_int (Kd.R_reads' HO_15.out).2.2 x16_3 p355 q355
                     cases e355
                     replace p355 := eq_true p355
                     replace q355 := eq_true q355
                     have p356 : 0 ≤ ((rd t352 x16_3) : Int) := od_
                     have q356 : (rd t352 x16_3) < (l2.length : Int) := od_
                     obtain ⟨ad356, e356, hx356_0⟩ := Kd.at_int HR2.out (rd t352 x16_3) p356 q356
                     obtain rfl : ad347 = ad356 := (by injection e356)
                     replace hx356_0 := (HB.out.cell (World.block_lt_of_cell? w _ hx356_0)).trans hx356_0
                     replace p356 := eq_true p356
                     replace q356 := eq_true q356
                     have p357 : 0 ≤ (x16_3 : Int) := od_
                     have q357 : x16_3 < (t352.length : Int) := od_
                     obtain ⟨ad357, e357, hx357_0⟩ := Kd.at_int (Kd.R_reads' HO_15.out).2.2 x16_3 p357 q357
                     obtain rfl : ad355 = ad357 := (by injection e357)
                     replace p357 := eq_true p357
                     replace q357 := eq_true q357
                     obtain ⟨Ao35, co35, eo35⟩ := Kd.R_slice HO_13.out
                     subst eo35
                     go_wp2_with (first | (go_at_call 77; (with_reducible refine (spec_l00Has.calls k3 _ _ x13_3 (rd t352 x16_3) true _ ?side1 ?side2 A32.out).mono ?_); (case side1 => repeat (first | exact (Kd.R_reads' HO_13.out).2.2 | (with_reducible refine Kd.C_alloc ?_ _) | (with_reducible refine Kd.C_drewN ?_ _) | (with_reducible refine Kd.C_drew ?_))); (case side2 => exact (Kd.R_reads' HO_13.out).2.1); rintro e w' ⟨rfl, ⟨nd, rfl⟩⟩))
                     go_roundg k3
                     case measure => have := HJ7.out; have := HK2.out; have := HK3.out; omega
                     case rel => exact ⟨(x13_3), (wrap64 (x16_3 + 1)), (by first | rfl | (simp; done) | (simp [*]; done)), H', ⟨by have := HJ7.out; have := HK2.out; have := HK3.out; omega⟩, ⟨by (with_reducible repeat (first | apply Kd.R_alloc | apply Kd.R_drewN | apply Kd.R_drew)); exact HO_13.out⟩, ⟨by (with_reducible repeat (first | apply Kd.R_alloc | apply Kd.R_drewN | apply Kd.R_drew)); exact HO_15.out⟩, ⟨by repeat (first | (with_reducible first | exact HB.out | apply below_alloc | apply pw_below_drewN | apply below_drew1) | exact HB.out)⟩⟩
                    ·replace c33 := Bool.eq_false_iff.mpr c33
                     subst c33
                     have H1 : (if x13_3.length < 17592186044416 then (spec_SwapColours.l1 k3 a0 l1 l2 a4 (rd l2 a3) (x13_3 ++ [rd t352 x16_3]) x14_2 t352 (wrap64 (x16_3 + 1))) else (none)) = some (r1, r2) := by rw [if_neg (show ¬ (false = true) by decide)] at H; exact H
                     clear H
                     have H := H1
                     clear H1
                     by_cases c36 : x13_3.length < 17592186044416
                     ·rw [if_pos c36] at H
                      have LMc36 := Aside0.mk c36
                      clear c36
                      obtain ⟨y360, hy360⟩ : ∃ y_ : List Int, y_ = (x13_3 ++ [rd t352 x16_3]) := ⟨_, rfl⟩
                      replace H : (spec_SwapColours.l1 k3 a0 l1 l2 a4 (rd l2 a3) y360 x14_2 t352 (wrap64 (x16_3 + 1))) = some (r1, r2) := by first | (rw [hy360]; with_reducible exact H) | (have H2_ := (Option.bind_some _ _).symm.trans H; rw [hy360]; with_reducible exact H2_) | (have H2_ := (Option.bind_some _ _).symm.trans H; with_reducible exact H2_) | with_reducible exact H | (rw [hy360]; exact H) | exact H
                      have Ny360 := Aside0.mk hy360
                      clear hy360
                      have H' := Aside0.mk H
                      clear H
                      obtain ⟨Ao37, co37, eo37⟩ := Kd.R_slice HO_15.out
                      subst eo37
                      have p355 : 0 ≤ (x16_3 : Int) := od_
                      have q355 : x16_3 < (t352.length : Int) := od_
                      obtain ⟨ad355, e355, hx355_0⟩ := Kd.at_int (Kd.R_reads' HO_15.out).2.2 x16_3 p355 q355
                      cases e355
                      replace p355 := eq_true p355
                      replace q355 := eq_true q355
                      have p356 : 0 ≤ ((rd t352 x16_3) : Int) := od_
                      have q356 : (rd t352 x16_3) < (l2.length : Int) := od_
                      obtain ⟨ad356, e356, hx356_0⟩ := Kd.at_int HR2.out (rd t352 x16_3) p356 q356
                      obtain rfl : ad347 = ad356 := (by injection e356)
                      replace hx356_0 := (HB.out.cell (World.block_lt_of_cell? w _ hx356_0)).trans hx356_0
                      replace p356 := eq_true p356
                      replace q356 := eq_true q356
                      have p357 : 0 ≤ (x16_3 : Int) := od_
                      have q357 : x16_3 < (t352.length : Int) := od_
                      obtain ⟨ad357, e357, hx357_0⟩ := Kd.at_int (Kd.R_reads' HO_15.out).2.2 x16_3 p357 q357
                      obtain rfl : ad355 = ad357 := (by injection e357)
                      replace p357 := eq_true p357
                      replace q357 := eq_true q357
                      obtain ⟨Ao38, co38, eo38⟩ := Kd.R_slice HO_13.out
                      subst eo38
                      go_wp2_with (first | (go_at_call 77; (with_reducible refine (spec_l00Has.calls k3 _ _ x13_3 (rd t352 x16_3) false _ ?side1 ?side2 A32.out).mono ?_); (case side1 => repeat (first | exact (Kd.R_reads' HO_13.out).2.2 | (with_reducible refine Kd.C_alloc ?_ _) | (with_reducible refine Kd.C_drewN ?_ _) | (with_reducible refine Kd.C_drew ?_))); (case side2 => exact (Kd.R_reads' HO_13.out).2.1); rintro e w' ⟨rfl, ⟨nd, rfl⟩⟩; have p359 : 0 ≤ (x16_3 : Int) := od_; have q359 : x16_3 < (t352.length : Int) := od_; obtain ⟨ad359, e359, hx359_0⟩ := Kd.at_int (Kd.R_reads' HO_15.out).2.2 x16_3 p359 q359; obtain rfl : ad355 = ad359 := (by injection e359); replace p359 := eq_true p359; replace q359 := eq_true q359) | ((with_reducible refine gate_builtin (b := .append) (xs := #[.tmp 96, .tmp 101]) rfl ?_); at_builtin; refine Kd.R_append (Kd.int .i64) (w0 := w) w.heap.size rfl (.tmp 96) (.tmp 101) 33 2 (.int .i64 0) 8 rfl Try.underlying33 info2 rfl (by decide) (by omega) (.slice Ao38 x13_3.length co38) x13_3 (rd t352 x16_3) [.int .i64 (rd t352 x16_3)] (fun k_ => some k_ ≠ (.slice (some ad355) t352.length co37 : Value).ownBlock) (fun _ => False) rfl rfl ?aP (fun _ hk => hk.elim) ?aF ?aO ?aB ?aS ?aL ?_; (case aP => exact rfl); (case aB => exact (by repeat (first | (with_reducible first | exact HB.out | apply below_alloc | apply pw_below_drewN | apply below_drew1) | exact HB.out))); (case aF => exact (fun k_ hk => Kd.fresh' (Kd.R_lt (by (with_reducible repeat (first | apply Kd.R_alloc | apply Kd.R_drewN | apply Kd.R_drew)); exact HO_15.out)) k_ hk)); (case aO => exact (by (with_reducible repeat (first | apply Kd.R_alloc | apply Kd.R_drewN | apply Kd.R_drew)); exact HO_13.out)); (case aS => exact (below_size (by repeat (first | (with_reducible first | exact HB.out | apply below_alloc | apply pw_below_drewN | apply below_drew1) | exact HB.out)))); (case aL => have := LMc36.out; omega); intro v361 w39 ho hb hg hat; rw [← Ny360.out] at ho; have n0_ := Aside0.mk (Kd.R_after (ok := (fun _ => True)) (by (with_reducible repeat (first | apply Kd.R_alloc | apply Kd.R_drewN | apply Kd.R_drew)); exact Kd.R_mono HO_15.out (fun _ hk => ⟨trivial, hk⟩)) hg hat); have n1_ := Aside0.mk (hb); have n2_ := Aside0.mk (ho); clear HO_15; clear HB; clear HO_13; have HO_15 := n0_; have HB := n1_; have HO362 := n2_; clear n0_ n1_ n2_; clear ho hb hg hat))
                      go_roundg k3
                      case measure => have := HJ7.out; have := HK2.out; have := HK3.out; omega
                      case rel => exact ⟨(y360), (wrap64 (x16_3 + 1)), (by first | rfl | (simp; done) | (simp [*]; done)), H', ⟨by have := HJ7.out; have := HK2.out; have := HK3.out; omega⟩, ⟨by (with_reducible repeat (first | apply Kd.R_alloc | apply Kd.R_drewN | apply Kd.R_drew)); exact HO362.out⟩, ⟨by (with_reducible repeat (first | apply Kd.R_alloc | apply Kd.R_drewN | apply Kd.R_drew)); exact Kd.R_mono HO_15.out (fun _ hk => hk.2)⟩, ⟨by repeat (first | (with_reducible first | exact HB.out | apply below_alloc | apply pw_below_drewN | apply below_drew1) | exact HB.out)⟩⟩
                     ·rw [if_neg c36] at H
                      exact absurd H (by simp)
                   ·rw [if_neg c31] at H
                    have c31b0 : ((rd l2 (rd t352 x16_3)) == (rd l2 a3)) = false := beq_eq_false_iff_ne.mpr c31
                    have c31b1 : ((rd l2 (rd t352 x16_3)) != (rd l2 a3)) = true := bne_iff_ne.mpr c31
                    by_cases c40 : (rd l2 (rd t352 x16_3)) = a4
                    ·rw [if_pos c40] at H
                     have c40b0 : ((rd l2 (rd t352 x16_3)) == a4) = true := beq_iff_eq.mpr c40
                     have c40b1 : ((rd l2 (rd t352 x16_3)) != a4) = false := bne_eq_false_iff_eq.mpr c40
                     clear c40
                     replace H := Option.bind_eq_some_iff.mp H
                     obtain ⟨t364, A410, H⟩ := H
                     replace H : (if t364 = true then (spec_SwapColours.l1 k3 a0 l1 l2 a4 (rd l2 a3) x13_3 x14_2 t352 (wrap64 (x16_3 + 1))) else (if x13_3.length < 17592186044416 then (spec_SwapColours.l1 k3 a0 l1 l2 a4 (rd l2 a3) (x13_3 ++ [rd t352 x16_3]) x14_2 t352 (wrap64 (x16_3 + 1))) else (none))) = some (r1, r2) := H
                     have A41 := Aside0.mk A410
                     clear A410
                     by_cases c42 : t364 = true
                     ·subst c42
                      have H1 : (spec_SwapColours.l1 k3 a0 l1 l2 a4 (rd l2 a3) x13_3 x14_2 t352 (wrap64 (x16_3 + 1))) = some (r1, r2) := by rw [if_pos rfl] at H; exact H
                      clear H
                      have H := H1
                      clear H1
                      have H' := Aside0.mk H
                      clear H
                      obtain ⟨Ao43, co43, eo43⟩ := Kd.R_slice HO_15.out
                      subst eo43
                      have p355 : 0 ≤ (x16_3 : Int) := od_
                      have q355 : x16_3 < (t352.length : Int) := od_
                      obtain ⟨ad355, e355, hx355_0⟩ := Kd.at_int (Kd.R_reads' HO_15.out).2.2 x16_3 p355 q355
                      cases e355
                      replace p355 := eq_true p355
                      replace q355 := eq_true q355
                      have p356 : 0 ≤ ((rd t352 x16_3) : Int) := od_
                      have q356 : (rd t352 x16_3) < (l2.length : Int) := od_
                      obtain ⟨ad356, e356, hx356_0⟩ := Kd.at_int HR2.out (rd t352 x16_3) p356 q356
                      obtain rfl : ad347 = ad356 := (by injection e356)
                      replace hx356_0 := (HB.out.cell (World.block_lt_of_cell? w _ hx356_0)).trans hx356_0
                      replace p356 := eq_true p356
                      replace q356 := eq_true q356
                      have p363 : 0 ≤ (x16_3 : Int) := od_
                      have q363 : x16_3 < (t352.length : Int) := od_
                      obtain ⟨ad363, e363, hx363_0⟩ := Kd.at_int (Kd.R_reads' HO_15.out).2.2 x16_3 p363 q363
                      obtain rfl : ad355 = ad363 := (by injection e363)
                      replace p363 := eq_true p363
                      replace q363 := eq_true q363
                      obtain ⟨Ao44, co44, eo44⟩ := Kd.R_slice HO_13.out
                      subst eo44
                      go_wp2_with (first | (go_at_call 77; (with_reducible refine (spec_l00Has.calls k3 _ _ x13_3 (rd t352 x16_3) true _ ?side1 ?side2 A41.out).mono ?_); (case side1 => repeat (first | exact (Kd.R_reads' HO_13.out).2.2 | (with_reducible refine Kd.C_alloc ?_ _) | (with_reducible refine Kd.C_drewN ?_ _) | (with_reducible refine Kd.C_drew ?_))); (case side2 => exact (Kd.R_reads' HO_13.out).2.1); rintro e w' ⟨rfl, ⟨nd, rfl⟩⟩))
                      go_roundg k3
                      case measure => have := HJ7.out; have := HK2.out; have := HK3.out; omega
                      case rel => exact ⟨(x13_3), (wrap64 (x16_3 + 1)), (by first | rfl | (simp; done) | (simp [*]; done)), H', ⟨by have := HJ7.out; have := HK2.out; have := HK3.out; omega⟩, ⟨by (with_reducible repeat (first | apply Kd.R_alloc | apply Kd.R_drewN | apply Kd.R_drew)); exact HO_13.out⟩, ⟨by (with_reducible repeat (first | apply Kd.R_alloc | apply Kd.R_drewN | apply Kd.R_drew)); exact HO_15.out⟩, ⟨by repeat (first | (with_reducible first | exact HB.out | apply below_alloc | apply pw_below_drewN | apply below_drew1) | exact HB.out)⟩⟩
                     ·replace c42 := Bool.eq_false_iff.mpr c42
                      subst c42
                      have H1 : (if x13_3.length < 17592186044416 then (spec_SwapColours.l1 k3 a0 l1 l2 a4 (rd l2 a3) (x13_3 ++ [rd t352 x16_3]) x14_2 t352 (wrap64 (x16_3 + 1))) else (none)) = some (r1, r2) := by rw [if_neg (show ¬ (false = true) by decide)] at H; exact H
                      clear H
                      have H := H1
                      clear H1
                      by_cases c45 : x13_3.length < 17592186044416
                      ·rw [if_pos c45] at H
                       have LMc45 := Aside0.mk c45
                       clear c45
                       obtain ⟨y366, hy366⟩ : ∃ y_ : List Int, y_ = (x13_3 ++ [rd t352 x16_3]) := ⟨_, rfl⟩
                       replace H : (spec_SwapColours.l1 k3 a0 l1 l2 a4 (rd l2 a3) y366 x14_2 t352 (wrap64 (x16_3 + 1))) = some (r1, r2) := by first | (rw [hy366]; with_reducible exact H) | (have H2_ := (Option.bind_some _ _).symm.trans H; rw [hy366]; with_reducible exact H2_) | (have H2_ := (Option.bind_some _ _).symm.trans H; with_reducible exact H2_) | with_reducible exact H | (rw [hy366]; exact H) | exact H
                       have Ny366 := Aside0.mk hy366
                       clear hy366
                       have H' := Aside0.mk H
                       clear H
                       obtain ⟨Ao46, co46, eo46⟩ := Kd.R_slice HO_15.out
                       subst eo46
                       have p355 : 0 ≤ (x16_3 : Int) := od_
                       have q355 : x16_3 < (t352.length : Int) := od_
                       obtain ⟨ad355, e355, hx355_0⟩ := Kd.at_int (Kd.R_reads' HO_15.out).2.2 x16_3 p355 q355
                       cases e355
                       replace p355 := eq_true p355
                       replace q355 := eq_true q355
                       have p356 : 0 ≤ ((rd t352 x16_3) : Int) := od_
                       have q356 : (rd t352 x16_3) < (l2.length : Int) := od_
                       obtain ⟨ad356, e356, hx356_0⟩ := Kd.at_int HR2.out (rd t352 x16_3) p356 q356
                       obtain rfl : ad347 = ad356 := (by injection e356)
                       replace hx356_0 := (HB.out.cell (World.block_lt_of_cell? w _ hx356_0)).trans hx356_0
                       replace p356 := eq_true p356
                       replace q356 := eq_true q356
                       have p363 : 0 ≤ (x16_3 : Int) := od_
                       have q363 : x16_3 < (t352.length : Int) := od_
                       obtain ⟨ad363, e363, hx363_0⟩ := Kd.at_int (Kd.R_reads' HO_15.out).2.2 x16_3 p363 q363
                       obtain rfl : ad355 = ad363 := (by injection e363)
                       replace p363 := eq_true p363
                       replace q363 := eq_true q363
                       obtain ⟨Ao47, co47, eo47⟩ := Kd.R_slice HO_13.out
                       subst eo47
                       go_wp2_with (first | (go_at_call 77; (with_reducible refine (spec_l00Has.calls k3 _ _ x13_3 (rd t352 x16_3) false _ ?side1 ?side2 A41.out).mono ?_); (case side1 => repeat (first | exact (Kd.R_reads' HO_13.out).2.2 | (with_reducible refine Kd.C_alloc ?_ _) | (with_reducible refine Kd.C_drewN ?_ _) | (with_reducible refine Kd.C_drew ?_))); (case side2 => exact (Kd.R_reads' HO_13.out).2.1); rintro e w' ⟨rfl, ⟨nd, rfl⟩⟩; have p365 : 0 ≤ (x16_3 : Int) := od_; have q365 : x16_3 < (t352.length : Int) := od_; obtain ⟨ad365, e365, hx365_0⟩ := Kd.at_int (Kd.R_reads' HO_15.out).2.2 x16_3 p365 q365; obtain rfl : ad355 = ad365 := (by injection e365); replace p365 := eq_true p365; replace q365 := eq_true q365) | ((with_reducible refine gate_builtin (b := .append) (xs := #[.tmp 96, .tmp 101]) rfl ?_); at_builtin; refine Kd.R_append (Kd.int .i64) (w0 := w) w.heap.size rfl (.tmp 96) (.tmp 101) 33 2 (.int .i64 0) 8 rfl Try.underlying33 info2 rfl (by decide) (by omega) (.slice Ao47 x13_3.length co47) x13_3 (rd t352 x16_3) [.int .i64 (rd t352 x16_3)] (fun k_ => some k_ ≠ (.slice (some ad355) t352.length co46 : Value).ownBlock) (fun _ => False) rfl rfl ?aP (fun _ hk => hk.elim) ?aF ?aO ?aB ?aS ?aL ?_; (case aP => exact rfl); (case aB => exact (by repeat (first | (with_reducible first | exact HB.out | apply below_alloc | apply pw_below_drewN | apply below_drew1) | exact HB.out))); (case aF => exact (fun k_ hk => Kd.fresh' (Kd.R_lt (by (with_reducible repeat (first | apply Kd.R_alloc | apply Kd.R_drewN | apply Kd.R_drew)); exact HO_15.out)) k_ hk)); (case aO => exact (by (with_reducible repeat (first | apply Kd.R_alloc | apply Kd.R_drewN | apply Kd.R_drew)); exact HO_13.out)); (case aS => exact (below_size (by repeat (first | (with_reducible first | exact HB.out | apply below_alloc | apply pw_below_drewN | apply below_drew1) | exact HB.out)))); (case aL => have := LMc45.out; omega); intro v367 w48 ho hb hg hat; rw [← Ny366.out] at ho; have n0_ := Aside0.mk (Kd.R_after (ok := (fun _ => True)) (by (with_reducible repeat (first | apply Kd.R_alloc | apply Kd.R_drewN | apply Kd.R_drew)); exact Kd.R_mono HO_15.out (fun _ hk => ⟨trivial, hk⟩)) hg hat); have n1_ := Aside0.mk (hb); have n2_ := Aside0.mk (ho); clear HO_15; clear HB; clear HO_13; have HO_15 := n0_; have HB := n1_; have HO368 := n2_; clear n0_ n1_ n2_; clear ho hb hg hat))
                       go_roundg k3
                       case measure => have := HJ7.out; have := HK2.out; have := HK3.out; omega
                       case rel => exact ⟨(y366), (wrap64 (x16_3 + 1)), (by first | rfl | (simp; done) | (simp [*]; done)), H', ⟨by have := HJ7.out; have := HK2.out; have := HK3.out; omega⟩, ⟨by (with_reducible repeat (first | apply Kd.R_alloc | apply Kd.R_drewN | apply Kd.R_drew)); exact HO368.out⟩, ⟨by (with_reducible repeat (first | apply Kd.R_alloc | apply Kd.R_drewN | apply Kd.R_drew)); exact Kd.R_mono HO_15.out (fun _ hk => hk.2)⟩, ⟨by repeat (first | (with_reducible first | exact HB.out | apply below_alloc | apply pw_below_drewN | apply below_drew1) | exact HB.out)⟩⟩
                      ·rw [if_neg c45] at H
                       exact absurd H (by simp)
                    ·rw [if_neg c40] at H
                     have c40b0 : ((rd l2 (rd t352 x16_3)) == a4) = false := beq_eq_false_iff_ne.mpr c40
                     have c40b1 : ((rd l2 (rd t352 x16_3)) != a4) = true := bne_iff_ne.mpr c40
                     have H' := Aside0.mk H
                     clear H
                     obtain ⟨Ao49, co49, eo49⟩ := Kd.R_slice HO_15.out
                     subst eo49
                     have p355 : 0 ≤ (x16_3 : Int) := od_
                     have q355 : x16_3 < (t352.length : Int) := od_
                     obtain ⟨ad355, e355, hx355_0⟩ := Kd.at_int (Kd.R_reads' HO_15.out).2.2 x16_3 p355 q355
                     cases e355
                     replace p355 := eq_true p355
                     replace q355 := eq_true q355
                     have p356 : 0 ≤ ((rd t352 x16_3) : Int) := od_
                     have q356 : (rd t352 x16_3) < (l2.length : Int) := od_
                     obtain ⟨ad356, e356, hx356_0⟩ := Kd.at_int HR2.out (rd t352 x16_3) p356 q356
                     obtain rfl : ad347 = ad356 := (by injection e356)
                     replace hx356_0 := (HB.out.cell (World.block_lt_of_cell? w _ hx356_0)).trans hx356_0
                     replace p356 := eq_true p356
                     replace q356 := eq_true q356
                     go_wp2
                     go_roundg k3
                     case measure => have := HJ7.out; have := HK2.out; have := HK3.out; omega
                     case rel => exact ⟨(x13_3), (wrap64 (x16_3 + 1)), (by first | rfl | (simp; done) | (simp [*]; done)), H', ⟨by have := HJ7.out; have := HK2.out; have := HK3.out; omega⟩, ⟨by (with_reducible repeat (first | apply Kd.R_alloc | apply Kd.R_drewN | apply Kd.R_drew)); exact HO_13.out⟩, ⟨by (with_reducible repeat (first | apply Kd.R_alloc | apply Kd.R_drewN | apply Kd.R_drew)); exact HO_15.out⟩, ⟨by repeat (first | (with_reducible first | exact HB.out | apply below_alloc | apply pw_below_drewN | apply below_drew1) | exact HB.out)⟩⟩
                  ·rw [if_neg c30] at H
                   exact absurd H (by simp)
                 ·rw [if_neg c29] at H
                  exact absurd H (by simp)
                ·rw [if_neg c28] at H
                 exact absurd H (by simp)
               ·rw [if_neg c27] at H
                have c27b0 : decide (x16_3 < (t352.length : Int)) = false := decide_eq_false c27
                clear c27
                have H' := Aside0.mk H
                clear H
                obtain ⟨Ao50, co50, eo50⟩ := Kd.R_slice HO_15.out
                subst eo50
                go_wp2
                go_roundg k3
                case measure => have := HJ7.out; have := HK2.out; have := HK3.out; omega
                case rel => exact ⟨(x13_3), (wrap64 (x14_2 + 1)), (by first | rfl | (simp; done) | (simp [*]; done)), H', ⟨by have := HJ7.out; have := HK2.out; have := HK3.out; omega⟩, ⟨by (with_reducible repeat (first | apply Kd.R_alloc | apply Kd.R_drewN | apply Kd.R_drew)); exact Kd.R_mono HO_13.out (fun _ hk => trivial)⟩, ⟨by repeat (first | (with_reducible first | exact HB.out | apply below_alloc | apply pw_below_drewN | apply below_drew1) | exact HB.out)⟩⟩
            ·rw [if_neg c23] at H
             exact absurd H (by simp)
           ·rw [if_neg c22] at H
            have c22b0 : decide (x14_2 < (x13_2.length : Int)) = false := decide_eq_false c22
            clear c22
            replace H := Option.bind_eq_some_iff.mp H
            obtain ⟨t369, A510, H⟩ := H
            replace H : (spec_SwapColours.l2 k2 a4 (rd l2 a3) x13_2 t369 0) = some (r1, r2) := H
            have A51 := Aside0.mk A510
            clear A510
            have H' := Aside0.mk H
            clear H
            obtain ⟨Ao52, co52, eo52⟩ := Kd.R_slice HO_13.out
            subst eo52
            go_wp2_with (first | ((with_reducible refine gate_callee (f := 66) rfl ?_); refine goesL_ (some 104) rfl rfl Try.func66 (by kernel_rfl) rfl #[.slice (some ad347) l2.length c2] rfl (by (try simp only [List.map_toArray, List.map_cons, List.map_nil]); first | done | rfl | (simp only [List.length_drop, List.length_take]; rfl)) ?_; (with_reducible refine (spec_l00Own.calls _ _ l2 t369 _ ?side1 ?side2 A51.out).mono ?_); (case side1 => repeat (first | exact (Kd.C_below HR2.out HB.out) | (with_reducible refine Kd.C_alloc ?_ _) | (with_reducible refine Kd.C_drewN ?_ _) | (with_reducible refine Kd.C_drew ?_))); (case side2 => exact HC2.out); rintro e w53 ⟨v370, rfl, ho0, hb⟩; refine ⟨_, rfl, ?_⟩; have n0_ := Aside0.mk (Kd.R_elder' (by (with_reducible repeat (first | apply Kd.R_alloc | apply Kd.R_drewN | apply Kd.R_drew)); exact HO_13.out) (Kd.R_base ho0) hb); have n1_ := Aside0.mk (Kd.R_lower (Kd.R_new' ho0 (Kd.R_lt (by (with_reducible repeat (first | apply Kd.R_alloc | apply Kd.R_drewN | apply Kd.R_drew)); exact HO_13.out))) (below_size (by repeat (first | (with_reducible first | exact HB.out | apply below_alloc | apply pw_below_drewN | apply below_drew1) | exact HB.out)))); have n2_ := Aside0.mk (below_step (by repeat (first | (with_reducible first | exact HB.out | apply below_alloc | apply pw_below_drewN | apply below_drew1) | exact HB.out)) hb); clear HO_13; clear HB; have HO_13 := n0_; have HO371 := n1_; have HB := n2_; clear n0_ n1_ n2_; (try clear hb); (try clear hb2); (try clear hk); (try clear hi); (try clear ho0)))
            go_loopg [19] k2 (fun kq v19 w' => ∃ (x18_3 : List Int) (x19_3 : Int), v19 = .int .i64 x19_3 ∧ Aside0 (spec_SwapColours.l2 kq a4 (rd l2 a3) x13_2 x18_3 x19_3 = some (r1, r2)) ∧ Aside0 (kq ≤ k2) ∧ Aside0 (Kd.R (Kd.int .i64) 2 w' w.heap.size (fun k_ => some k_ ≠ (v370 : Value).ownBlock) (.slice Ao52 x13_2.length co52) x13_2) ∧ Aside0 (Kd.R (Kd.int .i64) 2 w' w.heap.size (fun k_ => some k_ ≠ ((.slice Ao52 x13_2.length co52) : Value).ownBlock) v370 x18_3) ∧ Aside0 (Below w.heap.size w w'))
            case atStart => exact ⟨(t369), (0), (by first | rfl | (simp; done) | (simp [*]; done)), H', ⟨Nat.le_refl _⟩, ⟨by (with_reducible repeat (first | apply Kd.R_alloc | apply Kd.R_drewN | apply Kd.R_drew)); exact Kd.R_mono HO_13.out (fun _ hk => hk.2)⟩, ⟨by (with_reducible repeat (first | apply Kd.R_alloc | apply Kd.R_drewN | apply Kd.R_drew)); exact Kd.R_mono HO371.out (fun _ hk => hk.2)⟩, ⟨by repeat (first | (with_reducible first | exact HB.out | apply below_alloc | apply pw_below_drewN | apply below_drew1) | exact HB.out)⟩⟩
            case round =>
             clear H'
             try clear c1
             try clear c2
             try clear p2
             try clear c3
             try clear p3
             try clear q3
             try clear hx3
             try clear c4
             try clear c5
             try clear c6
             try clear p6
             try clear c7
             try clear c10
             try clear c12
             try clear c14
             try clear c16
             try clear c16b0
             try clear c17
             try clear c17b0
             try clear c18
             try clear c18b0
             try clear c19
             try clear c19b0
             try clear c19b1
             try clear c22
             try clear c22b0
             try clear c23
             try clear c23b0
             try clear c27
             try clear c27b0
             try clear c28
             try clear c28b0
             try clear c29
             try clear c29b0
             try clear c30
             try clear c30b0
             try clear c31
             try clear c31b0
             try clear c31b1
             try clear c33
             try clear p34
             try clear q34
             try clear hx34
             try clear p35
             try clear q35
             try clear hx35
             try clear c36
             try clear p36
             try clear q36
             try clear hx36
             try clear c40
             try clear c40b0
             try clear c40b1
             try clear c42
             try clear c44
             try clear c45
             try clear c46
             try clear hx347_0
             try clear hx351_0
             try clear hx355_0
             try clear hx356_0
             try clear hx357_0
             try clear hx359_0
             try clear hx363_0
             try clear hx365_0
             try clear p2
             try clear p3
             try clear p347
             try clear p351
             try clear p355
             try clear p356
             try clear p357
             try clear p359
             try clear p363
             try clear p365
             try clear p6
             try clear q3
             try clear q347
             try clear q351
             try clear q355
             try clear q356
             try clear q357
             try clear q359
             try clear q363
             try clear q365
             obtain ⟨x18_3, x19_3, rfl, HA, HK3, HO_13, HO_18, HB⟩ := hrel
             cases gk with
             | zero => exact absurd HA.out (by simp [spec_SwapColours.l2])
             | succ k3 =>
              have H := HA.out
              clear HA
              simp only [spec_SwapColours.l2] at H
              by_cases c54 : x19_3 < (x13_2.length : Int)
              ·rw [if_pos c54] at H
               have c54b0 : decide (x19_3 < (x13_2.length : Int)) = true := decide_eq_true c54
               clear c54
               by_cases c55 : 0 ≤ x19_3
               ·rw [if_pos c55] at H
                have c55b0 : decide (0 ≤ x19_3) = true := decide_eq_true c55
                clear c55
                by_cases c56 : 0 ≤ (rd x13_2 x19_3)
                ·rw [if_pos c56] at H
                 have c56b0 : decide (0 ≤ (rd x13_2 x19_3)) = true := decide_eq_true c56
                 clear c56
                 by_cases c57 : (rd x13_2 x19_3) < (x18_3.length : Int)
                 ·rw [if_pos c57] at H
                  have c57b0 : decide ((rd x13_2 x19_3) < (x18_3.length : Int)) = true := decide_eq_true c57
                  clear c57
                  by_cases c58 : (rd x18_3 (rd x13_2 x19_3)) = (rd l2 a3)
                  ·rw [if_pos c58] at H
                   have c58b0 : ((rd x18_3 (rd x13_2 x19_3)) == (rd l2 a3)) = true := beq_iff_eq.mpr c58
                   have c58b1 : ((rd x18_3 (rd x13_2 x19_3)) != (rd l2 a3)) = false := bne_eq_false_iff_eq.mpr c58
                   clear c58
                   obtain ⟨y375, hy375⟩ : ∃ y_ : List Int, y_ = (x18_3.set ((rd x13_2 x19_3) : Int).toNat a4) := ⟨_, rfl⟩
                   replace H : (spec_SwapColours.l2 k3 a4 (rd l2 a3) x13_2 y375 (wrap64 (x19_3 + 1))) = some (r1, r2) := by first | (rw [hy375]; with_reducible exact H) | (have H2_ := (Option.bind_some _ _).symm.trans H; rw [hy375]; with_reducible exact H2_) | (have H2_ := (Option.bind_some _ _).symm.trans H; with_reducible exact H2_) | with_reducible exact H | (rw [hy375]; exact H) | exact H
                   have Ny375 := Aside0.mk hy375
                   clear hy375
                   have H' := Aside0.mk H
                   clear H
                   have p372 : 0 ≤ (x19_3 : Int) := od_
                   have q372 : x19_3 < (x13_2.length : Int) := od_
                   obtain ⟨ad372, e372, hx372_0⟩ := Kd.at_int (Kd.R_reads' HO_13.out).2.2 x19_3 p372 q372
                   cases e372
                   replace p372 := eq_true p372
                   replace q372 := eq_true q372
                   obtain ⟨Ao60, co60, eo60⟩ := Kd.R_slice HO_18.out
                   subst eo60
                   have p373 : 0 ≤ ((rd x13_2 x19_3) : Int) := od_
                   have q373 : (rd x13_2 x19_3) < (x18_3.length : Int) := od_
                   obtain ⟨ad373, e373, hx373_0⟩ := Kd.at_int (Kd.R_reads' HO_18.out).2.2 (rd x13_2 x19_3) p373 q373
                   cases e373
                   replace p373 := eq_true p373
                   replace q373 := eq_true q373
                   have p374 : 0 ≤ (x19_3 : Int) := od_
                   have q374 : x19_3 < (x13_2.length : Int) := od_
                   obtain ⟨ad374, e374, hx374_0⟩ := Kd.at_int (Kd.R_reads' HO_13.out).2.2 x19_3 p374 q374
                   obtain rfl : ad372 = ad374 := (by injection e374)
                   replace p374 := eq_true p374
                   replace q374 := eq_true q374
                   have p59 : 0 ≤ ((rd x13_2 x19_3) : Int) := od_
                   have q59 : ((rd x13_2 x19_3) : Int) < ((x18_3.length : Int) : Int) := od_
                   obtain ⟨go59, co59, eo59, gb59, gl59, cl59, HG59⟩ := Kd.R_form HO_18.out (by omega)
                   (first | cases eo59 | (injection eo59 with ea_ en_ ec_; (first | subst ea_ | (injection ea_ with ea_; subst ea_)); subst ec_; clear en_))
                   have GB59 := Aside0.mk gb59
                   have GG59 := Aside0.mk HG59
                   clear gb59 gl59 HG59
                   (first | simp only [add_plain] at hx373_0 | skip)
                   obtain ⟨hx59_0, hf59_0⟩ := Kd.R_celln 0 HO_18.out ((rd x13_2 x19_3) : Int) p59 q59
                   replace p59 := eq_true p59
                   replace q59 := eq_true q59
                   have HP61 := Kd.R_putg HO_18.out ((rd x13_2 x19_3) : Int) a4
                   go_wp2_with (first | ((with_reducible refine gate_store (t := 2) (p := 126) rfl ?_); refine store_event (t := 2) (p := 126) (v := ?vo_w62) (w1 := (wr.setCell ⟨go59, ((rd x13_2 x19_3) : Int).toNat, none⟩ (.int .i64 a4))) ?hg ?ho ?hn ?hr ?_; (case ho => rfl); (case hg => rfl); (case hn => rfl); (case hr => first | (go_simp; done) | (go_simp; rfl)); intro w62 hw; have hg : wr.grownBy w62 (some go59) := (by rw [hw]; exact HP61.2); have hp_ : Kd.R (Kd.int .i64) 2 w62 w.heap.size (fun k_ => some k_ ≠ (.slice (some ad372) x13_2.length co52 : Value).ownBlock) (.slice (some ⟨go59, 0, none⟩) x18_3.length co60) y375 := (by rw [hw, Ny375.out]; exact HP61.1); clear HP61; have n0_ := Aside0.mk (Kd.R_after (v := (.slice (some ⟨go59, 0, none⟩) x18_3.length co60)) (v1 := (.slice (some ⟨go59, 0, none⟩) x18_3.length co60)) (ok := (fun _ => True)) (by (with_reducible repeat (first | apply Kd.R_alloc | apply Kd.R_drewN | apply Kd.R_drew)); exact Kd.R_mono HO_13.out (fun _ hk => ⟨trivial, hk⟩)) hg (.inl rfl)); have n1_ := Aside0.mk (hp_); have n2_ := Aside0.mk ((by rw [hw]; exact below_set (HB.out) GB59.out : Below w.heap.size w w62)); clear HO_13; clear HO_18; clear HB; have HO_13 := n0_; have HO_18 := n1_; have HB := n2_; clear n0_ n1_ n2_; clear hg hw hp_))
                   go_roundg k3
                   case measure => have := HJ7.out; have := HK2.out; have := HK3.out; omega
                   case rel => exact ⟨(y375), (wrap64 (x19_3 + 1)), (by first | rfl | (simp; done) | (simp [*]; done)), H', ⟨by have := HJ7.out; have := HK2.out; have := HK3.out; omega⟩, ⟨by (with_reducible repeat (first | apply Kd.R_alloc | apply Kd.R_drewN | apply Kd.R_drew)); exact Kd.R_mono HO_13.out (fun _ hk => hk.2)⟩, ⟨by (with_reducible repeat (first | apply Kd.R_alloc | apply Kd.R_drewN | apply Kd.R_drew)); exact HO_18.out⟩, ⟨by repeat (first | (with_reducible first | exact HB.out | apply below_alloc | apply pw_below_drewN | apply below_drew1) | exact HB.out)⟩⟩
                  ·rw [if_neg c58] at H
                   have c58b0 : ((rd x18_3 (rd x13_2 x19_3)) == (rd l2 a3)) = false := beq_eq_false_iff_ne.mpr c58
                   have c58b1 : ((rd x18_3 (rd x13_2 x19_3)) != (rd l2 a3)) = true := bne_iff_ne.mpr c58
                   obtain ⟨y377, hy377⟩ : ∃ y_ : List Int, y_ = (x18_3.set ((rd x13_2 x19_3) : Int).toNat (rd l2 a3)) := ⟨_, rfl⟩
                   replace H : (spec_SwapColours.l2 k3 a4 (rd l2 a3) x13_2 y377 (wrap64 (x19_3 + 1))) = some (r1, r2) := by first | (rw [hy377]; with_reducible exact H) | (have H2_ := (Option.bind_some _ _).symm.trans H; rw [hy377]; with_reducible exact H2_) | (have H2_ := (Option.bind_some _ _).symm.trans H; with_reducible exact H2_) | with_reducible exact H | (rw [hy377]; exact H) | exact H
                   have Ny377 := Aside0.mk hy377
                   clear hy377
                   have H' := Aside0.mk H
                   clear H
                   have p372 : 0 ≤ (x19_3 : Int) := od_
                   have q372 : x19_3 < (x13_2.length : Int) := od_
                   obtain ⟨ad372, e372, hx372_0⟩ := Kd.at_int (Kd.R_reads' HO_13.out).2.2 x19_3 p372 q372
                   cases e372
                   replace p372 := eq_true p372
                   replace q372 := eq_true q372
                   obtain ⟨Ao64, co64, eo64⟩ := Kd.R_slice HO_18.out
                   subst eo64
                   have p373 : 0 ≤ ((rd x13_2 x19_3) : Int) := od_
                   have q373 : (rd x13_2 x19_3) < (x18_3.length : Int) := od_
                   obtain ⟨ad373, e373, hx373_0⟩ := Kd.at_int (Kd.R_reads' HO_18.out).2.2 (rd x13_2 x19_3) p373 q373
                   cases e373
                   replace p373 := eq_true p373
                   replace q373 := eq_true q373
                   have p376 : 0 ≤ (x19_3 : Int) := od_
                   have q376 : x19_3 < (x13_2.length : Int) := od_
                   obtain ⟨ad376, e376, hx376_0⟩ := Kd.at_int (Kd.R_reads' HO_13.out).2.2 x19_3 p376 q376
                   obtain rfl : ad372 = ad376 := (by injection e376)
                   replace p376 := eq_true p376
                   replace q376 := eq_true q376
                   have p63 : 0 ≤ ((rd x13_2 x19_3) : Int) := od_
                   have q63 : ((rd x13_2 x19_3) : Int) < ((x18_3.length : Int) : Int) := od_
                   obtain ⟨go63, co63, eo63, gb63, gl63, cl63, HG63⟩ := Kd.R_form HO_18.out (by omega)
                   (first | cases eo63 | (injection eo63 with ea_ en_ ec_; (first | subst ea_ | (injection ea_ with ea_; subst ea_)); subst ec_; clear en_))
                   have GB63 := Aside0.mk gb63
                   have GG63 := Aside0.mk HG63
                   clear gb63 gl63 HG63
                   (first | simp only [add_plain] at hx373_0 | skip)
                   obtain ⟨hx63_0, hf63_0⟩ := Kd.R_celln 0 HO_18.out ((rd x13_2 x19_3) : Int) p63 q63
                   replace p63 := eq_true p63
                   replace q63 := eq_true q63
                   have HP65 := Kd.R_putg HO_18.out ((rd x13_2 x19_3) : Int) (rd l2 a3)
                   go_wp2_with (first | ((with_reducible refine gate_store (t := 2) (p := 133) rfl ?_); refine store_event (t := 2) (p := 133) (v := ?vo_w66) (w1 := (wr.setCell ⟨go63, ((rd x13_2 x19_3) : Int).toNat, none⟩ (.int .i64 (rd l2 a3)))) ?hg ?ho ?hn ?hr ?_; (case ho => rfl); (case hg => rfl); (case hn => rfl); (case hr => first | (go_simp; done) | (go_simp; rfl)); intro w66 hw; have hg : wr.grownBy w66 (some go63) := (by rw [hw]; exact HP65.2); have hp_ : Kd.R (Kd.int .i64) 2 w66 w.heap.size (fun k_ => some k_ ≠ (.slice (some ad372) x13_2.length co52 : Value).ownBlock) (.slice (some ⟨go63, 0, none⟩) x18_3.length co64) y377 := (by rw [hw, Ny377.out]; exact HP65.1); clear HP65; have n0_ := Aside0.mk (Kd.R_after (v := (.slice (some ⟨go63, 0, none⟩) x18_3.length co64)) (v1 := (.slice (some ⟨go63, 0, none⟩) x18_3.length co64)) (ok := (fun _ => True)) (by (with_reducible repeat (first | apply Kd.R_alloc | apply Kd.R_drewN | apply Kd.R_drew)); exact Kd.R_mono HO_13.out (fun _ hk => ⟨trivial, hk⟩)) hg (.inl rfl)); have n1_ := Aside0.mk (hp_); have n2_ := Aside0.mk ((by rw [hw]; exact below_set (HB.out) GB63.out : Below w.heap.size w w66)); clear HO_13; clear HO_18; clear HB; have HO_13 := n0_; have HO_18 := n1_; have HB := n2_; clear n0_ n1_ n2_; clear hg hw hp_))
                   go_roundg k3
                   case measure => have := HJ7.out; have := HK2.out; have := HK3.out; omega
                   case rel => exact ⟨(y377), (wrap64 (x19_3 + 1)), (by first | rfl | (simp; done) | (simp [*]; done)), H', ⟨by have := HJ7.out; have := HK2.out; have := HK3.out; omega⟩, ⟨by (with_reducible repeat (first | apply Kd.R_alloc | apply Kd.R_drewN | apply Kd.R_drew)); exact Kd.R_mono HO_13.out (fun _ hk => hk.2)⟩, ⟨by (with_reducible repeat (first | apply Kd.R_alloc | apply Kd.R_drewN | apply Kd.R_drew)); exact HO_18.out⟩, ⟨by repeat (first | (with_reducible first | exact HB.out | apply below_alloc | apply pw_below_drewN | apply below_drew1) | exact HB.out)⟩⟩
                 ·rw [if_neg c57] at H
                  exact absurd H (by simp)
                ·rw [if_neg c56] at H
                 exact absurd H (by simp)
               ·rw [if_neg c55] at H
                exact absurd H (by simp)
              ·rw [if_neg c54] at H
               have c54b0 : decide (x19_3 < (x13_2.length : Int)) = false := decide_eq_false c54
               clear c54
               simp only [Option.some.injEq, Prod.mk.injEq] at H
               obtain ⟨rfl, rfl⟩ := H
               go_wp2
               go_ret2
               exact ⟨_, by first | rfl | (simp [errW_none, errW_some] <;> rfl) | (simp [*, errW_none, errW_some] <;> rfl), by (with_reducible repeat (first | apply Kd.R_alloc | apply Kd.R_drewN | apply Kd.R_drew)); exact Kd.R_mono HO_18.out (fun _ hk => trivial), by repeat (first | (with_reducible first | exact HB.out | apply below_alloc | apply pw_below_drewN | apply below_drew1) | exact HB.out)⟩
       ·rw [if_neg c18] at H
        exact absurd H (by simp)
      ·rw [if_neg c17] at H
       exact absurd H (by simp)
 ·replace c7 := Bool.eq_false_iff.mpr c7
  subst c7
  have H1 : (some (([] : List Int), 1)) = some (r1, r2) := by rw [if_neg (show ¬ (false = true) by decide)] at H; exact H
  clear H
  have H := H1
  clear H1
  simp only [Option.some.injEq, Prod.mk.injEq] at H
  obtain ⟨rfl, rfl⟩ := H
  go_enter Try.func44, Try.ntmps44
  go_wp2_with (first | ((with_reducible refine gate_callee (f := 46) rfl ?_); refine goesL_ (some 22) rfl rfl Try.func46 (by kernel_rfl) rfl #[.int .i64 a0, .slice A1 l1.length c1] rfl (by (try simp only [List.map_toArray, List.map_cons, List.map_nil]); first | done | rfl | (simp only [List.length_drop, List.length_take]; rfl)) ?_; (with_reducible refine (spec_l09Ok.calls k a0 _ _ l1 false _ ?side1 ?side2 A6.out).mono ?_); (case side1 => repeat (first | exact HR1.out | (with_reducible refine Kd.C_alloc ?_ _) | (with_reducible refine Kd.C_drewN ?_ _) | (with_reducible refine Kd.C_drew ?_))); (case side2 => exact HC1.out); rintro e w' ⟨rfl, ⟨nd, rfl⟩⟩; refine ⟨_, rfl, ?_⟩))
  go_ret2
  exact ⟨_, by first | rfl | (simp [errW_none, errW_some] <;> rfl) | (simp [*, errW_none, errW_some] <;> rfl), by first | exact Kd.R_nil _ _ _ _ _ | exact Kd.N_nil _ _ _ _ _ | exact Kd.V_nil _ _ _ _ _ | exact Kd.Q_nil _ _ _ _ _ | exact Kd.S_nil _ _ _ _ _, by repeat (first | (with_reducible first | exact HB.out | apply below_alloc | apply pw_below_drewN | apply below_drew1) | exact HB.out)⟩

end Go.Proofs.Ytlkpnjcbokeoeaa.Print
