-- Printed by a program of this session out of the translation; not trusted: Lean checks it.
-- SHRUNK
import Derived.Test.YtcjkklkmlooinaaPrint0
import Derived.Test.YtcjkklkmlooinaaPrint2
import Derived.Test.YtcjkklkmlooinaaPrint3
import Derived.Test.YtcjkklkmlooinaaPrint8
import Derived.Test.YtcjkklkmlooinaaPrint10
import Derived.Test.YtcjkklkmlooinaaPrint11
import Derived.Test.YtcjkklkmlooinaaPrint12
import Derived.Test.YtcjkklkmlooinaaPrint13
import Derived.Test.YtcjkklkmlooinaaPrint15
import Derived.Test.YtcjkklkmlooinaaPrint16
import Derived.Test.YtcjkklkmlooinaaPrint17
namespace Go.Proofs.Ytcjkklkmlooinaa.Print
open Go.RowKit Go.Proofs.YtcjkklkmlooinaaW.PrintWords Go.Proofs.YtcjkklkmlooinaaW.PrintLast Go.Proofs.YtcjkklkmlooinaaW.PrintMore
attribute [local go_sem] max2_int min2_int max_two min_two max_three min_three max_four min_four   -- for this text's walks alone
set_option linter.unusedVariables false
set_option linter.unusedSimpArgs false

/-! ### laws_FnColourings: function 4 -/
mutual
def laws_FnColourings.j0 : Nat → List Int → Int → List (S58) → Int → List Int → Bool → Option (Bool)
 | 0, _, _, _, _, _, _ => none
 | k + 1, x1, x5, x6, x7, x9, x78 => if x78 = true then (none) else (laws_FnColourings.l0 k x1 x5 x6 x7 x9 0 0)
def laws_FnColourings.l0 : Nat → List Int → Int → List (S58) → Int → List Int → Int → Int → Option (Bool)
 | 0, _, _, _, _, _, _, _ => none
 | k + 1, x1, x5, x6, x7, x9, x13, x14 => if x14 < (x9.length : Int) then (if 0 ≤ x14 then (laws_FnColourings.l0 k x1 x5 x6 x7 x9 (mx x13 (wrap64 ((rd x9 x14) + 1))) (wrap64 (x14 + 1))) else (none)) else (if x13 < x7 then (none) else (laws_FnColourings.l1 k x1 x5 x6 x7 x9 0 1))
def laws_FnColourings.l1 : Nat → List Int → Int → List (S58) → Int → List Int → Int → Int → Option (Bool)
 | 0, _, _, _, _, _, _, _ => none
 | k + 1, x1, x5, x6, x7, x9, x15, x16 => if x16 ≤ 6 then ((impl_CountColours.f k x5 x6 x16).bind fun bt345 => ((impl_FirstColours.f k x5 x6 x16).bind fun bt347 => (if bt345.2 = 0 then (if bt345.1 < x15 then (none) else (if ((decide (bt345.1 > 0)) != (decide (x16 ≥ x7))) = true then (none) else (if ((decide (bt345.1 > 0)) != (bt347.2 == 0)) = true then (none) else (if bt347.2 = 0 then (laws_FnColourings.j3 k x1 x5 x6 x7 x9 x16 bt345.1 bt347.1 bt347.2 false) else (laws_FnColourings.j3 k x1 x5 x6 x7 x9 x16 bt345.1 bt347.1 bt347.2 (bt347.2 != 3)))))) else (none)))) else ((laws_a2At.f x1 0 x5).bind fun t353 => ((laws_a2At.f x1 1 5).bind fun t354 => ((impl_SwapColours.f k x5 x6 x9 t353 t354).bind fun bt355 => (if 0 ≤ t353 then (if t353 < (x9.length : Int) then (if (rd x9 t353) = t354 then (some (bt355.2 == 9)) else ((impl_FirstClash.f k x5 x6 bt355.1).bind fun bt360 => (if bt355.2 = 0 then (if (bt355.1.length : Int) = x5 then (if bt360.2 = 0 then (if bt360.1 = (-1) then (if t353 < (bt355.1.length : Int) then (some ((rd bt355.1 t353) == t354)) else (none)) else (none)) else (none)) else (none)) else (none)))) else (none)) else (none)))))
def laws_FnColourings.j3 : Nat → List Int → Int → List (S58) → Int → List Int → Int → Int → List Int → Int → Bool → Option (Bool)
 | 0, _, _, _, _, _, _, _, _, _, _ => none
 | k + 1, x1, x5, x6, x7, x9, x16, x17, x19, x20, x142 => if x142 = true then (none) else (if x20 = 0 then ((spec_FirstClash.f k x5 x6 x19).bind fun bt351 => (if bt351.2 = 0 then (if bt351.1 = (-1) then (laws_FnColourings.l1 k x1 x5 x6 x7 x9 x17 (wrap64 (x16 + 1))) else (none)) else (none))) else (laws_FnColourings.l1 k x1 x5 x6 x7 x9 x17 (wrap64 (x16 + 1))))
end
def laws_FnColourings.f (k : Nat) (l0 : List Int) (l1 : List Int) : Option (Bool) := (laws_a2Long.f l0 l1).bind fun t328 => (if t328 = true then (some true) else ((spec_A2Lands.f k l0).bind fun bt329 => ((impl_FewestColours.f k bt329.1 bt329.2).bind fun bt333 => ((spec_A2Order.f k l1 bt329.1).bind fun t335 => ((impl_GreedyColours.f k bt329.1 bt329.2 t335).bind fun bt338 => ((impl_FirstClash.f k bt329.1 bt329.2 bt338.1).bind fun bt342 => (if bt333.2 = 0 then (if bt338.2 = 0 then (if (bt338.1.length : Int) = bt329.1 then (if bt342.2 = 0 then (laws_FnColourings.j0 k l1 bt329.1 bt329.2 bt333.1 bt338.1 (bt342.1 != (-1))) else (none)) else (none)) else (none)) else (none))))))))
theorem laws_FnColourings.mono_l : ∀ k, (∀ y0 y1 y2 y3 y4 y5, LeO (laws_FnColourings.j0 k y0 y1 y2 y3 y4 y5) (laws_FnColourings.j0 (k + 1) y0 y1 y2 y3 y4 y5)) ∧ (∀ y0 y1 y2 y3 y4 y5 y6, LeO (laws_FnColourings.l0 k y0 y1 y2 y3 y4 y5 y6) (laws_FnColourings.l0 (k + 1) y0 y1 y2 y3 y4 y5 y6)) ∧ (∀ y0 y1 y2 y3 y4 y5 y6, LeO (laws_FnColourings.l1 k y0 y1 y2 y3 y4 y5 y6) (laws_FnColourings.l1 (k + 1) y0 y1 y2 y3 y4 y5 y6)) ∧ (∀ y0 y1 y2 y3 y4 y5 y6 y7 y8 y9, LeO (laws_FnColourings.j3 k y0 y1 y2 y3 y4 y5 y6 y7 y8 y9) (laws_FnColourings.j3 (k + 1) y0 y1 y2 y3 y4 y5 y6 y7 y8 y9))
 | 0 => ⟨fun _ _ _ _ _ _ r h => by simp [laws_FnColourings.j0] at h, fun _ _ _ _ _ _ _ r h => by simp [laws_FnColourings.l0] at h, fun _ _ _ _ _ _ _ r h => by simp [laws_FnColourings.l1] at h, fun _ _ _ _ _ _ _ _ _ _ r h => by simp [laws_FnColourings.j3] at h⟩
 | k + 1 => by
  obtain ⟨ih0, ih1, ih2, ih3⟩ := laws_FnColourings.mono_l k
  refine ⟨?_, ?_, ?_, ?_⟩
  ·intro y0 y1 y2 y3 y4 y5
   unfold laws_FnColourings.j0
   repeat' first
   | (with_reducible exact ih0 _ _ _ _ _ _)
   | (with_reducible exact ih1 _ _ _ _ _ _ _)
   | (with_reducible exact ih2 _ _ _ _ _ _ _)
   | (with_reducible exact ih3 _ _ _ _ _ _ _ _ _ _)
   | (with_reducible exact impl_CountColours.mono _ _ _ _)
   | (with_reducible exact impl_FewestColours.mono _ _ _)
   | (with_reducible exact impl_FirstClash.mono _ _ _ _)
   | (with_reducible exact impl_FirstColours.mono _ _ _ _)
   | (with_reducible exact impl_GreedyColours.mono _ _ _ _)
   | (with_reducible exact impl_SwapColours.mono _ _ _ _ _ _)
   | (with_reducible exact spec_A2Lands.mono _ _)
   | (with_reducible exact spec_A2Order.mono _ _ _)
   | (with_reducible exact spec_FirstClash.mono _ _ _ _)
   | (with_reducible exact LeO.refl _)
   | (with_reducible exact LeO.none _)
   | (with_reducible refine LeO.ite ?_ ?_)
   | (with_reducible refine LeO.bind ?_ (fun _ => ?_))
   | exact ih0 _ _ _ _ _ _
   | exact ih1 _ _ _ _ _ _ _
   | exact ih2 _ _ _ _ _ _ _
   | exact ih3 _ _ _ _ _ _ _ _ _ _
   | exact impl_CountColours.mono _ _ _ _
   | exact impl_FewestColours.mono _ _ _
   | exact impl_FirstClash.mono _ _ _ _
   | exact impl_FirstColours.mono _ _ _ _
   | exact impl_GreedyColours.mono _ _ _ _
   | exact impl_SwapColours.mono _ _ _ _ _ _
   | exact spec_A2Lands.mono _ _
   | exact spec_A2Order.mono _ _ _
   | exact spec_FirstClash.mono _ _ _ _
   | exact LeO.none _
   | refine LeO.ite ?_ ?_
   | refine LeO.bind ?_ (fun _ => ?_)
  ·intro y0 y1 y2 y3 y4 y5 y6
   unfold laws_FnColourings.l0
   repeat' first
   | (with_reducible exact ih0 _ _ _ _ _ _)
   | (with_reducible exact ih1 _ _ _ _ _ _ _)
   | (with_reducible exact ih2 _ _ _ _ _ _ _)
   | (with_reducible exact ih3 _ _ _ _ _ _ _ _ _ _)
   | (with_reducible exact impl_CountColours.mono _ _ _ _)
   | (with_reducible exact impl_FewestColours.mono _ _ _)
   | (with_reducible exact impl_FirstClash.mono _ _ _ _)
   | (with_reducible exact impl_FirstColours.mono _ _ _ _)
   | (with_reducible exact impl_GreedyColours.mono _ _ _ _)
   | (with_reducible exact impl_SwapColours.mono _ _ _ _ _ _)
   | (with_reducible exact spec_A2Lands.mono _ _)
   | (with_reducible exact spec_A2Order.mono _ _ _)
   | (with_reducible exact spec_FirstClash.mono _ _ _ _)
   | (with_reducible exact LeO.refl _)
   | (with_reducible exact LeO.none _)
   | (with_reducible refine LeO.ite ?_ ?_)
   | (with_reducible refine LeO.bind ?_ (fun _ => ?_))
   | exact ih0 _ _ _ _ _ _
   | exact ih1 _ _ _ _ _ _ _
   | exact ih2 _ _ _ _ _ _ _
   | exact ih3 _ _ _ _ _ _ _ _ _ _
   | exact impl_CountColours.mono _ _ _ _
   | exact impl_FewestColours.mono _ _ _
   | exact impl_FirstClash.mono _ _ _ _
   | exact impl_FirstColours.mono _ _ _ _
   | exact impl_GreedyColours.mono _ _ _ _
   | exact impl_SwapColours.mono _ _ _ _ _ _
   | exact spec_A2Lands.mono _ _
   | exact spec_A2Order.mono _ _ _
   | exact spec_FirstClash.mono _ _ _ _
   | exact LeO.none _
   | refine LeO.ite ?_ ?_
   | refine LeO.bind ?_ (fun _ => ?_)
  ·intro y0 y1 y2 y3 y4 y5 y6
   unfold laws_FnColourings.l1
   repeat' first
   | (with_reducible exact ih0 _ _ _ _ _ _)
   | (with_reducible exact ih1 _ _ _ _ _ _ _)
   | (with_reducible exact ih2 _ _ _ _ _ _ _)
   | (with_reducible exact ih3 _ _ _ _ _ _ _ _ _ _)
   | (with_reducible exact impl_CountColours.mono _ _ _ _)
   | (with_reducible exact impl_FewestColours.mono _ _ _)
   | (with_reducible exact impl_FirstClash.mono _ _ _ _)
   | (with_reducible exact impl_FirstColours.mono _ _ _ _)
   | (with_reducible exact impl_GreedyColours.mono _ _ _ _)
   | (with_reducible exact impl_SwapColours.mono _ _ _ _ _ _)
   | (with_reducible exact spec_A2Lands.mono _ _)
   | (with_reducible exact spec_A2Order.mono _ _ _)
   | (with_reducible exact spec_FirstClash.mono _ _ _ _)
   | (with_reducible exact LeO.refl _)
   | (with_reducible exact LeO.none _)
   | (with_reducible refine LeO.ite ?_ ?_)
   | (with_reducible refine LeO.bind ?_ (fun _ => ?_))
   | exact ih0 _ _ _ _ _ _
   | exact ih1 _ _ _ _ _ _ _
   | exact ih2 _ _ _ _ _ _ _
   | exact ih3 _ _ _ _ _ _ _ _ _ _
   | exact impl_CountColours.mono _ _ _ _
   | exact impl_FewestColours.mono _ _ _
   | exact impl_FirstClash.mono _ _ _ _
   | exact impl_FirstColours.mono _ _ _ _
   | exact impl_GreedyColours.mono _ _ _ _
   | exact impl_SwapColours.mono _ _ _ _ _ _
   | exact spec_A2Lands.mono _ _
   | exact spec_A2Order.mono _ _ _
   | exact spec_FirstClash.mono _ _ _ _
   | exact LeO.none _
   | refine LeO.ite ?_ ?_
   | refine LeO.bind ?_ (fun _ => ?_)
  ·intro y0 y1 y2 y3 y4 y5 y6 y7 y8 y9
   unfold laws_FnColourings.j3
   repeat' first
   | (with_reducible exact ih0 _ _ _ _ _ _)
   | (with_reducible exact ih1 _ _ _ _ _ _ _)
   | (with_reducible exact ih2 _ _ _ _ _ _ _)
   | (with_reducible exact ih3 _ _ _ _ _ _ _ _ _ _)
   | (with_reducible exact impl_CountColours.mono _ _ _ _)
   | (with_reducible exact impl_FewestColours.mono _ _ _)
   | (with_reducible exact impl_FirstClash.mono _ _ _ _)
   | (with_reducible exact impl_FirstColours.mono _ _ _ _)
   | (with_reducible exact impl_GreedyColours.mono _ _ _ _)
   | (with_reducible exact impl_SwapColours.mono _ _ _ _ _ _)
   | (with_reducible exact spec_A2Lands.mono _ _)
   | (with_reducible exact spec_A2Order.mono _ _ _)
   | (with_reducible exact spec_FirstClash.mono _ _ _ _)
   | (with_reducible exact LeO.refl _)
   | (with_reducible exact LeO.none _)
   | (with_reducible refine LeO.ite ?_ ?_)
   | (with_reducible refine LeO.bind ?_ (fun _ => ?_))
   | exact ih0 _ _ _ _ _ _
   | exact ih1 _ _ _ _ _ _ _
   | exact ih2 _ _ _ _ _ _ _
   | exact ih3 _ _ _ _ _ _ _ _ _ _
   | exact impl_CountColours.mono _ _ _ _
   | exact impl_FewestColours.mono _ _ _
   | exact impl_FirstClash.mono _ _ _ _
   | exact impl_FirstColours.mono _ _ _ _
   | exact impl_GreedyColours.mono _ _ _ _
   | exact impl_SwapColours.mono _ _ _ _ _ _
   | exact spec_A2Lands.mono _ _
   | exact spec_A2Order.mono _ _ _
   | exact spec_FirstClash.mono _ _ _ _
   | exact LeO.none _
   | refine LeO.ite ?_ ?_
   | refine LeO.bind ?_ (fun _ => ?_)
theorem laws_FnColourings.mono : ∀ a0 a1 k, LeO (laws_FnColourings.f k a0 a1) (laws_FnColourings.f (k + 1) a0 a1) := by
 intro a0 a1 k
 obtain ⟨ih0, ih1, ih2, ih3⟩ := laws_FnColourings.mono_l k
 unfold laws_FnColourings.f
 repeat' first
   | (with_reducible exact ih0 _ _ _ _ _ _)
   | (with_reducible exact ih1 _ _ _ _ _ _ _)
   | (with_reducible exact ih2 _ _ _ _ _ _ _)
   | (with_reducible exact ih3 _ _ _ _ _ _ _ _ _ _)
   | (with_reducible exact impl_CountColours.mono _ _ _ _)
   | (with_reducible exact impl_FewestColours.mono _ _ _)
   | (with_reducible exact impl_FirstClash.mono _ _ _ _)
   | (with_reducible exact impl_FirstColours.mono _ _ _ _)
   | (with_reducible exact impl_GreedyColours.mono _ _ _ _)
   | (with_reducible exact impl_SwapColours.mono _ _ _ _ _ _)
   | (with_reducible exact spec_A2Lands.mono _ _)
   | (with_reducible exact spec_A2Order.mono _ _ _)
   | (with_reducible exact spec_FirstClash.mono _ _ _ _)
   | (with_reducible exact LeO.refl _)
   | (with_reducible exact LeO.none _)
   | (with_reducible refine LeO.ite ?_ ?_)
   | (with_reducible refine LeO.bind ?_ (fun _ => ?_))
   | exact ih0 _ _ _ _ _ _
   | exact ih1 _ _ _ _ _ _ _
   | exact ih2 _ _ _ _ _ _ _
   | exact ih3 _ _ _ _ _ _ _ _ _ _
   | exact impl_CountColours.mono _ _ _ _
   | exact impl_FewestColours.mono _ _ _
   | exact impl_FirstClash.mono _ _ _ _
   | exact impl_FirstColours.mono _ _ _ _
   | exact impl_GreedyColours.mono _ _ _ _
   | exact impl_SwapColours.mono _ _ _ _ _ _
   | exact spec_A2Lands.mono _ _
   | exact spec_A2Order.mono _ _ _
   | exact spec_FirstClash.mono _ _ _ _
   | exact LeO.none _
   | refine LeO.ite ?_ ?_
   | refine LeO.bind ?_ (fun _ => ?_)
set_option maxHeartbeats 8000000 in
set_option maxRecDepth 100000 in
theorem laws_FnColourings.calls (k : Nat) (A0 : Option Addr) (c0 : Nat) (l0 : List Int) (A1 : Option Addr) (c1 : Nat) (l1 : List Int) (r : Bool) (w : World) (hr0 : Kd.C (Kd.int .u8) w A0 l0.length l0) (hc0 : l0.length ≤ c0) (hr1 : Kd.C (Kd.int .u8) w A1 l1.length l1) (hc1 : l1.length ≤ c1) (h : laws_FnColourings.f k l0 l1 = some r) :
  Calls Try.prog 4 #[.slice A0 l0.length c0, .slice A1 l1.length c1] w fun e w' => e = .returned (.bool r) ∧ Below w.heap.size w w' := by
 have HR0 := Aside0.mk hr0
 have HC0 := Aside0.mk hc0
 clear hr0 hc0
 have HR1 := Aside0.mk hr1
 have HC1 := Aside0.mk hc1
 clear hr1 hc1
 have HB := Aside0.mk (Below.refl w.heap.size w)
 have H : ((laws_a2Long.f l0 l1).bind fun t328 => (if t328 = true then (some true) else ((spec_A2Lands.f k l0).bind fun bt329 => ((impl_FewestColours.f k bt329.1 bt329.2).bind fun bt333 => ((spec_A2Order.f k l1 bt329.1).bind fun t335 => ((impl_GreedyColours.f k bt329.1 bt329.2 t335).bind fun bt338 => ((impl_FirstClash.f k bt329.1 bt329.2 bt338.1).bind fun bt342 => (if bt333.2 = 0 then (if bt338.2 = 0 then (if (bt338.1.length : Int) = bt329.1 then (if bt342.2 = 0 then (laws_FnColourings.j0 k l1 bt329.1 bt329.2 bt333.1 bt338.1 (bt342.1 != (-1))) else (none)) else (none)) else (none)) else (none))))))))) = some r := h
 clear h
 replace H := Option.bind_eq_some_iff.mp H
 obtain ⟨t328, A30, H⟩ := H
 replace H : (if t328 = true then (some true) else ((spec_A2Lands.f k l0).bind fun bt329 => ((impl_FewestColours.f k bt329.1 bt329.2).bind fun bt333 => ((spec_A2Order.f k l1 bt329.1).bind fun t335 => ((impl_GreedyColours.f k bt329.1 bt329.2 t335).bind fun bt338 => ((impl_FirstClash.f k bt329.1 bt329.2 bt338.1).bind fun bt342 => (if bt333.2 = 0 then (if bt338.2 = 0 then (if (bt338.1.length : Int) = bt329.1 then (if bt342.2 = 0 then (laws_FnColourings.j0 k l1 bt329.1 bt329.2 bt333.1 bt338.1 (bt342.1 != (-1))) else (none)) else (none)) else (none)) else (none)))))))) = some r := H
 have A3 := Aside0.mk A30
 clear A30
 by_cases c4 : t328 = true
 ·subst c4
  have H1 : (some true) = some r := by rw [if_pos rfl] at H; exact H
  clear H
  have H := H1
  clear H1
  obtain rfl := Option.some.inj H
  go_enter Try.func4, Try.ntmps4
  go_wp2_with (first | ((with_reducible refine gate_callee (f := 8) rfl ?_); refine goesL_ (some 31) rfl rfl Try.func8 (by kernel_rfl) rfl #[.slice A0 l0.length c0, .slice A1 l1.length c1] rfl (by (try simp only [List.map_toArray, List.map_cons, List.map_nil]); first | done | rfl | (simp only [List.length_drop, List.length_take]; rfl)) ?_; (with_reducible refine (laws_a2Long.calls _ _ l0 _ _ l1 true _ ?side1 ?side2 ?side3 ?side4 A3.out).mono ?_); (case side1 => repeat (first | exact HR0.out | (with_reducible refine Kd.C_alloc ?_ _) | (with_reducible refine Kd.C_drewN ?_ _) | (with_reducible refine Kd.C_drew ?_))); (case side2 => exact HC0.out); (case side3 => repeat (first | exact HR1.out | (with_reducible refine Kd.C_alloc ?_ _) | (with_reducible refine Kd.C_drewN ?_ _) | (with_reducible refine Kd.C_drew ?_))); (case side4 => exact HC1.out); rintro e w' ⟨rfl, ⟨nd, rfl⟩⟩; refine ⟨_, rfl, ?_⟩))
  go_ret
  exact ⟨by first | rfl | (simp [errW_none, errW_some] <;> rfl) | (simp [*, errW_none, errW_some] <;> rfl), by repeat (first | (with_reducible first | exact HB.out | apply below_alloc | apply pw_below_drewN | apply below_drew1) | exact HB.out)⟩
 ·replace c4 := Bool.eq_false_iff.mpr c4
  subst c4
  have H1 : ((spec_A2Lands.f k l0).bind fun bt329 => ((impl_FewestColours.f k bt329.1 bt329.2).bind fun bt333 => ((spec_A2Order.f k l1 bt329.1).bind fun t335 => ((impl_GreedyColours.f k bt329.1 bt329.2 t335).bind fun bt338 => ((impl_FirstClash.f k bt329.1 bt329.2 bt338.1).bind fun bt342 => (if bt333.2 = 0 then (if bt338.2 = 0 then (if (bt338.1.length : Int) = bt329.1 then (if bt342.2 = 0 then (laws_FnColourings.j0 k l1 bt329.1 bt329.2 bt333.1 bt338.1 (bt342.1 != (-1))) else (none)) else (none)) else (none)) else (none))))))) = some r := by rw [if_neg (show ¬ (false = true) by decide)] at H; exact H
  clear H
  have H := H1
  clear H1
  replace H := Option.bind_eq_some_iff.mp H
  obtain ⟨⟨t329, t330⟩, A50, H⟩ := H
  replace H : ((impl_FewestColours.f k t329 t330).bind fun bt333 => ((spec_A2Order.f k l1 t329).bind fun t335 => ((impl_GreedyColours.f k t329 t330 t335).bind fun bt338 => ((impl_FirstClash.f k t329 t330 bt338.1).bind fun bt342 => (if bt333.2 = 0 then (if bt338.2 = 0 then (if (bt338.1.length : Int) = t329 then (if bt342.2 = 0 then (laws_FnColourings.j0 k l1 t329 t330 bt333.1 bt338.1 (bt342.1 != (-1))) else (none)) else (none)) else (none)) else (none)))))) = some r := H
  have A5 := Aside0.mk A50
  clear A50
  replace H := Option.bind_eq_some_iff.mp H
  obtain ⟨⟨t333, t334⟩, A60, H⟩ := H
  replace H : ((spec_A2Order.f k l1 t329).bind fun t335 => ((impl_GreedyColours.f k t329 t330 t335).bind fun bt338 => ((impl_FirstClash.f k t329 t330 bt338.1).bind fun bt342 => (if t334 = 0 then (if bt338.2 = 0 then (if (bt338.1.length : Int) = t329 then (if bt342.2 = 0 then (laws_FnColourings.j0 k l1 t329 t330 t333 bt338.1 (bt342.1 != (-1))) else (none)) else (none)) else (none)) else (none))))) = some r := H
  have A6 := Aside0.mk A60
  clear A60
  replace H := Option.bind_eq_some_iff.mp H
  obtain ⟨t335, A70, H⟩ := H
  replace H : ((impl_GreedyColours.f k t329 t330 t335).bind fun bt338 => ((impl_FirstClash.f k t329 t330 bt338.1).bind fun bt342 => (if t334 = 0 then (if bt338.2 = 0 then (if (bt338.1.length : Int) = t329 then (if bt342.2 = 0 then (laws_FnColourings.j0 k l1 t329 t330 t333 bt338.1 (bt342.1 != (-1))) else (none)) else (none)) else (none)) else (none)))) = some r := H
  have A7 := Aside0.mk A70
  clear A70
  replace H := Option.bind_eq_some_iff.mp H
  obtain ⟨⟨t338, t339⟩, A80, H⟩ := H
  replace H : ((impl_FirstClash.f k t329 t330 t338).bind fun bt342 => (if t334 = 0 then (if t339 = 0 then (if (t338.length : Int) = t329 then (if bt342.2 = 0 then (laws_FnColourings.j0 k l1 t329 t330 t333 t338 (bt342.1 != (-1))) else (none)) else (none)) else (none)) else (none))) = some r := H
  have A8 := Aside0.mk A80
  clear A80
  replace H := Option.bind_eq_some_iff.mp H
  obtain ⟨⟨t342, t343⟩, A90, H⟩ := H
  replace H : (if t334 = 0 then (if t339 = 0 then (if (t338.length : Int) = t329 then (if t343 = 0 then (laws_FnColourings.j0 k l1 t329 t330 t333 t338 (t342 != (-1))) else (none)) else (none)) else (none)) else (none)) = some r := H
  have A9 := Aside0.mk A90
  clear A90
  have HC10 := Aside0.mk H
  clear H
  go_enter Try.func4, Try.ntmps4
  go_upto_region 7 with (first | ((with_reducible refine gate_callee (f := 8) rfl ?_); refine goesL_ (some 31) rfl rfl Try.func8 (by kernel_rfl) rfl #[.slice A0 l0.length c0, .slice A1 l1.length c1] rfl (by (try simp only [List.map_toArray, List.map_cons, List.map_nil]); first | done | rfl | (simp only [List.length_drop, List.length_take]; rfl)) ?_; (with_reducible refine (laws_a2Long.calls _ _ l0 _ _ l1 false _ ?side1 ?side2 ?side3 ?side4 A3.out).mono ?_); (case side1 => repeat (first | exact HR0.out | (with_reducible refine Kd.C_alloc ?_ _) | (with_reducible refine Kd.C_drewN ?_ _) | (with_reducible refine Kd.C_drew ?_))); (case side2 => exact HC0.out); (case side3 => repeat (first | exact HR1.out | (with_reducible refine Kd.C_alloc ?_ _) | (with_reducible refine Kd.C_drewN ?_ _) | (with_reducible refine Kd.C_drew ?_))); (case side4 => exact HC1.out); rintro e w' ⟨rfl, ⟨nd, rfl⟩⟩; refine ⟨_, rfl, ?_⟩) | ((with_reducible refine gate_callee (f := 9) rfl ?_); refine goesL_ (some 34) rfl rfl Try.func9 (by kernel_rfl) rfl #[.slice A0 l0.length c0] rfl (by (try simp only [List.map_toArray, List.map_cons, List.map_nil]); first | done | rfl | (simp only [List.length_drop, List.length_take]; rfl)) ?_; (with_reducible refine (spec_A2Lands.calls k _ _ l0 t329 t330 _ ?side1 ?side2 A5.out).mono ?_); (case side1 => repeat (first | exact HR0.out | (with_reducible refine Kd.C_alloc ?_ _) | (with_reducible refine Kd.C_drewN ?_ _) | (with_reducible refine Kd.C_drew ?_))); (case side2 => exact HC0.out); rintro e w11 ⟨v331, rfl, ho0, hb⟩; refine ⟨_, rfl, ?_⟩; have n0_ := Aside0.mk (Kd.R_lower ho0 (below_size (by repeat (first | (with_reducible first | exact HB.out | apply below_alloc | apply pw_below_drewN | apply below_drew1) | exact HB.out)))); have n1_ := Aside0.mk (below_step (by repeat (first | (with_reducible first | exact HB.out | apply below_alloc | apply pw_below_drewN | apply below_drew1) | exact HB.out)) hb); clear HB; have HO332 := n0_; have HB := n1_; clear n0_ n1_; (try clear hb); (try clear hb2); (try clear hk); (try clear hi); (try clear ho0); obtain ⟨Ao12, co12, eo12⟩ := Kd.R_slice HO332.out; subst eo12) | ((with_reducible refine gate_callee (f := 11) rfl ?_); refine goesL_ (some 40) rfl rfl Try.func11 (by kernel_rfl) rfl #[.int .i64 t329, .slice Ao12 t330.length co12] rfl (by (try simp only [List.map_toArray, List.map_cons, List.map_nil]); first | done | rfl | (simp only [List.length_drop, List.length_take]; rfl)) ?_; (with_reducible refine (impl_FewestColours.calls k t329 _ _ t330 t333 t334 _ ?side1 ?side2 A6.out).mono ?_); (case side1 => repeat (first | exact (Kd.R_reads' HO332.out).2.2 | (with_reducible refine Kd.C_alloc ?_ _) | (with_reducible refine Kd.C_drewN ?_ _) | (with_reducible refine Kd.C_drew ?_))); (case side2 => exact (Kd.R_reads' HO332.out).2.1); rintro e w13 ⟨rfl, hb⟩; refine ⟨_, rfl, ?_⟩; have n0_ := Aside0.mk (Kd.R_below (by (with_reducible repeat (first | apply Kd.R_alloc | apply Kd.R_drewN | apply Kd.R_drew)); exact HO332.out) hb); have n1_ := Aside0.mk (below_step (by repeat (first | (with_reducible first | exact HB.out | apply below_alloc | apply pw_below_drewN | apply below_drew1) | exact HB.out)) hb); clear HO332; clear HB; have HO332 := n0_; have HB := n1_; clear n0_ n1_; (try clear hb); (try clear hb2); (try clear hk); (try clear hi)) | ((with_reducible refine gate_callee (f := 16) rfl ?_); refine goesL_ (some 48) rfl rfl Try.func16 (by kernel_rfl) rfl #[.slice A1 l1.length c1, .int .i64 t329] rfl (by (try simp only [List.map_toArray, List.map_cons, List.map_nil]); first | done | rfl | (simp only [List.length_drop, List.length_take]; rfl)) ?_; (with_reducible refine (spec_A2Order.calls k _ _ l1 t329 t335 _ ?side1 ?side2 A7.out).mono ?_); (case side1 => repeat (first | exact (Kd.C_below HR1.out HB.out) | (with_reducible refine Kd.C_alloc ?_ _) | (with_reducible refine Kd.C_drewN ?_ _) | (with_reducible refine Kd.C_drew ?_))); (case side2 => exact HC1.out); rintro e w14 ⟨v336, rfl, ho0, hb⟩; refine ⟨_, rfl, ?_⟩; have n0_ := Aside0.mk (Kd.R_below (by (with_reducible repeat (first | apply Kd.R_alloc | apply Kd.R_drewN | apply Kd.R_drew)); exact HO332.out) hb); have n1_ := Aside0.mk (Kd.R_lower ho0 (below_size (by repeat (first | (with_reducible first | exact HB.out | apply below_alloc | apply pw_below_drewN | apply below_drew1) | exact HB.out)))); have n2_ := Aside0.mk (below_step (by repeat (first | (with_reducible first | exact HB.out | apply below_alloc | apply pw_below_drewN | apply below_drew1) | exact HB.out)) hb); clear HO332; clear HB; have HO332 := n0_; have HO337 := n1_; have HB := n2_; clear n0_ n1_ n2_; (try clear hb); (try clear hb2); (try clear hk); (try clear hi); (try clear ho0); obtain ⟨Ao15, co15, eo15⟩ := Kd.R_slice HO337.out; subst eo15) | ((with_reducible refine gate_callee (f := 15) rfl ?_); refine goesL_ (some 49) rfl rfl Try.func15 (by kernel_rfl) rfl #[.int .i64 t329, .slice Ao12 t330.length co12, .slice Ao15 t335.length co15] rfl (by (try simp only [List.map_toArray, List.map_cons, List.map_nil]); first | done | rfl | (simp only [List.length_drop, List.length_take]; rfl)) ?_; (with_reducible refine (impl_GreedyColours.calls k t329 _ _ t330 _ _ t335 t338 t339 _ ?side1 ?side2 ?side3 ?side4 A8.out).mono ?_); (case side1 => repeat (first | exact (Kd.R_reads' HO332.out).2.2 | (with_reducible refine Kd.C_alloc ?_ _) | (with_reducible refine Kd.C_drewN ?_ _) | (with_reducible refine Kd.C_drew ?_))); (case side2 => exact (Kd.R_reads' HO332.out).2.1); (case side3 => repeat (first | exact (Kd.R_reads' HO337.out).2.2 | (with_reducible refine Kd.C_alloc ?_ _) | (with_reducible refine Kd.C_drewN ?_ _) | (with_reducible refine Kd.C_drew ?_))); (case side4 => exact (Kd.R_reads' HO337.out).2.1); rintro e w16 ⟨v340, rfl, ho0, hb⟩; refine ⟨_, rfl, ?_⟩; have n0_ := Aside0.mk (Kd.R_below (by (with_reducible repeat (first | apply Kd.R_alloc | apply Kd.R_drewN | apply Kd.R_drew)); exact HO332.out) hb); have n1_ := Aside0.mk (Kd.R_elder' (by (with_reducible repeat (first | apply Kd.R_alloc | apply Kd.R_drewN | apply Kd.R_drew)); exact HO337.out) (Kd.R_base ho0) hb); have n2_ := Aside0.mk (Kd.R_lower (Kd.R_new' ho0 (Kd.R_lt (by (with_reducible repeat (first | apply Kd.R_alloc | apply Kd.R_drewN | apply Kd.R_drew)); exact HO337.out))) (below_size (by repeat (first | (with_reducible first | exact HB.out | apply below_alloc | apply pw_below_drewN | apply below_drew1) | exact HB.out)))); have n3_ := Aside0.mk (below_step (by repeat (first | (with_reducible first | exact HB.out | apply below_alloc | apply pw_below_drewN | apply below_drew1) | exact HB.out)) hb); clear HO332; clear HO337; clear HB; have HO332 := n0_; have HO337 := n1_; have HO341 := n2_; have HB := n3_; clear n0_ n1_ n2_ n3_; (try clear hb); (try clear hb2); (try clear hk); (try clear hi); (try clear ho0); obtain ⟨Ao17, co17, eo17⟩ := Kd.R_slice HO341.out; subst eo17) | ((with_reducible refine gate_callee (f := 17) rfl ?_); refine goesL_ (some 56) rfl rfl Try.func17 (by kernel_rfl) rfl #[.int .i64 t329, .slice Ao12 t330.length co12, .slice Ao17 t338.length co17] rfl (by (try simp only [List.map_toArray, List.map_cons, List.map_nil]); first | done | rfl | (simp only [List.length_drop, List.length_take]; rfl)) ?_; (with_reducible refine (impl_FirstClash.calls k t329 _ _ t330 _ _ t338 t342 t343 _ ?side1 ?side2 ?side3 ?side4 A9.out).mono ?_); (case side1 => repeat (first | exact (Kd.R_reads' HO332.out).2.2 | (with_reducible refine Kd.C_alloc ?_ _) | (with_reducible refine Kd.C_drewN ?_ _) | (with_reducible refine Kd.C_drew ?_))); (case side2 => exact (Kd.R_reads' HO332.out).2.1); (case side3 => repeat (first | exact (Kd.R_reads' HO341.out).2.2 | (with_reducible refine Kd.C_alloc ?_ _) | (with_reducible refine Kd.C_drewN ?_ _) | (with_reducible refine Kd.C_drew ?_))); (case side4 => exact (Kd.R_reads' HO341.out).2.1); rintro e w18 ⟨rfl, hb⟩; refine ⟨_, rfl, ?_⟩; have n0_ := Aside0.mk (Kd.R_below (by (with_reducible repeat (first | apply Kd.R_alloc | apply Kd.R_drewN | apply Kd.R_drew)); exact HO332.out) hb); have n1_ := Aside0.mk (Kd.R_below (by (with_reducible repeat (first | apply Kd.R_alloc | apply Kd.R_drewN | apply Kd.R_drew)); exact HO337.out) hb); have n2_ := Aside0.mk (Kd.R_below (by (with_reducible repeat (first | apply Kd.R_alloc | apply Kd.R_drewN | apply Kd.R_drew)); exact HO341.out) hb); have n3_ := Aside0.mk (below_step (by repeat (first | (with_reducible first | exact HB.out | apply below_alloc | apply pw_below_drewN | apply below_drew1) | exact HB.out)) hb); clear HO332; clear HO337; clear HO341; clear HB; have HO332 := n0_; have HO337 := n1_; have HO341 := n2_; have HB := n3_; clear n0_ n1_ n2_ n3_; (try clear hb); (try clear hb2); (try clear hk); (try clear hi)))
  (try simp only [Act.put, List.setIfInBounds_toArray, List.set_cons_zero, List.set_cons_succ])
  go_cut [78] (fun v78 wc => ∃ (kq : Nat) (x78_9 : Bool), v78 = .bool x78_9 ∧ Aside0 (laws_FnColourings.j0 kq l1 t329 t330 t333 t338 x78_9 = some r) ∧ Aside0 (kq ≤ k) ∧ Aside0 (Kd.R k58 58 wc w.heap.size (fun _ => True) (.slice Ao12 t330.length co12) t330) ∧ Aside0 (Kd.R (Kd.int .i64) 2 wc w.heap.size (fun _ => True) (.slice Ao17 t338.length co17) t338) ∧ Aside0 (Below w.heap.size w wc))
  case first =>
   have H := HC10.out
   clear HC10
   by_cases c19 : t334 = 0
   ·rw [if_pos c19] at H
    have c19b0 : (t334 == 0) = true := beq_iff_eq.mpr c19
    have c19b1 : (t334 != 0) = false := bne_eq_false_iff_eq.mpr c19
    clear c19
    (first | rw [c19b0] | (simp only [i64_w, i32_w]; rw [c19b0]) | skip)
    by_cases c20 : t339 = 0
    ·rw [if_pos c20] at H
     have c20b0 : (t339 == 0) = true := beq_iff_eq.mpr c20
     have c20b1 : (t339 != 0) = false := bne_eq_false_iff_eq.mpr c20
     clear c20
     by_cases c21 : (t338.length : Int) = t329
     ·rw [if_pos c21] at H
      have c21b0 : ((t338.length : Int) == t329) = true := beq_iff_eq.mpr c21
      have c21b1 : ((t338.length : Int) != t329) = false := bne_eq_false_iff_eq.mpr c21
      clear c21
      by_cases c22 : t343 = 0
      ·rw [if_pos c22] at H
       have c22b0 : (t343 == 0) = true := beq_iff_eq.mpr c22
       have c22b1 : (t343 != 0) = false := bne_eq_false_iff_eq.mpr c22
       clear c22
       have H' := Aside0.mk H
       clear H
       go_wp2
       go_meet
       case rel => exact ⟨_, ((t342 != (-1))), (by first | rfl | (simp; done) | (simp [*]; done)), H', ⟨by first | omega | exact Nat.le_refl _⟩, ⟨by (with_reducible repeat (first | apply Kd.R_alloc | apply Kd.R_drewN | apply Kd.R_drew)); exact HO332.out⟩, ⟨by (with_reducible repeat (first | apply Kd.R_alloc | apply Kd.R_drewN | apply Kd.R_drew)); exact Kd.R_mono HO341.out (fun _ hk => trivial)⟩, ⟨by repeat (first | (with_reducible first | exact HB.out | apply below_alloc | apply pw_below_drewN | apply below_drew1) | exact HB.out)⟩⟩
      ·rw [if_neg c22] at H
       exact absurd H (by simp)
     ·rw [if_neg c21] at H
      exact absurd H (by simp)
    ·rw [if_neg c20] at H
     exact absurd H (by simp)
   ·rw [if_neg c19] at H
    exact absurd H (by simp)
  case rest =>
   clear HC10
   try clear c1
   try clear c2
   try clear p2
   try clear c4
   try clear c8
   try clear c9
   try clear c11
   try clear c15
   try clear c16
   try clear c17
   try clear c19
   try clear c19b0
   try clear c19b1
   try clear c20
   try clear c20b0
   try clear c20b1
   try clear c21
   try clear c21b0
   try clear c21b1
   try clear c22
   try clear c22b0
   try clear c22b1
   obtain ⟨kq, x78_9, rfl, HA, HJ9, HO_6, HO_9, HB⟩ := hcut
   cases kq with
   | zero => exact absurd HA.out (by simp [laws_FnColourings.j0])
   | succ kj9 =>
    have H := HA.out
    clear HA
    simp only [laws_FnColourings.j0] at H
    by_cases c23 : x78_9 = true
    ·subst c23
     have H1 : (none) = some r := by rw [if_pos rfl] at H; exact H
     clear H
     have H := H1
     clear H1
     exact absurd H (by simp)
    ·replace c23 := Bool.eq_false_iff.mpr c23
     subst c23
     have H1 : (laws_FnColourings.l0 kj9 l1 t329 t330 t333 t338 0 0) = some r := by rw [if_neg (show ¬ (false = true) by decide)] at H; exact H
     clear H
     have H := H1
     clear H1
     have H' := Aside0.mk H
     clear H
     go_wp2
     go_loopg [13, 14] kj9 (fun kq v13 v14 w' => ∃ (x13_2 : Int) (x14_2 : Int), v13 = .int .i64 x13_2 ∧ v14 = .int .i64 x14_2 ∧ Aside0 (laws_FnColourings.l0 kq l1 t329 t330 t333 t338 x13_2 x14_2 = some r) ∧ Aside0 (kq ≤ kj9) ∧ Aside0 (Kd.R k58 58 w' w.heap.size (fun _ => True) (.slice Ao12 t330.length co12) t330) ∧ Aside0 (Kd.R (Kd.int .i64) 2 w' w.heap.size (fun _ => True) (.slice Ao17 t338.length co17) t338) ∧ Aside0 (Below w.heap.size w w'))
     case atStart => exact ⟨(0), (0), (by first | rfl | (simp; done) | (simp [*]; done)), (by first | rfl | (simp; done) | (simp [*]; done)), H', ⟨Nat.le_refl _⟩, ⟨by (with_reducible repeat (first | apply Kd.R_alloc | apply Kd.R_drewN | apply Kd.R_drew)); exact HO_6.out⟩, ⟨by (with_reducible repeat (first | apply Kd.R_alloc | apply Kd.R_drewN | apply Kd.R_drew)); exact HO_9.out⟩, ⟨by repeat (first | (with_reducible first | exact HB.out | apply below_alloc | apply pw_below_drewN | apply below_drew1) | exact HB.out)⟩⟩
     case round =>
      clear H'
      try clear c1
      try clear c2
      try clear p2
      try clear c4
      try clear c8
      try clear c9
      try clear c11
      try clear c15
      try clear c16
      try clear c17
      try clear c19
      try clear c19b0
      try clear c19b1
      try clear c20
      try clear c20b0
      try clear c20b1
      try clear c21
      try clear c21b0
      try clear c21b1
      try clear c22
      try clear c22b0
      try clear c22b1
      try clear c23
      try clear p2
      obtain ⟨x13_2, x14_2, rfl, rfl, HA, HK2, HO_6, HO_9, HB⟩ := hrel
      cases gk with
      | zero => exact absurd HA.out (by simp [laws_FnColourings.l0])
      | succ k2 =>
       have H := HA.out
       clear HA
       simp only [laws_FnColourings.l0] at H
       by_cases c24 : x14_2 < (t338.length : Int)
       ·rw [if_pos c24] at H
        have c24b0 : decide (x14_2 < (t338.length : Int)) = true := decide_eq_true c24
        clear c24
        by_cases c25 : 0 ≤ x14_2
        ·rw [if_pos c25] at H
         have c25b0 : decide (0 ≤ x14_2) = true := decide_eq_true c25
         clear c25
         obtain ⟨ji26, hji26⟩ : ∃ j_ : Int, (mx x13_2 (wrap64 ((rd t338 x14_2) + 1))) = j_ := ⟨_, rfl⟩
         replace H : (laws_FnColourings.l0 k2 l1 t329 t330 t333 t338 ji26 (wrap64 (x14_2 + 1))) = some r := by first | (rw [hji26] at H; exact H) | (simp only [hji26] at H ⊢; exact H)
         have hji26_ : (if x13_2 < (wrap64 ((rd t338 x14_2) + 1)) then (wrap64 ((rd t338 x14_2) + 1)) else x13_2) = ji26 := hji26
         have H' := Aside0.mk H
         clear H
         have p344 : 0 ≤ (x14_2 : Int) := od_
         have q344 : x14_2 < (t338.length : Int) := od_
         obtain ⟨ad344, e344, hx344_0⟩ := Kd.at_int (Kd.R_reads' HO_9.out).2.2 x14_2 p344 q344
         cases e344
         replace p344 := eq_true p344
         replace q344 := eq_true q344
         go_wp2
         go_roundg k2
         case measure => have := HJ9.out; have := HK2.out; omega
         case rel => exact ⟨(ji26), (wrap64 (x14_2 + 1)), (by first | rfl | (simp; done) | (simp only [← hji26] <;> (first | rfl | simp)) | (simp [*]; done)), (by first | rfl | (simp; done) | (simp [*]; done)), H', ⟨by have := HJ9.out; have := HK2.out; omega⟩, ⟨by (with_reducible repeat (first | apply Kd.R_alloc | apply Kd.R_drewN | apply Kd.R_drew)); exact HO_6.out⟩, ⟨by (with_reducible repeat (first | apply Kd.R_alloc | apply Kd.R_drewN | apply Kd.R_drew)); exact HO_9.out⟩, ⟨by repeat (first | (with_reducible first | exact HB.out | apply below_alloc | apply pw_below_drewN | apply below_drew1) | exact HB.out)⟩⟩
        ·rw [if_neg c25] at H
         exact absurd H (by simp)
       ·rw [if_neg c24] at H
        have c24b0 : decide (x14_2 < (t338.length : Int)) = false := decide_eq_false c24
        clear c24
        by_cases c27 : x13_2 < t333
        ·rw [if_pos c27] at H
         exact absurd H (by simp)
        ·rw [if_neg c27] at H
         have c27b0 : decide (x13_2 < t333) = false := decide_eq_false c27
         clear c27
         have H' := Aside0.mk H
         clear H
         go_wp2
         go_loopg [15, 16] k2 (fun kq v15 v16 w' => ∃ (x15_3 : Int) (x16_3 : Int), v15 = .int .i64 x15_3 ∧ v16 = .int .i64 x16_3 ∧ Aside0 (laws_FnColourings.l1 kq l1 t329 t330 t333 t338 x15_3 x16_3 = some r) ∧ Aside0 (kq ≤ k2) ∧ Aside0 (Kd.R k58 58 w' w.heap.size (fun _ => True) (.slice Ao12 t330.length co12) t330) ∧ Aside0 (Kd.R (Kd.int .i64) 2 w' w.heap.size (fun _ => True) (.slice Ao17 t338.length co17) t338) ∧ Aside0 (Below w.heap.size w w'))
         case atStart => exact ⟨(0), (1), (by first | rfl | (simp; done) | (simp [*]; done)), (by first | rfl | (simp; done) | (simp [*]; done)), H', ⟨Nat.le_refl _⟩, ⟨by (with_reducible repeat (first | apply Kd.R_alloc | apply Kd.R_drewN | apply Kd.R_drew)); exact HO_6.out⟩, ⟨by (with_reducible repeat (first | apply Kd.R_alloc | apply Kd.R_drewN | apply Kd.R_drew)); exact HO_9.out⟩, ⟨by repeat (first | (with_reducible first | exact HB.out | apply below_alloc | apply pw_below_drewN | apply below_drew1) | exact HB.out)⟩⟩
         case round =>
          clear H'
          try clear c1
          try clear c2
          try clear p2
          try clear p3
          try clear q3
          try clear hx3
          try clear c4
          try clear p6
          try clear c8
          try clear c9
          try clear c11
          try clear c15
          try clear c16
          try clear c17
          try clear c19
          try clear c19b0
          try clear c19b1
          try clear c20
          try clear c20b0
          try clear c20b1
          try clear c21
          try clear c21b0
          try clear c21b1
          try clear c22
          try clear c22b0
          try clear c22b1
          try clear c23
          try clear c24
          try clear c24b0
          try clear c25
          try clear c25b0
          try clear c27
          try clear c27b0
          try clear hx344_0
          try clear p2
          try clear p344
          try clear q344
          obtain ⟨x15_3, x16_3, rfl, rfl, HA, HK3, HO_6, HO_9, HB⟩ := hrel
          cases gk with
          | zero => exact absurd HA.out (by simp [laws_FnColourings.l1])
          | succ k3 =>
           have H := HA.out
           clear HA
           simp only [laws_FnColourings.l1] at H
           by_cases c28 : x16_3 ≤ 6
           ·rw [if_pos c28] at H
            have c28b0 : decide (x16_3 ≤ 6) = true := decide_eq_true c28
            clear c28
            replace H := Option.bind_eq_some_iff.mp H
            obtain ⟨⟨t345, t346⟩, A290, H⟩ := H
            replace H : ((impl_FirstColours.f k3 t329 t330 x16_3).bind fun bt347 => (if t346 = 0 then (if t345 < x15_3 then (none) else (if ((decide (t345 > 0)) != (decide (x16_3 ≥ t333))) = true then (none) else (if ((decide (t345 > 0)) != (bt347.2 == 0)) = true then (none) else (if bt347.2 = 0 then (laws_FnColourings.j3 k3 l1 t329 t330 t333 t338 x16_3 t345 bt347.1 bt347.2 false) else (laws_FnColourings.j3 k3 l1 t329 t330 t333 t338 x16_3 t345 bt347.1 bt347.2 (bt347.2 != 3)))))) else (none))) = some r := H
            have A29 := Aside0.mk A290
            clear A290
            replace H := Option.bind_eq_some_iff.mp H
            obtain ⟨⟨t347, t348⟩, A300, H⟩ := H
            replace H : (if t346 = 0 then (if t345 < x15_3 then (none) else (if ((decide (t345 > 0)) != (decide (x16_3 ≥ t333))) = true then (none) else (if ((decide (t345 > 0)) != (t348 == 0)) = true then (none) else (if t348 = 0 then (laws_FnColourings.j3 k3 l1 t329 t330 t333 t338 x16_3 t345 t347 t348 false) else (laws_FnColourings.j3 k3 l1 t329 t330 t333 t338 x16_3 t345 t347 t348 (t348 != 3)))))) else (none)) = some r := H
            have A30 := Aside0.mk A300
            clear A300
            have HC31 := Aside0.mk H
            clear H
            go_upto_region 22 with (first | ((with_reducible refine gate_callee (f := 18) rfl ?_); refine goesL_ (some 103) rfl rfl Try.func18 (by kernel_rfl) rfl #[.int .i64 t329, .slice Ao12 t330.length co12, .int .i64 x16_3] rfl (by (try simp only [List.map_toArray, List.map_cons, List.map_nil]); first | done | rfl | (simp only [List.length_drop, List.length_take]; rfl)) ?_; (with_reducible refine (impl_CountColours.calls k3 t329 _ _ t330 x16_3 t345 t346 _ ?side1 ?side2 A29.out).mono ?_); (case side1 => repeat (first | exact (Kd.R_reads' HO_6.out).2.2 | (with_reducible refine Kd.C_alloc ?_ _) | (with_reducible refine Kd.C_drewN ?_ _) | (with_reducible refine Kd.C_drew ?_))); (case side2 => exact (Kd.R_reads' HO_6.out).2.1); rintro e w32 ⟨rfl, hb⟩; refine ⟨_, rfl, ?_⟩; have n0_ := Aside0.mk (Kd.R_below (by (with_reducible repeat (first | apply Kd.R_alloc | apply Kd.R_drewN | apply Kd.R_drew)); exact HO_6.out) hb); have n1_ := Aside0.mk (Kd.R_below (by (with_reducible repeat (first | apply Kd.R_alloc | apply Kd.R_drewN | apply Kd.R_drew)); exact HO_9.out) hb); have n2_ := Aside0.mk (below_step (by repeat (first | (with_reducible first | exact HB.out | apply below_alloc | apply pw_below_drewN | apply below_drew1) | exact HB.out)) hb); clear HO_6; clear HO_9; clear HB; have HO_6 := n0_; have HO_9 := n1_; have HB := n2_; clear n0_ n1_ n2_; (try clear hb); (try clear hb2); (try clear hk); (try clear hi)) | ((with_reducible refine gate_callee (f := 19) rfl ?_); refine goesL_ (some 110) rfl rfl Try.func19 (by kernel_rfl) rfl #[.int .i64 t329, .slice Ao12 t330.length co12, .int .i64 x16_3] rfl (by (try simp only [List.map_toArray, List.map_cons, List.map_nil]); first | done | rfl | (simp only [List.length_drop, List.length_take]; rfl)) ?_; (with_reducible refine (impl_FirstColours.calls k3 t329 _ _ t330 x16_3 t347 t348 _ ?side1 ?side2 A30.out).mono ?_); (case side1 => repeat (first | exact (Kd.R_reads' HO_6.out).2.2 | (with_reducible refine Kd.C_alloc ?_ _) | (with_reducible refine Kd.C_drewN ?_ _) | (with_reducible refine Kd.C_drew ?_))); (case side2 => exact (Kd.R_reads' HO_6.out).2.1); rintro e w33 ⟨v349, rfl, ho0, hb⟩; refine ⟨_, rfl, ?_⟩; have n0_ := Aside0.mk (Kd.R_below (by (with_reducible repeat (first | apply Kd.R_alloc | apply Kd.R_drewN | apply Kd.R_drew)); exact HO_6.out) hb); have n1_ := Aside0.mk (Kd.R_elder' (by (with_reducible repeat (first | apply Kd.R_alloc | apply Kd.R_drewN | apply Kd.R_drew)); exact HO_9.out) (Kd.R_base ho0) hb); have n2_ := Aside0.mk (Kd.R_lower (Kd.R_new' ho0 (Kd.R_lt (by (with_reducible repeat (first | apply Kd.R_alloc | apply Kd.R_drewN | apply Kd.R_drew)); exact HO_9.out))) (below_size (by repeat (first | (with_reducible first | exact HB.out | apply below_alloc | apply pw_below_drewN | apply below_drew1) | exact HB.out)))); have n3_ := Aside0.mk (below_step (by repeat (first | (with_reducible first | exact HB.out | apply below_alloc | apply pw_below_drewN | apply below_drew1) | exact HB.out)) hb); clear HO_6; clear HO_9; clear HB; have HO_6 := n0_; have HO_9 := n1_; have HO350 := n2_; have HB := n3_; clear n0_ n1_ n2_ n3_; (try clear hb); (try clear hb2); (try clear hk); (try clear hi); (try clear ho0)))
            (try simp only [Act.put, List.setIfInBounds_toArray, List.set_cons_zero, List.set_cons_succ])
            go_cut [142] (fun v142 wc => ∃ (kq : Nat) (x142_30 : Bool), v142 = .bool x142_30 ∧ Aside0 (laws_FnColourings.j3 kq l1 t329 t330 t333 t338 x16_3 t345 t347 t348 x142_30 = some r) ∧ Aside0 (kq ≤ k3) ∧ Aside0 (Kd.R k58 58 wc w.heap.size (fun _ => True) (.slice Ao12 t330.length co12) t330) ∧ Aside0 (Kd.R (Kd.int .i64) 2 wc w.heap.size (fun k_ => some k_ ≠ (v349 : Value).ownBlock) (.slice Ao17 t338.length co17) t338) ∧ Aside0 (Kd.R (Kd.int .i64) 2 wc w.heap.size (fun k_ => some k_ ≠ ((.slice Ao17 t338.length co17) : Value).ownBlock) v349 t347) ∧ Aside0 (Below w.heap.size w wc))
            case first =>
             have H := HC31.out
             clear HC31
             by_cases c34 : t346 = 0
             ·rw [if_pos c34] at H
              have c34b0 : (t346 == 0) = true := beq_iff_eq.mpr c34
              have c34b1 : (t346 != 0) = false := bne_eq_false_iff_eq.mpr c34
              clear c34
              (first | rw [c34b0] | (simp only [i64_w, i32_w]; rw [c34b0]) | skip)
              by_cases c35 : t345 < x15_3
              ·rw [if_pos c35] at H
               exact absurd H (by simp)
              ·rw [if_neg c35] at H
               have c35b0 : decide (t345 < x15_3) = false := decide_eq_false c35
               clear c35
               by_cases c36 : ((decide (t345 > 0)) != (decide (x16_3 ≥ t333))) = true
               ·rw [if_pos c36] at H
                exact absurd H (by simp)
               ·rw [if_neg c36] at H
                have c36b0 : ((decide (t345 > 0)) != (decide (x16_3 ≥ t333))) = false := by simpa using c36
                (try (have c36b1 : decide ((decide (t345 > 0)) = (decide (x16_3 ≥ t333))) = true := by simpa using c36))
                (try (have c36b2 : ((decide (t345 > 0)) == (decide (x16_3 ≥ t333))) = true := by simpa using c36))
                clear c36
                by_cases c37 : ((decide (t345 > 0)) != (t348 == 0)) = true
                ·rw [if_pos c37] at H
                 exact absurd H (by simp)
                ·rw [if_neg c37] at H
                 have c37b0 : ((decide (t345 > 0)) != (t348 == 0)) = false := by simpa using c37
                 (try (have c37b1 : decide ((decide (t345 > 0)) = (t348 == 0)) = true := by simpa using c37))
                 (try (have c37b2 : ((decide (t345 > 0)) == (t348 == 0)) = true := by simpa using c37))
                 clear c37
                 by_cases c38 : t348 = 0
                 ·rw [if_pos c38] at H
                  have c38b0 : (t348 == 0) = true := beq_iff_eq.mpr c38
                  have c38b1 : (t348 != 0) = false := bne_eq_false_iff_eq.mpr c38
                  clear c38
                  have H' := Aside0.mk H
                  clear H
                  go_wp2
                  all_goals
                   go_meet
                   case rel => exact ⟨_, (false), (by first | rfl | (simp; done) | (simp [*]; done) | (exfalso; have hq_ := of_decide_eq_true c37b1; rw [c38b0] at hq_; first | (have hq2_ := of_decide_eq_true hq_; omega) | (have hq2_ := of_decide_eq_false hq_; omega))), H', ⟨by have := HJ9.out; have := HK2.out; have := HK3.out; first | omega | exact Nat.le_refl _⟩, ⟨by (with_reducible repeat (first | apply Kd.R_alloc | apply Kd.R_drewN | apply Kd.R_drew)); exact HO_6.out⟩, ⟨by (with_reducible repeat (first | apply Kd.R_alloc | apply Kd.R_drewN | apply Kd.R_drew)); exact Kd.R_mono HO_9.out (fun _ hk => hk.2)⟩, ⟨by (with_reducible repeat (first | apply Kd.R_alloc | apply Kd.R_drewN | apply Kd.R_drew)); exact Kd.R_mono HO350.out (fun _ hk => hk.2)⟩, ⟨by repeat (first | (with_reducible first | exact HB.out | apply below_alloc | apply pw_below_drewN | apply below_drew1) | exact HB.out)⟩⟩
                 ·rw [if_neg c38] at H
                  have c38b0 : (t348 == 0) = false := beq_eq_false_iff_ne.mpr c38
                  have c38b1 : (t348 != 0) = true := bne_iff_ne.mpr c38
                  have H' := Aside0.mk H
                  clear H
                  go_wp2
                  all_goals
                   go_meet
                   case rel => exact ⟨_, ((t348 != 3)), (by first | rfl | (simp; done) | (simp [*]; done) | (simp [*]; intro hq_; omega) | (exfalso; have hq_ := of_decide_eq_true c37b1; rw [c38b0] at hq_; first | (have hq2_ := of_decide_eq_true hq_; omega) | (have hq2_ := of_decide_eq_false hq_; omega))), H', ⟨by have := HJ9.out; have := HK2.out; have := HK3.out; first | omega | exact Nat.le_refl _⟩, ⟨by (with_reducible repeat (first | apply Kd.R_alloc | apply Kd.R_drewN | apply Kd.R_drew)); exact HO_6.out⟩, ⟨by (with_reducible repeat (first | apply Kd.R_alloc | apply Kd.R_drewN | apply Kd.R_drew)); exact Kd.R_mono HO_9.out (fun _ hk => hk.2)⟩, ⟨by (with_reducible repeat (first | apply Kd.R_alloc | apply Kd.R_drewN | apply Kd.R_drew)); exact Kd.R_mono HO350.out (fun _ hk => hk.2)⟩, ⟨by repeat (first | (with_reducible first | exact HB.out | apply below_alloc | apply pw_below_drewN | apply below_drew1) | exact HB.out)⟩⟩
             ·rw [if_neg c34] at H
              exact absurd H (by simp)
            case rest =>
             clear HC31
             try clear c1
             try clear c2
             try clear p2
             try clear c3
             try clear p3
             try clear q3
             try clear hx3
             try clear c4
             try clear p6
             try clear c8
             try clear c9
             try clear c11
             try clear c15
             try clear c16
             try clear c17
             try clear c18
             try clear c19
             try clear c19b0
             try clear c19b1
             try clear c20
             try clear c20b0
             try clear c20b1
             try clear c21
             try clear c21b0
             try clear c21b1
             try clear c22
             try clear c22b0
             try clear c22b1
             try clear c23
             try clear c24
             try clear c24b0
             try clear c25
             try clear c25b0
             try clear c27
             try clear c27b0
             try clear c28
             try clear c28b0
             try clear c34
             try clear c34b0
             try clear c34b1
             try clear p34
             try clear q34
             try clear hx34
             try clear c35
             try clear c35b0
             try clear c36
             try clear c36b0
             try clear c36b1
             try clear c36b2
             try clear c37
             try clear c37b0
             try clear c37b1
             try clear c37b2
             try clear c38
             try clear c38b0
             try clear c38b1
             try clear hx344_0
             try clear p2
             try clear p3
             try clear p344
             try clear p6
             try clear q3
             try clear q344
             obtain ⟨kq, x142_30, rfl, HA, HJ30, HO_6, HO_9, HO_19, HB⟩ := hcut
             cases kq with
             | zero => exact absurd HA.out (by simp [laws_FnColourings.j3])
             | succ kj30 =>
              have H := HA.out
              clear HA
              simp only [laws_FnColourings.j3] at H
              by_cases c39 : x142_30 = true
              ·subst c39
               have H1 : (none) = some r := by rw [if_pos rfl] at H; exact H
               clear H
               have H := H1
               clear H1
               exact absurd H (by simp)
              ·replace c39 := Bool.eq_false_iff.mpr c39
               subst c39
               have H1 : (if t348 = 0 then ((spec_FirstClash.f kj30 t329 t330 t347).bind fun bt351 => (if bt351.2 = 0 then (if bt351.1 = (-1) then (laws_FnColourings.l1 kj30 l1 t329 t330 t333 t338 t345 (wrap64 (x16_3 + 1))) else (none)) else (none))) else (laws_FnColourings.l1 kj30 l1 t329 t330 t333 t338 t345 (wrap64 (x16_3 + 1)))) = some r := by rw [if_neg (show ¬ (false = true) by decide)] at H; exact H
               clear H
               have H := H1
               clear H1
               by_cases c40 : t348 = 0
               ·rw [if_pos c40] at H
                have c40b0 : (t348 == 0) = true := beq_iff_eq.mpr c40
                have c40b1 : (t348 != 0) = false := bne_eq_false_iff_eq.mpr c40
                clear c40
                replace H := Option.bind_eq_some_iff.mp H
                obtain ⟨⟨t351, t352⟩, A410, H⟩ := H
                replace H : (if t352 = 0 then (if t351 = (-1) then (laws_FnColourings.l1 kj30 l1 t329 t330 t333 t338 t345 (wrap64 (x16_3 + 1))) else (none)) else (none)) = some r := H
                have A41 := Aside0.mk A410
                clear A410
                by_cases c42 : t352 = 0
                ·rw [if_pos c42] at H
                 have c42b0 : (t352 == 0) = true := beq_iff_eq.mpr c42
                 have c42b1 : (t352 != 0) = false := bne_eq_false_iff_eq.mpr c42
                 clear c42
                 by_cases c43 : t351 = (-1)
                 ·rw [if_pos c43] at H
                  have c43b0 : (t351 == (-1)) = true := beq_iff_eq.mpr c43
                  have c43b1 : (t351 != (-1)) = false := bne_eq_false_iff_eq.mpr c43
                  clear c43
                  have H' := Aside0.mk H
                  clear H
                  obtain ⟨Ao44, co44, eo44⟩ := Kd.R_slice HO_19.out
                  subst eo44
                  go_wp2_with (first | ((with_reducible refine gate_callee (f := 20) rfl ?_); refine goesL_ (some 149) rfl rfl Try.func20 (by kernel_rfl) rfl #[.int .i64 t329, .slice Ao12 t330.length co12, .slice Ao44 t347.length co44] rfl (by (try simp only [List.map_toArray, List.map_cons, List.map_nil]); first | done | rfl | (simp only [List.length_drop, List.length_take]; rfl)) ?_; (with_reducible refine (spec_FirstClash.calls kj30 t329 _ _ t330 _ _ t347 t351 t352 _ ?side1 ?side2 ?side3 ?side4 A41.out).mono ?_); (case side1 => repeat (first | exact (Kd.R_reads' HO_6.out).2.2 | (with_reducible refine Kd.C_alloc ?_ _) | (with_reducible refine Kd.C_drewN ?_ _) | (with_reducible refine Kd.C_drew ?_))); (case side2 => exact (Kd.R_reads' HO_6.out).2.1); (case side3 => repeat (first | exact (Kd.R_reads' HO_19.out).2.2 | (with_reducible refine Kd.C_alloc ?_ _) | (with_reducible refine Kd.C_drewN ?_ _) | (with_reducible refine Kd.C_drew ?_))); (case side4 => exact (Kd.R_reads' HO_19.out).2.1); rintro e w' ⟨rfl, ⟨nd, rfl⟩⟩; refine ⟨_, rfl, ?_⟩))
                  go_roundg kj30
                  case measure => have := HJ9.out; have := HK2.out; have := HK3.out; have := HJ30.out; omega
                  case rel => exact ⟨(t345), (wrap64 (x16_3 + 1)), (by first | rfl | (simp; done) | (simp [*]; done)), (by first | rfl | (simp; done) | (simp [*]; done)), H', ⟨by have := HJ9.out; have := HK2.out; have := HK3.out; have := HJ30.out; omega⟩, ⟨by (with_reducible repeat (first | apply Kd.R_alloc | apply Kd.R_drewN | apply Kd.R_drew)); exact HO_6.out⟩, ⟨by (with_reducible repeat (first | apply Kd.R_alloc | apply Kd.R_drewN | apply Kd.R_drew)); exact Kd.R_mono HO_9.out (fun _ hk => trivial)⟩, ⟨by repeat (first | (with_reducible first | exact HB.out | apply below_alloc | apply pw_below_drewN | apply below_drew1) | exact HB.out)⟩⟩
                 ·rw [if_neg c43] at H
                  exact absurd H (by simp)
                ·rw [if_neg c42] at H
                 exact absurd H (by simp)
               ·rw [if_neg c40] at H
                have c40b0 : (t348 == 0) = false := beq_eq_false_iff_ne.mpr c40
                have c40b1 : (t348 != 0) = true := bne_iff_ne.mpr c40
                have H' := Aside0.mk H
                clear H
                go_wp2
                go_roundg kj30
                case measure => have := HJ9.out; have := HK2.out; have := HK3.out; have := HJ30.out; omega
                case rel => exact ⟨(t345), (wrap64 (x16_3 + 1)), (by first | rfl | (simp; done) | (simp [*]; done)), (by first | rfl | (simp; done) | (simp [*]; done)), H', ⟨by have := HJ9.out; have := HK2.out; have := HK3.out; have := HJ30.out; omega⟩, ⟨by (with_reducible repeat (first | apply Kd.R_alloc | apply Kd.R_drewN | apply Kd.R_drew)); exact HO_6.out⟩, ⟨by (with_reducible repeat (first | apply Kd.R_alloc | apply Kd.R_drewN | apply Kd.R_drew)); exact Kd.R_mono HO_9.out (fun _ hk => trivial)⟩, ⟨by repeat (first | (with_reducible first | exact HB.out | apply below_alloc | apply pw_below_drewN | apply below_drew1) | exact HB.out)⟩⟩
           ·rw [if_neg c28] at H
            have c28b0 : decide (x16_3 ≤ 6) = false := decide_eq_false c28
            clear c28
            replace H := Option.bind_eq_some_iff.mp H
            obtain ⟨t353, A450, H⟩ := H
            replace H : ((laws_a2At.f l1 1 5).bind fun t354 => ((impl_SwapColours.f k3 t329 t330 t338 t353 t354).bind fun bt355 => (if 0 ≤ t353 then (if t353 < (t338.length : Int) then (if (rd t338 t353) = t354 then (some (bt355.2 == 9)) else ((impl_FirstClash.f k3 t329 t330 bt355.1).bind fun bt360 => (if bt355.2 = 0 then (if (bt355.1.length : Int) = t329 then (if bt360.2 = 0 then (if bt360.1 = (-1) then (if t353 < (bt355.1.length : Int) then (some ((rd bt355.1 t353) == t354)) else (none)) else (none)) else (none)) else (none)) else (none)))) else (none)) else (none)))) = some r := H
            have A45 := Aside0.mk A450
            clear A450
            replace H := Option.bind_eq_some_iff.mp H
            obtain ⟨t354, A460, H⟩ := H
            replace H : ((impl_SwapColours.f k3 t329 t330 t338 t353 t354).bind fun bt355 => (if 0 ≤ t353 then (if t353 < (t338.length : Int) then (if (rd t338 t353) = t354 then (some (bt355.2 == 9)) else ((impl_FirstClash.f k3 t329 t330 bt355.1).bind fun bt360 => (if bt355.2 = 0 then (if (bt355.1.length : Int) = t329 then (if bt360.2 = 0 then (if bt360.1 = (-1) then (if t353 < (bt355.1.length : Int) then (some ((rd bt355.1 t353) == t354)) else (none)) else (none)) else (none)) else (none)) else (none)))) else (none)) else (none))) = some r := H
            have A46 := Aside0.mk A460
            clear A460
            replace H := Option.bind_eq_some_iff.mp H
            obtain ⟨⟨t355, t356⟩, A470, H⟩ := H
            replace H : (if 0 ≤ t353 then (if t353 < (t338.length : Int) then (if (rd t338 t353) = t354 then (some (t356 == 9)) else ((impl_FirstClash.f k3 t329 t330 t355).bind fun bt360 => (if t356 = 0 then (if (t355.length : Int) = t329 then (if bt360.2 = 0 then (if bt360.1 = (-1) then (if t353 < (t355.length : Int) then (some ((rd t355 t353) == t354)) else (none)) else (none)) else (none)) else (none)) else (none)))) else (none)) else (none)) = some r := H
            have A47 := Aside0.mk A470
            clear A470
            by_cases c48 : 0 ≤ t353
            ·rw [if_pos c48] at H
             have c48b0 : decide (0 ≤ t353) = true := decide_eq_true c48
             clear c48
             by_cases c49 : t353 < (t338.length : Int)
             ·rw [if_pos c49] at H
              have c49b0 : decide (t353 < (t338.length : Int)) = true := decide_eq_true c49
              clear c49
              by_cases c50 : (rd t338 t353) = t354
              ·rw [if_pos c50] at H
               have c50b0 : ((rd t338 t353) == t354) = true := beq_iff_eq.mpr c50
               have c50b1 : ((rd t338 t353) != t354) = false := bne_eq_false_iff_eq.mpr c50
               clear c50
               obtain rfl := Option.some.inj H
               go_wp2_with (first | ((with_reducible refine gate_callee (f := 21) rfl ?_); refine goesL_ (some 161) rfl rfl Try.func21 (by kernel_rfl) rfl #[.slice A1 l1.length c1, .int .i64 0, .int .i64 t329] rfl (by (try simp only [List.map_toArray, List.map_cons, List.map_nil]); first | done | rfl | (simp only [List.length_drop, List.length_take]; rfl)) ?_; (with_reducible refine (laws_a2At.calls _ _ l1 0 t329 t353 _ ?side1 ?side2 A45.out).mono ?_); (case side1 => repeat (first | exact (Kd.C_below HR1.out HB.out) | (with_reducible refine Kd.C_alloc ?_ _) | (with_reducible refine Kd.C_drewN ?_ _) | (with_reducible refine Kd.C_drew ?_))); (case side2 => exact HC1.out); rintro e w' ⟨rfl, ⟨nd, rfl⟩⟩; refine ⟨_, rfl, ?_⟩) | ((with_reducible refine gate_callee (f := 21) rfl ?_); refine goesL_ (some 163) rfl rfl Try.func21 (by kernel_rfl) rfl #[.slice A1 l1.length c1, .int .i64 1, .int .i64 5] rfl (by (try simp only [List.map_toArray, List.map_cons, List.map_nil]); first | done | rfl | (simp only [List.length_drop, List.length_take]; rfl)) ?_; (with_reducible refine (laws_a2At.calls _ _ l1 1 5 t354 _ ?side1 ?side2 A46.out).mono ?_); (case side1 => repeat (first | exact (Kd.C_below HR1.out (by repeat (first | (with_reducible first | exact HB.out | apply below_alloc | apply pw_below_drewN | apply below_drew1) | exact HB.out))) | (with_reducible refine Kd.C_alloc ?_ _) | (with_reducible refine Kd.C_drewN ?_ _) | (with_reducible refine Kd.C_drew ?_))); (case side2 => exact HC1.out); rintro e w' ⟨rfl, ⟨nd, rfl⟩⟩; refine ⟨_, rfl, ?_⟩) | ((with_reducible refine gate_callee (f := 22) rfl ?_); refine goesL_ (some 170) rfl rfl Try.func22 (by kernel_rfl) rfl #[.int .i64 t329, .slice Ao12 t330.length co12, .slice Ao17 t338.length co17, .int .i64 t353, .int .i64 t354] rfl (by (try simp only [List.map_toArray, List.map_cons, List.map_nil]); first | done | rfl | (simp only [List.length_drop, List.length_take]; rfl)) ?_; (with_reducible refine (impl_SwapColours.calls k3 t329 _ _ t330 _ _ t338 t353 t354 t355 t356 _ ?side1 ?side2 ?side3 ?side4 A47.out).mono ?_); (case side1 => repeat (first | exact (Kd.R_reads' HO_6.out).2.2 | (with_reducible refine Kd.C_alloc ?_ _) | (with_reducible refine Kd.C_drewN ?_ _) | (with_reducible refine Kd.C_drew ?_))); (case side2 => exact (Kd.R_reads' HO_6.out).2.1); (case side3 => repeat (first | exact (Kd.R_reads' HO_9.out).2.2 | (with_reducible refine Kd.C_alloc ?_ _) | (with_reducible refine Kd.C_drewN ?_ _) | (with_reducible refine Kd.C_drew ?_))); (case side4 => exact (Kd.R_reads' HO_9.out).2.1); rintro e w51 ⟨v357, rfl, ho0, hb⟩; refine ⟨_, rfl, ?_⟩; have n0_ := Aside0.mk (Kd.R_below (by (with_reducible repeat (first | apply Kd.R_alloc | apply Kd.R_drewN | apply Kd.R_drew)); exact HO_6.out) hb); have n1_ := Aside0.mk (Kd.R_elder' (by (with_reducible repeat (first | apply Kd.R_alloc | apply Kd.R_drewN | apply Kd.R_drew)); exact HO_9.out) (Kd.R_base ho0) hb); have n2_ := Aside0.mk (Kd.R_lower (Kd.R_new' ho0 (Kd.R_lt (by (with_reducible repeat (first | apply Kd.R_alloc | apply Kd.R_drewN | apply Kd.R_drew)); exact HO_9.out))) (below_size (by repeat (first | (with_reducible first | exact HB.out | apply below_alloc | apply pw_below_drewN | apply below_drew1) | exact HB.out)))); have n3_ := Aside0.mk (below_step (by repeat (first | (with_reducible first | exact HB.out | apply below_alloc | apply pw_below_drewN | apply below_drew1) | exact HB.out)) hb); clear HO_6; clear HO_9; clear HB; have HO_6 := n0_; have HO_9 := n1_; have HO358 := n2_; have HB := n3_; clear n0_ n1_ n2_ n3_; (try clear hb); (try clear hb2); (try clear hk); (try clear hi); (try clear ho0); have p359 : 0 ≤ (t353 : Int) := od_; have q359 : t353 < (t338.length : Int) := od_; obtain ⟨ad359, e359, hx359_0⟩ := Kd.at_int (Kd.R_reads' HO_9.out).2.2 t353 p359 q359; cases e359; replace p359 := eq_true p359; replace q359 := eq_true q359))
               go_ret
               exact ⟨by first | rfl | (simp [errW_none, errW_some] <;> rfl) | (simp [*, errW_none, errW_some] <;> rfl), by repeat (first | (with_reducible first | exact HB.out | apply below_alloc | apply pw_below_drewN | apply below_drew1) | exact HB.out)⟩
              ·rw [if_neg c50] at H
               have c50b0 : ((rd t338 t353) == t354) = false := beq_eq_false_iff_ne.mpr c50
               have c50b1 : ((rd t338 t353) != t354) = true := bne_iff_ne.mpr c50
               replace H := Option.bind_eq_some_iff.mp H
               obtain ⟨⟨t360, t361⟩, A520, H⟩ := H
               replace H : (if t356 = 0 then (if (t355.length : Int) = t329 then (if t361 = 0 then (if t360 = (-1) then (if t353 < (t355.length : Int) then (some ((rd t355 t353) == t354)) else (none)) else (none)) else (none)) else (none)) else (none)) = some r := H
               have A52 := Aside0.mk A520
               clear A520
               by_cases c53 : t356 = 0
               ·rw [if_pos c53] at H
                have c53b0 : (t356 == 0) = true := beq_iff_eq.mpr c53
                have c53b1 : (t356 != 0) = false := bne_eq_false_iff_eq.mpr c53
                clear c53
                by_cases c54 : (t355.length : Int) = t329
                ·rw [if_pos c54] at H
                 have c54b0 : ((t355.length : Int) == t329) = true := beq_iff_eq.mpr c54
                 have c54b1 : ((t355.length : Int) != t329) = false := bne_eq_false_iff_eq.mpr c54
                 clear c54
                 by_cases c55 : t361 = 0
                 ·rw [if_pos c55] at H
                  have c55b0 : (t361 == 0) = true := beq_iff_eq.mpr c55
                  have c55b1 : (t361 != 0) = false := bne_eq_false_iff_eq.mpr c55
                  clear c55
                  by_cases c56 : t360 = (-1)
                  ·rw [if_pos c56] at H
                   have c56b0 : (t360 == (-1)) = true := beq_iff_eq.mpr c56
                   have c56b1 : (t360 != (-1)) = false := bne_eq_false_iff_eq.mpr c56
                   clear c56
                   by_cases c57 : t353 < (t355.length : Int)
                   ·rw [if_pos c57] at H
                    have c57b0 : decide (t353 < (t355.length : Int)) = true := decide_eq_true c57
                    clear c57
                    obtain rfl := Option.some.inj H
                    go_wp2_with (first | ((with_reducible refine gate_callee (f := 21) rfl ?_); refine goesL_ (some 161) rfl rfl Try.func21 (by kernel_rfl) rfl #[.slice A1 l1.length c1, .int .i64 0, .int .i64 t329] rfl (by (try simp only [List.map_toArray, List.map_cons, List.map_nil]); first | done | rfl | (simp only [List.length_drop, List.length_take]; rfl)) ?_; (with_reducible refine (laws_a2At.calls _ _ l1 0 t329 t353 _ ?side1 ?side2 A45.out).mono ?_); (case side1 => repeat (first | exact (Kd.C_below HR1.out HB.out) | (with_reducible refine Kd.C_alloc ?_ _) | (with_reducible refine Kd.C_drewN ?_ _) | (with_reducible refine Kd.C_drew ?_))); (case side2 => exact HC1.out); rintro e w' ⟨rfl, ⟨nd, rfl⟩⟩; refine ⟨_, rfl, ?_⟩) | ((with_reducible refine gate_callee (f := 21) rfl ?_); refine goesL_ (some 163) rfl rfl Try.func21 (by kernel_rfl) rfl #[.slice A1 l1.length c1, .int .i64 1, .int .i64 5] rfl (by (try simp only [List.map_toArray, List.map_cons, List.map_nil]); first | done | rfl | (simp only [List.length_drop, List.length_take]; rfl)) ?_; (with_reducible refine (laws_a2At.calls _ _ l1 1 5 t354 _ ?side1 ?side2 A46.out).mono ?_); (case side1 => repeat (first | exact (Kd.C_below HR1.out (by repeat (first | (with_reducible first | exact HB.out | apply below_alloc | apply pw_below_drewN | apply below_drew1) | exact HB.out))) | (with_reducible refine Kd.C_alloc ?_ _) | (with_reducible refine Kd.C_drewN ?_ _) | (with_reducible refine Kd.C_drew ?_))); (case side2 => exact HC1.out); rintro e w' ⟨rfl, ⟨nd, rfl⟩⟩; refine ⟨_, rfl, ?_⟩) | ((with_reducible refine gate_callee (f := 22) rfl ?_); refine goesL_ (some 170) rfl rfl Try.func22 (by kernel_rfl) rfl #[.int .i64 t329, .slice Ao12 t330.length co12, .slice Ao17 t338.length co17, .int .i64 t353, .int .i64 t354] rfl (by (try simp only [List.map_toArray, List.map_cons, List.map_nil]); first | done | rfl | (simp only [List.length_drop, List.length_take]; rfl)) ?_; (with_reducible refine (impl_SwapColours.calls k3 t329 _ _ t330 _ _ t338 t353 t354 t355 t356 _ ?side1 ?side2 ?side3 ?side4 A47.out).mono ?_); (case side1 => repeat (first | exact (Kd.R_reads' HO_6.out).2.2 | (with_reducible refine Kd.C_alloc ?_ _) | (with_reducible refine Kd.C_drewN ?_ _) | (with_reducible refine Kd.C_drew ?_))); (case side2 => exact (Kd.R_reads' HO_6.out).2.1); (case side3 => repeat (first | exact (Kd.R_reads' HO_9.out).2.2 | (with_reducible refine Kd.C_alloc ?_ _) | (with_reducible refine Kd.C_drewN ?_ _) | (with_reducible refine Kd.C_drew ?_))); (case side4 => exact (Kd.R_reads' HO_9.out).2.1); rintro e w58 ⟨v357, rfl, ho0, hb⟩; refine ⟨_, rfl, ?_⟩; have n0_ := Aside0.mk (Kd.R_below (by (with_reducible repeat (first | apply Kd.R_alloc | apply Kd.R_drewN | apply Kd.R_drew)); exact HO_6.out) hb); have n1_ := Aside0.mk (Kd.R_elder' (by (with_reducible repeat (first | apply Kd.R_alloc | apply Kd.R_drewN | apply Kd.R_drew)); exact HO_9.out) (Kd.R_base ho0) hb); have n2_ := Aside0.mk (Kd.R_lower (Kd.R_new' ho0 (Kd.R_lt (by (with_reducible repeat (first | apply Kd.R_alloc | apply Kd.R_drewN | apply Kd.R_drew)); exact HO_9.out))) (below_size (by repeat (first | (with_reducible first | exact HB.out | apply below_alloc | apply pw_below_drewN | apply below_drew1) | exact HB.out)))); have n3_ := Aside0.mk (below_step (by repeat (first | (with_reducible first | exact HB.out | apply below_alloc | apply pw_below_drewN | apply below_drew1) | exact HB.out)) hb); clear HO_6; clear HO_9; clear HB; have HO_6 := n0_; have HO_9 := n1_; have HO358 := n2_; have HB := n3_; clear n0_ n1_ n2_ n3_; (try clear hb); (try clear hb2); (try clear hk); (try clear hi); (try clear ho0); have p359 : 0 ≤ (t353 : Int) := od_; have q359 : t353 < (t338.length : Int) := od_; obtain ⟨ad359, e359, hx359_0⟩ := Kd.at_int (Kd.R_reads' HO_9.out).2.2 t353 p359 q359; cases e359; replace p359 := eq_true p359; replace q359 := eq_true q359; obtain ⟨Ao59, co59, eo59⟩ := Kd.R_slice HO358.out; subst eo59) | ((with_reducible refine gate_callee (f := 17) rfl ?_); refine goesL_ (some 185) rfl rfl Try.func17 (by kernel_rfl) rfl #[.int .i64 t329, .slice Ao12 t330.length co12, .slice Ao59 t355.length co59] rfl (by (try simp only [List.map_toArray, List.map_cons, List.map_nil]); first | done | rfl | (simp only [List.length_drop, List.length_take]; rfl)) ?_; (with_reducible refine (impl_FirstClash.calls k3 t329 _ _ t330 _ _ t355 t360 t361 _ ?side1 ?side2 ?side3 ?side4 A52.out).mono ?_); (case side1 => repeat (first | exact (Kd.R_reads' HO_6.out).2.2 | (with_reducible refine Kd.C_alloc ?_ _) | (with_reducible refine Kd.C_drewN ?_ _) | (with_reducible refine Kd.C_drew ?_))); (case side2 => exact (Kd.R_reads' HO_6.out).2.1); (case side3 => repeat (first | exact (Kd.R_reads' HO358.out).2.2 | (with_reducible refine Kd.C_alloc ?_ _) | (with_reducible refine Kd.C_drewN ?_ _) | (with_reducible refine Kd.C_drew ?_))); (case side4 => exact (Kd.R_reads' HO358.out).2.1); rintro e w60 ⟨rfl, hb⟩; refine ⟨_, rfl, ?_⟩; have n0_ := Aside0.mk (Kd.R_below (by (with_reducible repeat (first | apply Kd.R_alloc | apply Kd.R_drewN | apply Kd.R_drew)); exact HO_6.out) hb); have n1_ := Aside0.mk (Kd.R_below (by (with_reducible repeat (first | apply Kd.R_alloc | apply Kd.R_drewN | apply Kd.R_drew)); exact HO_9.out) hb); have n2_ := Aside0.mk (Kd.R_below (by (with_reducible repeat (first | apply Kd.R_alloc | apply Kd.R_drewN | apply Kd.R_drew)); exact HO358.out) hb); have n3_ := Aside0.mk (below_step (by repeat (first | (with_reducible first | exact HB.out | apply below_alloc | apply pw_below_drewN | apply below_drew1) | exact HB.out)) hb); clear HO_6; clear HO_9; clear HO358; clear HB; have HO_6 := n0_; have HO_9 := n1_; have HO358 := n2_; have HB := n3_; clear n0_ n1_ n2_ n3_; (try clear hb); (try clear hb2); (try clear hk); (try clear hi); have p362 : 0 ≤ (t353 : Int) := od_; have q362 : t353 < (t355.length : Int) := od_; obtain ⟨ad362, e362, hx362_0⟩ := Kd.at_int (Kd.R_reads' HO358.out).2.2 t353 p362 q362; cases e362; replace p362 := eq_true p362; replace q362 := eq_true q362))
                    go_ret
                    exact ⟨by first | rfl | (simp [errW_none, errW_some] <;> rfl) | (simp [*, errW_none, errW_some] <;> rfl), by repeat (first | (with_reducible first | exact HB.out | apply below_alloc | apply pw_below_drewN | apply below_drew1) | exact HB.out)⟩
                   ·rw [if_neg c57] at H
                    exact absurd H (by simp)
                  ·rw [if_neg c56] at H
                   exact absurd H (by simp)
                 ·rw [if_neg c55] at H
                  exact absurd H (by simp)
                ·rw [if_neg c54] at H
                 exact absurd H (by simp)
               ·rw [if_neg c53] at H
                exact absurd H (by simp)
             ·rw [if_neg c49] at H
              exact absurd H (by simp)
            ·rw [if_neg c48] at H
             exact absurd H (by simp)

/-- THE ONE PURE STATEMENT of laws_FnColourings. -/
def laws_FnColourings.Pure : Prop := ∀ (l0 : List Int) (l1 : List Int), wfS (wfI .u8) l0 → l0.length * 1 ≤ 140737488351232 → wfS (wfI .u8) l1 → l1.length * 1 ≤ 140737488351232 → ∃ k, laws_FnColourings.f k l0 l1 = some true

end Go.Proofs.Ytcjkklkmlooinaa.Print
