-- Printed by a program of this session out of the translation; not trusted: Lean checks it.
-- SHRUNK
import Derived.Test.YtjfkjmfdckbecaaPrint0
import Derived.Test.YtjfkjmfdckbecaaPrint1
import Derived.Test.YtjfkjmfdckbecaaPrint2
import Derived.Test.YtjfkjmfdckbecaaPrint8
import Derived.Test.YtjfkjmfdckbecaaPrint9
import Derived.Test.YtjfkjmfdckbecaaPrint11
import Derived.Test.YtjfkjmfdckbecaaPrint12
import Derived.Test.YtjfkjmfdckbecaaPrint13
namespace Go.Proofs.Ytjfkjmfdckbecaa.Print
open Go.RowKit Go.Proofs.YtjfkjmfdckbecaaW.PrintWords Go.Proofs.YtjfkjmfdckbecaaW.PrintLast Go.Proofs.YtjfkjmfdckbecaaW.PrintMore
attribute [local go_sem] max2_int min2_int max_two min_two max_three min_three max_four min_four   -- for this text's walks alone
set_option linter.unusedVariables false
set_option linter.unusedSimpArgs false

/-! ### laws_FnLabels: function 3 -/
mutual
def laws_FnLabels.j0 : Nat → List (S36) → List Int → Int → List Int → Bool → Option (Bool)
 | 0, _, _, _, _, _ => none
 | k + 1, x3, x4, x5, x17, x122 => if x122 = true then (none) else (laws_FnLabels.l0 k x3 x4 x5 x17 0 0 0)
def laws_FnLabels.l0 : Nat → List (S36) → List Int → Int → List Int → Int → Int → Int → Option (Bool)
 | 0, _, _, _, _, _, _, _ => none
 | k + 1, x3, x4, x5, x17, x19, x20, x21 => if x21 < (x3.length : Int) then (if 0 ≤ x21 then ((laws_a2Has.f k x17 x21).bind fun t252 => (if t252 = true then (laws_FnLabels.l0 k x3 x4 x5 x17 (wrap64 (x19 + ((rd_T36 x3 x21).f3))) (wrap64 (x20 + ((rd_T36 x3 x21).f3))) (wrap64 (x21 + 1))) else (laws_FnLabels.l0 k x3 x4 x5 x17 (wrap64 (x19 + ((rd_T36 x3 x21).f3))) x20 (wrap64 (x21 + 1))))) else (none)) else (if (wrap64 (x19 - x20)) = x5 then (laws_FnLabels.l1 k x3 x4 x17 0) else (none))
def laws_FnLabels.l1 : Nat → List (S36) → List Int → List Int → Int → Option (Bool)
 | 0, _, _, _, _ => none
 | k + 1, x3, x4, x17, x22 => if x22 < 2 then ((impl_RowFill.f k x3 x4 x22).bind fun bt254 => (laws_FnLabels.l2 k x3 x4 x17 x22 bt254.1 bt254.2 0 0)) else (some true)
def laws_FnLabels.l2 : Nat → List (S36) → List Int → List Int → Int → Int → Int → Int → Int → Option (Bool)
 | 0, _, _, _, _, _, _, _, _ => none
 | k + 1, x3, x4, x17, x22, x23, x24, x25, x26 => if x26 < (x3.length : Int) then (if 0 ≤ x26 then (if ((rd_T36 x3 x26).f0) = x22 then ((laws_a2Has.f k x17 x26).bind fun t257 => (if t257 = true then (laws_FnLabels.l2 k x3 x4 x17 x22 x23 x24 x25 (wrap64 (x26 + 1))) else (laws_FnLabels.l2 k x3 x4 x17 x22 x23 x24 (wrap64 (x25 + ((rd_T36 x3 x26).f1))) (wrap64 (x26 + 1))))) else (laws_FnLabels.l2 k x3 x4 x17 x22 x23 x24 x25 (wrap64 (x26 + 1)))) else (none)) else (if x24 = 0 then (if x23 = x25 then (laws_FnLabels.l1 k x3 x4 x17 (wrap64 (x22 + 1))) else (none)) else (none))
end
def laws_FnLabels.f (k : Nat) (l0 : List Int) : Option (Bool) := (laws_a2Long.f l0 ([] : List Int)).bind fun t225 => (if t225 = true then (some true) else ((spec_A2Labels.f k l0).bind fun t226 => ((impl_BestPlaces.f k t226).bind fun bt229 => ((impl_GreedyPlaces.f k t226).bind fun bt234 => ((impl_PlacesFault.f k t226 bt229.1).bind fun bt238 => ((impl_PlacesFault.f k t226 bt234.1).bind fun bt240 => ((impl_WeightPlaced.f k t226 bt229.1).bind fun bt242 => ((impl_WeightPlaced.f k t226 bt234.1).bind fun bt244 => ((impl_LeftOut.f k t226 bt229.1).bind fun bt246 => (if bt229.2.2 = 0 then (if bt234.2 = 0 then (if bt238.2 = 0 then (if bt238.1 = (-1) then (if bt240.2 = 0 then (if bt240.1 = (-1) then (if bt242.2 = 0 then (if bt242.1 = bt229.2.1 then (if bt244.2 = 0 then (if bt244.1 > bt229.2.1 then (none) else (if bt246.2 = 0 then ((laws_a2Rises.f k bt246.1 (t226.length : Int)).bind fun t250 => (laws_FnLabels.j0 k t226 bt229.1 bt229.2.1 bt246.1 (!t250))) else (none))) else (none)) else (none)) else (none)) else (none)) else (none)) else (none)) else (none)) else (none)) else (none)))))))))))
theorem laws_FnLabels.mono_l : ∀ k, (∀ y0 y1 y2 y3 y4, LeO (laws_FnLabels.j0 k y0 y1 y2 y3 y4) (laws_FnLabels.j0 (k + 1) y0 y1 y2 y3 y4)) ∧ (∀ y0 y1 y2 y3 y4 y5 y6, LeO (laws_FnLabels.l0 k y0 y1 y2 y3 y4 y5 y6) (laws_FnLabels.l0 (k + 1) y0 y1 y2 y3 y4 y5 y6)) ∧ (∀ y0 y1 y2 y3, LeO (laws_FnLabels.l1 k y0 y1 y2 y3) (laws_FnLabels.l1 (k + 1) y0 y1 y2 y3)) ∧ (∀ y0 y1 y2 y3 y4 y5 y6 y7, LeO (laws_FnLabels.l2 k y0 y1 y2 y3 y4 y5 y6 y7) (laws_FnLabels.l2 (k + 1) y0 y1 y2 y3 y4 y5 y6 y7))
 | 0 => ⟨fun _ _ _ _ _ r h => by simp [laws_FnLabels.j0] at h, fun _ _ _ _ _ _ _ r h => by simp [laws_FnLabels.l0] at h, fun _ _ _ _ r h => by simp [laws_FnLabels.l1] at h, fun _ _ _ _ _ _ _ _ r h => by simp [laws_FnLabels.l2] at h⟩
 | k + 1 => by
  obtain ⟨ih0, ih1, ih2, ih3⟩ := laws_FnLabels.mono_l k
  refine ⟨?_, ?_, ?_, ?_⟩
  ·intro y0 y1 y2 y3 y4
   unfold laws_FnLabels.j0
   repeat' first
   | (with_reducible exact ih0 _ _ _ _ _)
   | (with_reducible exact ih1 _ _ _ _ _ _ _)
   | (with_reducible exact ih2 _ _ _ _)
   | (with_reducible exact ih3 _ _ _ _ _ _ _ _)
   | (with_reducible exact impl_BestPlaces.mono _ _)
   | (with_reducible exact impl_GreedyPlaces.mono _ _)
   | (with_reducible exact impl_LeftOut.mono _ _ _)
   | (with_reducible exact impl_PlacesFault.mono _ _ _)
   | (with_reducible exact impl_RowFill.mono _ _ _ _)
   | (with_reducible exact impl_WeightPlaced.mono _ _ _)
   | (with_reducible exact laws_a2Has.mono _ _ _)
   | (with_reducible exact laws_a2Rises.mono _ _ _)
   | (with_reducible exact spec_A2Labels.mono _ _)
   | (with_reducible exact LeO.refl _)
   | (with_reducible exact LeO.none _)
   | (with_reducible refine LeO.ite ?_ ?_)
   | (with_reducible refine LeO.bind ?_ (fun _ => ?_))
   | exact ih0 _ _ _ _ _
   | exact ih1 _ _ _ _ _ _ _
   | exact ih2 _ _ _ _
   | exact ih3 _ _ _ _ _ _ _ _
   | exact impl_BestPlaces.mono _ _
   | exact impl_GreedyPlaces.mono _ _
   | exact impl_LeftOut.mono _ _ _
   | exact impl_PlacesFault.mono _ _ _
   | exact impl_RowFill.mono _ _ _ _
   | exact impl_WeightPlaced.mono _ _ _
   | exact laws_a2Has.mono _ _ _
   | exact laws_a2Rises.mono _ _ _
   | exact spec_A2Labels.mono _ _
   | exact LeO.none _
   | refine LeO.ite ?_ ?_
   | refine LeO.bind ?_ (fun _ => ?_)
  ·intro y0 y1 y2 y3 y4 y5 y6
   unfold laws_FnLabels.l0
   repeat' first
   | (with_reducible exact ih0 _ _ _ _ _)
   | (with_reducible exact ih1 _ _ _ _ _ _ _)
   | (with_reducible exact ih2 _ _ _ _)
   | (with_reducible exact ih3 _ _ _ _ _ _ _ _)
   | (with_reducible exact impl_BestPlaces.mono _ _)
   | (with_reducible exact impl_GreedyPlaces.mono _ _)
   | (with_reducible exact impl_LeftOut.mono _ _ _)
   | (with_reducible exact impl_PlacesFault.mono _ _ _)
   | (with_reducible exact impl_RowFill.mono _ _ _ _)
   | (with_reducible exact impl_WeightPlaced.mono _ _ _)
   | (with_reducible exact laws_a2Has.mono _ _ _)
   | (with_reducible exact laws_a2Rises.mono _ _ _)
   | (with_reducible exact spec_A2Labels.mono _ _)
   | (with_reducible exact LeO.refl _)
   | (with_reducible exact LeO.none _)
   | (with_reducible refine LeO.ite ?_ ?_)
   | (with_reducible refine LeO.bind ?_ (fun _ => ?_))
   | exact ih0 _ _ _ _ _
   | exact ih1 _ _ _ _ _ _ _
   | exact ih2 _ _ _ _
   | exact ih3 _ _ _ _ _ _ _ _
   | exact impl_BestPlaces.mono _ _
   | exact impl_GreedyPlaces.mono _ _
   | exact impl_LeftOut.mono _ _ _
   | exact impl_PlacesFault.mono _ _ _
   | exact impl_RowFill.mono _ _ _ _
   | exact impl_WeightPlaced.mono _ _ _
   | exact laws_a2Has.mono _ _ _
   | exact laws_a2Rises.mono _ _ _
   | exact spec_A2Labels.mono _ _
   | exact LeO.none _
   | refine LeO.ite ?_ ?_
   | refine LeO.bind ?_ (fun _ => ?_)
  ·intro y0 y1 y2 y3
   unfold laws_FnLabels.l1
   repeat' first
   | (with_reducible exact ih0 _ _ _ _ _)
   | (with_reducible exact ih1 _ _ _ _ _ _ _)
   | (with_reducible exact ih2 _ _ _ _)
   | (with_reducible exact ih3 _ _ _ _ _ _ _ _)
   | (with_reducible exact impl_BestPlaces.mono _ _)
   | (with_reducible exact impl_GreedyPlaces.mono _ _)
   | (with_reducible exact impl_LeftOut.mono _ _ _)
   | (with_reducible exact impl_PlacesFault.mono _ _ _)
   | (with_reducible exact impl_RowFill.mono _ _ _ _)
   | (with_reducible exact impl_WeightPlaced.mono _ _ _)
   | (with_reducible exact laws_a2Has.mono _ _ _)
   | (with_reducible exact laws_a2Rises.mono _ _ _)
   | (with_reducible exact spec_A2Labels.mono _ _)
   | (with_reducible exact LeO.refl _)
   | (with_reducible exact LeO.none _)
   | (with_reducible refine LeO.ite ?_ ?_)
   | (with_reducible refine LeO.bind ?_ (fun _ => ?_))
   | exact ih0 _ _ _ _ _
   | exact ih1 _ _ _ _ _ _ _
   | exact ih2 _ _ _ _
   | exact ih3 _ _ _ _ _ _ _ _
   | exact impl_BestPlaces.mono _ _
   | exact impl_GreedyPlaces.mono _ _
   | exact impl_LeftOut.mono _ _ _
   | exact impl_PlacesFault.mono _ _ _
   | exact impl_RowFill.mono _ _ _ _
   | exact impl_WeightPlaced.mono _ _ _
   | exact laws_a2Has.mono _ _ _
   | exact laws_a2Rises.mono _ _ _
   | exact spec_A2Labels.mono _ _
   | exact LeO.none _
   | refine LeO.ite ?_ ?_
   | refine LeO.bind ?_ (fun _ => ?_)
  ·intro y0 y1 y2 y3 y4 y5 y6 y7
   unfold laws_FnLabels.l2
   repeat' first
   | (with_reducible exact ih0 _ _ _ _ _)
   | (with_reducible exact ih1 _ _ _ _ _ _ _)
   | (with_reducible exact ih2 _ _ _ _)
   | (with_reducible exact ih3 _ _ _ _ _ _ _ _)
   | (with_reducible exact impl_BestPlaces.mono _ _)
   | (with_reducible exact impl_GreedyPlaces.mono _ _)
   | (with_reducible exact impl_LeftOut.mono _ _ _)
   | (with_reducible exact impl_PlacesFault.mono _ _ _)
   | (with_reducible exact impl_RowFill.mono _ _ _ _)
   | (with_reducible exact impl_WeightPlaced.mono _ _ _)
   | (with_reducible exact laws_a2Has.mono _ _ _)
   | (with_reducible exact laws_a2Rises.mono _ _ _)
   | (with_reducible exact spec_A2Labels.mono _ _)
   | (with_reducible exact LeO.refl _)
   | (with_reducible exact LeO.none _)
   | (with_reducible refine LeO.ite ?_ ?_)
   | (with_reducible refine LeO.bind ?_ (fun _ => ?_))
   | exact ih0 _ _ _ _ _
   | exact ih1 _ _ _ _ _ _ _
   | exact ih2 _ _ _ _
   | exact ih3 _ _ _ _ _ _ _ _
   | exact impl_BestPlaces.mono _ _
   | exact impl_GreedyPlaces.mono _ _
   | exact impl_LeftOut.mono _ _ _
   | exact impl_PlacesFault.mono _ _ _
   | exact impl_RowFill.mono _ _ _ _
   | exact impl_WeightPlaced.mono _ _ _
   | exact laws_a2Has.mono _ _ _
   | exact laws_a2Rises.mono _ _ _
   | exact spec_A2Labels.mono _ _
   | exact LeO.none _
   | refine LeO.ite ?_ ?_
   | refine LeO.bind ?_ (fun _ => ?_)
theorem laws_FnLabels.mono : ∀ a0 k, LeO (laws_FnLabels.f k a0) (laws_FnLabels.f (k + 1) a0) := by
 intro a0 k
 obtain ⟨ih0, ih1, ih2, ih3⟩ := laws_FnLabels.mono_l k
 unfold laws_FnLabels.f
 repeat' first
   | (with_reducible exact ih0 _ _ _ _ _)
   | (with_reducible exact ih1 _ _ _ _ _ _ _)
   | (with_reducible exact ih2 _ _ _ _)
   | (with_reducible exact ih3 _ _ _ _ _ _ _ _)
   | (with_reducible exact impl_BestPlaces.mono _ _)
   | (with_reducible exact impl_GreedyPlaces.mono _ _)
   | (with_reducible exact impl_LeftOut.mono _ _ _)
   | (with_reducible exact impl_PlacesFault.mono _ _ _)
   | (with_reducible exact impl_RowFill.mono _ _ _ _)
   | (with_reducible exact impl_WeightPlaced.mono _ _ _)
   | (with_reducible exact laws_a2Has.mono _ _ _)
   | (with_reducible exact laws_a2Rises.mono _ _ _)
   | (with_reducible exact spec_A2Labels.mono _ _)
   | (with_reducible exact LeO.refl _)
   | (with_reducible exact LeO.none _)
   | (with_reducible refine LeO.ite ?_ ?_)
   | (with_reducible refine LeO.bind ?_ (fun _ => ?_))
   | exact ih0 _ _ _ _ _
   | exact ih1 _ _ _ _ _ _ _
   | exact ih2 _ _ _ _
   | exact ih3 _ _ _ _ _ _ _ _
   | exact impl_BestPlaces.mono _ _
   | exact impl_GreedyPlaces.mono _ _
   | exact impl_LeftOut.mono _ _ _
   | exact impl_PlacesFault.mono _ _ _
   | exact impl_RowFill.mono _ _ _ _
   | exact impl_WeightPlaced.mono _ _ _
   | exact laws_a2Has.mono _ _ _
   | exact laws_a2Rises.mono _ _ _
   | exact spec_A2Labels.mono _ _
   | exact LeO.none _
   | refine LeO.ite ?_ ?_
   | refine LeO.bind ?_ (fun _ => ?_)
set_option maxHeartbeats 8000000 in
set_option maxRecDepth 100000 in
theorem laws_FnLabels.calls (k : Nat) (A0 : Option Addr) (c0 : Nat) (l0 : List Int) (r : Bool) (w : World) (hr0 : Kd.C (Kd.int .u8) w A0 l0.length l0) (hc0 : l0.length ≤ c0) (h : laws_FnLabels.f k l0 = some r) :
  Calls Try.prog 3 #[.slice A0 l0.length c0] w fun e w' => e = .returned (.bool r) ∧ Below w.heap.size w w' := by
 have HR0 := Aside0.mk hr0
 have HC0 := Aside0.mk hc0
 clear hr0 hc0
 have HB := Aside0.mk (Below.refl w.heap.size w)
 have H : ((laws_a2Long.f l0 ([] : List Int)).bind fun t225 => (if t225 = true then (some true) else ((spec_A2Labels.f k l0).bind fun t226 => ((impl_BestPlaces.f k t226).bind fun bt229 => ((impl_GreedyPlaces.f k t226).bind fun bt234 => ((impl_PlacesFault.f k t226 bt229.1).bind fun bt238 => ((impl_PlacesFault.f k t226 bt234.1).bind fun bt240 => ((impl_WeightPlaced.f k t226 bt229.1).bind fun bt242 => ((impl_WeightPlaced.f k t226 bt234.1).bind fun bt244 => ((impl_LeftOut.f k t226 bt229.1).bind fun bt246 => (if bt229.2.2 = 0 then (if bt234.2 = 0 then (if bt238.2 = 0 then (if bt238.1 = (-1) then (if bt240.2 = 0 then (if bt240.1 = (-1) then (if bt242.2 = 0 then (if bt242.1 = bt229.2.1 then (if bt244.2 = 0 then (if bt244.1 > bt229.2.1 then (none) else (if bt246.2 = 0 then ((laws_a2Rises.f k bt246.1 (t226.length : Int)).bind fun t250 => (laws_FnLabels.j0 k t226 bt229.1 bt229.2.1 bt246.1 (!t250))) else (none))) else (none)) else (none)) else (none)) else (none)) else (none)) else (none)) else (none)) else (none)) else (none)))))))))))) = some r := h
 clear h
 replace H := Option.bind_eq_some_iff.mp H
 obtain ⟨t225, A20, H⟩ := H
 replace H : (if t225 = true then (some true) else ((spec_A2Labels.f k l0).bind fun t226 => ((impl_BestPlaces.f k t226).bind fun bt229 => ((impl_GreedyPlaces.f k t226).bind fun bt234 => ((impl_PlacesFault.f k t226 bt229.1).bind fun bt238 => ((impl_PlacesFault.f k t226 bt234.1).bind fun bt240 => ((impl_WeightPlaced.f k t226 bt229.1).bind fun bt242 => ((impl_WeightPlaced.f k t226 bt234.1).bind fun bt244 => ((impl_LeftOut.f k t226 bt229.1).bind fun bt246 => (if bt229.2.2 = 0 then (if bt234.2 = 0 then (if bt238.2 = 0 then (if bt238.1 = (-1) then (if bt240.2 = 0 then (if bt240.1 = (-1) then (if bt242.2 = 0 then (if bt242.1 = bt229.2.1 then (if bt244.2 = 0 then (if bt244.1 > bt229.2.1 then (none) else (if bt246.2 = 0 then ((laws_a2Rises.f k bt246.1 (t226.length : Int)).bind fun t250 => (laws_FnLabels.j0 k t226 bt229.1 bt229.2.1 bt246.1 (!t250))) else (none))) else (none)) else (none)) else (none)) else (none)) else (none)) else (none)) else (none)) else (none)) else (none))))))))))) = some r := H
 have A2 := Aside0.mk A20
 clear A20
 by_cases c3 : t225 = true
 ·subst c3
  have H1 : (some true) = some r := by rw [if_pos rfl] at H; exact H
  clear H
  have H := H1
  clear H1
  obtain rfl := Option.some.inj H
  go_enter Try.func3, Try.ntmps3
  go_wp2_with (first | ((with_reducible refine gate_callee (f := 6) rfl ?_); refine goesL_ (some 28) rfl rfl Try.func6 (by kernel_rfl) rfl #[.slice A0 l0.length c0, .slice none 0 0] rfl (by (try simp only [List.map_toArray, List.map_cons, List.map_nil]); first | done | rfl | (simp only [List.length_drop, List.length_take]; rfl)) ?_; (refine (laws_a2Long.calls _ _ l0 _ _ ([] : List Int) true _ ?side1 ?side2 ?side3 ?side4 A2.out).mono ?_); (case side1 => repeat (first | exact HR0.out | (with_reducible refine Kd.C_alloc ?_ _) | (with_reducible refine Kd.C_drewN ?_ _) | (with_reducible refine Kd.C_drew ?_))); (case side2 => exact HC0.out); (case side3 => exact Kd.C_nil _ _); (case side4 => exact Nat.le_refl _); rintro e w' ⟨rfl, ⟨nd, rfl⟩⟩; refine ⟨_, rfl, ?_⟩))
  go_ret
  exact ⟨by first | rfl | (simp [errW_none, errW_some] <;> rfl) | (simp [*, errW_none, errW_some] <;> rfl), by repeat (first | (with_reducible first | exact HB.out | apply below_alloc | apply pw_below_drewN | apply below_drew1) | exact HB.out)⟩
 ·replace c3 := Bool.eq_false_iff.mpr c3
  subst c3
  have H1 : ((spec_A2Labels.f k l0).bind fun t226 => ((impl_BestPlaces.f k t226).bind fun bt229 => ((impl_GreedyPlaces.f k t226).bind fun bt234 => ((impl_PlacesFault.f k t226 bt229.1).bind fun bt238 => ((impl_PlacesFault.f k t226 bt234.1).bind fun bt240 => ((impl_WeightPlaced.f k t226 bt229.1).bind fun bt242 => ((impl_WeightPlaced.f k t226 bt234.1).bind fun bt244 => ((impl_LeftOut.f k t226 bt229.1).bind fun bt246 => (if bt229.2.2 = 0 then (if bt234.2 = 0 then (if bt238.2 = 0 then (if bt238.1 = (-1) then (if bt240.2 = 0 then (if bt240.1 = (-1) then (if bt242.2 = 0 then (if bt242.1 = bt229.2.1 then (if bt244.2 = 0 then (if bt244.1 > bt229.2.1 then (none) else (if bt246.2 = 0 then ((laws_a2Rises.f k bt246.1 (t226.length : Int)).bind fun t250 => (laws_FnLabels.j0 k t226 bt229.1 bt229.2.1 bt246.1 (!t250))) else (none))) else (none)) else (none)) else (none)) else (none)) else (none)) else (none)) else (none)) else (none)) else (none)))))))))) = some r := by rw [if_neg (show ¬ (false = true) by decide)] at H; exact H
  clear H
  have H := H1
  clear H1
  replace H := Option.bind_eq_some_iff.mp H
  obtain ⟨t226, A40, H⟩ := H
  replace H : ((impl_BestPlaces.f k t226).bind fun bt229 => ((impl_GreedyPlaces.f k t226).bind fun bt234 => ((impl_PlacesFault.f k t226 bt229.1).bind fun bt238 => ((impl_PlacesFault.f k t226 bt234.1).bind fun bt240 => ((impl_WeightPlaced.f k t226 bt229.1).bind fun bt242 => ((impl_WeightPlaced.f k t226 bt234.1).bind fun bt244 => ((impl_LeftOut.f k t226 bt229.1).bind fun bt246 => (if bt229.2.2 = 0 then (if bt234.2 = 0 then (if bt238.2 = 0 then (if bt238.1 = (-1) then (if bt240.2 = 0 then (if bt240.1 = (-1) then (if bt242.2 = 0 then (if bt242.1 = bt229.2.1 then (if bt244.2 = 0 then (if bt244.1 > bt229.2.1 then (none) else (if bt246.2 = 0 then ((laws_a2Rises.f k bt246.1 (t226.length : Int)).bind fun t250 => (laws_FnLabels.j0 k t226 bt229.1 bt229.2.1 bt246.1 (!t250))) else (none))) else (none)) else (none)) else (none)) else (none)) else (none)) else (none)) else (none)) else (none)) else (none))))))))) = some r := H
  have A4 := Aside0.mk A40
  clear A40
  replace H := Option.bind_eq_some_iff.mp H
  obtain ⟨⟨t229, t230, t231⟩, A50, H⟩ := H
  replace H : ((impl_GreedyPlaces.f k t226).bind fun bt234 => ((impl_PlacesFault.f k t226 t229).bind fun bt238 => ((impl_PlacesFault.f k t226 bt234.1).bind fun bt240 => ((impl_WeightPlaced.f k t226 t229).bind fun bt242 => ((impl_WeightPlaced.f k t226 bt234.1).bind fun bt244 => ((impl_LeftOut.f k t226 t229).bind fun bt246 => (if t231 = 0 then (if bt234.2 = 0 then (if bt238.2 = 0 then (if bt238.1 = (-1) then (if bt240.2 = 0 then (if bt240.1 = (-1) then (if bt242.2 = 0 then (if bt242.1 = t230 then (if bt244.2 = 0 then (if bt244.1 > t230 then (none) else (if bt246.2 = 0 then ((laws_a2Rises.f k bt246.1 (t226.length : Int)).bind fun t250 => (laws_FnLabels.j0 k t226 t229 t230 bt246.1 (!t250))) else (none))) else (none)) else (none)) else (none)) else (none)) else (none)) else (none)) else (none)) else (none)) else (none)))))))) = some r := H
  have A5 := Aside0.mk A50
  clear A50
  replace H := Option.bind_eq_some_iff.mp H
  obtain ⟨⟨t234, t235⟩, A60, H⟩ := H
  replace H : ((impl_PlacesFault.f k t226 t229).bind fun bt238 => ((impl_PlacesFault.f k t226 t234).bind fun bt240 => ((impl_WeightPlaced.f k t226 t229).bind fun bt242 => ((impl_WeightPlaced.f k t226 t234).bind fun bt244 => ((impl_LeftOut.f k t226 t229).bind fun bt246 => (if t231 = 0 then (if t235 = 0 then (if bt238.2 = 0 then (if bt238.1 = (-1) then (if bt240.2 = 0 then (if bt240.1 = (-1) then (if bt242.2 = 0 then (if bt242.1 = t230 then (if bt244.2 = 0 then (if bt244.1 > t230 then (none) else (if bt246.2 = 0 then ((laws_a2Rises.f k bt246.1 (t226.length : Int)).bind fun t250 => (laws_FnLabels.j0 k t226 t229 t230 bt246.1 (!t250))) else (none))) else (none)) else (none)) else (none)) else (none)) else (none)) else (none)) else (none)) else (none)) else (none))))))) = some r := H
  have A6 := Aside0.mk A60
  clear A60
  replace H := Option.bind_eq_some_iff.mp H
  obtain ⟨⟨t238, t239⟩, A70, H⟩ := H
  replace H : ((impl_PlacesFault.f k t226 t234).bind fun bt240 => ((impl_WeightPlaced.f k t226 t229).bind fun bt242 => ((impl_WeightPlaced.f k t226 t234).bind fun bt244 => ((impl_LeftOut.f k t226 t229).bind fun bt246 => (if t231 = 0 then (if t235 = 0 then (if t239 = 0 then (if t238 = (-1) then (if bt240.2 = 0 then (if bt240.1 = (-1) then (if bt242.2 = 0 then (if bt242.1 = t230 then (if bt244.2 = 0 then (if bt244.1 > t230 then (none) else (if bt246.2 = 0 then ((laws_a2Rises.f k bt246.1 (t226.length : Int)).bind fun t250 => (laws_FnLabels.j0 k t226 t229 t230 bt246.1 (!t250))) else (none))) else (none)) else (none)) else (none)) else (none)) else (none)) else (none)) else (none)) else (none)) else (none)))))) = some r := H
  have A7 := Aside0.mk A70
  clear A70
  replace H := Option.bind_eq_some_iff.mp H
  obtain ⟨⟨t240, t241⟩, A80, H⟩ := H
  replace H : ((impl_WeightPlaced.f k t226 t229).bind fun bt242 => ((impl_WeightPlaced.f k t226 t234).bind fun bt244 => ((impl_LeftOut.f k t226 t229).bind fun bt246 => (if t231 = 0 then (if t235 = 0 then (if t239 = 0 then (if t238 = (-1) then (if t241 = 0 then (if t240 = (-1) then (if bt242.2 = 0 then (if bt242.1 = t230 then (if bt244.2 = 0 then (if bt244.1 > t230 then (none) else (if bt246.2 = 0 then ((laws_a2Rises.f k bt246.1 (t226.length : Int)).bind fun t250 => (laws_FnLabels.j0 k t226 t229 t230 bt246.1 (!t250))) else (none))) else (none)) else (none)) else (none)) else (none)) else (none)) else (none)) else (none)) else (none)) else (none))))) = some r := H
  have A8 := Aside0.mk A80
  clear A80
  replace H := Option.bind_eq_some_iff.mp H
  obtain ⟨⟨t242, t243⟩, A90, H⟩ := H
  replace H : ((impl_WeightPlaced.f k t226 t234).bind fun bt244 => ((impl_LeftOut.f k t226 t229).bind fun bt246 => (if t231 = 0 then (if t235 = 0 then (if t239 = 0 then (if t238 = (-1) then (if t241 = 0 then (if t240 = (-1) then (if t243 = 0 then (if t242 = t230 then (if bt244.2 = 0 then (if bt244.1 > t230 then (none) else (if bt246.2 = 0 then ((laws_a2Rises.f k bt246.1 (t226.length : Int)).bind fun t250 => (laws_FnLabels.j0 k t226 t229 t230 bt246.1 (!t250))) else (none))) else (none)) else (none)) else (none)) else (none)) else (none)) else (none)) else (none)) else (none)) else (none)))) = some r := H
  have A9 := Aside0.mk A90
  clear A90
  replace H := Option.bind_eq_some_iff.mp H
  obtain ⟨⟨t244, t245⟩, A100, H⟩ := H
  replace H : ((impl_LeftOut.f k t226 t229).bind fun bt246 => (if t231 = 0 then (if t235 = 0 then (if t239 = 0 then (if t238 = (-1) then (if t241 = 0 then (if t240 = (-1) then (if t243 = 0 then (if t242 = t230 then (if t245 = 0 then (if t244 > t230 then (none) else (if bt246.2 = 0 then ((laws_a2Rises.f k bt246.1 (t226.length : Int)).bind fun t250 => (laws_FnLabels.j0 k t226 t229 t230 bt246.1 (!t250))) else (none))) else (none)) else (none)) else (none)) else (none)) else (none)) else (none)) else (none)) else (none)) else (none))) = some r := H
  have A10 := Aside0.mk A100
  clear A100
  replace H := Option.bind_eq_some_iff.mp H
  obtain ⟨⟨t246, t247⟩, A110, H⟩ := H
  replace H : (if t231 = 0 then (if t235 = 0 then (if t239 = 0 then (if t238 = (-1) then (if t241 = 0 then (if t240 = (-1) then (if t243 = 0 then (if t242 = t230 then (if t245 = 0 then (if t244 > t230 then (none) else (if t247 = 0 then ((laws_a2Rises.f k t246 (t226.length : Int)).bind fun t250 => (laws_FnLabels.j0 k t226 t229 t230 t246 (!t250))) else (none))) else (none)) else (none)) else (none)) else (none)) else (none)) else (none)) else (none)) else (none)) else (none)) = some r := H
  have A11 := Aside0.mk A110
  clear A110
  have HC12 := Aside0.mk H
  clear H
  go_enter Try.func3, Try.ntmps3
  go_upto_region 11 with (first | ((with_reducible refine gate_callee (f := 6) rfl ?_); refine goesL_ (some 28) rfl rfl Try.func6 (by kernel_rfl) rfl #[.slice A0 l0.length c0, .slice none 0 0] rfl (by (try simp only [List.map_toArray, List.map_cons, List.map_nil]); first | done | rfl | (simp only [List.length_drop, List.length_take]; rfl)) ?_; (refine (laws_a2Long.calls _ _ l0 _ _ ([] : List Int) false _ ?side1 ?side2 ?side3 ?side4 A2.out).mono ?_); (case side1 => repeat (first | exact HR0.out | (with_reducible refine Kd.C_alloc ?_ _) | (with_reducible refine Kd.C_drewN ?_ _) | (with_reducible refine Kd.C_drew ?_))); (case side2 => exact HC0.out); (case side3 => exact Kd.C_nil _ _); (case side4 => exact Nat.le_refl _); rintro e w' ⟨rfl, ⟨nd, rfl⟩⟩; refine ⟨_, rfl, ?_⟩) | ((with_reducible refine gate_callee (f := 7) rfl ?_); refine goesL_ (some 30) rfl rfl Try.func7 (by kernel_rfl) rfl #[.slice A0 l0.length c0] rfl (by (try simp only [List.map_toArray, List.map_cons, List.map_nil]); first | done | rfl | (simp only [List.length_drop, List.length_take]; rfl)) ?_; (with_reducible refine (spec_A2Labels.calls k _ _ l0 t226 _ ?side1 ?side2 A4.out).mono ?_); (case side1 => repeat (first | exact HR0.out | (with_reducible refine Kd.C_alloc ?_ _) | (with_reducible refine Kd.C_drewN ?_ _) | (with_reducible refine Kd.C_drew ?_))); (case side2 => exact HC0.out); rintro e w13 ⟨v227, rfl, ho0, hb⟩; refine ⟨_, rfl, ?_⟩; have n0_ := Aside0.mk (Kd.S_lower ho0 (below_size (by repeat (first | (with_reducible first | exact HB.out | apply below_alloc | apply pw_below_drewN | apply below_drew1) | exact HB.out)))); have n1_ := Aside0.mk (below_step (by repeat (first | (with_reducible first | exact HB.out | apply below_alloc | apply pw_below_drewN | apply below_drew1) | exact HB.out)) hb); clear HB; have HO228 := n0_; have HB := n1_; clear n0_ n1_; (try clear hb); (try clear hb2); (try clear hk); (try clear hi); (try clear ho0); obtain ⟨Ao14, co14, eo14⟩ := Kd.S_slice HO228.out; subst eo14) | ((with_reducible refine gate_callee (f := 8) rfl ?_); refine goesL_ (some 33) rfl rfl Try.func8 (by kernel_rfl) rfl #[.slice Ao14 t226.length co14] rfl (by (try simp only [List.map_toArray, List.map_cons, List.map_nil]); first | done | rfl | (simp only [List.length_drop, List.length_take]; rfl)) ?_; (with_reducible refine (impl_BestPlaces.calls k _ _ t226 t229 t230 t231 _ ?side1 ?side2 A5.out).mono ?_); (case side1 => repeat (first | exact (Kd.S_reads' HO228.out).2.2 | (with_reducible refine Kd.C_alloc ?_ _) | (with_reducible refine Kd.C_drewN ?_ _) | (with_reducible refine Kd.C_drew ?_))); (case side2 => exact (Kd.S_reads' HO228.out).2.1); rintro e w15 ⟨v232, rfl, ho0, hb⟩; refine ⟨_, rfl, ?_⟩; have n0_ := Aside0.mk (Kd.S_elder' (by (with_reducible repeat (first | apply Kd.S_alloc | apply Kd.S_drewN | apply Kd.S_drew)); exact HO228.out) (Kd.R_base ho0) hb); have n1_ := Aside0.mk (Kd.R_lower ho0 (below_size (by repeat (first | (with_reducible first | exact HB.out | apply below_alloc | apply pw_below_drewN | apply below_drew1) | exact HB.out)))); have n2_ := Aside0.mk (below_step (by repeat (first | (with_reducible first | exact HB.out | apply below_alloc | apply pw_below_drewN | apply below_drew1) | exact HB.out)) hb); clear HO228; clear HB; have HO228 := n0_; have HO233 := n1_; have HB := n2_; clear n0_ n1_ n2_; (try clear hb); (try clear hb2); (try clear hk); (try clear hi); (try clear ho0)) | ((with_reducible refine gate_callee (f := 9) rfl ?_); refine goesL_ (some 39) rfl rfl Try.func9 (by kernel_rfl) rfl #[.slice Ao14 t226.length co14] rfl (by (try simp only [List.map_toArray, List.map_cons, List.map_nil]); first | done | rfl | (simp only [List.length_drop, List.length_take]; rfl)) ?_; (with_reducible refine (impl_GreedyPlaces.calls k _ _ t226 t234 t235 _ ?side1 ?side2 A6.out).mono ?_); (case side1 => repeat (first | exact (Kd.S_reads' HO228.out).2.2 | (with_reducible refine Kd.C_alloc ?_ _) | (with_reducible refine Kd.C_drewN ?_ _) | (with_reducible refine Kd.C_drew ?_))); (case side2 => exact (Kd.S_reads' HO228.out).2.1); rintro e w16 ⟨v236, rfl, ho0, hb⟩; refine ⟨_, rfl, ?_⟩; have n0_ := Aside0.mk (Kd.S_elder' (by (with_reducible repeat (first | apply Kd.S_alloc | apply Kd.S_drewN | apply Kd.S_drew)); exact HO228.out) (Kd.R_base ho0) hb); have n1_ := Aside0.mk (Kd.R_elder' (by (with_reducible repeat (first | apply Kd.R_alloc | apply Kd.R_drewN | apply Kd.R_drew)); exact HO233.out) (Kd.R_base ho0) hb); have n2_ := Aside0.mk (Kd.R_lower (Kd.R_new' ho0 (Kd.R_lt (by (with_reducible repeat (first | apply Kd.R_alloc | apply Kd.R_drewN | apply Kd.R_drew)); exact HO233.out))) (below_size (by repeat (first | (with_reducible first | exact HB.out | apply below_alloc | apply pw_below_drewN | apply below_drew1) | exact HB.out)))); have n3_ := Aside0.mk (below_step (by repeat (first | (with_reducible first | exact HB.out | apply below_alloc | apply pw_below_drewN | apply below_drew1) | exact HB.out)) hb); clear HO228; clear HO233; clear HB; have HO228 := n0_; have HO233 := n1_; have HO237 := n2_; have HB := n3_; clear n0_ n1_ n2_ n3_; (try clear hb); (try clear hb2); (try clear hk); (try clear hi); (try clear ho0); obtain ⟨Ao17, co17, eo17⟩ := Kd.R_slice HO233.out; subst eo17) | ((with_reducible refine gate_callee (f := 10) rfl ?_); refine goesL_ (some 45) rfl rfl Try.func10 (by kernel_rfl) rfl #[.slice Ao14 t226.length co14, .slice Ao17 t229.length co17] rfl (by (try simp only [List.map_toArray, List.map_cons, List.map_nil]); first | done | rfl | (simp only [List.length_drop, List.length_take]; rfl)) ?_; (with_reducible refine (impl_PlacesFault.calls k _ _ t226 _ _ t229 t238 t239 _ ?side1 ?side2 ?side3 ?side4 A7.out).mono ?_); (case side1 => repeat (first | exact (Kd.S_reads' HO228.out).2.2 | (with_reducible refine Kd.C_alloc ?_ _) | (with_reducible refine Kd.C_drewN ?_ _) | (with_reducible refine Kd.C_drew ?_))); (case side2 => exact (Kd.S_reads' HO228.out).2.1); (case side3 => repeat (first | exact (Kd.R_reads' HO233.out).2.2 | (with_reducible refine Kd.C_alloc ?_ _) | (with_reducible refine Kd.C_drewN ?_ _) | (with_reducible refine Kd.C_drew ?_))); (case side4 => exact (Kd.R_reads' HO233.out).2.1); rintro e w18 ⟨rfl, hb⟩; refine ⟨_, rfl, ?_⟩; have n0_ := Aside0.mk (Kd.S_below (by (with_reducible repeat (first | apply Kd.S_alloc | apply Kd.S_drewN | apply Kd.S_drew)); exact HO228.out) hb); have n1_ := Aside0.mk (Kd.R_below (by (with_reducible repeat (first | apply Kd.R_alloc | apply Kd.R_drewN | apply Kd.R_drew)); exact HO233.out) hb); have n2_ := Aside0.mk (Kd.R_below (by (with_reducible repeat (first | apply Kd.R_alloc | apply Kd.R_drewN | apply Kd.R_drew)); exact HO237.out) hb); have n3_ := Aside0.mk (below_step (by repeat (first | (with_reducible first | exact HB.out | apply below_alloc | apply pw_below_drewN | apply below_drew1) | exact HB.out)) hb); clear HO228; clear HO233; clear HO237; clear HB; have HO228 := n0_; have HO233 := n1_; have HO237 := n2_; have HB := n3_; clear n0_ n1_ n2_ n3_; (try clear hb); (try clear hb2); (try clear hk); (try clear hi); obtain ⟨Ao19, co19, eo19⟩ := Kd.R_slice HO237.out; subst eo19) | ((with_reducible refine gate_callee (f := 10) rfl ?_); refine goesL_ (some 51) rfl rfl Try.func10 (by kernel_rfl) rfl #[.slice Ao14 t226.length co14, .slice Ao19 t234.length co19] rfl (by (try simp only [List.map_toArray, List.map_cons, List.map_nil]); first | done | rfl | (simp only [List.length_drop, List.length_take]; rfl)) ?_; (with_reducible refine (impl_PlacesFault.calls k _ _ t226 _ _ t234 t240 t241 _ ?side1 ?side2 ?side3 ?side4 A8.out).mono ?_); (case side1 => repeat (first | exact (Kd.S_reads' HO228.out).2.2 | (with_reducible refine Kd.C_alloc ?_ _) | (with_reducible refine Kd.C_drewN ?_ _) | (with_reducible refine Kd.C_drew ?_))); (case side2 => exact (Kd.S_reads' HO228.out).2.1); (case side3 => repeat (first | exact (Kd.R_reads' HO237.out).2.2 | (with_reducible refine Kd.C_alloc ?_ _) | (with_reducible refine Kd.C_drewN ?_ _) | (with_reducible refine Kd.C_drew ?_))); (case side4 => exact (Kd.R_reads' HO237.out).2.1); rintro e w20 ⟨rfl, hb⟩; refine ⟨_, rfl, ?_⟩; have n0_ := Aside0.mk (Kd.S_below (by (with_reducible repeat (first | apply Kd.S_alloc | apply Kd.S_drewN | apply Kd.S_drew)); exact HO228.out) hb); have n1_ := Aside0.mk (Kd.R_below (by (with_reducible repeat (first | apply Kd.R_alloc | apply Kd.R_drewN | apply Kd.R_drew)); exact HO233.out) hb); have n2_ := Aside0.mk (Kd.R_below (by (with_reducible repeat (first | apply Kd.R_alloc | apply Kd.R_drewN | apply Kd.R_drew)); exact HO237.out) hb); have n3_ := Aside0.mk (below_step (by repeat (first | (with_reducible first | exact HB.out | apply below_alloc | apply pw_below_drewN | apply below_drew1) | exact HB.out)) hb); clear HO228; clear HO233; clear HO237; clear HB; have HO228 := n0_; have HO233 := n1_; have HO237 := n2_; have HB := n3_; clear n0_ n1_ n2_ n3_; (try clear hb); (try clear hb2); (try clear hk); (try clear hi)) | ((with_reducible refine gate_callee (f := 11) rfl ?_); refine goesL_ (some 57) rfl rfl Try.func11 (by kernel_rfl) rfl #[.slice Ao14 t226.length co14, .slice Ao17 t229.length co17] rfl (by (try simp only [List.map_toArray, List.map_cons, List.map_nil]); first | done | rfl | (simp only [List.length_drop, List.length_take]; rfl)) ?_; (with_reducible refine (impl_WeightPlaced.calls k _ _ t226 _ _ t229 t242 t243 _ ?side1 ?side2 ?side3 ?side4 A9.out).mono ?_); (case side1 => repeat (first | exact (Kd.S_reads' HO228.out).2.2 | (with_reducible refine Kd.C_alloc ?_ _) | (with_reducible refine Kd.C_drewN ?_ _) | (with_reducible refine Kd.C_drew ?_))); (case side2 => exact (Kd.S_reads' HO228.out).2.1); (case side3 => repeat (first | exact (Kd.R_reads' HO233.out).2.2 | (with_reducible refine Kd.C_alloc ?_ _) | (with_reducible refine Kd.C_drewN ?_ _) | (with_reducible refine Kd.C_drew ?_))); (case side4 => exact (Kd.R_reads' HO233.out).2.1); rintro e w21 ⟨rfl, hb⟩; refine ⟨_, rfl, ?_⟩; have n0_ := Aside0.mk (Kd.S_below (by (with_reducible repeat (first | apply Kd.S_alloc | apply Kd.S_drewN | apply Kd.S_drew)); exact HO228.out) hb); have n1_ := Aside0.mk (Kd.R_below (by (with_reducible repeat (first | apply Kd.R_alloc | apply Kd.R_drewN | apply Kd.R_drew)); exact HO233.out) hb); have n2_ := Aside0.mk (Kd.R_below (by (with_reducible repeat (first | apply Kd.R_alloc | apply Kd.R_drewN | apply Kd.R_drew)); exact HO237.out) hb); have n3_ := Aside0.mk (below_step (by repeat (first | (with_reducible first | exact HB.out | apply below_alloc | apply pw_below_drewN | apply below_drew1) | exact HB.out)) hb); clear HO228; clear HO233; clear HO237; clear HB; have HO228 := n0_; have HO233 := n1_; have HO237 := n2_; have HB := n3_; clear n0_ n1_ n2_ n3_; (try clear hb); (try clear hb2); (try clear hk); (try clear hi)) | ((with_reducible refine gate_callee (f := 11) rfl ?_); refine goesL_ (some 63) rfl rfl Try.func11 (by kernel_rfl) rfl #[.slice Ao14 t226.length co14, .slice Ao19 t234.length co19] rfl (by (try simp only [List.map_toArray, List.map_cons, List.map_nil]); first | done | rfl | (simp only [List.length_drop, List.length_take]; rfl)) ?_; (with_reducible refine (impl_WeightPlaced.calls k _ _ t226 _ _ t234 t244 t245 _ ?side1 ?side2 ?side3 ?side4 A10.out).mono ?_); (case side1 => repeat (first | exact (Kd.S_reads' HO228.out).2.2 | (with_reducible refine Kd.C_alloc ?_ _) | (with_reducible refine Kd.C_drewN ?_ _) | (with_reducible refine Kd.C_drew ?_))); (case side2 => exact (Kd.S_reads' HO228.out).2.1); (case side3 => repeat (first | exact (Kd.R_reads' HO237.out).2.2 | (with_reducible refine Kd.C_alloc ?_ _) | (with_reducible refine Kd.C_drewN ?_ _) | (with_reducible refine Kd.C_drew ?_))); (case side4 => exact (Kd.R_reads' HO237.out).2.1); rintro e w22 ⟨rfl, hb⟩; refine ⟨_, rfl, ?_⟩; have n0_ := Aside0.mk (Kd.S_below (by (with_reducible repeat (first | apply Kd.S_alloc | apply Kd.S_drewN | apply Kd.S_drew)); exact HO228.out) hb); have n1_ := Aside0.mk (Kd.R_below (by (with_reducible repeat (first | apply Kd.R_alloc | apply Kd.R_drewN | apply Kd.R_drew)); exact HO233.out) hb); have n2_ := Aside0.mk (Kd.R_below (by (with_reducible repeat (first | apply Kd.R_alloc | apply Kd.R_drewN | apply Kd.R_drew)); exact HO237.out) hb); have n3_ := Aside0.mk (below_step (by repeat (first | (with_reducible first | exact HB.out | apply below_alloc | apply pw_below_drewN | apply below_drew1) | exact HB.out)) hb); clear HO228; clear HO233; clear HO237; clear HB; have HO228 := n0_; have HO233 := n1_; have HO237 := n2_; have HB := n3_; clear n0_ n1_ n2_ n3_; (try clear hb); (try clear hb2); (try clear hk); (try clear hi)) | ((with_reducible refine gate_callee (f := 12) rfl ?_); refine goesL_ (some 69) rfl rfl Try.func12 (by kernel_rfl) rfl #[.slice Ao14 t226.length co14, .slice Ao17 t229.length co17] rfl (by (try simp only [List.map_toArray, List.map_cons, List.map_nil]); first | done | rfl | (simp only [List.length_drop, List.length_take]; rfl)) ?_; (with_reducible refine (impl_LeftOut.calls k _ _ t226 _ _ t229 t246 t247 _ ?side1 ?side2 ?side3 ?side4 A11.out).mono ?_); (case side1 => repeat (first | exact (Kd.S_reads' HO228.out).2.2 | (with_reducible refine Kd.C_alloc ?_ _) | (with_reducible refine Kd.C_drewN ?_ _) | (with_reducible refine Kd.C_drew ?_))); (case side2 => exact (Kd.S_reads' HO228.out).2.1); (case side3 => repeat (first | exact (Kd.R_reads' HO233.out).2.2 | (with_reducible refine Kd.C_alloc ?_ _) | (with_reducible refine Kd.C_drewN ?_ _) | (with_reducible refine Kd.C_drew ?_))); (case side4 => exact (Kd.R_reads' HO233.out).2.1); rintro e w23 ⟨v248, rfl, ho0, hb⟩; refine ⟨_, rfl, ?_⟩; have n0_ := Aside0.mk (Kd.S_elder' (by (with_reducible repeat (first | apply Kd.S_alloc | apply Kd.S_drewN | apply Kd.S_drew)); exact HO228.out) (Kd.R_base ho0) hb); have n1_ := Aside0.mk (Kd.R_elder' (by (with_reducible repeat (first | apply Kd.R_alloc | apply Kd.R_drewN | apply Kd.R_drew)); exact HO233.out) (Kd.R_base ho0) hb); have n2_ := Aside0.mk (Kd.R_elder' (by (with_reducible repeat (first | apply Kd.R_alloc | apply Kd.R_drewN | apply Kd.R_drew)); exact HO237.out) (Kd.R_base ho0) hb); have n3_ := Aside0.mk (Kd.R_lower (Kd.R_new' (Kd.R_new' ho0 (Kd.R_lt (by (with_reducible repeat (first | apply Kd.R_alloc | apply Kd.R_drewN | apply Kd.R_drew)); exact HO233.out))) (Kd.R_lt (by (with_reducible repeat (first | apply Kd.R_alloc | apply Kd.R_drewN | apply Kd.R_drew)); exact HO237.out))) (below_size (by repeat (first | (with_reducible first | exact HB.out | apply below_alloc | apply pw_below_drewN | apply below_drew1) | exact HB.out)))); have n4_ := Aside0.mk (below_step (by repeat (first | (with_reducible first | exact HB.out | apply below_alloc | apply pw_below_drewN | apply below_drew1) | exact HB.out)) hb); clear HO228; clear HO233; clear HO237; clear HB; have HO228 := n0_; have HO233 := n1_; have HO237 := n2_; have HO249 := n3_; have HB := n4_; clear n0_ n1_ n2_ n3_ n4_; (try clear hb); (try clear hb2); (try clear hk); (try clear hi); (try clear ho0)))
  (try simp only [Act.put, List.setIfInBounds_toArray, List.set_cons_zero, List.set_cons_succ])
  go_cut [122] (fun v122 wc => ∃ (kq : Nat) (x122_11 : Bool), v122 = .bool x122_11 ∧ Aside0 (laws_FnLabels.j0 kq t226 t229 t230 t246 x122_11 = some r) ∧ Aside0 (kq ≤ k) ∧ Aside0 (Kd.S k36 36 wc w.heap.size (fun k_ => some k_ ≠ ((.slice Ao17 t229.length co17) : Value).ownBlock ∧ some k_ ≠ (v248 : Value).ownBlock) (.slice Ao14 t226.length co14) t226) ∧ Aside0 (Kd.R (Kd.int .i64) 2 wc w.heap.size (fun k_ => some k_ ≠ (v248 : Value).ownBlock) (.slice Ao17 t229.length co17) t229) ∧ Aside0 (Kd.R (Kd.int .i64) 2 wc w.heap.size (fun k_ => some k_ ≠ ((.slice Ao17 t229.length co17) : Value).ownBlock) v248 t246) ∧ Aside0 (Below w.heap.size w wc))
  case first =>
   have H := HC12.out
   clear HC12
   by_cases c24 : t231 = 0
   ·rw [if_pos c24] at H
    have c24b0 : (t231 == 0) = true := beq_iff_eq.mpr c24
    have c24b1 : (t231 != 0) = false := bne_eq_false_iff_eq.mpr c24
    clear c24
    (first | rw [c24b0] | (simp only [i64_w, i32_w]; rw [c24b0]) | skip)
    by_cases c25 : t235 = 0
    ·rw [if_pos c25] at H
     have c25b0 : (t235 == 0) = true := beq_iff_eq.mpr c25
     have c25b1 : (t235 != 0) = false := bne_eq_false_iff_eq.mpr c25
     clear c25
     by_cases c26 : t239 = 0
     ·rw [if_pos c26] at H
      have c26b0 : (t239 == 0) = true := beq_iff_eq.mpr c26
      have c26b1 : (t239 != 0) = false := bne_eq_false_iff_eq.mpr c26
      clear c26
      by_cases c27 : t238 = (-1)
      ·rw [if_pos c27] at H
       have c27b0 : (t238 == (-1)) = true := beq_iff_eq.mpr c27
       have c27b1 : (t238 != (-1)) = false := bne_eq_false_iff_eq.mpr c27
       clear c27
       by_cases c28 : t241 = 0
       ·rw [if_pos c28] at H
        have c28b0 : (t241 == 0) = true := beq_iff_eq.mpr c28
        have c28b1 : (t241 != 0) = false := bne_eq_false_iff_eq.mpr c28
        clear c28
        by_cases c29 : t240 = (-1)
        ·rw [if_pos c29] at H
         have c29b0 : (t240 == (-1)) = true := beq_iff_eq.mpr c29
         have c29b1 : (t240 != (-1)) = false := bne_eq_false_iff_eq.mpr c29
         clear c29
         by_cases c30 : t243 = 0
         ·rw [if_pos c30] at H
          have c30b0 : (t243 == 0) = true := beq_iff_eq.mpr c30
          have c30b1 : (t243 != 0) = false := bne_eq_false_iff_eq.mpr c30
          clear c30
          by_cases c31 : t242 = t230
          ·rw [if_pos c31] at H
           have c31b0 : (t242 == t230) = true := beq_iff_eq.mpr c31
           have c31b1 : (t242 != t230) = false := bne_eq_false_iff_eq.mpr c31
           clear c31
           by_cases c32 : t245 = 0
           ·rw [if_pos c32] at H
            have c32b0 : (t245 == 0) = true := beq_iff_eq.mpr c32
            have c32b1 : (t245 != 0) = false := bne_eq_false_iff_eq.mpr c32
            clear c32
            by_cases c33 : t244 > t230
            ·rw [if_pos c33] at H
             exact absurd H (by simp)
            ·rw [if_neg c33] at H
             have c33b0 : decide (t230 < t244) = false := decide_eq_false c33
             clear c33
             by_cases c34 : t247 = 0
             ·rw [if_pos c34] at H
              have c34b0 : (t247 == 0) = true := beq_iff_eq.mpr c34
              have c34b1 : (t247 != 0) = false := bne_eq_false_iff_eq.mpr c34
              clear c34
              replace H := Option.bind_eq_some_iff.mp H
              obtain ⟨t250, A350, H⟩ := H
              replace H : (laws_FnLabels.j0 k t226 t229 t230 t246 (!t250)) = some r := H
              have A35 := Aside0.mk A350
              clear A350
              have H' := Aside0.mk H
              clear H
              obtain ⟨Ao36, co36, eo36⟩ := Kd.R_slice HO249.out
              subst eo36
              go_wp2_with (first | (go_at_call 13; (with_reducible refine (laws_a2Rises.calls k _ _ t246 (t226.length : Int) t250 _ ?side1 ?side2 A35.out).mono ?_); (case side1 => repeat (first | exact (Kd.R_reads' HO249.out).2.2 | (with_reducible refine Kd.C_alloc ?_ _) | (with_reducible refine Kd.C_drewN ?_ _) | (with_reducible refine Kd.C_drew ?_))); (case side2 => exact (Kd.R_reads' HO249.out).2.1); rintro e w' ⟨rfl, ⟨nd, rfl⟩⟩))
              go_meet
              case rel => exact ⟨_, (!t250), (by first | rfl | (simp; done) | (simp [*]; done)), H', ⟨by first | omega | exact Nat.le_refl _⟩, ⟨by (with_reducible repeat (first | apply Kd.S_alloc | apply Kd.S_drewN | apply Kd.S_drew)); exact Kd.S_mono HO228.out (fun _ hk => ⟨hk.1.1.2, hk.2⟩)⟩, ⟨by (with_reducible repeat (first | apply Kd.R_alloc | apply Kd.R_drewN | apply Kd.R_drew)); exact Kd.R_mono HO233.out (fun _ hk => hk.2)⟩, ⟨by (with_reducible repeat (first | apply Kd.R_alloc | apply Kd.R_drewN | apply Kd.R_drew)); exact Kd.R_mono HO249.out (fun _ hk => hk.1.2)⟩, ⟨by repeat (first | (with_reducible first | exact HB.out | apply below_alloc | apply pw_below_drewN | apply below_drew1) | exact HB.out)⟩⟩
             ·rw [if_neg c34] at H
              exact absurd H (by simp)
           ·rw [if_neg c32] at H
            exact absurd H (by simp)
          ·rw [if_neg c31] at H
           exact absurd H (by simp)
         ·rw [if_neg c30] at H
          exact absurd H (by simp)
        ·rw [if_neg c29] at H
         exact absurd H (by simp)
       ·rw [if_neg c28] at H
        exact absurd H (by simp)
      ·rw [if_neg c27] at H
       exact absurd H (by simp)
     ·rw [if_neg c26] at H
      exact absurd H (by simp)
    ·rw [if_neg c25] at H
     exact absurd H (by simp)
   ·rw [if_neg c24] at H
    exact absurd H (by simp)
  case rest =>
   clear HC12
   try clear c1
   try clear c2
   try clear p2
   try clear c3
   try clear c6
   try clear c7
   try clear c8
   try clear c9
   try clear c10
   try clear c11
   try clear c12
   try clear c24
   try clear c24b0
   try clear c24b1
   try clear c25
   try clear c25b0
   try clear c25b1
   try clear c26
   try clear c26b0
   try clear c26b1
   try clear c27
   try clear c27b0
   try clear c27b1
   try clear c28
   try clear c28b0
   try clear c28b1
   try clear c29
   try clear c29b0
   try clear c29b1
   try clear c30
   try clear c30b0
   try clear c30b1
   try clear c31
   try clear c31b0
   try clear c31b1
   try clear c32
   try clear c32b0
   try clear c32b1
   try clear c33
   try clear c33b0
   try clear c34
   try clear c34b0
   try clear c34b1
   obtain ⟨kq, x122_11, rfl, HA, HJ11, HO_3, HO_4, HO_17, HB⟩ := hcut
   cases kq with
   | zero => exact absurd HA.out (by simp [laws_FnLabels.j0])
   | succ kj11 =>
    have H := HA.out
    clear HA
    simp only [laws_FnLabels.j0] at H
    by_cases c37 : x122_11 = true
    ·subst c37
     have H1 : (none) = some r := by rw [if_pos rfl] at H; exact H
     clear H
     have H := H1
     clear H1
     exact absurd H (by simp)
    ·replace c37 := Bool.eq_false_iff.mpr c37
     subst c37
     have H1 : (laws_FnLabels.l0 kj11 t226 t229 t230 t246 0 0 0) = some r := by rw [if_neg (show ¬ (false = true) by decide)] at H; exact H
     clear H
     have H := H1
     clear H1
     have H' := Aside0.mk H
     clear H
     go_wp2
     go_loopg [19, 20, 21] kj11 (fun kq v19 v20 v21 w' => ∃ (x19_2 : Int) (x20_2 : Int) (x21_2 : Int), v19 = .int .i64 x19_2 ∧ v20 = .int .i64 x20_2 ∧ v21 = .int .i64 x21_2 ∧ Aside0 (laws_FnLabels.l0 kq t226 t229 t230 t246 x19_2 x20_2 x21_2 = some r) ∧ Aside0 (kq ≤ kj11) ∧ Aside0 (Kd.S k36 36 w' w.heap.size (fun k_ => some k_ ≠ ((.slice Ao17 t229.length co17) : Value).ownBlock ∧ some k_ ≠ (v248 : Value).ownBlock) (.slice Ao14 t226.length co14) t226) ∧ Aside0 (Kd.R (Kd.int .i64) 2 w' w.heap.size (fun k_ => some k_ ≠ (v248 : Value).ownBlock) (.slice Ao17 t229.length co17) t229) ∧ Aside0 (Kd.R (Kd.int .i64) 2 w' w.heap.size (fun k_ => some k_ ≠ ((.slice Ao17 t229.length co17) : Value).ownBlock) v248 t246) ∧ Aside0 (Below w.heap.size w w'))
     case atStart => exact ⟨(0), (0), (0), (by first | rfl | (simp; done) | (simp [*]; done)), (by first | rfl | (simp; done) | (simp [*]; done)), (by first | rfl | (simp; done) | (simp [*]; done)), H', ⟨Nat.le_refl _⟩, ⟨by (with_reducible repeat (first | apply Kd.S_alloc | apply Kd.S_drewN | apply Kd.S_drew)); exact HO_3.out⟩, ⟨by (with_reducible repeat (first | apply Kd.R_alloc | apply Kd.R_drewN | apply Kd.R_drew)); exact HO_4.out⟩, ⟨by (with_reducible repeat (first | apply Kd.R_alloc | apply Kd.R_drewN | apply Kd.R_drew)); exact HO_17.out⟩, ⟨by repeat (first | (with_reducible first | exact HB.out | apply below_alloc | apply pw_below_drewN | apply below_drew1) | exact HB.out)⟩⟩
     case round =>
      clear H'
      try clear c1
      try clear c2
      try clear p2
      try clear c3
      try clear c6
      try clear c7
      try clear c8
      try clear c9
      try clear c10
      try clear c11
      try clear c12
      try clear c24
      try clear c24b0
      try clear c24b1
      try clear c25
      try clear c25b0
      try clear c25b1
      try clear c26
      try clear c26b0
      try clear c26b1
      try clear c27
      try clear c27b0
      try clear c27b1
      try clear c28
      try clear c28b0
      try clear c28b1
      try clear c29
      try clear c29b0
      try clear c29b1
      try clear c30
      try clear c30b0
      try clear c30b1
      try clear c31
      try clear c31b0
      try clear c31b1
      try clear c32
      try clear c32b0
      try clear c32b1
      try clear c33
      try clear c33b0
      try clear c34
      try clear c34b0
      try clear c34b1
      try clear c37
      try clear p2
      obtain ⟨x19_2, x20_2, x21_2, rfl, rfl, rfl, HA, HK2, HO_3, HO_4, HO_17, HB⟩ := hrel
      cases gk with
      | zero => exact absurd HA.out (by simp [laws_FnLabels.l0])
      | succ k2 =>
       have H := HA.out
       clear HA
       simp only [laws_FnLabels.l0] at H
       by_cases c38 : x21_2 < (t226.length : Int)
       ·rw [if_pos c38] at H
        have c38b0 : decide (x21_2 < (t226.length : Int)) = true := decide_eq_true c38
        clear c38
        by_cases c39 : 0 ≤ x21_2
        ·rw [if_pos c39] at H
         have c39b0 : decide (0 ≤ x21_2) = true := decide_eq_true c39
         clear c39
         replace H := Option.bind_eq_some_iff.mp H
         obtain ⟨t252, A400, H⟩ := H
         replace H : (if t252 = true then (laws_FnLabels.l0 k2 t226 t229 t230 t246 (wrap64 (x19_2 + ((rd_T36 t226 x21_2).f3))) (wrap64 (x20_2 + ((rd_T36 t226 x21_2).f3))) (wrap64 (x21_2 + 1))) else (laws_FnLabels.l0 k2 t226 t229 t230 t246 (wrap64 (x19_2 + ((rd_T36 t226 x21_2).f3))) x20_2 (wrap64 (x21_2 + 1)))) = some r := H
         have A40 := Aside0.mk A400
         clear A400
         by_cases c41 : t252 = true
         ·subst c41
          have H1 : (laws_FnLabels.l0 k2 t226 t229 t230 t246 (wrap64 (x19_2 + ((rd_T36 t226 x21_2).f3))) (wrap64 (x20_2 + ((rd_T36 t226 x21_2).f3))) (wrap64 (x21_2 + 1))) = some r := by rw [if_pos rfl] at H; exact H
          clear H
          have H := H1
          clear H1
          have H' := Aside0.mk H
          clear H
          have p251 : 0 ≤ (x21_2 : Int) := od_
          have q251 : x21_2 < (t226.length : Int) := od_
          obtain ⟨ad251, A251_2, c251_2, e251, hx251_0, hx251_1, hx251_2, hx251_3, hl251_2, hi251_2⟩ := at_T36 (Kd.S_reads' HO_3.out).2.2 x21_2 p251 q251
          cases e251
          obtain ⟨ce251, hce251, hMe251, hcc251⟩ := Kd.S_get HO_3.out z36 x21_2 p251 (by first | exact q251 | exact od_ | (have e_ := (Kd.S_reads' HO_3.out).1; omega))
          obtain ⟨ve251_2, rfl, ge251_2⟩ := k36_openM hMe251
          have hv251_2 := hcc251 2 _ rfl
          rw [add_field _ _ 2 (by omega)] at hv251_2
          replace hv251_2 := Option.some.inj (hv251_2.symm.trans hx251_2)
          rw [hv251_2] at ge251_2
          have HL251_2 := Aside0.mk (show Kd.R (Kd.int .i64) 2 _ _ _ _ ((rd_T36 t226 x21_2).f2) from ge251_2)
          clear hv251_2 ge251_2
          clear hcc251 hce251
          have HR251_2 := Aside0.mk hi251_2
          have HC251_2 := Aside0.mk hl251_2
          clear hi251_2 hl251_2
          replace p251 := eq_true p251
          replace q251 := eq_true q251
          obtain ⟨Ao42, co42, eo42⟩ := Kd.R_slice HO_17.out
          subst eo42
          go_wp2_with (first | ((with_reducible refine gate_callee (f := 14) rfl ?_); refine goesL_ (some 138) rfl rfl Try.func14 (by kernel_rfl) rfl #[.slice Ao42 t246.length co42, .int .i64 x21_2] rfl (by (try simp only [List.map_toArray, List.map_cons, List.map_nil]); first | done | rfl | (simp only [List.length_drop, List.length_take]; rfl)) ?_; (with_reducible refine (laws_a2Has.calls k2 _ _ t246 x21_2 true _ ?side1 ?side2 A40.out).mono ?_); (case side1 => repeat (first | exact (Kd.R_reads' HO_17.out).2.2 | (with_reducible refine Kd.C_alloc ?_ _) | (with_reducible refine Kd.C_drewN ?_ _) | (with_reducible refine Kd.C_drew ?_))); (case side2 => exact (Kd.R_reads' HO_17.out).2.1); rintro e w' ⟨rfl, ⟨nd, rfl⟩⟩; refine ⟨_, rfl, ?_⟩; have p253 : 0 ≤ (x21_2 : Int) := od_; have q253 : x21_2 < (t226.length : Int) := od_; obtain ⟨ad253, A253_2, c253_2, e253, hx253_0, hx253_1, hx253_2, hx253_3, hl253_2, hi253_2⟩ := at_T36 (Kd.S_reads' HO_3.out).2.2 x21_2 p253 q253; obtain rfl : ad251 = ad253 := (by injection e253); obtain ⟨ce253, hce253, hMe253, hcc253⟩ := Kd.S_get HO_3.out z36 x21_2 p253 (by first | exact q253 | exact od_ | (have e_ := (Kd.S_reads' HO_3.out).1; omega)); obtain ⟨ve253_2, rfl, ge253_2⟩ := k36_openM hMe253; have hv253_2 := hcc253 2 _ rfl; rw [add_field _ _ 2 (by omega)] at hv253_2; replace hv253_2 := Option.some.inj (hv253_2.symm.trans hx253_2); rw [hv253_2] at ge253_2; have HL253_2 := Aside0.mk (show Kd.R (Kd.int .i64) 2 _ _ _ _ ((rd_T36 t226 x21_2).f2) from ge253_2); clear hv253_2 ge253_2; clear hcc253 hce253; have HR253_2 := Aside0.mk hi253_2; have HC253_2 := Aside0.mk hl253_2; clear hi253_2 hl253_2; replace p253 := eq_true p253; replace q253 := eq_true q253; have ea_ := Option.some.inj (hx251_2.symm.trans hx253_2); injection ea_ with ea_ en_ ec_; subst ea_; subst ec_; clear en_))
          go_roundg k2
          case measure => have := HJ11.out; have := HK2.out; omega
          case rel => exact ⟨(wrap64 (x19_2 + ((rd_T36 t226 x21_2).f3))), (wrap64 (x20_2 + ((rd_T36 t226 x21_2).f3))), (wrap64 (x21_2 + 1)), (by first | rfl | (simp; done) | (simp [*]; done)), (by first | rfl | (simp; done) | (simp [*]; done)), (by first | rfl | (simp; done) | (simp [*]; done)), H', ⟨by have := HJ11.out; have := HK2.out; omega⟩, ⟨by (with_reducible repeat (first | apply Kd.S_alloc | apply Kd.S_drewN | apply Kd.S_drew)); exact HO_3.out⟩, ⟨by (with_reducible repeat (first | apply Kd.R_alloc | apply Kd.R_drewN | apply Kd.R_drew)); exact HO_4.out⟩, ⟨by (with_reducible repeat (first | apply Kd.R_alloc | apply Kd.R_drewN | apply Kd.R_drew)); exact HO_17.out⟩, ⟨by repeat (first | (with_reducible first | exact HB.out | apply below_alloc | apply pw_below_drewN | apply below_drew1) | exact HB.out)⟩⟩
         ·replace c41 := Bool.eq_false_iff.mpr c41
          subst c41
          have H1 : (laws_FnLabels.l0 k2 t226 t229 t230 t246 (wrap64 (x19_2 + ((rd_T36 t226 x21_2).f3))) x20_2 (wrap64 (x21_2 + 1))) = some r := by rw [if_neg (show ¬ (false = true) by decide)] at H; exact H
          clear H
          have H := H1
          clear H1
          have H' := Aside0.mk H
          clear H
          have p251 : 0 ≤ (x21_2 : Int) := od_
          have q251 : x21_2 < (t226.length : Int) := od_
          obtain ⟨ad251, A251_2, c251_2, e251, hx251_0, hx251_1, hx251_2, hx251_3, hl251_2, hi251_2⟩ := at_T36 (Kd.S_reads' HO_3.out).2.2 x21_2 p251 q251
          cases e251
          obtain ⟨ce251, hce251, hMe251, hcc251⟩ := Kd.S_get HO_3.out z36 x21_2 p251 (by first | exact q251 | exact od_ | (have e_ := (Kd.S_reads' HO_3.out).1; omega))
          obtain ⟨ve251_2, rfl, ge251_2⟩ := k36_openM hMe251
          have hv251_2 := hcc251 2 _ rfl
          rw [add_field _ _ 2 (by omega)] at hv251_2
          replace hv251_2 := Option.some.inj (hv251_2.symm.trans hx251_2)
          rw [hv251_2] at ge251_2
          have HL251_2 := Aside0.mk (show Kd.R (Kd.int .i64) 2 _ _ _ _ ((rd_T36 t226 x21_2).f2) from ge251_2)
          clear hv251_2 ge251_2
          clear hcc251 hce251
          have HR251_2 := Aside0.mk hi251_2
          have HC251_2 := Aside0.mk hl251_2
          clear hi251_2 hl251_2
          replace p251 := eq_true p251
          replace q251 := eq_true q251
          obtain ⟨Ao43, co43, eo43⟩ := Kd.R_slice HO_17.out
          subst eo43
          go_wp2_with (first | ((with_reducible refine gate_callee (f := 14) rfl ?_); refine goesL_ (some 138) rfl rfl Try.func14 (by kernel_rfl) rfl #[.slice Ao43 t246.length co43, .int .i64 x21_2] rfl (by (try simp only [List.map_toArray, List.map_cons, List.map_nil]); first | done | rfl | (simp only [List.length_drop, List.length_take]; rfl)) ?_; (with_reducible refine (laws_a2Has.calls k2 _ _ t246 x21_2 false _ ?side1 ?side2 A40.out).mono ?_); (case side1 => repeat (first | exact (Kd.R_reads' HO_17.out).2.2 | (with_reducible refine Kd.C_alloc ?_ _) | (with_reducible refine Kd.C_drewN ?_ _) | (with_reducible refine Kd.C_drew ?_))); (case side2 => exact (Kd.R_reads' HO_17.out).2.1); rintro e w' ⟨rfl, ⟨nd, rfl⟩⟩; refine ⟨_, rfl, ?_⟩))
          go_roundg k2
          case measure => have := HJ11.out; have := HK2.out; omega
          case rel => exact ⟨(wrap64 (x19_2 + ((rd_T36 t226 x21_2).f3))), (x20_2), (wrap64 (x21_2 + 1)), (by first | rfl | (simp; done) | (simp [*]; done)), (by first | rfl | (simp; done) | (simp [*]; done)), (by first | rfl | (simp; done) | (simp [*]; done)), H', ⟨by have := HJ11.out; have := HK2.out; omega⟩, ⟨by (with_reducible repeat (first | apply Kd.S_alloc | apply Kd.S_drewN | apply Kd.S_drew)); exact HO_3.out⟩, ⟨by (with_reducible repeat (first | apply Kd.R_alloc | apply Kd.R_drewN | apply Kd.R_drew)); exact HO_4.out⟩, ⟨by (with_reducible repeat (first | apply Kd.R_alloc | apply Kd.R_drewN | apply Kd.R_drew)); exact HO_17.out⟩, ⟨by repeat (first | (with_reducible first | exact HB.out | apply below_alloc | apply pw_below_drewN | apply below_drew1) | exact HB.out)⟩⟩
        ·rw [if_neg c39] at H
         exact absurd H (by simp)
       ·rw [if_neg c38] at H
        have c38b0 : decide (x21_2 < (t226.length : Int)) = false := decide_eq_false c38
        clear c38
        by_cases c44 : (wrap64 (x19_2 - x20_2)) = t230
        ·rw [if_pos c44] at H
         have c44b0 : ((wrap64 (x19_2 - x20_2)) == t230) = true := beq_iff_eq.mpr c44
         have c44b1 : ((wrap64 (x19_2 - x20_2)) != t230) = false := bne_eq_false_iff_eq.mpr c44
         clear c44
         have H' := Aside0.mk H
         clear H
         go_wp2
         go_loopg [22] k2 (fun kq v22 w' => ∃ (x22_3 : Int), v22 = .int .i64 x22_3 ∧ Aside0 (laws_FnLabels.l1 kq t226 t229 t246 x22_3 = some r) ∧ Aside0 (kq ≤ k2) ∧ Aside0 (Kd.S k36 36 w' w.heap.size (fun k_ => some k_ ≠ ((.slice Ao17 t229.length co17) : Value).ownBlock ∧ some k_ ≠ (v248 : Value).ownBlock) (.slice Ao14 t226.length co14) t226) ∧ Aside0 (Kd.R (Kd.int .i64) 2 w' w.heap.size (fun k_ => some k_ ≠ (v248 : Value).ownBlock) (.slice Ao17 t229.length co17) t229) ∧ Aside0 (Kd.R (Kd.int .i64) 2 w' w.heap.size (fun k_ => some k_ ≠ ((.slice Ao17 t229.length co17) : Value).ownBlock) v248 t246) ∧ Aside0 (Below w.heap.size w w'))
         case atStart => exact ⟨(0), (by first | rfl | (simp; done) | (simp [*]; done)), H', ⟨Nat.le_refl _⟩, ⟨by (with_reducible repeat (first | apply Kd.S_alloc | apply Kd.S_drewN | apply Kd.S_drew)); exact HO_3.out⟩, ⟨by (with_reducible repeat (first | apply Kd.R_alloc | apply Kd.R_drewN | apply Kd.R_drew)); exact HO_4.out⟩, ⟨by (with_reducible repeat (first | apply Kd.R_alloc | apply Kd.R_drewN | apply Kd.R_drew)); exact HO_17.out⟩, ⟨by repeat (first | (with_reducible first | exact HB.out | apply below_alloc | apply pw_below_drewN | apply below_drew1) | exact HB.out)⟩⟩
         case round =>
          clear H'
          try clear c1
          try clear c2
          try clear p2
          try clear q2
          try clear hx2
          try clear c3
          try clear c4
          try clear c6
          try clear p6
          try clear c7
          try clear c8
          try clear c9
          try clear c10
          try clear c11
          try clear c12
          try clear c14
          try clear c24
          try clear c24b0
          try clear c24b1
          try clear c25
          try clear c25b0
          try clear c25b1
          try clear p25
          try clear q25
          try clear hx25
          try clear c26
          try clear c26b0
          try clear c26b1
          try clear c27
          try clear c27b0
          try clear c27b1
          try clear c28
          try clear c28b0
          try clear c28b1
          try clear c29
          try clear c29b0
          try clear c29b1
          try clear c30
          try clear c30b0
          try clear c30b1
          try clear c31
          try clear c31b0
          try clear c31b1
          try clear c32
          try clear c32b0
          try clear c32b1
          try clear c33
          try clear c33b0
          try clear c34
          try clear c34b0
          try clear c34b1
          try clear c37
          try clear c38
          try clear c38b0
          try clear c39
          try clear c39b0
          try clear c41
          try clear c44
          try clear c44b0
          try clear c44b1
          try clear hx251_0
          try clear hx251_1
          try clear hx251_2
          try clear hx251_3
          try clear hx253_0
          try clear hx253_1
          try clear hx253_2
          try clear hx253_3
          try clear p2
          try clear p251
          try clear p253
          try clear q251
          try clear q253
          obtain ⟨x22_3, rfl, HA, HK3, HO_3, HO_4, HO_17, HB⟩ := hrel
          cases gk with
          | zero => exact absurd HA.out (by simp [laws_FnLabels.l1])
          | succ k3 =>
           have H := HA.out
           clear HA
           simp only [laws_FnLabels.l1] at H
           by_cases c45 : x22_3 < 2
           ·rw [if_pos c45] at H
            have c45b0 : decide (x22_3 < 2) = true := decide_eq_true c45
            clear c45
            replace H := Option.bind_eq_some_iff.mp H
            obtain ⟨⟨t254, t255⟩, A460, H⟩ := H
            replace H : (laws_FnLabels.l2 k3 t226 t229 t246 x22_3 t254 t255 0 0) = some r := H
            have A46 := Aside0.mk A460
            clear A460
            have H' := Aside0.mk H
            clear H
            go_wp2_with (first | ((with_reducible refine gate_callee (f := 15) rfl ?_); refine goesL_ (some 159) rfl rfl Try.func15 (by kernel_rfl) rfl #[.slice Ao14 t226.length co14, .slice Ao17 t229.length co17, .int .i64 x22_3] rfl (by (try simp only [List.map_toArray, List.map_cons, List.map_nil]); first | done | rfl | (simp only [List.length_drop, List.length_take]; rfl)) ?_; (with_reducible refine (impl_RowFill.calls k3 _ _ t226 _ _ t229 x22_3 t254 t255 _ ?side1 ?side2 ?side3 ?side4 A46.out).mono ?_); (case side1 => repeat (first | exact (Kd.S_reads' HO_3.out).2.2 | (with_reducible refine Kd.C_alloc ?_ _) | (with_reducible refine Kd.C_drewN ?_ _) | (with_reducible refine Kd.C_drew ?_))); (case side2 => exact (Kd.S_reads' HO_3.out).2.1); (case side3 => repeat (first | exact (Kd.R_reads' HO_4.out).2.2 | (with_reducible refine Kd.C_alloc ?_ _) | (with_reducible refine Kd.C_drewN ?_ _) | (with_reducible refine Kd.C_drew ?_))); (case side4 => exact (Kd.R_reads' HO_4.out).2.1); rintro e w47 ⟨rfl, hb⟩; refine ⟨_, rfl, ?_⟩; have n0_ := Aside0.mk (Kd.S_below (by (with_reducible repeat (first | apply Kd.S_alloc | apply Kd.S_drewN | apply Kd.S_drew)); exact HO_3.out) hb); have n1_ := Aside0.mk (Kd.R_below (by (with_reducible repeat (first | apply Kd.R_alloc | apply Kd.R_drewN | apply Kd.R_drew)); exact HO_4.out) hb); have n2_ := Aside0.mk (Kd.R_below (by (with_reducible repeat (first | apply Kd.R_alloc | apply Kd.R_drewN | apply Kd.R_drew)); exact HO_17.out) hb); have n3_ := Aside0.mk (below_step (by repeat (first | (with_reducible first | exact HB.out | apply below_alloc | apply pw_below_drewN | apply below_drew1) | exact HB.out)) hb); clear HO_3; clear HO_4; clear HO_17; clear HB; have HO_3 := n0_; have HO_4 := n1_; have HO_17 := n2_; have HB := n3_; clear n0_ n1_ n2_ n3_; (try clear hb); (try clear hb2); (try clear hk); (try clear hi)))
            go_loopg [25, 26] k3 (fun kq v25 v26 w' => ∃ (x25_4 : Int) (x26_4 : Int), v25 = .int .i64 x25_4 ∧ v26 = .int .i64 x26_4 ∧ Aside0 (laws_FnLabels.l2 kq t226 t229 t246 x22_3 t254 t255 x25_4 x26_4 = some r) ∧ Aside0 (kq ≤ k3) ∧ Aside0 (Kd.S k36 36 w' w.heap.size (fun k_ => some k_ ≠ ((.slice Ao17 t229.length co17) : Value).ownBlock ∧ some k_ ≠ (v248 : Value).ownBlock) (.slice Ao14 t226.length co14) t226) ∧ Aside0 (Kd.R (Kd.int .i64) 2 w' w.heap.size (fun k_ => some k_ ≠ (v248 : Value).ownBlock) (.slice Ao17 t229.length co17) t229) ∧ Aside0 (Kd.R (Kd.int .i64) 2 w' w.heap.size (fun k_ => some k_ ≠ ((.slice Ao17 t229.length co17) : Value).ownBlock) v248 t246) ∧ Aside0 (Below w.heap.size w w'))
            case atStart => exact ⟨(0), (0), (by first | rfl | (simp; done) | (simp [*]; done)), (by first | rfl | (simp; done) | (simp [*]; done)), H', ⟨Nat.le_refl _⟩, ⟨by (with_reducible repeat (first | apply Kd.S_alloc | apply Kd.S_drewN | apply Kd.S_drew)); exact HO_3.out⟩, ⟨by (with_reducible repeat (first | apply Kd.R_alloc | apply Kd.R_drewN | apply Kd.R_drew)); exact HO_4.out⟩, ⟨by (with_reducible repeat (first | apply Kd.R_alloc | apply Kd.R_drewN | apply Kd.R_drew)); exact HO_17.out⟩, ⟨by repeat (first | (with_reducible first | exact HB.out | apply below_alloc | apply pw_below_drewN | apply below_drew1) | exact HB.out)⟩⟩
            case round =>
             clear H'
             try clear c1
             try clear c2
             try clear p2
             try clear q2
             try clear hx2
             try clear c3
             try clear c4
             try clear c6
             try clear p6
             try clear c7
             try clear c8
             try clear c9
             try clear c10
             try clear c11
             try clear c12
             try clear c14
             try clear c15
             try clear c24
             try clear c24b0
             try clear c24b1
             try clear c25
             try clear c25b0
             try clear c25b1
             try clear p25
             try clear q25
             try clear hx25
             try clear c26
             try clear c26b0
             try clear c26b1
             try clear c27
             try clear c27b0
             try clear c27b1
             try clear c28
             try clear c28b0
             try clear c28b1
             try clear c29
             try clear c29b0
             try clear c29b1
             try clear c30
             try clear c30b0
             try clear c30b1
             try clear c31
             try clear c31b0
             try clear c31b1
             try clear c32
             try clear c32b0
             try clear c32b1
             try clear c33
             try clear c33b0
             try clear c34
             try clear c34b0
             try clear c34b1
             try clear c37
             try clear c38
             try clear c38b0
             try clear c39
             try clear c39b0
             try clear c41
             try clear c44
             try clear c44b0
             try clear c44b1
             try clear c45
             try clear c45b0
             try clear hx251_0
             try clear hx251_1
             try clear hx251_2
             try clear hx251_3
             try clear hx253_0
             try clear hx253_1
             try clear hx253_2
             try clear hx253_3
             try clear p2
             try clear p25
             try clear p251
             try clear p253
             try clear p6
             try clear q2
             try clear q25
             try clear q251
             try clear q253
             obtain ⟨x25_4, x26_4, rfl, rfl, HA, HK4, HO_3, HO_4, HO_17, HB⟩ := hrel
             cases gk with
             | zero => exact absurd HA.out (by simp [laws_FnLabels.l2])
             | succ k4 =>
              have H := HA.out
              clear HA
              simp only [laws_FnLabels.l2] at H
              by_cases c48 : x26_4 < (t226.length : Int)
              ·rw [if_pos c48] at H
               have c48b0 : decide (x26_4 < (t226.length : Int)) = true := decide_eq_true c48
               clear c48
               by_cases c49 : 0 ≤ x26_4
               ·rw [if_pos c49] at H
                have c49b0 : decide (0 ≤ x26_4) = true := decide_eq_true c49
                clear c49
                by_cases c50 : ((rd_T36 t226 x26_4).f0) = x22_3
                ·rw [if_pos c50] at H
                 have c50b0 : (((rd_T36 t226 x26_4).f0) == x22_3) = true := beq_iff_eq.mpr c50
                 have c50b1 : (((rd_T36 t226 x26_4).f0) != x22_3) = false := bne_eq_false_iff_eq.mpr c50
                 clear c50
                 replace H := Option.bind_eq_some_iff.mp H
                 obtain ⟨t257, A510, H⟩ := H
                 replace H : (if t257 = true then (laws_FnLabels.l2 k4 t226 t229 t246 x22_3 t254 t255 x25_4 (wrap64 (x26_4 + 1))) else (laws_FnLabels.l2 k4 t226 t229 t246 x22_3 t254 t255 (wrap64 (x25_4 + ((rd_T36 t226 x26_4).f1))) (wrap64 (x26_4 + 1)))) = some r := H
                 have A51 := Aside0.mk A510
                 clear A510
                 by_cases c52 : t257 = true
                 ·subst c52
                  have H1 : (laws_FnLabels.l2 k4 t226 t229 t246 x22_3 t254 t255 x25_4 (wrap64 (x26_4 + 1))) = some r := by rw [if_pos rfl] at H; exact H
                  clear H
                  have H := H1
                  clear H1
                  have H' := Aside0.mk H
                  clear H
                  have p256 : 0 ≤ (x26_4 : Int) := od_
                  have q256 : x26_4 < (t226.length : Int) := od_
                  obtain ⟨ad256, A256_2, c256_2, e256, hx256_0, hx256_1, hx256_2, hx256_3, hl256_2, hi256_2⟩ := at_T36 (Kd.S_reads' HO_3.out).2.2 x26_4 p256 q256
                  cases e256
                  obtain ⟨ce256, hce256, hMe256, hcc256⟩ := Kd.S_get HO_3.out z36 x26_4 p256 (by first | exact q256 | exact od_ | (have e_ := (Kd.S_reads' HO_3.out).1; omega))
                  obtain ⟨ve256_2, rfl, ge256_2⟩ := k36_openM hMe256
                  have hv256_2 := hcc256 2 _ rfl
                  rw [add_field _ _ 2 (by omega)] at hv256_2
                  replace hv256_2 := Option.some.inj (hv256_2.symm.trans hx256_2)
                  rw [hv256_2] at ge256_2
                  have HL256_2 := Aside0.mk (show Kd.R (Kd.int .i64) 2 _ _ _ _ ((rd_T36 t226 x26_4).f2) from ge256_2)
                  clear hv256_2 ge256_2
                  clear hcc256 hce256
                  have HR256_2 := Aside0.mk hi256_2
                  have HC256_2 := Aside0.mk hl256_2
                  clear hi256_2 hl256_2
                  replace p256 := eq_true p256
                  replace q256 := eq_true q256
                  obtain ⟨Ao53, co53, eo53⟩ := Kd.R_slice HO_17.out
                  subst eo53
                  go_wp2_with (first | (go_at_call 14; (with_reducible refine (laws_a2Has.calls k4 _ _ t246 x26_4 true _ ?side1 ?side2 A51.out).mono ?_); (case side1 => repeat (first | exact (Kd.R_reads' HO_17.out).2.2 | (with_reducible refine Kd.C_alloc ?_ _) | (with_reducible refine Kd.C_drewN ?_ _) | (with_reducible refine Kd.C_drew ?_))); (case side2 => exact (Kd.R_reads' HO_17.out).2.1); rintro e w' ⟨rfl, ⟨nd, rfl⟩⟩))
                  go_roundg k4
                  case measure => have := HJ11.out; have := HK2.out; have := HK3.out; have := HK4.out; omega
                  case rel => exact ⟨(x25_4), (wrap64 (x26_4 + 1)), (by first | rfl | (simp; done) | (simp [*]; done)), (by first | rfl | (simp; done) | (simp [*]; done)), H', ⟨by have := HJ11.out; have := HK2.out; have := HK3.out; have := HK4.out; omega⟩, ⟨by (with_reducible repeat (first | apply Kd.S_alloc | apply Kd.S_drewN | apply Kd.S_drew)); exact HO_3.out⟩, ⟨by (with_reducible repeat (first | apply Kd.R_alloc | apply Kd.R_drewN | apply Kd.R_drew)); exact HO_4.out⟩, ⟨by (with_reducible repeat (first | apply Kd.R_alloc | apply Kd.R_drewN | apply Kd.R_drew)); exact HO_17.out⟩, ⟨by repeat (first | (with_reducible first | exact HB.out | apply below_alloc | apply pw_below_drewN | apply below_drew1) | exact HB.out)⟩⟩
                 ·replace c52 := Bool.eq_false_iff.mpr c52
                  subst c52
                  have H1 : (laws_FnLabels.l2 k4 t226 t229 t246 x22_3 t254 t255 (wrap64 (x25_4 + ((rd_T36 t226 x26_4).f1))) (wrap64 (x26_4 + 1))) = some r := by rw [if_neg (show ¬ (false = true) by decide)] at H; exact H
                  clear H
                  have H := H1
                  clear H1
                  have H' := Aside0.mk H
                  clear H
                  have p256 : 0 ≤ (x26_4 : Int) := od_
                  have q256 : x26_4 < (t226.length : Int) := od_
                  obtain ⟨ad256, A256_2, c256_2, e256, hx256_0, hx256_1, hx256_2, hx256_3, hl256_2, hi256_2⟩ := at_T36 (Kd.S_reads' HO_3.out).2.2 x26_4 p256 q256
                  cases e256
                  obtain ⟨ce256, hce256, hMe256, hcc256⟩ := Kd.S_get HO_3.out z36 x26_4 p256 (by first | exact q256 | exact od_ | (have e_ := (Kd.S_reads' HO_3.out).1; omega))
                  obtain ⟨ve256_2, rfl, ge256_2⟩ := k36_openM hMe256
                  have hv256_2 := hcc256 2 _ rfl
                  rw [add_field _ _ 2 (by omega)] at hv256_2
                  replace hv256_2 := Option.some.inj (hv256_2.symm.trans hx256_2)
                  rw [hv256_2] at ge256_2
                  have HL256_2 := Aside0.mk (show Kd.R (Kd.int .i64) 2 _ _ _ _ ((rd_T36 t226 x26_4).f2) from ge256_2)
                  clear hv256_2 ge256_2
                  clear hcc256 hce256
                  have HR256_2 := Aside0.mk hi256_2
                  have HC256_2 := Aside0.mk hl256_2
                  clear hi256_2 hl256_2
                  replace p256 := eq_true p256
                  replace q256 := eq_true q256
                  obtain ⟨Ao54, co54, eo54⟩ := Kd.R_slice HO_17.out
                  subst eo54
                  go_wp2_with (first | (go_at_call 14; (with_reducible refine (laws_a2Has.calls k4 _ _ t246 x26_4 false _ ?side1 ?side2 A51.out).mono ?_); (case side1 => repeat (first | exact (Kd.R_reads' HO_17.out).2.2 | (with_reducible refine Kd.C_alloc ?_ _) | (with_reducible refine Kd.C_drewN ?_ _) | (with_reducible refine Kd.C_drew ?_))); (case side2 => exact (Kd.R_reads' HO_17.out).2.1); rintro e w' ⟨rfl, ⟨nd, rfl⟩⟩; have p258 : 0 ≤ (x26_4 : Int) := od_; have q258 : x26_4 < (t226.length : Int) := od_; obtain ⟨ad258, A258_2, c258_2, e258, hx258_0, hx258_1, hx258_2, hx258_3, hl258_2, hi258_2⟩ := at_T36 (Kd.S_reads' HO_3.out).2.2 x26_4 p258 q258; obtain rfl : ad256 = ad258 := (by injection e258); obtain ⟨ce258, hce258, hMe258, hcc258⟩ := Kd.S_get HO_3.out z36 x26_4 p258 (by first | exact q258 | exact od_ | (have e_ := (Kd.S_reads' HO_3.out).1; omega)); obtain ⟨ve258_2, rfl, ge258_2⟩ := k36_openM hMe258; have hv258_2 := hcc258 2 _ rfl; rw [add_field _ _ 2 (by omega)] at hv258_2; replace hv258_2 := Option.some.inj (hv258_2.symm.trans hx258_2); rw [hv258_2] at ge258_2; have HL258_2 := Aside0.mk (show Kd.R (Kd.int .i64) 2 _ _ _ _ ((rd_T36 t226 x26_4).f2) from ge258_2); clear hv258_2 ge258_2; clear hcc258 hce258; have HR258_2 := Aside0.mk hi258_2; have HC258_2 := Aside0.mk hl258_2; clear hi258_2 hl258_2; replace p258 := eq_true p258; replace q258 := eq_true q258; have ea_ := Option.some.inj (hx256_2.symm.trans hx258_2); injection ea_ with ea_ en_ ec_; subst ea_; subst ec_; clear en_))
                  go_roundg k4
                  case measure => have := HJ11.out; have := HK2.out; have := HK3.out; have := HK4.out; omega
                  case rel => exact ⟨(wrap64 (x25_4 + ((rd_T36 t226 x26_4).f1))), (wrap64 (x26_4 + 1)), (by first | rfl | (simp; done) | (simp [*]; done)), (by first | rfl | (simp; done) | (simp [*]; done)), H', ⟨by have := HJ11.out; have := HK2.out; have := HK3.out; have := HK4.out; omega⟩, ⟨by (with_reducible repeat (first | apply Kd.S_alloc | apply Kd.S_drewN | apply Kd.S_drew)); exact HO_3.out⟩, ⟨by (with_reducible repeat (first | apply Kd.R_alloc | apply Kd.R_drewN | apply Kd.R_drew)); exact HO_4.out⟩, ⟨by (with_reducible repeat (first | apply Kd.R_alloc | apply Kd.R_drewN | apply Kd.R_drew)); exact HO_17.out⟩, ⟨by repeat (first | (with_reducible first | exact HB.out | apply below_alloc | apply pw_below_drewN | apply below_drew1) | exact HB.out)⟩⟩
                ·rw [if_neg c50] at H
                 have c50b0 : (((rd_T36 t226 x26_4).f0) == x22_3) = false := beq_eq_false_iff_ne.mpr c50
                 have c50b1 : (((rd_T36 t226 x26_4).f0) != x22_3) = true := bne_iff_ne.mpr c50
                 have H' := Aside0.mk H
                 clear H
                 have p256 : 0 ≤ (x26_4 : Int) := od_
                 have q256 : x26_4 < (t226.length : Int) := od_
                 obtain ⟨ad256, A256_2, c256_2, e256, hx256_0, hx256_1, hx256_2, hx256_3, hl256_2, hi256_2⟩ := at_T36 (Kd.S_reads' HO_3.out).2.2 x26_4 p256 q256
                 cases e256
                 obtain ⟨ce256, hce256, hMe256, hcc256⟩ := Kd.S_get HO_3.out z36 x26_4 p256 (by first | exact q256 | exact od_ | (have e_ := (Kd.S_reads' HO_3.out).1; omega))
                 obtain ⟨ve256_2, rfl, ge256_2⟩ := k36_openM hMe256
                 have hv256_2 := hcc256 2 _ rfl
                 rw [add_field _ _ 2 (by omega)] at hv256_2
                 replace hv256_2 := Option.some.inj (hv256_2.symm.trans hx256_2)
                 rw [hv256_2] at ge256_2
                 have HL256_2 := Aside0.mk (show Kd.R (Kd.int .i64) 2 _ _ _ _ ((rd_T36 t226 x26_4).f2) from ge256_2)
                 clear hv256_2 ge256_2
                 clear hcc256 hce256
                 have HR256_2 := Aside0.mk hi256_2
                 have HC256_2 := Aside0.mk hl256_2
                 clear hi256_2 hl256_2
                 replace p256 := eq_true p256
                 replace q256 := eq_true q256
                 go_wp2
                 go_roundg k4
                 case measure => have := HJ11.out; have := HK2.out; have := HK3.out; have := HK4.out; omega
                 case rel => exact ⟨(x25_4), (wrap64 (x26_4 + 1)), (by first | rfl | (simp; done) | (simp [*]; done)), (by first | rfl | (simp; done) | (simp [*]; done)), H', ⟨by have := HJ11.out; have := HK2.out; have := HK3.out; have := HK4.out; omega⟩, ⟨by (with_reducible repeat (first | apply Kd.S_alloc | apply Kd.S_drewN | apply Kd.S_drew)); exact HO_3.out⟩, ⟨by (with_reducible repeat (first | apply Kd.R_alloc | apply Kd.R_drewN | apply Kd.R_drew)); exact HO_4.out⟩, ⟨by (with_reducible repeat (first | apply Kd.R_alloc | apply Kd.R_drewN | apply Kd.R_drew)); exact HO_17.out⟩, ⟨by repeat (first | (with_reducible first | exact HB.out | apply below_alloc | apply pw_below_drewN | apply below_drew1) | exact HB.out)⟩⟩
               ·rw [if_neg c49] at H
                exact absurd H (by simp)
              ·rw [if_neg c48] at H
               have c48b0 : decide (x26_4 < (t226.length : Int)) = false := decide_eq_false c48
               clear c48
               by_cases c55 : t255 = 0
               ·rw [if_pos c55] at H
                have c55b0 : (t255 == 0) = true := beq_iff_eq.mpr c55
                have c55b1 : (t255 != 0) = false := bne_eq_false_iff_eq.mpr c55
                clear c55
                by_cases c56 : t254 = x25_4
                ·rw [if_pos c56] at H
                 have c56b0 : (t254 == x25_4) = true := beq_iff_eq.mpr c56
                 have c56b1 : (t254 != x25_4) = false := bne_eq_false_iff_eq.mpr c56
                 clear c56
                 have H' := Aside0.mk H
                 clear H
                 go_wp2
                 go_roundg k4
                 case measure => have := HJ11.out; have := HK2.out; have := HK3.out; have := HK4.out; omega
                 case rel => exact ⟨(wrap64 (x22_3 + 1)), (by first | rfl | (simp; done) | (simp [*]; done)), H', ⟨by have := HJ11.out; have := HK2.out; have := HK3.out; have := HK4.out; omega⟩, ⟨by (with_reducible repeat (first | apply Kd.S_alloc | apply Kd.S_drewN | apply Kd.S_drew)); exact HO_3.out⟩, ⟨by (with_reducible repeat (first | apply Kd.R_alloc | apply Kd.R_drewN | apply Kd.R_drew)); exact HO_4.out⟩, ⟨by (with_reducible repeat (first | apply Kd.R_alloc | apply Kd.R_drewN | apply Kd.R_drew)); exact HO_17.out⟩, ⟨by repeat (first | (with_reducible first | exact HB.out | apply below_alloc | apply pw_below_drewN | apply below_drew1) | exact HB.out)⟩⟩
                ·rw [if_neg c56] at H
                 exact absurd H (by simp)
               ·rw [if_neg c55] at H
                exact absurd H (by simp)
           ·rw [if_neg c45] at H
            have c45b0 : decide (x22_3 < 2) = false := decide_eq_false c45
            clear c45
            obtain rfl := Option.some.inj H
            go_wp2
            go_ret
            exact ⟨by first | rfl | (simp [errW_none, errW_some] <;> rfl) | (simp [*, errW_none, errW_some] <;> rfl), by repeat (first | (with_reducible first | exact HB.out | apply below_alloc | apply pw_below_drewN | apply below_drew1) | exact HB.out)⟩
        ·rw [if_neg c44] at H
         exact absurd H (by simp)

/-- THE ONE PURE STATEMENT of laws_FnLabels. -/
def laws_FnLabels.Pure : Prop := ∀ (l0 : List Int), wfS (wfI .u8) l0 → l0.length * 1 ≤ 140737488351232 → ∃ k, laws_FnLabels.f k l0 = some true

end Go.Proofs.Ytjfkjmfdckbecaa.Print
