-- Printed by a program of this session out of the translation; not trusted: Lean checks it.
-- SHRUNK
import Derived.Test.YtidommcimkmmfaaPrint0
import Derived.Test.YtidommcimkmmfaaPrint1
import Derived.Test.YtidommcimkmmfaaPrint2
import Derived.Test.YtidommcimkmmfaaPrint8
import Derived.Test.YtidommcimkmmfaaPrint9
namespace Go.Proofs.Ytidommcimkmmfaa.Print
open Go.RowKit Go.Proofs.YtidommcimkmmfaaW.PrintWords Go.Proofs.YtidommcimkmmfaaW.PrintLast Go.Proofs.YtidommcimkmmfaaW.PrintMore
attribute [local go_sem] max2_int min2_int max_two min_two max_three min_three max_four min_four   -- for this text's walks alone
set_option linter.unusedVariables false
set_option linter.unusedSimpArgs false

/-! ### laws_FnLabelsMeet: function 5 -/
mutual
def laws_FnLabelsMeet.l0 : Nat → List (S36) → List Int → Int → Int → Int → Int → Option (Bool)
 | 0, _, _, _, _, _, _ => none
 | k + 1, x5, x6, x7, x8, x9, x10 => if x10 < (x5.length : Int) then (laws_FnLabelsMeet.l1 k x5 x6 x7 x8 x9 x10 0) else (if x8 = 0 then (some (x7 == x9)) else (none))
def laws_FnLabelsMeet.l1 : Nat → List (S36) → List Int → Int → Int → Int → Int → Int → Option (Bool)
 | 0, _, _, _, _, _, _, _ => none
 | k + 1, x5, x6, x7, x8, x9, x10, x11 => if x11 < x10 then (if 0 ≤ x11 then (if x11 < (x6.length : Int) then (if (rd x6 x11) < 0 then (laws_FnLabelsMeet.j2 k x5 x6 x7 x8 x9 x10 x11 true) else (if 0 ≤ x10 then (if x10 < (x6.length : Int) then (laws_FnLabelsMeet.j2 k x5 x6 x7 x8 x9 x10 x11 (decide ((rd x6 x10) < 0))) else (none)) else (none))) else (none)) else (none)) else (laws_FnLabelsMeet.l0 k x5 x6 x7 x8 x9 (wrap64 (x10 + 1)))
def laws_FnLabelsMeet.j2 : Nat → List (S36) → List Int → Int → Int → Int → Int → Int → Bool → Option (Bool)
 | 0, _, _, _, _, _, _, _, _ => none
 | k + 1, x5, x6, x7, x8, x9, x10, x11, x56 => if x56 = true then (laws_FnLabelsMeet.l1 k x5 x6 x7 x8 x9 x10 (wrap64 (x11 + 1))) else (if 0 ≤ x11 then (if x11 < (x5.length : Int) then (if x11 < (x6.length : Int) then (if 0 ≤ (rd x6 x11) then (if (rd x6 x11) < (((rd_T36 x5 x11).f2).length : Int) then (if 0 ≤ x10 then (if x10 < (x5.length : Int) then (if x10 < (x6.length : Int) then (if 0 ≤ (rd x6 x10) then (if (rd x6 x10) < (((rd_T36 x5 x10).f2).length : Int) then ((impl_LabelsMeet.f k ((rd_T36 x5 x11).f0) ((rd_T36 x5 x11).f1) ((rd_T36 x5 x11).f2) ((rd_T36 x5 x11).f3) ((rd_T36 x5 x10).f0) ((rd_T36 x5 x10).f1) ((rd_T36 x5 x10).f2) ((rd_T36 x5 x10).f3) (rd ((rd_T36 x5 x11).f2) (rd x6 x11)) (rd ((rd_T36 x5 x10).f2) (rd x6 x10))).bind fun bt245 => ((impl_LabelsMeet.f k ((rd_T36 x5 x10).f0) ((rd_T36 x5 x10).f1) ((rd_T36 x5 x10).f2) ((rd_T36 x5 x10).f3) ((rd_T36 x5 x11).f0) ((rd_T36 x5 x11).f1) ((rd_T36 x5 x11).f2) ((rd_T36 x5 x11).f3) (rd ((rd_T36 x5 x10).f2) (rd x6 x10)) (rd ((rd_T36 x5 x11).f2) (rd x6 x11))).bind fun bt249 => (laws_FnLabelsMeet.l2 k x5 x6 x7 x8 x9 x10 x11 (rd ((rd_T36 x5 x11).f2) (rd x6 x11)) (rd ((rd_T36 x5 x10).f2) (rd x6 x10)) bt245.1 bt245.2 bt249.1 bt249.2 false (rd ((rd_T36 x5 x11).f2) (rd x6 x11))))) else (none)) else (none)) else (none)) else (none)) else (none)) else (none)) else (none)) else (none)) else (none)) else (none))
def laws_FnLabelsMeet.l2 : Nat → List (S36) → List Int → Int → Int → Int → Int → Int → Int → Int → Bool → Int → Bool → Int → Bool → Int → Option (Bool)
 | 0, _, _, _, _, _, _, _, _, _, _, _, _, _, _, _ => none
 | k + 1, x5, x6, x7, x8, x9, x10, x11, x12, x13, x14, x15, x16, x17, x18, x19 => if 0 ≤ x11 then (if x11 < (x5.length : Int) then (if x19 < (wrap64 (x12 + ((rd_T36 x5 x11).f1))) then (if x18 = true then (laws_FnLabelsMeet.l2 k x5 x6 x7 x8 x9 x10 x11 x12 x13 x14 x15 x16 x17 true (wrap64 (x19 + 1))) else (if 0 ≤ x10 then (if x10 < (x5.length : Int) then (if ((rd_T36 x5 x11).f0) = ((rd_T36 x5 x10).f0) then (if x19 ≥ x13 then (laws_FnLabelsMeet.l2 k x5 x6 x7 x8 x9 x10 x11 x12 x13 x14 x15 x16 x17 (decide (x19 < (wrap64 (x13 + ((rd_T36 x5 x10).f1))))) (wrap64 (x19 + 1))) else (laws_FnLabelsMeet.l2 k x5 x6 x7 x8 x9 x10 x11 x12 x13 x14 x15 x16 x17 false (wrap64 (x19 + 1)))) else (laws_FnLabelsMeet.l2 k x5 x6 x7 x8 x9 x10 x11 x12 x13 x14 x15 x16 x17 false (wrap64 (x19 + 1)))) else (none)) else (none))) else (if x15 = 0 then (if x17 = 0 then (if (x14 != x16) = true then (none) else (laws_FnLabelsMeet.j4 k x5 x6 x7 x8 x9 x10 x11 x14 (x14 != x18))) else (none)) else (none))) else (none)) else (none)
def laws_FnLabelsMeet.j4 : Nat → List (S36) → List Int → Int → Int → Int → Int → Int → Bool → Bool → Option (Bool)
 | 0, _, _, _, _, _, _, _, _, _ => none
 | k + 1, x5, x6, x7, x8, x9, x10, x11, x14, x164 => if x164 = true then (none) else (if x14 = true then (if x9 < 0 then (laws_FnLabelsMeet.l1 k x5 x6 x7 x8 x10 x10 (wrap64 (x11 + 1))) else (laws_FnLabelsMeet.l1 k x5 x6 x7 x8 x9 x10 (wrap64 (x11 + 1)))) else (laws_FnLabelsMeet.l1 k x5 x6 x7 x8 x9 x10 (wrap64 (x11 + 1))))
end
def laws_FnLabelsMeet.f (k : Nat) (l0 : List Int) (l1 : List Int) : Option (Bool) := (laws_a2Long.f l0 l1).bind fun t226 => (if t226 = true then (some true) else ((spec_A2Labels.f k l0).bind fun t227 => ((spec_A2Places.f k l1 t227).bind fun t230 => ((impl_PlacesFault.f k t227 t230).bind fun bt233 => (laws_FnLabelsMeet.l0 k t227 t230 bt233.1 bt233.2 (-1) 0)))))
theorem laws_FnLabelsMeet.mono_l : ∀ k, (∀ y0 y1 y2 y3 y4 y5, LeO (laws_FnLabelsMeet.l0 k y0 y1 y2 y3 y4 y5) (laws_FnLabelsMeet.l0 (k + 1) y0 y1 y2 y3 y4 y5)) ∧ (∀ y0 y1 y2 y3 y4 y5 y6, LeO (laws_FnLabelsMeet.l1 k y0 y1 y2 y3 y4 y5 y6) (laws_FnLabelsMeet.l1 (k + 1) y0 y1 y2 y3 y4 y5 y6)) ∧ (∀ y0 y1 y2 y3 y4 y5 y6 y7, LeO (laws_FnLabelsMeet.j2 k y0 y1 y2 y3 y4 y5 y6 y7) (laws_FnLabelsMeet.j2 (k + 1) y0 y1 y2 y3 y4 y5 y6 y7)) ∧ (∀ y0 y1 y2 y3 y4 y5 y6 y7 y8 y9 y10 y11 y12 y13 y14, LeO (laws_FnLabelsMeet.l2 k y0 y1 y2 y3 y4 y5 y6 y7 y8 y9 y10 y11 y12 y13 y14) (laws_FnLabelsMeet.l2 (k + 1) y0 y1 y2 y3 y4 y5 y6 y7 y8 y9 y10 y11 y12 y13 y14)) ∧ (∀ y0 y1 y2 y3 y4 y5 y6 y7 y8, LeO (laws_FnLabelsMeet.j4 k y0 y1 y2 y3 y4 y5 y6 y7 y8) (laws_FnLabelsMeet.j4 (k + 1) y0 y1 y2 y3 y4 y5 y6 y7 y8))
 | 0 => ⟨fun _ _ _ _ _ _ r h => by simp [laws_FnLabelsMeet.l0] at h, fun _ _ _ _ _ _ _ r h => by simp [laws_FnLabelsMeet.l1] at h, fun _ _ _ _ _ _ _ _ r h => by simp [laws_FnLabelsMeet.j2] at h, fun _ _ _ _ _ _ _ _ _ _ _ _ _ _ _ r h => by simp [laws_FnLabelsMeet.l2] at h, fun _ _ _ _ _ _ _ _ _ r h => by simp [laws_FnLabelsMeet.j4] at h⟩
 | k + 1 => by
  obtain ⟨ih0, ih1, ih2, ih3, ih4⟩ := laws_FnLabelsMeet.mono_l k
  refine ⟨?_, ?_, ?_, ?_, ?_⟩
  ·intro y0 y1 y2 y3 y4 y5
   unfold laws_FnLabelsMeet.l0
   repeat' first
   | (with_reducible exact ih0 _ _ _ _ _ _)
   | (with_reducible exact ih1 _ _ _ _ _ _ _)
   | (with_reducible exact ih2 _ _ _ _ _ _ _ _)
   | (with_reducible exact ih3 _ _ _ _ _ _ _ _ _ _ _ _ _ _ _)
   | (with_reducible exact ih4 _ _ _ _ _ _ _ _ _)
   | (with_reducible exact impl_LabelsMeet.mono _ _ _ _ _ _ _ _ _ _ _)
   | (with_reducible exact impl_PlacesFault.mono _ _ _)
   | (with_reducible exact spec_A2Labels.mono _ _)
   | (with_reducible exact spec_A2Places.mono _ _ _)
   | (with_reducible exact LeO.refl _)
   | (with_reducible exact LeO.none _)
   | (with_reducible refine LeO.ite ?_ ?_)
   | (with_reducible refine LeO.bind ?_ (fun _ => ?_))
   | exact ih0 _ _ _ _ _ _
   | exact ih1 _ _ _ _ _ _ _
   | exact ih2 _ _ _ _ _ _ _ _
   | exact ih3 _ _ _ _ _ _ _ _ _ _ _ _ _ _ _
   | exact ih4 _ _ _ _ _ _ _ _ _
   | exact impl_LabelsMeet.mono _ _ _ _ _ _ _ _ _ _ _
   | exact impl_PlacesFault.mono _ _ _
   | exact spec_A2Labels.mono _ _
   | exact spec_A2Places.mono _ _ _
   | exact LeO.none _
   | refine LeO.ite ?_ ?_
   | refine LeO.bind ?_ (fun _ => ?_)
  ·intro y0 y1 y2 y3 y4 y5 y6
   unfold laws_FnLabelsMeet.l1
   repeat' first
   | (with_reducible exact ih0 _ _ _ _ _ _)
   | (with_reducible exact ih1 _ _ _ _ _ _ _)
   | (with_reducible exact ih2 _ _ _ _ _ _ _ _)
   | (with_reducible exact ih3 _ _ _ _ _ _ _ _ _ _ _ _ _ _ _)
   | (with_reducible exact ih4 _ _ _ _ _ _ _ _ _)
   | (with_reducible exact impl_LabelsMeet.mono _ _ _ _ _ _ _ _ _ _ _)
   | (with_reducible exact impl_PlacesFault.mono _ _ _)
   | (with_reducible exact spec_A2Labels.mono _ _)
   | (with_reducible exact spec_A2Places.mono _ _ _)
   | (with_reducible exact LeO.refl _)
   | (with_reducible exact LeO.none _)
   | (with_reducible refine LeO.ite ?_ ?_)
   | (with_reducible refine LeO.bind ?_ (fun _ => ?_))
   | exact ih0 _ _ _ _ _ _
   | exact ih1 _ _ _ _ _ _ _
   | exact ih2 _ _ _ _ _ _ _ _
   | exact ih3 _ _ _ _ _ _ _ _ _ _ _ _ _ _ _
   | exact ih4 _ _ _ _ _ _ _ _ _
   | exact impl_LabelsMeet.mono _ _ _ _ _ _ _ _ _ _ _
   | exact impl_PlacesFault.mono _ _ _
   | exact spec_A2Labels.mono _ _
   | exact spec_A2Places.mono _ _ _
   | exact LeO.none _
   | refine LeO.ite ?_ ?_
   | refine LeO.bind ?_ (fun _ => ?_)
  ·intro y0 y1 y2 y3 y4 y5 y6 y7
   unfold laws_FnLabelsMeet.j2
   repeat' first
   | (with_reducible exact ih0 _ _ _ _ _ _)
   | (with_reducible exact ih1 _ _ _ _ _ _ _)
   | (with_reducible exact ih2 _ _ _ _ _ _ _ _)
   | (with_reducible exact ih3 _ _ _ _ _ _ _ _ _ _ _ _ _ _ _)
   | (with_reducible exact ih4 _ _ _ _ _ _ _ _ _)
   | (with_reducible exact impl_LabelsMeet.mono _ _ _ _ _ _ _ _ _ _ _)
   | (with_reducible exact impl_PlacesFault.mono _ _ _)
   | (with_reducible exact spec_A2Labels.mono _ _)
   | (with_reducible exact spec_A2Places.mono _ _ _)
   | (with_reducible exact LeO.refl _)
   | (with_reducible exact LeO.none _)
   | (with_reducible refine LeO.ite ?_ ?_)
   | (with_reducible refine LeO.bind ?_ (fun _ => ?_))
   | exact ih0 _ _ _ _ _ _
   | exact ih1 _ _ _ _ _ _ _
   | exact ih2 _ _ _ _ _ _ _ _
   | exact ih3 _ _ _ _ _ _ _ _ _ _ _ _ _ _ _
   | exact ih4 _ _ _ _ _ _ _ _ _
   | exact impl_LabelsMeet.mono _ _ _ _ _ _ _ _ _ _ _
   | exact impl_PlacesFault.mono _ _ _
   | exact spec_A2Labels.mono _ _
   | exact spec_A2Places.mono _ _ _
   | exact LeO.none _
   | refine LeO.ite ?_ ?_
   | refine LeO.bind ?_ (fun _ => ?_)
  ·intro y0 y1 y2 y3 y4 y5 y6 y7 y8 y9 y10 y11 y12 y13 y14
   unfold laws_FnLabelsMeet.l2
   repeat' first
   | (with_reducible exact ih0 _ _ _ _ _ _)
   | (with_reducible exact ih1 _ _ _ _ _ _ _)
   | (with_reducible exact ih2 _ _ _ _ _ _ _ _)
   | (with_reducible exact ih3 _ _ _ _ _ _ _ _ _ _ _ _ _ _ _)
   | (with_reducible exact ih4 _ _ _ _ _ _ _ _ _)
   | (with_reducible exact impl_LabelsMeet.mono _ _ _ _ _ _ _ _ _ _ _)
   | (with_reducible exact impl_PlacesFault.mono _ _ _)
   | (with_reducible exact spec_A2Labels.mono _ _)
   | (with_reducible exact spec_A2Places.mono _ _ _)
   | (with_reducible exact LeO.refl _)
   | (with_reducible exact LeO.none _)
   | (with_reducible refine LeO.ite ?_ ?_)
   | (with_reducible refine LeO.bind ?_ (fun _ => ?_))
   | exact ih0 _ _ _ _ _ _
   | exact ih1 _ _ _ _ _ _ _
   | exact ih2 _ _ _ _ _ _ _ _
   | exact ih3 _ _ _ _ _ _ _ _ _ _ _ _ _ _ _
   | exact ih4 _ _ _ _ _ _ _ _ _
   | exact impl_LabelsMeet.mono _ _ _ _ _ _ _ _ _ _ _
   | exact impl_PlacesFault.mono _ _ _
   | exact spec_A2Labels.mono _ _
   | exact spec_A2Places.mono _ _ _
   | exact LeO.none _
   | refine LeO.ite ?_ ?_
   | refine LeO.bind ?_ (fun _ => ?_)
  ·intro y0 y1 y2 y3 y4 y5 y6 y7 y8
   unfold laws_FnLabelsMeet.j4
   repeat' first
   | (with_reducible exact ih0 _ _ _ _ _ _)
   | (with_reducible exact ih1 _ _ _ _ _ _ _)
   | (with_reducible exact ih2 _ _ _ _ _ _ _ _)
   | (with_reducible exact ih3 _ _ _ _ _ _ _ _ _ _ _ _ _ _ _)
   | (with_reducible exact ih4 _ _ _ _ _ _ _ _ _)
   | (with_reducible exact impl_LabelsMeet.mono _ _ _ _ _ _ _ _ _ _ _)
   | (with_reducible exact impl_PlacesFault.mono _ _ _)
   | (with_reducible exact spec_A2Labels.mono _ _)
   | (with_reducible exact spec_A2Places.mono _ _ _)
   | (with_reducible exact LeO.refl _)
   | (with_reducible exact LeO.none _)
   | (with_reducible refine LeO.ite ?_ ?_)
   | (with_reducible refine LeO.bind ?_ (fun _ => ?_))
   | exact ih0 _ _ _ _ _ _
   | exact ih1 _ _ _ _ _ _ _
   | exact ih2 _ _ _ _ _ _ _ _
   | exact ih3 _ _ _ _ _ _ _ _ _ _ _ _ _ _ _
   | exact ih4 _ _ _ _ _ _ _ _ _
   | exact impl_LabelsMeet.mono _ _ _ _ _ _ _ _ _ _ _
   | exact impl_PlacesFault.mono _ _ _
   | exact spec_A2Labels.mono _ _
   | exact spec_A2Places.mono _ _ _
   | exact LeO.none _
   | refine LeO.ite ?_ ?_
   | refine LeO.bind ?_ (fun _ => ?_)
theorem laws_FnLabelsMeet.mono : ∀ a0 a1 k, LeO (laws_FnLabelsMeet.f k a0 a1) (laws_FnLabelsMeet.f (k + 1) a0 a1) := by
 intro a0 a1 k
 obtain ⟨ih0, ih1, ih2, ih3, ih4⟩ := laws_FnLabelsMeet.mono_l k
 unfold laws_FnLabelsMeet.f
 repeat' first
   | (with_reducible exact ih0 _ _ _ _ _ _)
   | (with_reducible exact ih1 _ _ _ _ _ _ _)
   | (with_reducible exact ih2 _ _ _ _ _ _ _ _)
   | (with_reducible exact ih3 _ _ _ _ _ _ _ _ _ _ _ _ _ _ _)
   | (with_reducible exact ih4 _ _ _ _ _ _ _ _ _)
   | (with_reducible exact impl_LabelsMeet.mono _ _ _ _ _ _ _ _ _ _ _)
   | (with_reducible exact impl_PlacesFault.mono _ _ _)
   | (with_reducible exact spec_A2Labels.mono _ _)
   | (with_reducible exact spec_A2Places.mono _ _ _)
   | (with_reducible exact LeO.refl _)
   | (with_reducible exact LeO.none _)
   | (with_reducible refine LeO.ite ?_ ?_)
   | (with_reducible refine LeO.bind ?_ (fun _ => ?_))
   | exact ih0 _ _ _ _ _ _
   | exact ih1 _ _ _ _ _ _ _
   | exact ih2 _ _ _ _ _ _ _ _
   | exact ih3 _ _ _ _ _ _ _ _ _ _ _ _ _ _ _
   | exact ih4 _ _ _ _ _ _ _ _ _
   | exact impl_LabelsMeet.mono _ _ _ _ _ _ _ _ _ _ _
   | exact impl_PlacesFault.mono _ _ _
   | exact spec_A2Labels.mono _ _
   | exact spec_A2Places.mono _ _ _
   | exact LeO.none _
   | refine LeO.ite ?_ ?_
   | refine LeO.bind ?_ (fun _ => ?_)
def laws_FnLabelsMeet.T14 : Bool × List (List Nat × List Nat) := (true, [([], []), ([], []), ([0, 1], [0, 1]), ([2], [2]), ([3], [3]), ([], []), ([], []), ([5, 6], [5, 6]), ([7], [7]), ([4, 8], [4, 8]), ([9], [9]), ([10, 0, 1, 2, 3, 4, 5, 6, 7, 8, 9, 10], [10])])
def laws_FnLabelsMeet.B14 : List Nat := [0, 0, 3, 7, 15, 0, 0, 96, 224, 511, 1023, 2047]
theorem laws_FnLabelsMeet.tab14 : rtab .any (opsOf Try.f5 14) = laws_FnLabelsMeet.T14 := by kernel_rfl
theorem laws_FnLabelsMeet.bits14 : waitsOk laws_FnLabelsMeet.T14.2 laws_FnLabelsMeet.B14 = true := by kernel_rfl
def laws_FnLabelsMeet.T15 : Bool × List (List Nat × List Nat) := (true, [([], []), ([], []), ([0, 1], [0, 1]), ([2], [2]), ([3], [3]), ([], []), ([], []), ([5, 6], [5, 6]), ([7], [7]), ([4, 8], [4, 8]), ([9], [9]), ([10, 0, 1, 2, 3, 4, 5, 6, 7, 8, 9, 10], [10])])
def laws_FnLabelsMeet.B15 : List Nat := [0, 0, 3, 7, 15, 0, 0, 96, 224, 511, 1023, 2047]
theorem laws_FnLabelsMeet.tab15 : rtab .any (opsOf Try.f5 15) = laws_FnLabelsMeet.T15 := by kernel_rfl
theorem laws_FnLabelsMeet.bits15 : waitsOk laws_FnLabelsMeet.T15.2 laws_FnLabelsMeet.B15 = true := by kernel_rfl
def laws_FnLabelsMeet.T16 : Bool × List (List Nat × List Nat) := (true, [([], []), ([], []), ([0, 1], [0, 1]), ([2], [2]), ([], []), ([], []), ([4, 5], [4, 5]), ([6], [6]), ([], []), ([], []), ([3, 7, 8, 9], [3, 7, 8, 9]), ([10], [10]), ([11], [11]), ([11], [11]), ([12, 10, 0, 1, 2, 3, 4, 5, 6, 7, 8, 9, 10, 11, 12], [12]), ([13, 14, 0, 1, 2, 3, 4, 5, 6, 7, 8, 9, 10, 11, 12, 13, 14], [13])])
def laws_FnLabelsMeet.B16 : List Nat := [0, 0, 3, 7, 0, 0, 48, 112, 0, 0, 1023, 2047, 4095, 4095, 8191, 32767]
theorem laws_FnLabelsMeet.tab16 : rtab .any (opsOf Try.f5 16) = laws_FnLabelsMeet.T16 := by kernel_rfl
theorem laws_FnLabelsMeet.bits16 : waitsOk laws_FnLabelsMeet.T16.2 laws_FnLabelsMeet.B16 = true := by kernel_rfl
def laws_FnLabelsMeet.T17 : Bool × List (List Nat × List Nat) := (true, [([], []), ([], []), ([0, 1], [0, 1]), ([2], [2]), ([], []), ([], []), ([4, 5], [4, 5]), ([6], [6]), ([], []), ([], []), ([3, 7, 8, 9], [3, 7, 8, 9]), ([10], [10]), ([11], [11]), ([11], [11]), ([12, 10, 0, 1, 2, 3, 4, 5, 6, 7, 8, 9, 10, 11, 12], [12]), ([13, 14, 0, 1, 2, 3, 4, 5, 6, 7, 8, 9, 10, 11, 12, 13, 14], [13])])
def laws_FnLabelsMeet.B17 : List Nat := [0, 0, 3, 7, 0, 0, 48, 112, 0, 0, 1023, 2047, 4095, 4095, 8191, 32767]
theorem laws_FnLabelsMeet.tab17 : rtab .any (opsOf Try.f5 17) = laws_FnLabelsMeet.T17 := by kernel_rfl
theorem laws_FnLabelsMeet.bits17 : waitsOk laws_FnLabelsMeet.T17.2 laws_FnLabelsMeet.B17 = true := by kernel_rfl
def laws_FnLabelsMeet.T22 : Bool × List (List Nat × List Nat) := (true, [([], []), ([0], [0]), ([1], [1]), ([1], [1]), ([2, 3, 1], [1, 2, 3]), ([4, 1], [1, 4]), ([5, 1], [1, 5]), ([1], [1]), ([1], [1]), ([7, 8, 1], [1, 7, 8]), ([9, 1], [1, 9]), ([10, 1], [1, 10]), ([6, 11, 1], [1, 6, 11]), ([12, 1, 1], [1, 12]), ([13], [13]), ([13], [13]), ([14, 15, 13], [13, 14, 15]), ([13, 16, 1], [1, 13, 16]), ([17, 13, 1], [1, 17]), ([18], [18]), ([18], [18]), ([18], [18]), ([18], [18]), ([21, 22, 18], [18, 21, 22]), ([23, 18], [18, 23]), ([24, 18], [18, 24]), ([20, 25, 18], [18, 20, 25]), ([19, 26, 18], [18, 19, 26]), ([18, 27, 1], [1, 18, 27]), ([1, 28], [1, 28]), ([29, 18, 0, 1, 2, 3, 4, 5, 6, 7, 8, 9, 10, 11, 12, 13, 14, 15, 16, 17, 18, 19, 20, 21, 22, 23, 24, 25, 26, 27, 28, 29], [0, 29])])
def laws_FnLabelsMeet.B22 : List Nat := [0, 1, 3, 3, 15, 31, 63, 3, 3, 387, 899, 1923, 4095, 8191, 16383, 16383, 65535, 131071, 262143, 524287, 524287, 524287, 524287, 6815743, 15204351, 31981567, 66584575, 134217727, 268435455, 536870911, 1073741823]
theorem laws_FnLabelsMeet.tab22 : rtab .any (opsOf Try.f5 22) = laws_FnLabelsMeet.T22 := by kernel_rfl
theorem laws_FnLabelsMeet.bits22 : waitsOk laws_FnLabelsMeet.T22.2 laws_FnLabelsMeet.B22 = true := by kernel_rfl
set_option maxHeartbeats 8000000 in
set_option maxRecDepth 100000 in
theorem laws_FnLabelsMeet.calls (k : Nat) (A0 : Option Addr) (c0 : Nat) (l0 : List Int) (A1 : Option Addr) (c1 : Nat) (l1 : List Int) (r : Bool) (w : World) (hr0 : Kd.C (Kd.int .u8) w A0 l0.length l0) (hc0 : l0.length ≤ c0) (hr1 : Kd.C (Kd.int .u8) w A1 l1.length l1) (hc1 : l1.length ≤ c1) (h : laws_FnLabelsMeet.f k l0 l1 = some r) :
  Calls Try.prog 5 #[.slice A0 l0.length c0, .slice A1 l1.length c1] w fun e w' => e = .returned (.bool r) ∧ Below w.heap.size w w' := by
 have hu36 := Try.underlying36
 have HR0 := Aside0.mk hr0
 have HC0 := Aside0.mk hc0
 clear hr0 hc0
 have HR1 := Aside0.mk hr1
 have HC1 := Aside0.mk hc1
 clear hr1 hc1
 have HB := Aside0.mk (Below.refl w.heap.size w)
 have H : ((laws_a2Long.f l0 l1).bind fun t226 => (if t226 = true then (some true) else ((spec_A2Labels.f k l0).bind fun t227 => ((spec_A2Places.f k l1 t227).bind fun t230 => ((impl_PlacesFault.f k t227 t230).bind fun bt233 => (laws_FnLabelsMeet.l0 k t227 t230 bt233.1 bt233.2 (-1) 0)))))) = some r := h
 clear h
 replace H := Option.bind_eq_some_iff.mp H
 obtain ⟨t226, A30, H⟩ := H
 replace H : (if t226 = true then (some true) else ((spec_A2Labels.f k l0).bind fun t227 => ((spec_A2Places.f k l1 t227).bind fun t230 => ((impl_PlacesFault.f k t227 t230).bind fun bt233 => (laws_FnLabelsMeet.l0 k t227 t230 bt233.1 bt233.2 (-1) 0))))) = some r := H
 have A3 := Aside0.mk A30
 clear A30
 by_cases c4 : t226 = true
 ·as_aux_lemma =>
  subst c4
  have H1 : (some true) = some r := by rw [if_pos rfl] at H; exact H
  clear H
  have H := H1
  clear H1
  obtain rfl := Option.some.inj H
  go_enter Try.func5, Try.ntmps5
  go_wp2_with (first | ((with_reducible refine gate_callee (f := 13) rfl ?_); refine goesL_ (some 22) rfl rfl Try.func13 (by kernel_rfl) rfl #[.slice A0 l0.length c0, .slice A1 l1.length c1] rfl (by (try simp only [List.map_toArray, List.map_cons, List.map_nil]); first | done | rfl | (simp only [List.length_drop, List.length_take]; rfl)) ?_; (with_reducible refine (laws_a2Long.calls _ _ l0 _ _ l1 true _ ?side1 ?side2 ?side3 ?side4 A3.out).mono ?_); (case side1 => repeat (first | exact HR0.out | (with_reducible refine Kd.C_alloc ?_ _) | (with_reducible refine Kd.C_drewN ?_ _) | (with_reducible refine Kd.C_drew ?_))); (case side2 => exact HC0.out); (case side3 => repeat (first | exact HR1.out | (with_reducible refine Kd.C_alloc ?_ _) | (with_reducible refine Kd.C_drewN ?_ _) | (with_reducible refine Kd.C_drew ?_))); (case side4 => exact HC1.out); rintro e w' ⟨rfl, ⟨nd, rfl⟩⟩; refine ⟨_, rfl, ?_⟩))
  go_ret
  exact ⟨by first | rfl | (simp [errW_none, errW_some] <;> rfl) | (simp [*, errW_none, errW_some] <;> rfl), by repeat (first | (with_reducible first | exact HB.out | apply below_alloc | apply pw_below_drewN | apply below_drew1) | exact HB.out)⟩
 ·as_aux_lemma =>
  replace c4 := Bool.eq_false_iff.mpr c4
  subst c4
  have H1 : ((spec_A2Labels.f k l0).bind fun t227 => ((spec_A2Places.f k l1 t227).bind fun t230 => ((impl_PlacesFault.f k t227 t230).bind fun bt233 => (laws_FnLabelsMeet.l0 k t227 t230 bt233.1 bt233.2 (-1) 0)))) = some r := by rw [if_neg (show ¬ (false = true) by decide)] at H; exact H
  clear H
  have H := H1
  clear H1
  replace H := Option.bind_eq_some_iff.mp H
  obtain ⟨t227, A50, H⟩ := H
  replace H : ((spec_A2Places.f k l1 t227).bind fun t230 => ((impl_PlacesFault.f k t227 t230).bind fun bt233 => (laws_FnLabelsMeet.l0 k t227 t230 bt233.1 bt233.2 (-1) 0))) = some r := H
  have A5 := Aside0.mk A50
  clear A50
  replace H := Option.bind_eq_some_iff.mp H
  obtain ⟨t230, A60, H⟩ := H
  replace H : ((impl_PlacesFault.f k t227 t230).bind fun bt233 => (laws_FnLabelsMeet.l0 k t227 t230 bt233.1 bt233.2 (-1) 0)) = some r := H
  have A6 := Aside0.mk A60
  clear A60
  replace H := Option.bind_eq_some_iff.mp H
  obtain ⟨⟨t233, t234⟩, A70, H⟩ := H
  replace H : (laws_FnLabelsMeet.l0 k t227 t230 t233 t234 (-1) 0) = some r := H
  have A7 := Aside0.mk A70
  clear A70
  have H' := Aside0.mk H
  clear H
  go_enter Try.func5, Try.ntmps5
  go_wp2_with (first | ((with_reducible refine gate_callee (f := 13) rfl ?_); refine goesL_ (some 22) rfl rfl Try.func13 (by kernel_rfl) rfl #[.slice A0 l0.length c0, .slice A1 l1.length c1] rfl (by (try simp only [List.map_toArray, List.map_cons, List.map_nil]); first | done | rfl | (simp only [List.length_drop, List.length_take]; rfl)) ?_; (with_reducible refine (laws_a2Long.calls _ _ l0 _ _ l1 false _ ?side1 ?side2 ?side3 ?side4 A3.out).mono ?_); (case side1 => repeat (first | exact HR0.out | (with_reducible refine Kd.C_alloc ?_ _) | (with_reducible refine Kd.C_drewN ?_ _) | (with_reducible refine Kd.C_drew ?_))); (case side2 => exact HC0.out); (case side3 => repeat (first | exact HR1.out | (with_reducible refine Kd.C_alloc ?_ _) | (with_reducible refine Kd.C_drewN ?_ _) | (with_reducible refine Kd.C_drew ?_))); (case side4 => exact HC1.out); rintro e w' ⟨rfl, ⟨nd, rfl⟩⟩; refine ⟨_, rfl, ?_⟩) | ((with_reducible refine gate_callee (f := 14) rfl ?_); refine goesL_ (some 24) rfl rfl Try.func14 (by kernel_rfl) rfl #[.slice A0 l0.length c0] rfl (by (try simp only [List.map_toArray, List.map_cons, List.map_nil]); first | done | rfl | (simp only [List.length_drop, List.length_take]; rfl)) ?_; (with_reducible refine (spec_A2Labels.calls k _ _ l0 t227 _ ?side1 ?side2 A5.out).mono ?_); (case side1 => repeat (first | exact HR0.out | (with_reducible refine Kd.C_alloc ?_ _) | (with_reducible refine Kd.C_drewN ?_ _) | (with_reducible refine Kd.C_drew ?_))); (case side2 => exact HC0.out); rintro e w8 ⟨v228, rfl, ho0, hb⟩; refine ⟨_, rfl, ?_⟩; have n0_ := Aside0.mk (Kd.S_lower ho0 (below_size (by repeat (first | (with_reducible first | exact HB.out | apply below_alloc | apply pw_below_drewN | apply below_drew1) | exact HB.out)))); have n1_ := Aside0.mk (below_step (by repeat (first | (with_reducible first | exact HB.out | apply below_alloc | apply pw_below_drewN | apply below_drew1) | exact HB.out)) hb); clear HB; have HO229 := n0_; have HB := n1_; clear n0_ n1_; (try clear hb); (try clear hb2); (try clear hk); (try clear hi); (try clear ho0); obtain ⟨Ao9, co9, eo9⟩ := Kd.S_slice HO229.out; subst eo9) | ((with_reducible refine gate_callee (f := 28) rfl ?_); refine goesL_ (some 27) rfl rfl Try.func28 (by kernel_rfl) rfl #[.slice A1 l1.length c1, .slice Ao9 t227.length co9] rfl (by (try simp only [List.map_toArray, List.map_cons, List.map_nil]); first | done | rfl | (simp only [List.length_drop, List.length_take]; rfl)) ?_; (with_reducible refine (spec_A2Places.calls k _ _ l1 _ _ t227 t230 _ ?side1 ?side2 ?side3 ?side4 A6.out).mono ?_); (case side1 => repeat (first | exact (Kd.C_below HR1.out HB.out) | (with_reducible refine Kd.C_alloc ?_ _) | (with_reducible refine Kd.C_drewN ?_ _) | (with_reducible refine Kd.C_drew ?_))); (case side2 => exact HC1.out); (case side3 => repeat (first | exact (Kd.S_reads' HO229.out).2.2 | (with_reducible refine Kd.C_alloc ?_ _) | (with_reducible refine Kd.C_drewN ?_ _) | (with_reducible refine Kd.C_drew ?_))); (case side4 => exact (Kd.S_reads' HO229.out).2.1); rintro e w10 ⟨v231, rfl, ho0, hb⟩; refine ⟨_, rfl, ?_⟩; have n0_ := Aside0.mk (Kd.S_elder' (by (with_reducible repeat (first | apply Kd.S_alloc | apply Kd.S_drewN | apply Kd.S_drew)); exact HO229.out) (Kd.R_base ho0) hb); have n1_ := Aside0.mk (Kd.R_lower ho0 (below_size (by repeat (first | (with_reducible first | exact HB.out | apply below_alloc | apply pw_below_drewN | apply below_drew1) | exact HB.out)))); have n2_ := Aside0.mk (below_step (by repeat (first | (with_reducible first | exact HB.out | apply below_alloc | apply pw_below_drewN | apply below_drew1) | exact HB.out)) hb); clear HO229; clear HB; have HO229 := n0_; have HO232 := n1_; have HB := n2_; clear n0_ n1_ n2_; (try clear hb); (try clear hb2); (try clear hk); (try clear hi); (try clear ho0); obtain ⟨Ao11, co11, eo11⟩ := Kd.R_slice HO232.out; subst eo11) | ((with_reducible refine gate_callee (f := 17) rfl ?_); refine goesL_ (some 31) rfl rfl Try.func17 (by kernel_rfl) rfl #[.slice Ao9 t227.length co9, .slice Ao11 t230.length co11] rfl (by (try simp only [List.map_toArray, List.map_cons, List.map_nil]); first | done | rfl | (simp only [List.length_drop, List.length_take]; rfl)) ?_; (with_reducible refine (impl_PlacesFault.calls k _ _ t227 _ _ t230 t233 t234 _ ?side1 ?side2 ?side3 ?side4 A7.out).mono ?_); (case side1 => repeat (first | exact (Kd.S_reads' HO229.out).2.2 | (with_reducible refine Kd.C_alloc ?_ _) | (with_reducible refine Kd.C_drewN ?_ _) | (with_reducible refine Kd.C_drew ?_))); (case side2 => exact (Kd.S_reads' HO229.out).2.1); (case side3 => repeat (first | exact (Kd.R_reads' HO232.out).2.2 | (with_reducible refine Kd.C_alloc ?_ _) | (with_reducible refine Kd.C_drewN ?_ _) | (with_reducible refine Kd.C_drew ?_))); (case side4 => exact (Kd.R_reads' HO232.out).2.1); rintro e w12 ⟨rfl, hb⟩; refine ⟨_, rfl, ?_⟩; have n0_ := Aside0.mk (Kd.S_below (by (with_reducible repeat (first | apply Kd.S_alloc | apply Kd.S_drewN | apply Kd.S_drew)); exact HO229.out) hb); have n1_ := Aside0.mk (Kd.R_below (by (with_reducible repeat (first | apply Kd.R_alloc | apply Kd.R_drewN | apply Kd.R_drew)); exact HO232.out) hb); have n2_ := Aside0.mk (below_step (by repeat (first | (with_reducible first | exact HB.out | apply below_alloc | apply pw_below_drewN | apply below_drew1) | exact HB.out)) hb); clear HO229; clear HO232; clear HB; have HO229 := n0_; have HO232 := n1_; have HB := n2_; clear n0_ n1_ n2_; (try clear hb); (try clear hb2); (try clear hk); (try clear hi)))
  go_loopg [9, 10] k (fun kq v9 v10 w' => ∃ (x9_1 : Int) (x10_1 : Int), v9 = .int .i64 x9_1 ∧ v10 = .int .i64 x10_1 ∧ Aside0 (laws_FnLabelsMeet.l0 kq t227 t230 t233 t234 x9_1 x10_1 = some r) ∧ Aside0 (kq ≤ k) ∧ Aside0 (Kd.S k36 36 w' w.heap.size (fun k_ => some k_ ≠ ((.slice Ao11 t230.length co11) : Value).ownBlock) (.slice Ao9 t227.length co9) t227) ∧ Aside0 (Kd.R (Kd.int .i64) 2 w' w.heap.size (fun _ => True) (.slice Ao11 t230.length co11) t230) ∧ Aside0 (Below w.heap.size w w'))
  case atStart => exact ⟨((-1)), (0), (by first | rfl | (simp; done) | (simp [*]; done)), (by first | rfl | (simp; done) | (simp [*]; done)), H', ⟨Nat.le_refl _⟩, ⟨by (with_reducible repeat (first | apply Kd.S_alloc | apply Kd.S_drewN | apply Kd.S_drew)); exact Kd.S_mono HO229.out (fun _ hk => hk.2)⟩, ⟨by (with_reducible repeat (first | apply Kd.R_alloc | apply Kd.R_drewN | apply Kd.R_drew)); exact HO232.out⟩, ⟨by repeat (first | (with_reducible first | exact HB.out | apply below_alloc | apply pw_below_drewN | apply below_drew1) | exact HB.out)⟩⟩
  case round =>
   clear H'
   try clear c1
   try clear c2
   try clear p2
   try clear c4
   try clear c5
   obtain ⟨x9_1, x10_1, rfl, rfl, HA, HK1, HO_5, HO_6, HB⟩ := hrel
   cases gk with
   | zero => exact absurd HA.out (by simp [laws_FnLabelsMeet.l0])
   | succ k1 =>
    have H := HA.out
    clear HA
    simp only [laws_FnLabelsMeet.l0] at H
    by_cases c13 : x10_1 < (t227.length : Int)
    ·rw [if_pos c13] at H
     have c13b0 : decide (x10_1 < (t227.length : Int)) = true := decide_eq_true c13
     clear c13
     have H' := Aside0.mk H
     clear H
     go_wp2
     go_loopg [9, 11] k1 (fun kq v9 v11 w' => ∃ (x9_2 : Int) (x11_2 : Int), v9 = .int .i64 x9_2 ∧ v11 = .int .i64 x11_2 ∧ Aside0 (laws_FnLabelsMeet.l1 kq t227 t230 t233 t234 x9_2 x10_1 x11_2 = some r) ∧ Aside0 (kq ≤ k1) ∧ Aside0 (Kd.S k36 36 w' w.heap.size (fun k_ => some k_ ≠ ((.slice Ao11 t230.length co11) : Value).ownBlock) (.slice Ao9 t227.length co9) t227) ∧ Aside0 (Kd.R (Kd.int .i64) 2 w' w.heap.size (fun _ => True) (.slice Ao11 t230.length co11) t230) ∧ Aside0 (Below w.heap.size w w'))
     case atStart => exact ⟨(x9_1), (0), (by first | rfl | (simp; done) | (simp [*]; done)), (by first | rfl | (simp; done) | (simp [*]; done)), H', ⟨Nat.le_refl _⟩, ⟨by (with_reducible repeat (first | apply Kd.S_alloc | apply Kd.S_drewN | apply Kd.S_drew)); exact HO_5.out⟩, ⟨by (with_reducible repeat (first | apply Kd.R_alloc | apply Kd.R_drewN | apply Kd.R_drew)); exact HO_6.out⟩, ⟨by repeat (first | (with_reducible first | exact HB.out | apply below_alloc | apply pw_below_drewN | apply below_drew1) | exact HB.out)⟩⟩
     case round =>
      clear H'
      try clear c1
      try clear c2
      try clear p2
      try clear c4
      try clear c5
      try clear c13
      try clear c13b0
      try clear p2
      obtain ⟨x9_2, x11_2, rfl, rfl, HA, HK2, HO_5, HO_6, HB⟩ := hrel
      cases gk with
      | zero => exact absurd HA.out (by simp [laws_FnLabelsMeet.l1])
      | succ k2 =>
       have H := HA.out
       clear HA
       simp only [laws_FnLabelsMeet.l1] at H
       by_cases c14 : x11_2 < x10_1
       ·rw [if_pos c14] at H
        have c14b0 : decide (x11_2 < x10_1) = true := decide_eq_true c14
        clear c14
        have HC15 := Aside0.mk H
        clear H
        go_upto_region 13 with (fail)
        go_cut [56] (fun v56 wc => ∃ (kq : Nat) (x56_14 : Bool), v56 = .bool x56_14 ∧ Aside0 (laws_FnLabelsMeet.j2 kq t227 t230 t233 t234 x9_2 x10_1 x11_2 x56_14 = some r) ∧ Aside0 (kq ≤ k2) ∧ Aside0 (Kd.S k36 36 wc w.heap.size (fun k_ => some k_ ≠ ((.slice Ao11 t230.length co11) : Value).ownBlock) (.slice Ao9 t227.length co9) t227) ∧ Aside0 (Kd.R (Kd.int .i64) 2 wc w.heap.size (fun _ => True) (.slice Ao11 t230.length co11) t230) ∧ Aside0 (Below w.heap.size w wc))
        case first =>
         have H := HC15.out
         clear HC15
         by_cases c16 : 0 ≤ x11_2
         ·rw [if_pos c16] at H
          have c16b0 : decide (0 ≤ x11_2) = true := decide_eq_true c16
          clear c16
          (first | rw [c16b0] | (simp only [i64_w, i32_w]; rw [c16b0]) | skip)
          by_cases c17 : x11_2 < (t230.length : Int)
          ·rw [if_pos c17] at H
           have c17b0 : decide (x11_2 < (t230.length : Int)) = true := decide_eq_true c17
           clear c17
           by_cases c18 : (rd t230 x11_2) < 0
           ·rw [if_pos c18] at H
            have c18b0 : decide ((rd t230 x11_2) < 0) = true := decide_eq_true c18
            clear c18
            have H' := Aside0.mk H
            clear H
            have p235 : 0 ≤ (x11_2 : Int) := od_
            have q235 : x11_2 < (t230.length : Int) := od_
            obtain ⟨ad235, e235, hx235_0⟩ := Kd.at_int (Kd.R_reads' HO_6.out).2.2 x11_2 p235 q235
            cases e235
            replace p235 := eq_true p235
            replace q235 := eq_true q235
            go_wp2
            go_meet
            case rel => exact ⟨_, (true), (by first | rfl | (simp; done) | (simp [*]; done)), H', ⟨by have := HK1.out; have := HK2.out; first | omega | exact Nat.le_refl _⟩, ⟨by (with_reducible repeat (first | apply Kd.S_alloc | apply Kd.S_drewN | apply Kd.S_drew)); exact HO_5.out⟩, ⟨by (with_reducible repeat (first | apply Kd.R_alloc | apply Kd.R_drewN | apply Kd.R_drew)); exact HO_6.out⟩, ⟨by repeat (first | (with_reducible first | exact HB.out | apply below_alloc | apply pw_below_drewN | apply below_drew1) | exact HB.out)⟩⟩
           ·rw [if_neg c18] at H
            have c18b0 : decide ((rd t230 x11_2) < 0) = false := decide_eq_false c18
            clear c18
            by_cases c19 : 0 ≤ x10_1
            ·rw [if_pos c19] at H
             have c19b0 : decide (0 ≤ x10_1) = true := decide_eq_true c19
             clear c19
             by_cases c20 : x10_1 < (t230.length : Int)
             ·rw [if_pos c20] at H
              have c20b0 : decide (x10_1 < (t230.length : Int)) = true := decide_eq_true c20
              clear c20
              have H' := Aside0.mk H
              clear H
              have p235 : 0 ≤ (x11_2 : Int) := od_
              have q235 : x11_2 < (t230.length : Int) := od_
              obtain ⟨ad235, e235, hx235_0⟩ := Kd.at_int (Kd.R_reads' HO_6.out).2.2 x11_2 p235 q235
              cases e235
              replace p235 := eq_true p235
              replace q235 := eq_true q235
              have p236 : 0 ≤ (x10_1 : Int) := od_
              have q236 : x10_1 < (t230.length : Int) := od_
              obtain ⟨ad236, e236, hx236_0⟩ := Kd.at_int (Kd.R_reads' HO_6.out).2.2 x10_1 p236 q236
              obtain rfl : ad235 = ad236 := (by injection e236)
              replace p236 := eq_true p236
              replace q236 := eq_true q236
              go_wp2
              go_meet
              case rel => exact ⟨_, (decide ((rd t230 x10_1) < 0)), (by first | rfl | (simp; done) | (simp [*]; done)), H', ⟨by have := HK1.out; have := HK2.out; first | omega | exact Nat.le_refl _⟩, ⟨by (with_reducible repeat (first | apply Kd.S_alloc | apply Kd.S_drewN | apply Kd.S_drew)); exact HO_5.out⟩, ⟨by (with_reducible repeat (first | apply Kd.R_alloc | apply Kd.R_drewN | apply Kd.R_drew)); exact HO_6.out⟩, ⟨by repeat (first | (with_reducible first | exact HB.out | apply below_alloc | apply pw_below_drewN | apply below_drew1) | exact HB.out)⟩⟩
             ·rw [if_neg c20] at H
              exact absurd H (by simp)
            ·rw [if_neg c19] at H
             exact absurd H (by simp)
          ·rw [if_neg c17] at H
           exact absurd H (by simp)
         ·rw [if_neg c16] at H
          exact absurd H (by simp)
        case rest =>
         clear HC15
         try clear c1
         try clear c2
         try clear p2
         try clear q2
         try clear hx2
         try clear c4
         try clear c5
         try clear c13
         try clear c13b0
         try clear c14
         try clear c14b0
         try clear c16
         try clear c16b0
         try clear c17
         try clear c17b0
         try clear c18
         try clear c18b0
         try clear c19
         try clear c19b0
         try clear c20
         try clear c20b0
         try clear hx235_0
         try clear hx236_0
         try clear p2
         try clear p235
         try clear p236
         try clear q235
         try clear q236
         obtain ⟨kq, x56_14, rfl, HA, HJ14, HO_5, HO_6, HB⟩ := hcut
         cases kq with
         | zero => exact absurd HA.out (by simp [laws_FnLabelsMeet.j2])
         | succ kj14 =>
          have H := HA.out
          clear HA
          simp only [laws_FnLabelsMeet.j2] at H
          by_cases c21 : x56_14 = true
          ·subst c21
           have H1 : (laws_FnLabelsMeet.l1 kj14 t227 t230 t233 t234 x9_2 x10_1 (wrap64 (x11_2 + 1))) = some r := by rw [if_pos rfl] at H; exact H
           clear H
           have H := H1
           clear H1
           have H' := Aside0.mk H
           clear H
           go_wp2
           go_roundg kj14
           case measure => have := HK1.out; have := HK2.out; have := HJ14.out; omega
           case rel => exact ⟨(x9_2), (wrap64 (x11_2 + 1)), (by first | rfl | (simp; done) | (simp [*]; done)), (by first | rfl | (simp; done) | (simp [*]; done)), H', ⟨by have := HK1.out; have := HK2.out; have := HJ14.out; omega⟩, ⟨by (with_reducible repeat (first | apply Kd.S_alloc | apply Kd.S_drewN | apply Kd.S_drew)); exact HO_5.out⟩, ⟨by (with_reducible repeat (first | apply Kd.R_alloc | apply Kd.R_drewN | apply Kd.R_drew)); exact HO_6.out⟩, ⟨by repeat (first | (with_reducible first | exact HB.out | apply below_alloc | apply pw_below_drewN | apply below_drew1) | exact HB.out)⟩⟩
          ·replace c21 := Bool.eq_false_iff.mpr c21
           subst c21
           have H1 : (if 0 ≤ x11_2 then (if x11_2 < (t227.length : Int) then (if x11_2 < (t230.length : Int) then (if 0 ≤ (rd t230 x11_2) then (if (rd t230 x11_2) < (((rd_T36 t227 x11_2).f2).length : Int) then (if 0 ≤ x10_1 then (if x10_1 < (t227.length : Int) then (if x10_1 < (t230.length : Int) then (if 0 ≤ (rd t230 x10_1) then (if (rd t230 x10_1) < (((rd_T36 t227 x10_1).f2).length : Int) then ((impl_LabelsMeet.f kj14 ((rd_T36 t227 x11_2).f0) ((rd_T36 t227 x11_2).f1) ((rd_T36 t227 x11_2).f2) ((rd_T36 t227 x11_2).f3) ((rd_T36 t227 x10_1).f0) ((rd_T36 t227 x10_1).f1) ((rd_T36 t227 x10_1).f2) ((rd_T36 t227 x10_1).f3) (rd ((rd_T36 t227 x11_2).f2) (rd t230 x11_2)) (rd ((rd_T36 t227 x10_1).f2) (rd t230 x10_1))).bind fun bt245 => ((impl_LabelsMeet.f kj14 ((rd_T36 t227 x10_1).f0) ((rd_T36 t227 x10_1).f1) ((rd_T36 t227 x10_1).f2) ((rd_T36 t227 x10_1).f3) ((rd_T36 t227 x11_2).f0) ((rd_T36 t227 x11_2).f1) ((rd_T36 t227 x11_2).f2) ((rd_T36 t227 x11_2).f3) (rd ((rd_T36 t227 x10_1).f2) (rd t230 x10_1)) (rd ((rd_T36 t227 x11_2).f2) (rd t230 x11_2))).bind fun bt249 => (laws_FnLabelsMeet.l2 kj14 t227 t230 t233 t234 x9_2 x10_1 x11_2 (rd ((rd_T36 t227 x11_2).f2) (rd t230 x11_2)) (rd ((rd_T36 t227 x10_1).f2) (rd t230 x10_1)) bt245.1 bt245.2 bt249.1 bt249.2 false (rd ((rd_T36 t227 x11_2).f2) (rd t230 x11_2))))) else (none)) else (none)) else (none)) else (none)) else (none)) else (none)) else (none)) else (none)) else (none)) else (none)) = some r := by rw [if_neg (show ¬ (false = true) by decide)] at H; exact H
           clear H
           have H := H1
           clear H1
           by_cases c22 : 0 ≤ x11_2
           ·rw [if_pos c22] at H
            have c22b0 : decide (0 ≤ x11_2) = true := decide_eq_true c22
            clear c22
            by_cases c23 : x11_2 < (t227.length : Int)
            ·rw [if_pos c23] at H
             have c23b0 : decide (x11_2 < (t227.length : Int)) = true := decide_eq_true c23
             clear c23
             by_cases c24 : x11_2 < (t230.length : Int)
             ·rw [if_pos c24] at H
              have c24b0 : decide (x11_2 < (t230.length : Int)) = true := decide_eq_true c24
              clear c24
              by_cases c25 : 0 ≤ (rd t230 x11_2)
              ·rw [if_pos c25] at H
               have c25b0 : decide (0 ≤ (rd t230 x11_2)) = true := decide_eq_true c25
               clear c25
               by_cases c26 : (rd t230 x11_2) < (((rd_T36 t227 x11_2).f2).length : Int)
               ·rw [if_pos c26] at H
                have c26b0 : decide ((rd t230 x11_2) < (((rd_T36 t227 x11_2).f2).length : Int)) = true := decide_eq_true c26
                clear c26
                by_cases c27 : 0 ≤ x10_1
                ·rw [if_pos c27] at H
                 have c27b0 : decide (0 ≤ x10_1) = true := decide_eq_true c27
                 clear c27
                 by_cases c28 : x10_1 < (t227.length : Int)
                 ·rw [if_pos c28] at H
                  have c28b0 : decide (x10_1 < (t227.length : Int)) = true := decide_eq_true c28
                  clear c28
                  by_cases c29 : x10_1 < (t230.length : Int)
                  ·rw [if_pos c29] at H
                   have c29b0 : decide (x10_1 < (t230.length : Int)) = true := decide_eq_true c29
                   clear c29
                   by_cases c30 : 0 ≤ (rd t230 x10_1)
                   ·rw [if_pos c30] at H
                    have c30b0 : decide (0 ≤ (rd t230 x10_1)) = true := decide_eq_true c30
                    clear c30
                    by_cases c31 : (rd t230 x10_1) < (((rd_T36 t227 x10_1).f2).length : Int)
                    ·rw [if_pos c31] at H
                     have c31b0 : decide ((rd t230 x10_1) < (((rd_T36 t227 x10_1).f2).length : Int)) = true := decide_eq_true c31
                     clear c31
                     replace H := Option.bind_eq_some_iff.mp H
                     obtain ⟨⟨t245, t246⟩, A320, H⟩ := H
                     replace H : ((impl_LabelsMeet.f kj14 ((rd_T36 t227 x10_1).f0) ((rd_T36 t227 x10_1).f1) ((rd_T36 t227 x10_1).f2) ((rd_T36 t227 x10_1).f3) ((rd_T36 t227 x11_2).f0) ((rd_T36 t227 x11_2).f1) ((rd_T36 t227 x11_2).f2) ((rd_T36 t227 x11_2).f3) (rd ((rd_T36 t227 x10_1).f2) (rd t230 x10_1)) (rd ((rd_T36 t227 x11_2).f2) (rd t230 x11_2))).bind fun bt249 => (laws_FnLabelsMeet.l2 kj14 t227 t230 t233 t234 x9_2 x10_1 x11_2 (rd ((rd_T36 t227 x11_2).f2) (rd t230 x11_2)) (rd ((rd_T36 t227 x10_1).f2) (rd t230 x10_1)) t245 t246 bt249.1 bt249.2 false (rd ((rd_T36 t227 x11_2).f2) (rd t230 x11_2)))) = some r := H
                     have A32 := Aside0.mk A320
                     clear A320
                     replace H := Option.bind_eq_some_iff.mp H
                     obtain ⟨⟨t249, t250⟩, A330, H⟩ := H
                     replace H : (laws_FnLabelsMeet.l2 kj14 t227 t230 t233 t234 x9_2 x10_1 x11_2 (rd ((rd_T36 t227 x11_2).f2) (rd t230 x11_2)) (rd ((rd_T36 t227 x10_1).f2) (rd t230 x10_1)) t245 t246 t249 t250 false (rd ((rd_T36 t227 x11_2).f2) (rd t230 x11_2))) = some r := H
                     have A33 := Aside0.mk A330
                     clear A330
                     have H' := Aside0.mk H
                     clear H
                     try go_wp2
                     have n0_ := Aside0.mk (Kd.S_drew HO_5.out)
                     have n1_ := Aside0.mk (Kd.R_drew HO_6.out)
                     have n2_ := Aside0.mk (below_drew1 HB.out)
                     clear HO_5
                     clear HO_6
                     clear HB
                     have HO_5 := n0_
                     have HO_6 := n1_
                     have HB := n2_
                     clear n0_ n1_ n2_
                     have p237 : 0 ≤ (x11_2 : Int) := od_
                     have q237 : x11_2 < (t227.length : Int) := od_
                     obtain ⟨ad237, A237_2, c237_2, e237, hx237_0, hx237_1, hx237_2, hx237_3, hl237_2, hi237_2⟩ := at_T36 (Kd.S_reads' HO_5.out).2.2 x11_2 p237 q237
                     cases e237
                     obtain ⟨ce237, hce237, hMe237, hcc237⟩ := Kd.S_get HO_5.out z36 x11_2 p237 (by first | exact q237 | exact od_ | (have e_ := (Kd.S_reads' HO_5.out).1; omega))
                     obtain ⟨ve237_2, rfl, ge237_2⟩ := k36_openM hMe237
                     have hv237_2 := hcc237 2 _ rfl
                     rw [add_field _ _ 2 (by omega)] at hv237_2
                     replace hv237_2 := Option.some.inj (hv237_2.symm.trans hx237_2)
                     rw [hv237_2] at ge237_2
                     have HL237_2 := Aside0.mk (show Kd.R (Kd.int .i64) 2 _ _ _ _ ((rd_T36 t227 x11_2).f2) from ge237_2)
                     clear hv237_2 ge237_2
                     clear hcc237 hce237
                     have HR237_2 := Aside0.mk hi237_2
                     have HC237_2 := Aside0.mk hl237_2
                     clear hi237_2 hl237_2
                     replace p237 := eq_true p237
                     replace q237 := eq_true q237
                     have p238 : 0 ≤ (x11_2 : Int) := od_
                     have q238 : x11_2 < (t230.length : Int) := od_
                     obtain ⟨ad238, e238, hx238_0⟩ := Kd.at_int (Kd.R_reads' HO_6.out).2.2 x11_2 p238 q238
                     cases e238
                     replace p238 := eq_true p238
                     replace q238 := eq_true q238
                     have p239 : 0 ≤ ((rd t230 x11_2) : Int) := od_
                     have q239 : (rd t230 x11_2) < (((rd_T36 t227 x11_2).f2).length : Int) := od_
                     obtain ⟨ad239, e239, hx239_0⟩ := Kd.at_int (by repeat (first | (with_reducible exact HR237_2.out) | (with_reducible refine Kd.C_alloc ?_ _) | (with_reducible refine Kd.C_drewN ?_ _) | (with_reducible refine Kd.C_drew ?_) | exact HR237_2.out)) (rd t230 x11_2) p239 q239
                     cases e239
                     replace p239 := eq_true p239
                     replace q239 := eq_true q239
                     refine start_ (n := 12) (S := fun w' => w'.cell? (ad237.add ((x11_2).toNat * 4)) = some (.int .i64 ((rd_T36 t227 x11_2).f0)) ∧ w'.cell? ⟨(ad237.add ((x11_2).toNat * 4)).block, (ad237.add ((x11_2).toNat * 4)).off + 1, none⟩ = some (.int .i64 ((rd_T36 t227 x11_2).f1)) ∧ w'.cell? ⟨(ad237.add ((x11_2).toNat * 4)).block, (ad237.add ((x11_2).toNat * 4)).off + 2, none⟩ = some (.slice (some ad239) ((rd_T36 t227 x11_2).f2).length c237_2) ∧ w'.cell? ⟨(ad237.add ((x11_2).toNat * 4)).block, (ad237.add ((x11_2).toNat * 4)).off + 3, none⟩ = some (.int .i64 ((rd_T36 t227 x11_2).f3)) ∧ w'.cell? (ad238.add (x11_2).toNat) = some (.int .i64 (rd t230 x11_2)) ∧ w'.cell? (ad239.add ((rd t230 x11_2)).toNat) = some (.int .i64 (rd ((rd_T36 t227 x11_2).f2) (rd t230 x11_2)))) (ds := []) #[false, false, false, false, false, false, false, false, false, false, false, false] (by kernel_rfl) rfl rfl ⟨hx237_0, hx237_1, hx237_2, hx237_3, hx238_0, hx239_0⟩ (fun hHeld => ?_); refine with_tabW laws_FnLabelsMeet.tab14 laws_FnLabelsMeet.bits14 (fun HT_ HW_ => ?_)
                     generalize wc.drew = w34 at HO_5 HO_6 HB HL237_2 HR237_2 hx237_0 hx237_1 hx237_2 hx237_3 hx238_0 hx239_0 hHeld ⊢
                     refine pure_ (i := 0) (N := some 57) (v := ?_) (a' := ?_) #[true, false, false, false, false, false, false, false, false, false, false, false] rfl rfl (any_of HT_.out (by kernel_rfl)) (fun _ _ _ h => h) (Or.inl ⟨by rfl, ?_⟩) ?_ ?_
                     rotate_left
                     ·intro w'
                      go_simp
                      with_reducible rfl
                     rotate_left
                     ·simp only [Act.put, List.setIfInBounds_toArray, List.set_cons_zero, List.set_cons_succ, i64_w, i32_w]
                      rfl
                     refine pure_ (i := 1) (N := some 58) (v := ?_) (a' := ?_) #[true, true, false, false, false, false, false, false, false, false, false, false] rfl rfl (any_of HT_.out (by kernel_rfl)) (fun _ _ _ h => h) (Or.inl ⟨by rfl, ?_⟩) ?_ ?_
                     rotate_left
                     ·intro w'
                      go_simp
                      with_reducible rfl
                     rotate_left
                     ·simp only [Act.put, List.setIfInBounds_toArray, List.set_cons_zero, List.set_cons_succ, i64_w, i32_w]
                      rfl
                     refine pure_ (i := 2) (N := some 59) (v := ?_) (a' := ?_) #[true, true, true, false, false, false, false, false, false, false, false, false] rfl rfl (any_of HT_.out (by kernel_rfl)) (fun _ _ _ h => h) (Or.inl ⟨by rfl, ?_⟩) ?_ ?_
                     rotate_left
                     ·intro w'
                      go_simp
                      with_reducible rfl
                     rotate_left
                     ·simp only [Act.put, List.setIfInBounds_toArray, List.set_cons_zero, List.set_cons_succ, i64_w, i32_w]
                      rfl
                     refine pure_ (i := 3) (N := some 60) (v := ?_) (a' := ?_) #[true, true, true, true, false, false, false, false, false, false, false, false] rfl rfl (any_of HT_.out (by kernel_rfl)) (fun _ _ _ h => h) (Or.inl ⟨by rfl, ?_⟩) ?_ ?_
                     rotate_left
                     ·intro w'
                      go_simp
                      with_reducible rfl
                     rotate_left
                     ·simp only [Act.put, List.setIfInBounds_toArray, List.set_cons_zero, List.set_cons_succ, i64_w, i32_w]
                      rfl
                     refine pure_ (i := 5) (N := some 62) (v := ?_) (a' := ?_) #[true, true, true, true, false, true, false, false, false, false, false, false] rfl rfl (any_of HT_.out (by kernel_rfl)) (fun _ _ _ h => h) (Or.inl ⟨by rfl, ?_⟩) ?_ ?_
                     rotate_left
                     ·intro w'
                      go_simp
                      with_reducible rfl
                     rotate_left
                     ·simp only [Act.put, List.setIfInBounds_toArray, List.set_cons_zero, List.set_cons_succ, i64_w, i32_w]
                      rfl
                     refine pure_ (i := 6) (N := some 63) (v := ?_) (a' := ?_) #[true, true, true, true, false, true, true, false, false, false, false, false] rfl rfl (any_of HT_.out (by kernel_rfl)) (fun _ _ _ h => h) (Or.inl ⟨by rfl, ?_⟩) ?_ ?_
                     rotate_left
                     ·intro w'
                      go_simp
                      with_reducible rfl
                     rotate_left
                     ·simp only [Act.put, List.setIfInBounds_toArray, List.set_cons_zero, List.set_cons_succ, i64_w, i32_w]
                      rfl
                     refine pure_ (i := 7) (N := some 64) (v := ?_) (a' := ?_) #[true, true, true, true, false, true, true, true, false, false, false, false] rfl rfl (any_of HT_.out (by kernel_rfl)) (fun _ _ _ h => h) (Or.inl ⟨by rfl, ?_⟩) ?_ ?_
                     rotate_left
                     ·intro w'
                      go_simp
                      with_reducible rfl
                     rotate_left
                     ·simp only [Act.put, List.setIfInBounds_toArray, List.set_cons_zero, List.set_cons_succ, i64_w, i32_w]
                      rfl
                     refine take_ (i := 4) (N := some 61) (v := ?_) (a' := ?_) #[true, true, true, true, true, true, true, true, false, false, false, false] rfl rfl (take_ofW HT_.out HW_.out (by kernel_rfl)) (fun _ _ _ h => h) (Or.inl ⟨by rfl, ?_⟩) hHeld ?_ ?_
                     rotate_left
                     ·rintro w' ⟨s0, s1, s2, s3, s4, s5⟩
                      go_simp
                      with_reducible rfl
                     rotate_left
                     ·simp only [Act.put, List.setIfInBounds_toArray, List.set_cons_zero, List.set_cons_succ, i64_w, i32_w]
                      rfl
                     refine take_ (i := 8) (N := some 65) (v := ?_) (a' := ?_) #[true, true, true, true, true, true, true, true, true, false, false, false] rfl rfl (take_ofW HT_.out HW_.out (by kernel_rfl)) (fun _ _ _ h => h) (Or.inl ⟨by rfl, ?_⟩) hHeld ?_ ?_
                     rotate_left
                     ·rintro w' ⟨s0, s1, s2, s3, s4, s5⟩
                      go_simp
                      with_reducible rfl
                     rotate_left
                     ·simp only [Act.put, List.setIfInBounds_toArray, List.set_cons_zero, List.set_cons_succ, i64_w, i32_w]
                      rfl
                     refine pure_ (i := 9) (N := some 66) (v := ?_) (a' := ?_) #[true, true, true, true, true, true, true, true, true, true, false, false] rfl rfl (any_of HT_.out (by kernel_rfl)) (fun _ _ _ h => h) (Or.inl ⟨by rfl, ?_⟩) ?_ ?_
                     rotate_left
                     ·intro w'
                      go_simp
                      with_reducible rfl
                     rotate_left
                     ·simp only [Act.put, List.setIfInBounds_toArray, List.set_cons_zero, List.set_cons_succ, i64_w, i32_w]
                      rfl
                     refine take_ (i := 10) (N := some 67) (v := ?_) (a' := ?_) #[true, true, true, true, true, true, true, true, true, true, true, false] rfl rfl (take_ofW HT_.out HW_.out (by kernel_rfl)) (fun _ _ _ h => h) (Or.inl ⟨by rfl, ?_⟩) hHeld ?_ ?_
                     rotate_left
                     ·rintro w' ⟨s0, s1, s2, s3, s4, s5⟩
                      go_simp
                      with_reducible rfl
                     rotate_left
                     ·simp only [Act.put, List.setIfInBounds_toArray, List.set_cons_zero, List.set_cons_succ, i64_w, i32_w]
                      rfl
                     refine pure_ (i := 11) (N := some 12) (v := ?_) (a' := ?_) #[true, true, true, true, true, true, true, true, true, true, true, true] rfl rfl (any_of HT_.out (by kernel_rfl)) (fun _ _ _ h => h) (Or.inl ⟨by rfl, ?_⟩) ?_ ?_
                     rotate_left
                     ·intro w'
                      go_simp
                      with_reducible rfl
                     rotate_left
                     ·simp only [Act.put, List.setIfInBounds_toArray, List.set_cons_zero, List.set_cons_succ, i64_w, i32_w]
                      rfl
                     refine done_ (done_of HT_.out (by kernel_rfl)) ?_
                     try go_wp2
                     have n0_ := Aside0.mk (Kd.S_drew HO_5.out)
                     have n1_ := Aside0.mk (Kd.R_drew HO_6.out)
                     have n2_ := Aside0.mk (Kd.R_drew HL237_2.out)
                     have n3_ := Aside0.mk (Kd.C_drew HR237_2.out)
                     have n4_ := Aside0.mk (below_drew1 HB.out)
                     clear HO_5
                     clear HO_6
                     clear HL237_2
                     clear HR237_2
                     clear HB
                     have HO_5 := n0_
                     have HO_6 := n1_
                     have HL237_2 := n2_
                     have HR237_2 := n3_
                     have HB := n4_
                     clear n0_ n1_ n2_ n3_ n4_
                     have p240 : 0 ≤ (x10_1 : Int) := od_
                     have q240 : x10_1 < (t227.length : Int) := od_
                     obtain ⟨ad240, A240_2, c240_2, e240, hx240_0, hx240_1, hx240_2, hx240_3, hl240_2, hi240_2⟩ := at_T36 (Kd.S_reads' HO_5.out).2.2 x10_1 p240 q240
                     obtain rfl : ad237 = ad240 := (by injection e240)
                     obtain ⟨ce240, hce240, hMe240, hcc240⟩ := Kd.S_get HO_5.out z36 x10_1 p240 (by first | exact q240 | exact od_ | (have e_ := (Kd.S_reads' HO_5.out).1; omega))
                     obtain ⟨ve240_2, rfl, ge240_2⟩ := k36_openM hMe240
                     have hv240_2 := hcc240 2 _ rfl
                     rw [add_field _ _ 2 (by omega)] at hv240_2
                     replace hv240_2 := Option.some.inj (hv240_2.symm.trans hx240_2)
                     rw [hv240_2] at ge240_2
                     have HL240_2 := Aside0.mk (show Kd.R (Kd.int .i64) 2 _ _ _ _ ((rd_T36 t227 x10_1).f2) from ge240_2)
                     clear hv240_2 ge240_2
                     clear hcc240 hce240
                     have HR240_2 := Aside0.mk hi240_2
                     have HC240_2 := Aside0.mk hl240_2
                     clear hi240_2 hl240_2
                     replace p240 := eq_true p240
                     replace q240 := eq_true q240
                     have p241 : 0 ≤ (x10_1 : Int) := od_
                     have q241 : x10_1 < (t230.length : Int) := od_
                     obtain ⟨ad241, e241, hx241_0⟩ := Kd.at_int (Kd.R_reads' HO_6.out).2.2 x10_1 p241 q241
                     obtain rfl : ad238 = ad241 := (by injection e241)
                     replace p241 := eq_true p241
                     replace q241 := eq_true q241
                     have p242 : 0 ≤ ((rd t230 x10_1) : Int) := od_
                     have q242 : (rd t230 x10_1) < (((rd_T36 t227 x10_1).f2).length : Int) := od_
                     obtain ⟨ad242, e242, hx242_0⟩ := Kd.at_int (by repeat (first | (with_reducible exact HR240_2.out) | (with_reducible refine Kd.C_alloc ?_ _) | (with_reducible refine Kd.C_drewN ?_ _) | (with_reducible refine Kd.C_drew ?_) | exact HR240_2.out)) (rd t230 x10_1) p242 q242
                     cases e242
                     replace p242 := eq_true p242
                     replace q242 := eq_true q242
                     refine start_ (n := 12) (S := fun w' => w'.cell? (ad237.add ((x10_1).toNat * 4)) = some (.int .i64 ((rd_T36 t227 x10_1).f0)) ∧ w'.cell? ⟨(ad237.add ((x10_1).toNat * 4)).block, (ad237.add ((x10_1).toNat * 4)).off + 1, none⟩ = some (.int .i64 ((rd_T36 t227 x10_1).f1)) ∧ w'.cell? ⟨(ad237.add ((x10_1).toNat * 4)).block, (ad237.add ((x10_1).toNat * 4)).off + 2, none⟩ = some (.slice (some ad242) ((rd_T36 t227 x10_1).f2).length c240_2) ∧ w'.cell? ⟨(ad237.add ((x10_1).toNat * 4)).block, (ad237.add ((x10_1).toNat * 4)).off + 3, none⟩ = some (.int .i64 ((rd_T36 t227 x10_1).f3)) ∧ w'.cell? (ad238.add (x10_1).toNat) = some (.int .i64 (rd t230 x10_1)) ∧ w'.cell? (ad242.add ((rd t230 x10_1)).toNat) = some (.int .i64 (rd ((rd_T36 t227 x10_1).f2) (rd t230 x10_1)))) (ds := []) #[false, false, false, false, false, false, false, false, false, false, false, false] (by kernel_rfl) rfl rfl ⟨hx240_0, hx240_1, hx240_2, hx240_3, hx241_0, hx242_0⟩ (fun hHeld => ?_); refine with_tabW laws_FnLabelsMeet.tab15 laws_FnLabelsMeet.bits15 (fun HT_ HW_ => ?_)
                     generalize w34.drew = w35 at HO_5 HO_6 HL237_2 HR237_2 HB HL240_2 HR240_2 hx240_0 hx240_1 hx240_2 hx240_3 hx241_0 hx242_0 hHeld ⊢
                     refine pure_ (i := 0) (N := some 68) (v := ?_) (a' := ?_) #[true, false, false, false, false, false, false, false, false, false, false, false] rfl rfl (any_of HT_.out (by kernel_rfl)) (fun _ _ _ h => h) (Or.inl ⟨by rfl, ?_⟩) ?_ ?_
                     rotate_left
                     ·intro w'
                      go_simp
                      with_reducible rfl
                     rotate_left
                     ·simp only [Act.put, List.setIfInBounds_toArray, List.set_cons_zero, List.set_cons_succ, i64_w, i32_w]
                      rfl
                     refine pure_ (i := 1) (N := some 69) (v := ?_) (a' := ?_) #[true, true, false, false, false, false, false, false, false, false, false, false] rfl rfl (any_of HT_.out (by kernel_rfl)) (fun _ _ _ h => h) (Or.inl ⟨by rfl, ?_⟩) ?_ ?_
                     rotate_left
                     ·intro w'
                      go_simp
                      with_reducible rfl
                     rotate_left
                     ·simp only [Act.put, List.setIfInBounds_toArray, List.set_cons_zero, List.set_cons_succ, i64_w, i32_w]
                      rfl
                     refine pure_ (i := 2) (N := some 70) (v := ?_) (a' := ?_) #[true, true, true, false, false, false, false, false, false, false, false, false] rfl rfl (any_of HT_.out (by kernel_rfl)) (fun _ _ _ h => h) (Or.inl ⟨by rfl, ?_⟩) ?_ ?_
                     rotate_left
                     ·intro w'
                      go_simp
                      with_reducible rfl
                     rotate_left
                     ·simp only [Act.put, List.setIfInBounds_toArray, List.set_cons_zero, List.set_cons_succ, i64_w, i32_w]
                      rfl
                     refine pure_ (i := 3) (N := some 71) (v := ?_) (a' := ?_) #[true, true, true, true, false, false, false, false, false, false, false, false] rfl rfl (any_of HT_.out (by kernel_rfl)) (fun _ _ _ h => h) (Or.inl ⟨by rfl, ?_⟩) ?_ ?_
                     rotate_left
                     ·intro w'
                      go_simp
                      with_reducible rfl
                     rotate_left
                     ·simp only [Act.put, List.setIfInBounds_toArray, List.set_cons_zero, List.set_cons_succ, i64_w, i32_w]
                      rfl
                     refine pure_ (i := 5) (N := some 73) (v := ?_) (a' := ?_) #[true, true, true, true, false, true, false, false, false, false, false, false] rfl rfl (any_of HT_.out (by kernel_rfl)) (fun _ _ _ h => h) (Or.inl ⟨by rfl, ?_⟩) ?_ ?_
                     rotate_left
                     ·intro w'
                      go_simp
                      with_reducible rfl
                     rotate_left
                     ·simp only [Act.put, List.setIfInBounds_toArray, List.set_cons_zero, List.set_cons_succ, i64_w, i32_w]
                      rfl
                     refine pure_ (i := 6) (N := some 74) (v := ?_) (a' := ?_) #[true, true, true, true, false, true, true, false, false, false, false, false] rfl rfl (any_of HT_.out (by kernel_rfl)) (fun _ _ _ h => h) (Or.inl ⟨by rfl, ?_⟩) ?_ ?_
                     rotate_left
                     ·intro w'
                      go_simp
                      with_reducible rfl
                     rotate_left
                     ·simp only [Act.put, List.setIfInBounds_toArray, List.set_cons_zero, List.set_cons_succ, i64_w, i32_w]
                      rfl
                     refine pure_ (i := 7) (N := some 75) (v := ?_) (a' := ?_) #[true, true, true, true, false, true, true, true, false, false, false, false] rfl rfl (any_of HT_.out (by kernel_rfl)) (fun _ _ _ h => h) (Or.inl ⟨by rfl, ?_⟩) ?_ ?_
                     rotate_left
                     ·intro w'
                      go_simp
                      with_reducible rfl
                     rotate_left
                     ·simp only [Act.put, List.setIfInBounds_toArray, List.set_cons_zero, List.set_cons_succ, i64_w, i32_w]
                      rfl
                     refine take_ (i := 4) (N := some 72) (v := ?_) (a' := ?_) #[true, true, true, true, true, true, true, true, false, false, false, false] rfl rfl (take_ofW HT_.out HW_.out (by kernel_rfl)) (fun _ _ _ h => h) (Or.inl ⟨by rfl, ?_⟩) hHeld ?_ ?_
                     rotate_left
                     ·rintro w' ⟨s0, s1, s2, s3, s4, s5⟩
                      go_simp
                      with_reducible rfl
                     rotate_left
                     ·simp only [Act.put, List.setIfInBounds_toArray, List.set_cons_zero, List.set_cons_succ, i64_w, i32_w]
                      rfl
                     refine take_ (i := 8) (N := some 76) (v := ?_) (a' := ?_) #[true, true, true, true, true, true, true, true, true, false, false, false] rfl rfl (take_ofW HT_.out HW_.out (by kernel_rfl)) (fun _ _ _ h => h) (Or.inl ⟨by rfl, ?_⟩) hHeld ?_ ?_
                     rotate_left
                     ·rintro w' ⟨s0, s1, s2, s3, s4, s5⟩
                      go_simp
                      with_reducible rfl
                     rotate_left
                     ·simp only [Act.put, List.setIfInBounds_toArray, List.set_cons_zero, List.set_cons_succ, i64_w, i32_w]
                      rfl
                     refine pure_ (i := 9) (N := some 77) (v := ?_) (a' := ?_) #[true, true, true, true, true, true, true, true, true, true, false, false] rfl rfl (any_of HT_.out (by kernel_rfl)) (fun _ _ _ h => h) (Or.inl ⟨by rfl, ?_⟩) ?_ ?_
                     rotate_left
                     ·intro w'
                      go_simp
                      with_reducible rfl
                     rotate_left
                     ·simp only [Act.put, List.setIfInBounds_toArray, List.set_cons_zero, List.set_cons_succ, i64_w, i32_w]
                      rfl
                     refine take_ (i := 10) (N := some 78) (v := ?_) (a' := ?_) #[true, true, true, true, true, true, true, true, true, true, true, false] rfl rfl (take_ofW HT_.out HW_.out (by kernel_rfl)) (fun _ _ _ h => h) (Or.inl ⟨by rfl, ?_⟩) hHeld ?_ ?_
                     rotate_left
                     ·rintro w' ⟨s0, s1, s2, s3, s4, s5⟩
                      go_simp
                      with_reducible rfl
                     rotate_left
                     ·simp only [Act.put, List.setIfInBounds_toArray, List.set_cons_zero, List.set_cons_succ, i64_w, i32_w]
                      rfl
                     refine pure_ (i := 11) (N := some 13) (v := ?_) (a' := ?_) #[true, true, true, true, true, true, true, true, true, true, true, true] rfl rfl (any_of HT_.out (by kernel_rfl)) (fun _ _ _ h => h) (Or.inl ⟨by rfl, ?_⟩) ?_ ?_
                     rotate_left
                     ·intro w'
                      go_simp
                      with_reducible rfl
                     rotate_left
                     ·simp only [Act.put, List.setIfInBounds_toArray, List.set_cons_zero, List.set_cons_succ, i64_w, i32_w]
                      rfl
                     refine done_ (done_of HT_.out (by kernel_rfl)) ?_
                     try go_wp2
                     have n0_ := Aside0.mk (Kd.S_drew HO_5.out)
                     have n1_ := Aside0.mk (Kd.R_drew HO_6.out)
                     have n2_ := Aside0.mk (Kd.R_drew HL237_2.out)
                     have n3_ := Aside0.mk (Kd.R_drew HL240_2.out)
                     have n4_ := Aside0.mk (Kd.C_drew HR237_2.out)
                     have n5_ := Aside0.mk (Kd.C_drew HR240_2.out)
                     have n6_ := Aside0.mk (below_drew1 HB.out)
                     clear HO_5
                     clear HO_6
                     clear HL237_2
                     clear HL240_2
                     clear HR237_2
                     clear HR240_2
                     clear HB
                     have HO_5 := n0_
                     have HO_6 := n1_
                     have HL237_2 := n2_
                     have HL240_2 := n3_
                     have HR237_2 := n4_
                     have HR240_2 := n5_
                     have HB := n6_
                     clear n0_ n1_ n2_ n3_ n4_ n5_ n6_
                     have p243 : 0 ≤ (x11_2 : Int) := od_
                     have q243 : x11_2 < (t227.length : Int) := od_
                     obtain ⟨ad243, A243_2, c243_2, e243, hx243_0, hx243_1, hx243_2, hx243_3, hl243_2, hi243_2⟩ := at_T36 (Kd.S_reads' HO_5.out).2.2 x11_2 p243 q243
                     obtain rfl : ad237 = ad243 := (by injection e243)
                     obtain ⟨ce243, hce243, hMe243, hcc243⟩ := Kd.S_get HO_5.out z36 x11_2 p243 (by first | exact q243 | exact od_ | (have e_ := (Kd.S_reads' HO_5.out).1; omega))
                     obtain ⟨ve243_2, rfl, ge243_2⟩ := k36_openM hMe243
                     have hv243_2 := hcc243 2 _ rfl
                     rw [add_field _ _ 2 (by omega)] at hv243_2
                     replace hv243_2 := Option.some.inj (hv243_2.symm.trans hx243_2)
                     rw [hv243_2] at ge243_2
                     have HL243_2 := Aside0.mk (show Kd.R (Kd.int .i64) 2 _ _ _ _ ((rd_T36 t227 x11_2).f2) from ge243_2)
                     clear hv243_2 ge243_2
                     clear hcc243 hce243
                     have HR243_2 := Aside0.mk hi243_2
                     have HC243_2 := Aside0.mk hl243_2
                     clear hi243_2 hl243_2
                     replace p243 := eq_true p243
                     replace q243 := eq_true q243
                     have p244 : 0 ≤ (x10_1 : Int) := od_
                     have q244 : x10_1 < (t227.length : Int) := od_
                     obtain ⟨ad244, A244_2, c244_2, e244, hx244_0, hx244_1, hx244_2, hx244_3, hl244_2, hi244_2⟩ := at_T36 (Kd.S_reads' HO_5.out).2.2 x10_1 p244 q244
                     obtain rfl : ad237 = ad244 := (by injection e244)
                     obtain ⟨ce244, hce244, hMe244, hcc244⟩ := Kd.S_get HO_5.out z36 x10_1 p244 (by first | exact q244 | exact od_ | (have e_ := (Kd.S_reads' HO_5.out).1; omega))
                     obtain ⟨ve244_2, rfl, ge244_2⟩ := k36_openM hMe244
                     have hv244_2 := hcc244 2 _ rfl
                     rw [add_field _ _ 2 (by omega)] at hv244_2
                     replace hv244_2 := Option.some.inj (hv244_2.symm.trans hx244_2)
                     rw [hv244_2] at ge244_2
                     have HL244_2 := Aside0.mk (show Kd.R (Kd.int .i64) 2 _ _ _ _ ((rd_T36 t227 x10_1).f2) from ge244_2)
                     clear hv244_2 ge244_2
                     clear hcc244 hce244
                     have HR244_2 := Aside0.mk hi244_2
                     have HC244_2 := Aside0.mk hl244_2
                     clear hi244_2 hl244_2
                     replace p244 := eq_true p244
                     replace q244 := eq_true q244
                     refine start_ (n := 16) (S := fun w' => w'.cell? (ad237.add ((x11_2).toNat * 4)) = some (.int .i64 ((rd_T36 t227 x11_2).f0)) ∧ w'.cell? ⟨(ad237.add ((x11_2).toNat * 4)).block, (ad237.add ((x11_2).toNat * 4)).off + 1, none⟩ = some (.int .i64 ((rd_T36 t227 x11_2).f1)) ∧ w'.cell? ⟨(ad237.add ((x11_2).toNat * 4)).block, (ad237.add ((x11_2).toNat * 4)).off + 2, none⟩ = some (.slice A243_2 ((rd_T36 t227 x11_2).f2).length c243_2) ∧ w'.cell? ⟨(ad237.add ((x11_2).toNat * 4)).block, (ad237.add ((x11_2).toNat * 4)).off + 3, none⟩ = some (.int .i64 ((rd_T36 t227 x11_2).f3)) ∧ w'.cell? (ad237.add ((x10_1).toNat * 4)) = some (.int .i64 ((rd_T36 t227 x10_1).f0)) ∧ w'.cell? ⟨(ad237.add ((x10_1).toNat * 4)).block, (ad237.add ((x10_1).toNat * 4)).off + 1, none⟩ = some (.int .i64 ((rd_T36 t227 x10_1).f1)) ∧ w'.cell? ⟨(ad237.add ((x10_1).toNat * 4)).block, (ad237.add ((x10_1).toNat * 4)).off + 2, none⟩ = some (.slice A244_2 ((rd_T36 t227 x10_1).f2).length c244_2) ∧ w'.cell? ⟨(ad237.add ((x10_1).toNat * 4)).block, (ad237.add ((x10_1).toNat * 4)).off + 3, none⟩ = some (.int .i64 ((rd_T36 t227 x10_1).f3))) (ds := []) #[false, false, false, false, false, false, false, false, false, false, false, false, false, false, false, false] (by kernel_rfl) rfl rfl ⟨hx243_0, hx243_1, hx243_2, hx243_3, hx244_0, hx244_1, hx244_2, hx244_3⟩ (fun hHeld => ?_); refine with_tabW laws_FnLabelsMeet.tab16 laws_FnLabelsMeet.bits16 (fun HT_ HW_ => ?_)
                     generalize w35.drew = w36 at HO_5 HO_6 HL237_2 HL240_2 HR237_2 HR240_2 HB HL243_2 HL244_2 HR243_2 HR244_2 hx243_0 hx243_1 hx243_2 hx243_3 hx244_0 hx244_1 hx244_2 hx244_3 hHeld ⊢
                     refine pure_ (i := 0) (N := some 80) (v := ?_) (a' := ?_) #[true, false, false, false, false, false, false, false, false, false, false, false, false, false, false, false] rfl rfl (any_of HT_.out (by kernel_rfl)) (fun _ _ _ h => h) (Or.inl ⟨by rfl, ?_⟩) ?_ ?_
                     rotate_left
                     ·intro w'
                      go_simp
                      with_reducible rfl
                     rotate_left
                     ·simp only [Act.put, List.setIfInBounds_toArray, List.set_cons_zero, List.set_cons_succ, i64_w, i32_w]
                      rfl
                     refine pure_ (i := 1) (N := some 81) (v := ?_) (a' := ?_) #[true, true, false, false, false, false, false, false, false, false, false, false, false, false, false, false] rfl rfl (any_of HT_.out (by kernel_rfl)) (fun _ _ _ h => h) (Or.inl ⟨by rfl, ?_⟩) ?_ ?_
                     rotate_left
                     ·intro w'
                      go_simp
                      with_reducible rfl
                     rotate_left
                     ·simp only [Act.put, List.setIfInBounds_toArray, List.set_cons_zero, List.set_cons_succ, i64_w, i32_w]
                      rfl
                     refine pure_ (i := 2) (N := some 82) (v := ?_) (a' := ?_) #[true, true, true, false, false, false, false, false, false, false, false, false, false, false, false, false] rfl rfl (any_of HT_.out (by kernel_rfl)) (fun _ _ _ h => h) (Or.inl ⟨by rfl, ?_⟩) ?_ ?_
                     rotate_left
                     ·intro w'
                      go_simp
                      with_reducible rfl
                     rotate_left
                     ·simp only [Act.put, List.setIfInBounds_toArray, List.set_cons_zero, List.set_cons_succ, i64_w, i32_w]
                      rfl
                     refine pure_ (i := 4) (N := some 84) (v := ?_) (a' := ?_) #[true, true, true, false, true, false, false, false, false, false, false, false, false, false, false, false] rfl rfl (any_of HT_.out (by kernel_rfl)) (fun _ _ _ h => h) (Or.inl ⟨by rfl, ?_⟩) ?_ ?_
                     rotate_left
                     ·intro w'
                      go_simp
                      with_reducible rfl
                     rotate_left
                     ·simp only [Act.put, List.setIfInBounds_toArray, List.set_cons_zero, List.set_cons_succ, i64_w, i32_w]
                      rfl
                     refine pure_ (i := 5) (N := some 85) (v := ?_) (a' := ?_) #[true, true, true, false, true, true, false, false, false, false, false, false, false, false, false, false] rfl rfl (any_of HT_.out (by kernel_rfl)) (fun _ _ _ h => h) (Or.inl ⟨by rfl, ?_⟩) ?_ ?_
                     rotate_left
                     ·intro w'
                      go_simp
                      with_reducible rfl
                     rotate_left
                     ·simp only [Act.put, List.setIfInBounds_toArray, List.set_cons_zero, List.set_cons_succ, i64_w, i32_w]
                      rfl
                     refine pure_ (i := 6) (N := some 86) (v := ?_) (a' := ?_) #[true, true, true, false, true, true, true, false, false, false, false, false, false, false, false, false] rfl rfl (any_of HT_.out (by kernel_rfl)) (fun _ _ _ h => h) (Or.inl ⟨by rfl, ?_⟩) ?_ ?_
                     rotate_left
                     ·intro w'
                      go_simp
                      with_reducible rfl
                     rotate_left
                     ·simp only [Act.put, List.setIfInBounds_toArray, List.set_cons_zero, List.set_cons_succ, i64_w, i32_w]
                      rfl
                     refine pure_ (i := 8) (N := some 88) (v := ?_) (a' := ?_) #[true, true, true, false, true, true, true, false, true, false, false, false, false, false, false, false] rfl rfl (any_of HT_.out (by kernel_rfl)) (fun _ _ _ h => h) (Or.inl ⟨by rfl, ?_⟩) ?_ ?_
                     rotate_left
                     ·intro w'
                      go_simp
                      with_reducible rfl
                     rotate_left
                     ·simp only [Act.put, List.setIfInBounds_toArray, List.set_cons_zero, List.set_cons_succ, i64_w, i32_w]
                      rfl
                     refine pure_ (i := 9) (N := some 89) (v := ?_) (a' := ?_) #[true, true, true, false, true, true, true, false, true, true, false, false, false, false, false, false] rfl rfl (any_of HT_.out (by kernel_rfl)) (fun _ _ _ h => h) (Or.inl ⟨by rfl, ?_⟩) ?_ ?_
                     rotate_left
                     ·intro w'
                      go_simp
                      with_reducible rfl
                     rotate_left
                     ·simp only [Act.put, List.setIfInBounds_toArray, List.set_cons_zero, List.set_cons_succ, i64_w, i32_w]
                      rfl
                     refine take_ (i := 3) (N := some 83) (v := ?_) (a' := ?_) #[true, true, true, true, true, true, true, false, true, true, false, false, false, false, false, false] rfl rfl (take_ofW HT_.out HW_.out (by kernel_rfl)) (fun _ _ _ h => h) (Or.inl ⟨by rfl, ?_⟩) hHeld ?_ ?_
                     rotate_left
                     ·rintro w' ⟨s0, s1, s2, s3, s4, s5, s6, s7⟩
                      go_simp
                      with_reducible rfl
                     rotate_left
                     ·simp only [Act.put, List.setIfInBounds_toArray, List.set_cons_zero, List.set_cons_succ, i64_w, i32_w]
                      rfl
                     refine take_ (i := 7) (N := some 87) (v := ?_) (a' := ?_) #[true, true, true, true, true, true, true, true, true, true, false, false, false, false, false, false] rfl rfl (take_ofW HT_.out HW_.out (by kernel_rfl)) (fun _ _ _ h => h) (Or.inl ⟨by rfl, ?_⟩) hHeld ?_ ?_
                     rotate_left
                     ·rintro w' ⟨s0, s1, s2, s3, s4, s5, s6, s7⟩
                      go_simp
                      with_reducible rfl
                     rotate_left
                     ·simp only [Act.put, List.setIfInBounds_toArray, List.set_cons_zero, List.set_cons_succ, i64_w, i32_w]
                      rfl
                     refine one_ (i := 10) (N := some 90) #[true, true, true, true, true, true, true, true, true, true, true, false, false, false, false, false] rfl rfl (one_of HT_.out (by kernel_rfl)) (by decide) (fun K hK => ?_)
                     refine goes_ Try.func26 (by kernel_rfl) rfl #[.agg #[.int .i64 ((rd_T36 t227 x11_2).f0), .int .i64 ((rd_T36 t227 x11_2).f1), .slice A243_2 ((rd_T36 t227 x11_2).f2).length c243_2, .int .i64 ((rd_T36 t227 x11_2).f3)], .agg #[.int .i64 ((rd_T36 t227 x10_1).f0), .int .i64 ((rd_T36 t227 x10_1).f1), .slice A244_2 ((rd_T36 t227 x10_1).f2).length c244_2, .int .i64 ((rd_T36 t227 x10_1).f3)], .int .i64 (rd ((rd_T36 t227 x11_2).f2) (rd t230 x11_2)), .int .i64 (rd ((rd_T36 t227 x10_1).f2) (rd t230 x10_1))] (by rfl) rfl rfl (by (try simp only [List.map_toArray, List.map_cons, List.map_nil]); first | done | rfl | (simp only [List.length_drop, List.length_take]; rfl)) ?_
                     with_reducible refine (impl_LabelsMeet.calls kj14 ((rd_T36 t227 x11_2).f0) ((rd_T36 t227 x11_2).f1) _ _ ((rd_T36 t227 x11_2).f2) ((rd_T36 t227 x11_2).f3) ((rd_T36 t227 x10_1).f0) ((rd_T36 t227 x10_1).f1) _ _ ((rd_T36 t227 x10_1).f2) ((rd_T36 t227 x10_1).f3) (rd ((rd_T36 t227 x11_2).f2) (rd t230 x11_2)) (rd ((rd_T36 t227 x10_1).f2) (rd t230 x10_1)) t245 t246 _ ?side1 ?side2 ?side3 ?side4 A32.out).mono ?_
                     (case side1 => repeat (first | exact (by repeat (first | (with_reducible exact HR243_2.out) | (with_reducible refine Kd.C_alloc ?_ _) | (with_reducible refine Kd.C_drewN ?_ _) | (with_reducible refine Kd.C_drew ?_) | exact HR243_2.out)) | (with_reducible refine Kd.C_alloc ?_ _) | (with_reducible refine Kd.C_drewN ?_ _) | (with_reducible refine Kd.C_drew ?_)))
                     (case side2 => exact HC243_2.out)
                     (case side3 => repeat (first | exact (by repeat (first | (with_reducible exact HR244_2.out) | (with_reducible refine Kd.C_alloc ?_ _) | (with_reducible refine Kd.C_drewN ?_ _) | (with_reducible refine Kd.C_drew ?_) | exact HR244_2.out)) | (with_reducible refine Kd.C_alloc ?_ _) | (with_reducible refine Kd.C_drewN ?_ _) | (with_reducible refine Kd.C_drew ?_)))
                     (case side4 => exact HC244_2.out)
                     rintro e w37 ⟨rfl, hb⟩
                     have HS0_ := (hb.cell (World.block_lt_of_cell? _ _ (hHeld.1))).trans (hHeld.1)
                     have HS1_ := (hb.cell (World.block_lt_of_cell? _ _ (hHeld.2.1))).trans (hHeld.2.1)
                     have HS2_ := (hb.cell (World.block_lt_of_cell? _ _ (hHeld.2.2.1))).trans (hHeld.2.2.1)
                     have HS3_ := (hb.cell (World.block_lt_of_cell? _ _ (hHeld.2.2.2.1))).trans (hHeld.2.2.2.1)
                     have HS4_ := (hb.cell (World.block_lt_of_cell? _ _ (hHeld.2.2.2.2.1))).trans (hHeld.2.2.2.2.1)
                     have HS5_ := (hb.cell (World.block_lt_of_cell? _ _ (hHeld.2.2.2.2.2.1))).trans (hHeld.2.2.2.2.2.1)
                     have HS6_ := (hb.cell (World.block_lt_of_cell? _ _ (hHeld.2.2.2.2.2.2.1))).trans (hHeld.2.2.2.2.2.2.1)
                     have HS7_ := (hb.cell (World.block_lt_of_cell? _ _ (hHeld.2.2.2.2.2.2.2))).trans (hHeld.2.2.2.2.2.2.2)
                     refine ⟨_, rfl, ?_⟩
                     have n0_ := Aside0.mk (Kd.S_below (by (with_reducible repeat (first | apply Kd.S_alloc | apply Kd.S_drewN | apply Kd.S_drew)); exact HO_5.out) hb)
                     have n1_ := Aside0.mk (Kd.R_below (by (with_reducible repeat (first | apply Kd.R_alloc | apply Kd.R_drewN | apply Kd.R_drew)); exact HO_6.out) hb)
                     have n2_ := Aside0.mk (Kd.R_below (by (with_reducible repeat (first | apply Kd.R_alloc | apply Kd.R_drewN | apply Kd.R_drew)); exact HL237_2.out) hb)
                     have n3_ := Aside0.mk (Kd.R_below (by (with_reducible repeat (first | apply Kd.R_alloc | apply Kd.R_drewN | apply Kd.R_drew)); exact HL240_2.out) hb)
                     have n4_ := Aside0.mk (Kd.R_below (by (with_reducible repeat (first | apply Kd.R_alloc | apply Kd.R_drewN | apply Kd.R_drew)); exact HL243_2.out) hb)
                     have n5_ := Aside0.mk (Kd.R_below (by (with_reducible repeat (first | apply Kd.R_alloc | apply Kd.R_drewN | apply Kd.R_drew)); exact HL244_2.out) hb)
                     have n6_ := Aside0.mk (Kd.C_below (by repeat (first | (with_reducible exact HR237_2.out) | (with_reducible refine Kd.C_alloc ?_ _) | (with_reducible refine Kd.C_drewN ?_ _) | (with_reducible refine Kd.C_drew ?_) | exact HR237_2.out)) hb)
                     have n7_ := Aside0.mk (Kd.C_below (by repeat (first | (with_reducible exact HR240_2.out) | (with_reducible refine Kd.C_alloc ?_ _) | (with_reducible refine Kd.C_drewN ?_ _) | (with_reducible refine Kd.C_drew ?_) | exact HR240_2.out)) hb)
                     have n8_ := Aside0.mk (Kd.C_below (by repeat (first | (with_reducible exact HR243_2.out) | (with_reducible refine Kd.C_alloc ?_ _) | (with_reducible refine Kd.C_drewN ?_ _) | (with_reducible refine Kd.C_drew ?_) | exact HR243_2.out)) hb)
                     have n9_ := Aside0.mk (Kd.C_below (by repeat (first | (with_reducible exact HR244_2.out) | (with_reducible refine Kd.C_alloc ?_ _) | (with_reducible refine Kd.C_drewN ?_ _) | (with_reducible refine Kd.C_drew ?_) | exact HR244_2.out)) hb)
                     have n10_ := Aside0.mk (below_step (by repeat (first | (with_reducible first | exact HB.out | apply below_alloc | apply pw_below_drewN | apply below_drew1) | exact HB.out)) hb)
                     clear HO_5
                     clear HO_6
                     clear HL237_2
                     clear HL240_2
                     clear HL243_2
                     clear HL244_2
                     clear HR237_2
                     clear HR240_2
                     clear HR243_2
                     clear HR244_2
                     clear HB
                     have HO_5 := n0_
                     have HO_6 := n1_
                     have HL237_2 := n2_
                     have HL240_2 := n3_
                     have HL243_2 := n4_
                     have HL244_2 := n5_
                     have HR237_2 := n6_
                     have HR240_2 := n7_
                     have HR243_2 := n8_
                     have HR244_2 := n9_
                     have HB := n10_
                     clear n0_ n1_ n2_ n3_ n4_ n5_ n6_ n7_ n8_ n9_ n10_
                     (try clear hb)
                     (try clear hb2)
                     (try clear hk)
                     (try clear hi)
                     refine hK.out _ _ ⟨HS0_, HS1_, HS2_, HS3_, HS4_, HS5_, HS6_, HS7_⟩ (fun hHeld => ?_)
                     clear hK K
                     refine norm_ (a' := ?_) ?_ ?_
                     rotate_left
                     ·show Act.put _ (some 90) _ = _
                      simp only [Act.put, List.setIfInBounds_toArray, List.set_cons_zero, List.set_cons_succ, i64_w, i32_w]
                      rfl
                     refine pure_ (i := 11) (N := some 79) (v := ?_) (a' := ?_) #[true, true, true, true, true, true, true, true, true, true, true, true, false, false, false, false] rfl rfl (any_of HT_.out (by kernel_rfl)) (fun _ _ _ h => h) (Or.inl ⟨by rfl, ?_⟩) ?_ ?_
                     rotate_left
                     ·intro w'
                      go_simp
                      with_reducible rfl
                     rotate_left
                     ·simp only [Act.put, List.setIfInBounds_toArray, List.set_cons_zero, List.set_cons_succ, i64_w, i32_w]
                      rfl
                     refine pure_ (i := 12) (N := some 91) (v := ?_) (a' := ?_) #[true, true, true, true, true, true, true, true, true, true, true, true, true, false, false, false] rfl rfl (any_of HT_.out (by kernel_rfl)) (fun _ _ _ h => h) (Or.inl ⟨by rfl, ?_⟩) ?_ ?_
                     rotate_left
                     ·intro w'
                      go_simp
                      with_reducible rfl
                     rotate_left
                     ·simp only [Act.put, List.setIfInBounds_toArray, List.set_cons_zero, List.set_cons_succ, i64_w, i32_w]
                      rfl
                     refine pure_ (i := 13) (N := some 92) (v := ?_) (a' := ?_) #[true, true, true, true, true, true, true, true, true, true, true, true, true, true, false, false] rfl rfl (any_of HT_.out (by kernel_rfl)) (fun _ _ _ h => h) (Or.inl ⟨by rfl, ?_⟩) ?_ ?_
                     rotate_left
                     ·intro w'
                      go_simp
                      with_reducible rfl
                     rotate_left
                     ·simp only [Act.put, List.setIfInBounds_toArray, List.set_cons_zero, List.set_cons_succ, i64_w, i32_w]
                      rfl
                     refine pure_ (i := 14) (N := some 14) (v := ?_) (a' := ?_) #[true, true, true, true, true, true, true, true, true, true, true, true, true, true, true, false] rfl rfl (any_of HT_.out (by kernel_rfl)) (fun _ _ _ h => h) (Or.inl ⟨by rfl, ?_⟩) ?_ ?_
                     rotate_left
                     ·intro w'
                      go_simp
                      with_reducible rfl
                     rotate_left
                     ·simp only [Act.put, List.setIfInBounds_toArray, List.set_cons_zero, List.set_cons_succ, i64_w, i32_w]
                      rfl
                     refine pure_ (i := 15) (N := some 15) (v := ?_) (a' := ?_) #[true, true, true, true, true, true, true, true, true, true, true, true, true, true, true, true] rfl rfl (any_of HT_.out (by kernel_rfl)) (fun _ _ _ h => h) (Or.inl ⟨by rfl, ?_⟩) ?_ ?_
                     rotate_left
                     ·intro w'
                      go_simp
                      with_reducible rfl
                     rotate_left
                     ·simp only [Act.put, List.setIfInBounds_toArray, List.set_cons_zero, List.set_cons_succ, i64_w, i32_w]
                      rfl
                     refine done_ (done_of HT_.out (by kernel_rfl)) ?_
                     try go_wp2
                     have n0_ := Aside0.mk (Kd.S_drew HO_5.out)
                     have n1_ := Aside0.mk (Kd.R_drew HO_6.out)
                     have n2_ := Aside0.mk (Kd.R_drew HL237_2.out)
                     have n3_ := Aside0.mk (Kd.R_drew HL240_2.out)
                     have n4_ := Aside0.mk (Kd.R_drew HL243_2.out)
                     have n5_ := Aside0.mk (Kd.R_drew HL244_2.out)
                     have n6_ := Aside0.mk (Kd.C_drew HR237_2.out)
                     have n7_ := Aside0.mk (Kd.C_drew HR240_2.out)
                     have n8_ := Aside0.mk (Kd.C_drew HR243_2.out)
                     have n9_ := Aside0.mk (Kd.C_drew HR244_2.out)
                     have n10_ := Aside0.mk (below_drew1 HB.out)
                     clear HO_5
                     clear HO_6
                     clear HL237_2
                     clear HL240_2
                     clear HL243_2
                     clear HL244_2
                     clear HR237_2
                     clear HR240_2
                     clear HR243_2
                     clear HR244_2
                     clear HB
                     have HO_5 := n0_
                     have HO_6 := n1_
                     have HL237_2 := n2_
                     have HL240_2 := n3_
                     have HL243_2 := n4_
                     have HL244_2 := n5_
                     have HR237_2 := n6_
                     have HR240_2 := n7_
                     have HR243_2 := n8_
                     have HR244_2 := n9_
                     have HB := n10_
                     clear n0_ n1_ n2_ n3_ n4_ n5_ n6_ n7_ n8_ n9_ n10_
                     have p247 : 0 ≤ (x10_1 : Int) := od_
                     have q247 : x10_1 < (t227.length : Int) := od_
                     obtain ⟨ad247, A247_2, c247_2, e247, hx247_0, hx247_1, hx247_2, hx247_3, hl247_2, hi247_2⟩ := at_T36 (Kd.S_reads' HO_5.out).2.2 x10_1 p247 q247
                     obtain rfl : ad237 = ad247 := (by injection e247)
                     obtain ⟨ce247, hce247, hMe247, hcc247⟩ := Kd.S_get HO_5.out z36 x10_1 p247 (by first | exact q247 | exact od_ | (have e_ := (Kd.S_reads' HO_5.out).1; omega))
                     obtain ⟨ve247_2, rfl, ge247_2⟩ := k36_openM hMe247
                     have hv247_2 := hcc247 2 _ rfl
                     rw [add_field _ _ 2 (by omega)] at hv247_2
                     replace hv247_2 := Option.some.inj (hv247_2.symm.trans hx247_2)
                     rw [hv247_2] at ge247_2
                     have HL247_2 := Aside0.mk (show Kd.R (Kd.int .i64) 2 _ _ _ _ ((rd_T36 t227 x10_1).f2) from ge247_2)
                     clear hv247_2 ge247_2
                     clear hcc247 hce247
                     have HR247_2 := Aside0.mk hi247_2
                     have HC247_2 := Aside0.mk hl247_2
                     clear hi247_2 hl247_2
                     replace p247 := eq_true p247
                     replace q247 := eq_true q247
                     have p248 : 0 ≤ (x11_2 : Int) := od_
                     have q248 : x11_2 < (t227.length : Int) := od_
                     obtain ⟨ad248, A248_2, c248_2, e248, hx248_0, hx248_1, hx248_2, hx248_3, hl248_2, hi248_2⟩ := at_T36 (Kd.S_reads' HO_5.out).2.2 x11_2 p248 q248
                     obtain rfl : ad237 = ad248 := (by injection e248)
                     obtain ⟨ce248, hce248, hMe248, hcc248⟩ := Kd.S_get HO_5.out z36 x11_2 p248 (by first | exact q248 | exact od_ | (have e_ := (Kd.S_reads' HO_5.out).1; omega))
                     obtain ⟨ve248_2, rfl, ge248_2⟩ := k36_openM hMe248
                     have hv248_2 := hcc248 2 _ rfl
                     rw [add_field _ _ 2 (by omega)] at hv248_2
                     replace hv248_2 := Option.some.inj (hv248_2.symm.trans hx248_2)
                     rw [hv248_2] at ge248_2
                     have HL248_2 := Aside0.mk (show Kd.R (Kd.int .i64) 2 _ _ _ _ ((rd_T36 t227 x11_2).f2) from ge248_2)
                     clear hv248_2 ge248_2
                     clear hcc248 hce248
                     have HR248_2 := Aside0.mk hi248_2
                     have HC248_2 := Aside0.mk hl248_2
                     clear hi248_2 hl248_2
                     replace p248 := eq_true p248
                     replace q248 := eq_true q248
                     refine start_ (n := 16) (S := fun w' => w'.cell? (ad237.add ((x10_1).toNat * 4)) = some (.int .i64 ((rd_T36 t227 x10_1).f0)) ∧ w'.cell? ⟨(ad237.add ((x10_1).toNat * 4)).block, (ad237.add ((x10_1).toNat * 4)).off + 1, none⟩ = some (.int .i64 ((rd_T36 t227 x10_1).f1)) ∧ w'.cell? ⟨(ad237.add ((x10_1).toNat * 4)).block, (ad237.add ((x10_1).toNat * 4)).off + 2, none⟩ = some (.slice A247_2 ((rd_T36 t227 x10_1).f2).length c247_2) ∧ w'.cell? ⟨(ad237.add ((x10_1).toNat * 4)).block, (ad237.add ((x10_1).toNat * 4)).off + 3, none⟩ = some (.int .i64 ((rd_T36 t227 x10_1).f3)) ∧ w'.cell? (ad237.add ((x11_2).toNat * 4)) = some (.int .i64 ((rd_T36 t227 x11_2).f0)) ∧ w'.cell? ⟨(ad237.add ((x11_2).toNat * 4)).block, (ad237.add ((x11_2).toNat * 4)).off + 1, none⟩ = some (.int .i64 ((rd_T36 t227 x11_2).f1)) ∧ w'.cell? ⟨(ad237.add ((x11_2).toNat * 4)).block, (ad237.add ((x11_2).toNat * 4)).off + 2, none⟩ = some (.slice A248_2 ((rd_T36 t227 x11_2).f2).length c248_2) ∧ w'.cell? ⟨(ad237.add ((x11_2).toNat * 4)).block, (ad237.add ((x11_2).toNat * 4)).off + 3, none⟩ = some (.int .i64 ((rd_T36 t227 x11_2).f3))) (ds := []) #[false, false, false, false, false, false, false, false, false, false, false, false, false, false, false, false] (by kernel_rfl) rfl rfl ⟨hx247_0, hx247_1, hx247_2, hx247_3, hx248_0, hx248_1, hx248_2, hx248_3⟩ (fun hHeld => ?_); refine with_tabW laws_FnLabelsMeet.tab17 laws_FnLabelsMeet.bits17 (fun HT_ HW_ => ?_)
                     generalize w37.drew = w38 at HO_5 HO_6 HL237_2 HL240_2 HL243_2 HL244_2 HR237_2 HR240_2 HR243_2 HR244_2 HB HL247_2 HL248_2 HR247_2 HR248_2 hx247_0 hx247_1 hx247_2 hx247_3 hx248_0 hx248_1 hx248_2 hx248_3 hHeld ⊢
                     refine pure_ (i := 0) (N := some 94) (v := ?_) (a' := ?_) #[true, false, false, false, false, false, false, false, false, false, false, false, false, false, false, false] rfl rfl (any_of HT_.out (by kernel_rfl)) (fun _ _ _ h => h) (Or.inl ⟨by rfl, ?_⟩) ?_ ?_
                     rotate_left
                     ·intro w'
                      go_simp
                      with_reducible rfl
                     rotate_left
                     ·simp only [Act.put, List.setIfInBounds_toArray, List.set_cons_zero, List.set_cons_succ, i64_w, i32_w]
                      rfl
                     refine pure_ (i := 1) (N := some 95) (v := ?_) (a' := ?_) #[true, true, false, false, false, false, false, false, false, false, false, false, false, false, false, false] rfl rfl (any_of HT_.out (by kernel_rfl)) (fun _ _ _ h => h) (Or.inl ⟨by rfl, ?_⟩) ?_ ?_
                     rotate_left
                     ·intro w'
                      go_simp
                      with_reducible rfl
                     rotate_left
                     ·simp only [Act.put, List.setIfInBounds_toArray, List.set_cons_zero, List.set_cons_succ, i64_w, i32_w]
                      rfl
                     refine pure_ (i := 2) (N := some 96) (v := ?_) (a' := ?_) #[true, true, true, false, false, false, false, false, false, false, false, false, false, false, false, false] rfl rfl (any_of HT_.out (by kernel_rfl)) (fun _ _ _ h => h) (Or.inl ⟨by rfl, ?_⟩) ?_ ?_
                     rotate_left
                     ·intro w'
                      go_simp
                      with_reducible rfl
                     rotate_left
                     ·simp only [Act.put, List.setIfInBounds_toArray, List.set_cons_zero, List.set_cons_succ, i64_w, i32_w]
                      rfl
                     refine pure_ (i := 4) (N := some 98) (v := ?_) (a' := ?_) #[true, true, true, false, true, false, false, false, false, false, false, false, false, false, false, false] rfl rfl (any_of HT_.out (by kernel_rfl)) (fun _ _ _ h => h) (Or.inl ⟨by rfl, ?_⟩) ?_ ?_
                     rotate_left
                     ·intro w'
                      go_simp
                      with_reducible rfl
                     rotate_left
                     ·simp only [Act.put, List.setIfInBounds_toArray, List.set_cons_zero, List.set_cons_succ, i64_w, i32_w]
                      rfl
                     refine pure_ (i := 5) (N := some 99) (v := ?_) (a' := ?_) #[true, true, true, false, true, true, false, false, false, false, false, false, false, false, false, false] rfl rfl (any_of HT_.out (by kernel_rfl)) (fun _ _ _ h => h) (Or.inl ⟨by rfl, ?_⟩) ?_ ?_
                     rotate_left
                     ·intro w'
                      go_simp
                      with_reducible rfl
                     rotate_left
                     ·simp only [Act.put, List.setIfInBounds_toArray, List.set_cons_zero, List.set_cons_succ, i64_w, i32_w]
                      rfl
                     refine pure_ (i := 6) (N := some 100) (v := ?_) (a' := ?_) #[true, true, true, false, true, true, true, false, false, false, false, false, false, false, false, false] rfl rfl (any_of HT_.out (by kernel_rfl)) (fun _ _ _ h => h) (Or.inl ⟨by rfl, ?_⟩) ?_ ?_
                     rotate_left
                     ·intro w'
                      go_simp
                      with_reducible rfl
                     rotate_left
                     ·simp only [Act.put, List.setIfInBounds_toArray, List.set_cons_zero, List.set_cons_succ, i64_w, i32_w]
                      rfl
                     refine pure_ (i := 8) (N := some 102) (v := ?_) (a' := ?_) #[true, true, true, false, true, true, true, false, true, false, false, false, false, false, false, false] rfl rfl (any_of HT_.out (by kernel_rfl)) (fun _ _ _ h => h) (Or.inl ⟨by rfl, ?_⟩) ?_ ?_
                     rotate_left
                     ·intro w'
                      go_simp
                      with_reducible rfl
                     rotate_left
                     ·simp only [Act.put, List.setIfInBounds_toArray, List.set_cons_zero, List.set_cons_succ, i64_w, i32_w]
                      rfl
                     refine pure_ (i := 9) (N := some 103) (v := ?_) (a' := ?_) #[true, true, true, false, true, true, true, false, true, true, false, false, false, false, false, false] rfl rfl (any_of HT_.out (by kernel_rfl)) (fun _ _ _ h => h) (Or.inl ⟨by rfl, ?_⟩) ?_ ?_
                     rotate_left
                     ·intro w'
                      go_simp
                      with_reducible rfl
                     rotate_left
                     ·simp only [Act.put, List.setIfInBounds_toArray, List.set_cons_zero, List.set_cons_succ, i64_w, i32_w]
                      rfl
                     refine take_ (i := 3) (N := some 97) (v := ?_) (a' := ?_) #[true, true, true, true, true, true, true, false, true, true, false, false, false, false, false, false] rfl rfl (take_ofW HT_.out HW_.out (by kernel_rfl)) (fun _ _ _ h => h) (Or.inl ⟨by rfl, ?_⟩) hHeld ?_ ?_
                     rotate_left
                     ·rintro w' ⟨s0, s1, s2, s3, s4, s5, s6, s7⟩
                      go_simp
                      with_reducible rfl
                     rotate_left
                     ·simp only [Act.put, List.setIfInBounds_toArray, List.set_cons_zero, List.set_cons_succ, i64_w, i32_w]
                      rfl
                     refine take_ (i := 7) (N := some 101) (v := ?_) (a' := ?_) #[true, true, true, true, true, true, true, true, true, true, false, false, false, false, false, false] rfl rfl (take_ofW HT_.out HW_.out (by kernel_rfl)) (fun _ _ _ h => h) (Or.inl ⟨by rfl, ?_⟩) hHeld ?_ ?_
                     rotate_left
                     ·rintro w' ⟨s0, s1, s2, s3, s4, s5, s6, s7⟩
                      go_simp
                      with_reducible rfl
                     rotate_left
                     ·simp only [Act.put, List.setIfInBounds_toArray, List.set_cons_zero, List.set_cons_succ, i64_w, i32_w]
                      rfl
                     refine one_ (i := 10) (N := some 104) #[true, true, true, true, true, true, true, true, true, true, true, false, false, false, false, false] rfl rfl (one_of HT_.out (by kernel_rfl)) (by decide) (fun K hK => ?_)
                     refine goes_ Try.func26 (by kernel_rfl) rfl #[.agg #[.int .i64 ((rd_T36 t227 x10_1).f0), .int .i64 ((rd_T36 t227 x10_1).f1), .slice A247_2 ((rd_T36 t227 x10_1).f2).length c247_2, .int .i64 ((rd_T36 t227 x10_1).f3)], .agg #[.int .i64 ((rd_T36 t227 x11_2).f0), .int .i64 ((rd_T36 t227 x11_2).f1), .slice A248_2 ((rd_T36 t227 x11_2).f2).length c248_2, .int .i64 ((rd_T36 t227 x11_2).f3)], .int .i64 (rd ((rd_T36 t227 x10_1).f2) (rd t230 x10_1)), .int .i64 (rd ((rd_T36 t227 x11_2).f2) (rd t230 x11_2))] (by rfl) rfl rfl (by (try simp only [List.map_toArray, List.map_cons, List.map_nil]); first | done | rfl | (simp only [List.length_drop, List.length_take]; rfl)) ?_
                     with_reducible refine (impl_LabelsMeet.calls kj14 ((rd_T36 t227 x10_1).f0) ((rd_T36 t227 x10_1).f1) _ _ ((rd_T36 t227 x10_1).f2) ((rd_T36 t227 x10_1).f3) ((rd_T36 t227 x11_2).f0) ((rd_T36 t227 x11_2).f1) _ _ ((rd_T36 t227 x11_2).f2) ((rd_T36 t227 x11_2).f3) (rd ((rd_T36 t227 x10_1).f2) (rd t230 x10_1)) (rd ((rd_T36 t227 x11_2).f2) (rd t230 x11_2)) t249 t250 _ ?side1 ?side2 ?side3 ?side4 A33.out).mono ?_
                     (case side1 => repeat (first | exact (by repeat (first | (with_reducible exact HR247_2.out) | (with_reducible refine Kd.C_alloc ?_ _) | (with_reducible refine Kd.C_drewN ?_ _) | (with_reducible refine Kd.C_drew ?_) | exact HR247_2.out)) | (with_reducible refine Kd.C_alloc ?_ _) | (with_reducible refine Kd.C_drewN ?_ _) | (with_reducible refine Kd.C_drew ?_)))
                     (case side2 => exact HC247_2.out)
                     (case side3 => repeat (first | exact (by repeat (first | (with_reducible exact HR248_2.out) | (with_reducible refine Kd.C_alloc ?_ _) | (with_reducible refine Kd.C_drewN ?_ _) | (with_reducible refine Kd.C_drew ?_) | exact HR248_2.out)) | (with_reducible refine Kd.C_alloc ?_ _) | (with_reducible refine Kd.C_drewN ?_ _) | (with_reducible refine Kd.C_drew ?_)))
                     (case side4 => exact HC248_2.out)
                     rintro e w39 ⟨rfl, hb⟩
                     have HS0_ := (hb.cell (World.block_lt_of_cell? _ _ (hHeld.1))).trans (hHeld.1)
                     have HS1_ := (hb.cell (World.block_lt_of_cell? _ _ (hHeld.2.1))).trans (hHeld.2.1)
                     have HS2_ := (hb.cell (World.block_lt_of_cell? _ _ (hHeld.2.2.1))).trans (hHeld.2.2.1)
                     have HS3_ := (hb.cell (World.block_lt_of_cell? _ _ (hHeld.2.2.2.1))).trans (hHeld.2.2.2.1)
                     have HS4_ := (hb.cell (World.block_lt_of_cell? _ _ (hHeld.2.2.2.2.1))).trans (hHeld.2.2.2.2.1)
                     have HS5_ := (hb.cell (World.block_lt_of_cell? _ _ (hHeld.2.2.2.2.2.1))).trans (hHeld.2.2.2.2.2.1)
                     have HS6_ := (hb.cell (World.block_lt_of_cell? _ _ (hHeld.2.2.2.2.2.2.1))).trans (hHeld.2.2.2.2.2.2.1)
                     have HS7_ := (hb.cell (World.block_lt_of_cell? _ _ (hHeld.2.2.2.2.2.2.2))).trans (hHeld.2.2.2.2.2.2.2)
                     refine ⟨_, rfl, ?_⟩
                     have n0_ := Aside0.mk (Kd.S_below (by (with_reducible repeat (first | apply Kd.S_alloc | apply Kd.S_drewN | apply Kd.S_drew)); exact HO_5.out) hb)
                     have n1_ := Aside0.mk (Kd.R_below (by (with_reducible repeat (first | apply Kd.R_alloc | apply Kd.R_drewN | apply Kd.R_drew)); exact HO_6.out) hb)
                     have n2_ := Aside0.mk (Kd.R_below (by (with_reducible repeat (first | apply Kd.R_alloc | apply Kd.R_drewN | apply Kd.R_drew)); exact HL237_2.out) hb)
                     have n3_ := Aside0.mk (Kd.R_below (by (with_reducible repeat (first | apply Kd.R_alloc | apply Kd.R_drewN | apply Kd.R_drew)); exact HL240_2.out) hb)
                     have n4_ := Aside0.mk (Kd.R_below (by (with_reducible repeat (first | apply Kd.R_alloc | apply Kd.R_drewN | apply Kd.R_drew)); exact HL243_2.out) hb)
                     have n5_ := Aside0.mk (Kd.R_below (by (with_reducible repeat (first | apply Kd.R_alloc | apply Kd.R_drewN | apply Kd.R_drew)); exact HL244_2.out) hb)
                     have n6_ := Aside0.mk (Kd.R_below (by (with_reducible repeat (first | apply Kd.R_alloc | apply Kd.R_drewN | apply Kd.R_drew)); exact HL247_2.out) hb)
                     have n7_ := Aside0.mk (Kd.R_below (by (with_reducible repeat (first | apply Kd.R_alloc | apply Kd.R_drewN | apply Kd.R_drew)); exact HL248_2.out) hb)
                     have n8_ := Aside0.mk (Kd.C_below (by repeat (first | (with_reducible exact HR237_2.out) | (with_reducible refine Kd.C_alloc ?_ _) | (with_reducible refine Kd.C_drewN ?_ _) | (with_reducible refine Kd.C_drew ?_) | exact HR237_2.out)) hb)
                     have n9_ := Aside0.mk (Kd.C_below (by repeat (first | (with_reducible exact HR240_2.out) | (with_reducible refine Kd.C_alloc ?_ _) | (with_reducible refine Kd.C_drewN ?_ _) | (with_reducible refine Kd.C_drew ?_) | exact HR240_2.out)) hb)
                     have n10_ := Aside0.mk (Kd.C_below (by repeat (first | (with_reducible exact HR243_2.out) | (with_reducible refine Kd.C_alloc ?_ _) | (with_reducible refine Kd.C_drewN ?_ _) | (with_reducible refine Kd.C_drew ?_) | exact HR243_2.out)) hb)
                     have n11_ := Aside0.mk (Kd.C_below (by repeat (first | (with_reducible exact HR244_2.out) | (with_reducible refine Kd.C_alloc ?_ _) | (with_reducible refine Kd.C_drewN ?_ _) | (with_reducible refine Kd.C_drew ?_) | exact HR244_2.out)) hb)
                     have n12_ := Aside0.mk (Kd.C_below (by repeat (first | (with_reducible exact HR247_2.out) | (with_reducible refine Kd.C_alloc ?_ _) | (with_reducible refine Kd.C_drewN ?_ _) | (with_reducible refine Kd.C_drew ?_) | exact HR247_2.out)) hb)
                     have n13_ := Aside0.mk (Kd.C_below (by repeat (first | (with_reducible exact HR248_2.out) | (with_reducible refine Kd.C_alloc ?_ _) | (with_reducible refine Kd.C_drewN ?_ _) | (with_reducible refine Kd.C_drew ?_) | exact HR248_2.out)) hb)
                     have n14_ := Aside0.mk (below_step (by repeat (first | (with_reducible first | exact HB.out | apply below_alloc | apply pw_below_drewN | apply below_drew1) | exact HB.out)) hb)
                     clear HO_5
                     clear HO_6
                     clear HL237_2
                     clear HL240_2
                     clear HL243_2
                     clear HL244_2
                     clear HL247_2
                     clear HL248_2
                     clear HR237_2
                     clear HR240_2
                     clear HR243_2
                     clear HR244_2
                     clear HR247_2
                     clear HR248_2
                     clear HB
                     have HO_5 := n0_
                     have HO_6 := n1_
                     have HL237_2 := n2_
                     have HL240_2 := n3_
                     have HL243_2 := n4_
                     have HL244_2 := n5_
                     have HL247_2 := n6_
                     have HL248_2 := n7_
                     have HR237_2 := n8_
                     have HR240_2 := n9_
                     have HR243_2 := n10_
                     have HR244_2 := n11_
                     have HR247_2 := n12_
                     have HR248_2 := n13_
                     have HB := n14_
                     clear n0_ n1_ n2_ n3_ n4_ n5_ n6_ n7_ n8_ n9_ n10_ n11_ n12_ n13_ n14_
                     (try clear hb)
                     (try clear hb2)
                     (try clear hk)
                     (try clear hi)
                     refine hK.out _ _ ⟨HS0_, HS1_, HS2_, HS3_, HS4_, HS5_, HS6_, HS7_⟩ (fun hHeld => ?_)
                     clear hK K
                     refine norm_ (a' := ?_) ?_ ?_
                     rotate_left
                     ·show Act.put _ (some 104) _ = _
                      simp only [Act.put, List.setIfInBounds_toArray, List.set_cons_zero, List.set_cons_succ, i64_w, i32_w]
                      rfl
                     refine pure_ (i := 11) (N := some 93) (v := ?_) (a' := ?_) #[true, true, true, true, true, true, true, true, true, true, true, true, false, false, false, false] rfl rfl (any_of HT_.out (by kernel_rfl)) (fun _ _ _ h => h) (Or.inl ⟨by rfl, ?_⟩) ?_ ?_
                     rotate_left
                     ·intro w'
                      go_simp
                      with_reducible rfl
                     rotate_left
                     ·simp only [Act.put, List.setIfInBounds_toArray, List.set_cons_zero, List.set_cons_succ, i64_w, i32_w]
                      rfl
                     refine pure_ (i := 12) (N := some 105) (v := ?_) (a' := ?_) #[true, true, true, true, true, true, true, true, true, true, true, true, true, false, false, false] rfl rfl (any_of HT_.out (by kernel_rfl)) (fun _ _ _ h => h) (Or.inl ⟨by rfl, ?_⟩) ?_ ?_
                     rotate_left
                     ·intro w'
                      go_simp
                      with_reducible rfl
                     rotate_left
                     ·simp only [Act.put, List.setIfInBounds_toArray, List.set_cons_zero, List.set_cons_succ, i64_w, i32_w]
                      rfl
                     refine pure_ (i := 13) (N := some 106) (v := ?_) (a' := ?_) #[true, true, true, true, true, true, true, true, true, true, true, true, true, true, false, false] rfl rfl (any_of HT_.out (by kernel_rfl)) (fun _ _ _ h => h) (Or.inl ⟨by rfl, ?_⟩) ?_ ?_
                     rotate_left
                     ·intro w'
                      go_simp
                      with_reducible rfl
                     rotate_left
                     ·simp only [Act.put, List.setIfInBounds_toArray, List.set_cons_zero, List.set_cons_succ, i64_w, i32_w]
                      rfl
                     refine pure_ (i := 14) (N := some 16) (v := ?_) (a' := ?_) #[true, true, true, true, true, true, true, true, true, true, true, true, true, true, true, false] rfl rfl (any_of HT_.out (by kernel_rfl)) (fun _ _ _ h => h) (Or.inl ⟨by rfl, ?_⟩) ?_ ?_
                     rotate_left
                     ·intro w'
                      go_simp
                      with_reducible rfl
                     rotate_left
                     ·simp only [Act.put, List.setIfInBounds_toArray, List.set_cons_zero, List.set_cons_succ, i64_w, i32_w]
                      rfl
                     refine pure_ (i := 15) (N := some 17) (v := ?_) (a' := ?_) #[true, true, true, true, true, true, true, true, true, true, true, true, true, true, true, true] rfl rfl (any_of HT_.out (by kernel_rfl)) (fun _ _ _ h => h) (Or.inl ⟨by rfl, ?_⟩) ?_ ?_
                     rotate_left
                     ·intro w'
                      go_simp
                      with_reducible rfl
                     rotate_left
                     ·simp only [Act.put, List.setIfInBounds_toArray, List.set_cons_zero, List.set_cons_succ, i64_w, i32_w]
                      rfl
                     refine done_ (done_of HT_.out (by kernel_rfl)) ?_
                     try go_wp2
                     go_loopg [18, 19] kj14 (fun kq v18 v19 w' => ∃ (x18_4 : Bool) (x19_4 : Int), v18 = .bool x18_4 ∧ v19 = .int .i64 x19_4 ∧ Aside0 (laws_FnLabelsMeet.l2 kq t227 t230 t233 t234 x9_2 x10_1 x11_2 (rd ((rd_T36 t227 x11_2).f2) (rd t230 x11_2)) (rd ((rd_T36 t227 x10_1).f2) (rd t230 x10_1)) t245 t246 t249 t250 x18_4 x19_4 = some r) ∧ Aside0 (kq ≤ kj14) ∧ Aside0 (Kd.S k36 36 w' w.heap.size (fun k_ => some k_ ≠ ((.slice (some ad238) t230.length co11) : Value).ownBlock) (.slice (some ad237) t227.length co9) t227) ∧ Aside0 (Kd.R (Kd.int .i64) 2 w' w.heap.size (fun _ => True) (.slice (some ad238) t230.length co11) t230) ∧ Aside0 (Kd.C (Kd.int .i64) w' (some ad239) ((rd_T36 t227 x11_2).f2).length ((rd_T36 t227 x11_2).f2)) ∧ Aside0 (Kd.C (Kd.int .i64) w' (some ad242) ((rd_T36 t227 x10_1).f2).length ((rd_T36 t227 x10_1).f2)) ∧ Aside0 (Kd.C (Kd.int .i64) w' A243_2 ((rd_T36 t227 x11_2).f2).length ((rd_T36 t227 x11_2).f2)) ∧ Aside0 (Kd.C (Kd.int .i64) w' A244_2 ((rd_T36 t227 x10_1).f2).length ((rd_T36 t227 x10_1).f2)) ∧ Aside0 (Kd.C (Kd.int .i64) w' A247_2 ((rd_T36 t227 x10_1).f2).length ((rd_T36 t227 x10_1).f2)) ∧ Aside0 (Kd.C (Kd.int .i64) w' A248_2 ((rd_T36 t227 x11_2).f2).length ((rd_T36 t227 x11_2).f2)) ∧ Aside0 (Below w.heap.size w w'))
                     case atStart => exact ⟨(false), (rd ((rd_T36 t227 x11_2).f2) (rd t230 x11_2)), (by first | rfl | (simp; done) | (simp [*]; done)), (by first | rfl | (simp; done) | (simp [*]; done)), H', ⟨Nat.le_refl _⟩, ⟨by (with_reducible repeat (first | apply Kd.S_alloc | apply Kd.S_drewN | apply Kd.S_drew)); exact HO_5.out⟩, ⟨by (with_reducible repeat (first | apply Kd.R_alloc | apply Kd.R_drewN | apply Kd.R_drew)); exact HO_6.out⟩, ⟨by repeat (first | (with_reducible exact HR237_2.out) | (with_reducible refine Kd.C_alloc ?_ _) | (with_reducible refine Kd.C_drewN ?_ _) | (with_reducible refine Kd.C_drew ?_) | exact HR237_2.out)⟩, ⟨by repeat (first | (with_reducible exact HR240_2.out) | (with_reducible refine Kd.C_alloc ?_ _) | (with_reducible refine Kd.C_drewN ?_ _) | (with_reducible refine Kd.C_drew ?_) | exact HR240_2.out)⟩, ⟨by repeat (first | (with_reducible exact HR243_2.out) | (with_reducible refine Kd.C_alloc ?_ _) | (with_reducible refine Kd.C_drewN ?_ _) | (with_reducible refine Kd.C_drew ?_) | exact HR243_2.out)⟩, ⟨by repeat (first | (with_reducible exact HR244_2.out) | (with_reducible refine Kd.C_alloc ?_ _) | (with_reducible refine Kd.C_drewN ?_ _) | (with_reducible refine Kd.C_drew ?_) | exact HR244_2.out)⟩, ⟨by repeat (first | (with_reducible exact HR247_2.out) | (with_reducible refine Kd.C_alloc ?_ _) | (with_reducible refine Kd.C_drewN ?_ _) | (with_reducible refine Kd.C_drew ?_) | exact HR247_2.out)⟩, ⟨by repeat (first | (with_reducible exact HR248_2.out) | (with_reducible refine Kd.C_alloc ?_ _) | (with_reducible refine Kd.C_drewN ?_ _) | (with_reducible refine Kd.C_drew ?_) | exact HR248_2.out)⟩, ⟨by repeat (first | (with_reducible first | exact HB.out | apply below_alloc | apply pw_below_drewN | apply below_drew1) | exact HB.out)⟩⟩
                     case round =>
                      clear H'
                      try clear c2
                      try clear p2
                      try clear q2
                      try clear hx2
                      try clear c24
                      try clear p24
                      try clear q24
                      try clear hx24
                      try clear c26
                      try clear hx243_0
                      try clear hx243_1
                      try clear hx243_2
                      try clear hx243_3
                      try clear hx244_0
                      try clear hx244_1
                      try clear hx244_2
                      try clear hx244_3
                      try clear hx247_0
                      try clear hx247_1
                      try clear hx247_2
                      try clear hx247_3
                      try clear hx248_0
                      try clear hx248_1
                      try clear hx248_2
                      try clear hx248_3
                      try clear p243
                      try clear p244
                      try clear p247
                      try clear p248
                      try clear q243
                      try clear q244
                      try clear q247
                      try clear q248
                      obtain ⟨x18_4, x19_4, rfl, rfl, HA, HK4, HO_5, HO_6, HR237_2, HR240_2, HR243_2, HR244_2, HR247_2, HR248_2, HB⟩ := hrel
                      cases gk with
                      | zero => exact absurd HA.out (by simp [laws_FnLabelsMeet.l2])
                      | succ k4 =>
                       have H := HA.out
                       clear HA
                       simp only [laws_FnLabelsMeet.l2] at H
                       by_cases c40 : 0 ≤ x11_2
                       ·rw [if_pos c40] at H
                        have c40b0 : decide (0 ≤ x11_2) = true := decide_eq_true c40
                        clear c40
                        by_cases c41 : x11_2 < (t227.length : Int)
                        ·rw [if_pos c41] at H
                         have c41b0 : decide (x11_2 < (t227.length : Int)) = true := decide_eq_true c41
                         clear c41
                         by_cases c42 : x19_4 < (wrap64 ((rd ((rd_T36 t227 x11_2).f2) (rd t230 x11_2)) + ((rd_T36 t227 x11_2).f1)))
                         ·rw [if_pos c42] at H
                          have c42b0 : decide (x19_4 < (wrap64 ((rd ((rd_T36 t227 x11_2).f2) (rd t230 x11_2)) + ((rd_T36 t227 x11_2).f1)))) = true := decide_eq_true c42
                          clear c42
                          by_cases c43 : x18_4 = true
                          ·subst c43
                           have H1 : (laws_FnLabelsMeet.l2 k4 t227 t230 t233 t234 x9_2 x10_1 x11_2 (rd ((rd_T36 t227 x11_2).f2) (rd t230 x11_2)) (rd ((rd_T36 t227 x10_1).f2) (rd t230 x10_1)) t245 t246 t249 t250 true (wrap64 (x19_4 + 1))) = some r := by rw [if_pos rfl] at H; exact H
                           clear H
                           have H := H1
                           clear H1
                           have H' := Aside0.mk H
                           clear H
                           have p251 : 0 ≤ (x11_2 : Int) := od_
                           have q251 : x11_2 < (t227.length : Int) := od_
                           obtain ⟨ad251, A251_2, c251_2, e251, hx251_0, hx251_1, hx251_2, hx251_3, hl251_2, hi251_2⟩ := at_T36 (Kd.S_reads' HO_5.out).2.2 x11_2 p251 q251
                           obtain rfl : ad237 = ad251 := (by injection e251)
                           obtain ⟨ce251, hce251, hMe251, hcc251⟩ := Kd.S_get HO_5.out z36 x11_2 p251 (by first | exact q251 | exact od_ | (have e_ := (Kd.S_reads' HO_5.out).1; omega))
                           obtain ⟨ve251_2, rfl, ge251_2⟩ := k36_openM hMe251
                           have hv251_2 := hcc251 2 _ rfl
                           rw [add_field _ _ 2 (by omega)] at hv251_2
                           replace hv251_2 := Option.some.inj (hv251_2.symm.trans hx251_2)
                           rw [hv251_2] at ge251_2
                           have HL251_2 := Aside0.mk (show Kd.R (Kd.int .i64) 2 _ _ _ _ ((rd_T36 t227 x11_2).f2) from ge251_2)
                           clear hv251_2 ge251_2
                           clear hcc251 hce251
                           have HR251_2 := Aside0.mk hi251_2
                           have HC251_2 := Aside0.mk hl251_2
                           clear hi251_2 hl251_2
                           replace p251 := eq_true p251
                           replace q251 := eq_true q251
                           try go_wp2
                           have n0_ := Aside0.mk (Kd.S_drew HO_5.out)
                           have n1_ := Aside0.mk (Kd.R_drew HO_6.out)
                           have n2_ := Aside0.mk (Kd.R_drew HL251_2.out)
                           have n3_ := Aside0.mk (Kd.C_drew HR237_2.out)
                           have n4_ := Aside0.mk (Kd.C_drew HR240_2.out)
                           have n5_ := Aside0.mk (Kd.C_drew HR243_2.out)
                           have n6_ := Aside0.mk (Kd.C_drew HR244_2.out)
                           have n7_ := Aside0.mk (Kd.C_drew HR247_2.out)
                           have n8_ := Aside0.mk (Kd.C_drew HR248_2.out)
                           have n9_ := Aside0.mk (Kd.C_drew HR251_2.out)
                           have n10_ := Aside0.mk (below_drew1 HB.out)
                           clear HO_5
                           clear HO_6
                           clear HL251_2
                           clear HR237_2
                           clear HR240_2
                           clear HR243_2
                           clear HR244_2
                           clear HR247_2
                           clear HR248_2
                           clear HR251_2
                           clear HB
                           have HO_5 := n0_
                           have HO_6 := n1_
                           have HL251_2 := n2_
                           have HR237_2 := n3_
                           have HR240_2 := n4_
                           have HR243_2 := n5_
                           have HR244_2 := n6_
                           have HR247_2 := n7_
                           have HR248_2 := n8_
                           have HR251_2 := n9_
                           have HB := n10_
                           clear n0_ n1_ n2_ n3_ n4_ n5_ n6_ n7_ n8_ n9_ n10_
                           refine start_ (n := 31) (S := fun w' => True) (ds := []) #[false, false, false, false, false, false, false, false, false, false, false, false, false, false, false, false, false, false, false, false, false, false, false, false, false, false, false, false, false, false, false] (by kernel_rfl) rfl rfl trivial (fun hHeld => ?_); refine with_tabW laws_FnLabelsMeet.tab22 laws_FnLabelsMeet.bits22 (fun HT_ HW_ => ?_)
                           generalize wr.drew = w44 at HO_5 HO_6 HL251_2 HR237_2 HR240_2 HR243_2 HR244_2 HR247_2 HR248_2 HR251_2 HB hHeld ⊢
                           refine pure_ (i := 0) (N := some 119) (v := ?_) (a' := ?_) #[true, false, false, false, false, false, false, false, false, false, false, false, false, false, false, false, false, false, false, false, false, false, false, false, false, false, false, false, false, false, false] rfl rfl (any_of HT_.out (by kernel_rfl)) (fun _ _ _ h => h) (Or.inl ⟨by rfl, ?_⟩) ?_ ?_
                           rotate_left
                           ·intro w'
                            go_simp
                            with_reducible rfl
                           rotate_left
                           ·simp only [Act.put, List.setIfInBounds_toArray, List.set_cons_zero, List.set_cons_succ, i64_w, i32_w]
                            rfl
                           refine pure_ (i := 1) (N := some 120) (v := ?_) (a' := ?_) #[true, true, false, false, false, false, false, false, false, false, false, false, false, false, false, false, false, false, false, false, false, false, false, false, false, false, false, false, false, false, false] rfl rfl (any_of HT_.out (by kernel_rfl)) (fun _ _ _ h => h) (Or.inl ⟨by rfl, ?_⟩) ?_ ?_
                           rotate_left
                           ·intro w'
                            go_simp
                            with_reducible rfl
                           rotate_left
                           ·simp only [Act.put, List.setIfInBounds_toArray, List.set_cons_zero, List.set_cons_succ, i64_w, i32_w]
                            rfl
                           refine pure_ (i := 2) (N := some 121) (v := undef) (a' := ?_) #[true, true, true, false, false, false, false, false, false, false, false, false, false, false, false, false, false, false, false, false, false, false, false, false, false, false, false, false, false, false, false] rfl rfl (any_of HT_.out (by kernel_rfl)) (fun _ _ _ h => h) (Or.inr ⟨by rfl, rfl⟩) ?_ ?_
                           rotate_left
                           ·simp only [Act.put, List.setIfInBounds_toArray, List.set_cons_zero, List.set_cons_succ, i64_w, i32_w]
                            rfl
                           refine pure_ (i := 3) (N := some 122) (v := undef) (a' := ?_) #[true, true, true, true, false, false, false, false, false, false, false, false, false, false, false, false, false, false, false, false, false, false, false, false, false, false, false, false, false, false, false] rfl rfl (any_of HT_.out (by kernel_rfl)) (fun _ _ _ h => h) (Or.inr ⟨by rfl, rfl⟩) ?_ ?_
                           rotate_left
                           ·simp only [Act.put, List.setIfInBounds_toArray, List.set_cons_zero, List.set_cons_succ, i64_w, i32_w]
                            rfl
                           refine pure_ (i := 4) (N := some 123) (v := undef) (a' := ?_) #[true, true, true, true, true, false, false, false, false, false, false, false, false, false, false, false, false, false, false, false, false, false, false, false, false, false, false, false, false, false, false] rfl rfl (any_of HT_.out (by kernel_rfl)) (fun _ _ _ h => h) (Or.inr ⟨by rfl, rfl⟩) ?_ ?_
                           rotate_left
                           ·simp only [Act.put, List.setIfInBounds_toArray, List.set_cons_zero, List.set_cons_succ, i64_w, i32_w]
                            rfl
                           refine pure_ (i := 5) (N := some 124) (v := undef) (a' := ?_) #[true, true, true, true, true, true, false, false, false, false, false, false, false, false, false, false, false, false, false, false, false, false, false, false, false, false, false, false, false, false, false] rfl rfl (any_of HT_.out (by kernel_rfl)) (fun _ _ _ h => h) (Or.inr ⟨by rfl, rfl⟩) ?_ ?_
                           rotate_left
                           ·simp only [Act.put, List.setIfInBounds_toArray, List.set_cons_zero, List.set_cons_succ, i64_w, i32_w]
                            rfl
                           refine pure_ (i := 6) (N := some 125) (v := undef) (a' := ?_) #[true, true, true, true, true, true, true, false, false, false, false, false, false, false, false, false, false, false, false, false, false, false, false, false, false, false, false, false, false, false, false] rfl rfl (any_of HT_.out (by kernel_rfl)) (fun _ _ _ h => h) (Or.inr ⟨by rfl, rfl⟩) ?_ ?_
                           rotate_left
                           ·simp only [Act.put, List.setIfInBounds_toArray, List.set_cons_zero, List.set_cons_succ, i64_w, i32_w]
                            rfl
                           refine pure_ (i := 7) (N := some 126) (v := undef) (a' := ?_) #[true, true, true, true, true, true, true, true, false, false, false, false, false, false, false, false, false, false, false, false, false, false, false, false, false, false, false, false, false, false, false] rfl rfl (any_of HT_.out (by kernel_rfl)) (fun _ _ _ h => h) (Or.inr ⟨by rfl, rfl⟩) ?_ ?_
                           rotate_left
                           ·simp only [Act.put, List.setIfInBounds_toArray, List.set_cons_zero, List.set_cons_succ, i64_w, i32_w]
                            rfl
                           refine pure_ (i := 8) (N := some 127) (v := undef) (a' := ?_) #[true, true, true, true, true, true, true, true, true, false, false, false, false, false, false, false, false, false, false, false, false, false, false, false, false, false, false, false, false, false, false] rfl rfl (any_of HT_.out (by kernel_rfl)) (fun _ _ _ h => h) (Or.inr ⟨by rfl, rfl⟩) ?_ ?_
                           rotate_left
                           ·simp only [Act.put, List.setIfInBounds_toArray, List.set_cons_zero, List.set_cons_succ, i64_w, i32_w]
                            rfl
                           refine pure_ (i := 9) (N := some 128) (v := undef) (a' := ?_) #[true, true, true, true, true, true, true, true, true, true, false, false, false, false, false, false, false, false, false, false, false, false, false, false, false, false, false, false, false, false, false] rfl rfl (any_of HT_.out (by kernel_rfl)) (fun _ _ _ h => h) (Or.inr ⟨by rfl, rfl⟩) ?_ ?_
                           rotate_left
                           ·simp only [Act.put, List.setIfInBounds_toArray, List.set_cons_zero, List.set_cons_succ, i64_w, i32_w]
                            rfl
                           refine pure_ (i := 10) (N := some 129) (v := undef) (a' := ?_) #[true, true, true, true, true, true, true, true, true, true, true, false, false, false, false, false, false, false, false, false, false, false, false, false, false, false, false, false, false, false, false] rfl rfl (any_of HT_.out (by kernel_rfl)) (fun _ _ _ h => h) (Or.inr ⟨by rfl, rfl⟩) ?_ ?_
                           rotate_left
                           ·simp only [Act.put, List.setIfInBounds_toArray, List.set_cons_zero, List.set_cons_succ, i64_w, i32_w]
                            rfl
                           refine pure_ (i := 11) (N := some 130) (v := undef) (a' := ?_) #[true, true, true, true, true, true, true, true, true, true, true, true, false, false, false, false, false, false, false, false, false, false, false, false, false, false, false, false, false, false, false] rfl rfl (any_of HT_.out (by kernel_rfl)) (fun _ _ _ h => h) (Or.inr ⟨by rfl, rfl⟩) ?_ ?_
                           rotate_left
                           ·simp only [Act.put, List.setIfInBounds_toArray, List.set_cons_zero, List.set_cons_succ, i64_w, i32_w]
                            rfl
                           refine pure_ (i := 12) (N := some 131) (v := undef) (a' := ?_) #[true, true, true, true, true, true, true, true, true, true, true, true, true, false, false, false, false, false, false, false, false, false, false, false, false, false, false, false, false, false, false] rfl rfl (any_of HT_.out (by kernel_rfl)) (fun _ _ _ h => h) (Or.inr ⟨by rfl, rfl⟩) ?_ ?_
                           rotate_left
                           ·simp only [Act.put, List.setIfInBounds_toArray, List.set_cons_zero, List.set_cons_succ, i64_w, i32_w]
                            rfl
                           refine pure_ (i := 13) (N := some 132) (v := undef) (a' := ?_) #[true, true, true, true, true, true, true, true, true, true, true, true, true, true, false, false, false, false, false, false, false, false, false, false, false, false, false, false, false, false, false] rfl rfl (any_of HT_.out (by kernel_rfl)) (fun _ _ _ h => h) (Or.inr ⟨by rfl, rfl⟩) ?_ ?_
                           rotate_left
                           ·simp only [Act.put, List.setIfInBounds_toArray, List.set_cons_zero, List.set_cons_succ, i64_w, i32_w]
                            rfl
                           refine pure_ (i := 14) (N := some 133) (v := undef) (a' := ?_) #[true, true, true, true, true, true, true, true, true, true, true, true, true, true, true, false, false, false, false, false, false, false, false, false, false, false, false, false, false, false, false] rfl rfl (any_of HT_.out (by kernel_rfl)) (fun _ _ _ h => h) (Or.inr ⟨by rfl, rfl⟩) ?_ ?_
                           rotate_left
                           ·simp only [Act.put, List.setIfInBounds_toArray, List.set_cons_zero, List.set_cons_succ, i64_w, i32_w]
                            rfl
                           refine pure_ (i := 15) (N := some 134) (v := undef) (a' := ?_) #[true, true, true, true, true, true, true, true, true, true, true, true, true, true, true, true, false, false, false, false, false, false, false, false, false, false, false, false, false, false, false] rfl rfl (any_of HT_.out (by kernel_rfl)) (fun _ _ _ h => h) (Or.inr ⟨by rfl, rfl⟩) ?_ ?_
                           rotate_left
                           ·simp only [Act.put, List.setIfInBounds_toArray, List.set_cons_zero, List.set_cons_succ, i64_w, i32_w]
                            rfl
                           refine pure_ (i := 16) (N := some 135) (v := undef) (a' := ?_) #[true, true, true, true, true, true, true, true, true, true, true, true, true, true, true, true, true, false, false, false, false, false, false, false, false, false, false, false, false, false, false] rfl rfl (any_of HT_.out (by kernel_rfl)) (fun _ _ _ h => h) (Or.inr ⟨by rfl, rfl⟩) ?_ ?_
                           rotate_left
                           ·simp only [Act.put, List.setIfInBounds_toArray, List.set_cons_zero, List.set_cons_succ, i64_w, i32_w]
                            rfl
                           refine pure_ (i := 17) (N := some 136) (v := undef) (a' := ?_) #[true, true, true, true, true, true, true, true, true, true, true, true, true, true, true, true, true, true, false, false, false, false, false, false, false, false, false, false, false, false, false] rfl rfl (any_of HT_.out (by kernel_rfl)) (fun _ _ _ h => h) (Or.inr ⟨by rfl, rfl⟩) ?_ ?_
                           rotate_left
                           ·simp only [Act.put, List.setIfInBounds_toArray, List.set_cons_zero, List.set_cons_succ, i64_w, i32_w]
                            rfl
                           refine pure_ (i := 18) (N := some 137) (v := undef) (a' := ?_) #[true, true, true, true, true, true, true, true, true, true, true, true, true, true, true, true, true, true, true, false, false, false, false, false, false, false, false, false, false, false, false] rfl rfl (any_of HT_.out (by kernel_rfl)) (fun _ _ _ h => h) (Or.inr ⟨by rfl, rfl⟩) ?_ ?_
                           rotate_left
                           ·simp only [Act.put, List.setIfInBounds_toArray, List.set_cons_zero, List.set_cons_succ, i64_w, i32_w]
                            rfl
                           refine pure_ (i := 19) (N := some 138) (v := undef) (a' := ?_) #[true, true, true, true, true, true, true, true, true, true, true, true, true, true, true, true, true, true, true, true, false, false, false, false, false, false, false, false, false, false, false] rfl rfl (any_of HT_.out (by kernel_rfl)) (fun _ _ _ h => h) (Or.inr ⟨by rfl, rfl⟩) ?_ ?_
                           rotate_left
                           ·simp only [Act.put, List.setIfInBounds_toArray, List.set_cons_zero, List.set_cons_succ, i64_w, i32_w]
                            rfl
                           refine pure_ (i := 20) (N := some 139) (v := undef) (a' := ?_) #[true, true, true, true, true, true, true, true, true, true, true, true, true, true, true, true, true, true, true, true, true, false, false, false, false, false, false, false, false, false, false] rfl rfl (any_of HT_.out (by kernel_rfl)) (fun _ _ _ h => h) (Or.inr ⟨by rfl, rfl⟩) ?_ ?_
                           rotate_left
                           ·simp only [Act.put, List.setIfInBounds_toArray, List.set_cons_zero, List.set_cons_succ, i64_w, i32_w]
                            rfl
                           refine pure_ (i := 21) (N := some 140) (v := undef) (a' := ?_) #[true, true, true, true, true, true, true, true, true, true, true, true, true, true, true, true, true, true, true, true, true, true, false, false, false, false, false, false, false, false, false] rfl rfl (any_of HT_.out (by kernel_rfl)) (fun _ _ _ h => h) (Or.inr ⟨by rfl, rfl⟩) ?_ ?_
                           rotate_left
                           ·simp only [Act.put, List.setIfInBounds_toArray, List.set_cons_zero, List.set_cons_succ, i64_w, i32_w]
                            rfl
                           refine pure_ (i := 22) (N := some 141) (v := undef) (a' := ?_) #[true, true, true, true, true, true, true, true, true, true, true, true, true, true, true, true, true, true, true, true, true, true, true, false, false, false, false, false, false, false, false] rfl rfl (any_of HT_.out (by kernel_rfl)) (fun _ _ _ h => h) (Or.inr ⟨by rfl, rfl⟩) ?_ ?_
                           rotate_left
                           ·simp only [Act.put, List.setIfInBounds_toArray, List.set_cons_zero, List.set_cons_succ, i64_w, i32_w]
                            rfl
                           refine pure_ (i := 23) (N := some 142) (v := undef) (a' := ?_) #[true, true, true, true, true, true, true, true, true, true, true, true, true, true, true, true, true, true, true, true, true, true, true, true, false, false, false, false, false, false, false] rfl rfl (any_of HT_.out (by kernel_rfl)) (fun _ _ _ h => h) (Or.inr ⟨by rfl, rfl⟩) ?_ ?_
                           rotate_left
                           ·simp only [Act.put, List.setIfInBounds_toArray, List.set_cons_zero, List.set_cons_succ, i64_w, i32_w]
                            rfl
                           refine pure_ (i := 24) (N := some 143) (v := undef) (a' := ?_) #[true, true, true, true, true, true, true, true, true, true, true, true, true, true, true, true, true, true, true, true, true, true, true, true, true, false, false, false, false, false, false] rfl rfl (any_of HT_.out (by kernel_rfl)) (fun _ _ _ h => h) (Or.inr ⟨by rfl, rfl⟩) ?_ ?_
                           rotate_left
                           ·simp only [Act.put, List.setIfInBounds_toArray, List.set_cons_zero, List.set_cons_succ, i64_w, i32_w]
                            rfl
                           refine pure_ (i := 25) (N := some 144) (v := undef) (a' := ?_) #[true, true, true, true, true, true, true, true, true, true, true, true, true, true, true, true, true, true, true, true, true, true, true, true, true, true, false, false, false, false, false] rfl rfl (any_of HT_.out (by kernel_rfl)) (fun _ _ _ h => h) (Or.inr ⟨by rfl, rfl⟩) ?_ ?_
                           rotate_left
                           ·simp only [Act.put, List.setIfInBounds_toArray, List.set_cons_zero, List.set_cons_succ, i64_w, i32_w]
                            rfl
                           refine pure_ (i := 26) (N := some 145) (v := undef) (a' := ?_) #[true, true, true, true, true, true, true, true, true, true, true, true, true, true, true, true, true, true, true, true, true, true, true, true, true, true, true, false, false, false, false] rfl rfl (any_of HT_.out (by kernel_rfl)) (fun _ _ _ h => h) (Or.inr ⟨by rfl, rfl⟩) ?_ ?_
                           rotate_left
                           ·simp only [Act.put, List.setIfInBounds_toArray, List.set_cons_zero, List.set_cons_succ, i64_w, i32_w]
                            rfl
                           refine pure_ (i := 27) (N := some 146) (v := undef) (a' := ?_) #[true, true, true, true, true, true, true, true, true, true, true, true, true, true, true, true, true, true, true, true, true, true, true, true, true, true, true, true, false, false, false] rfl rfl (any_of HT_.out (by kernel_rfl)) (fun _ _ _ h => h) (Or.inr ⟨by rfl, rfl⟩) ?_ ?_
                           rotate_left
                           ·simp only [Act.put, List.setIfInBounds_toArray, List.set_cons_zero, List.set_cons_succ, i64_w, i32_w]
                            rfl
                           refine pure_ (i := 28) (N := some 147) (v := undef) (a' := ?_) #[true, true, true, true, true, true, true, true, true, true, true, true, true, true, true, true, true, true, true, true, true, true, true, true, true, true, true, true, true, false, false] rfl rfl (any_of HT_.out (by kernel_rfl)) (fun _ _ _ h => h) (Or.inr ⟨by rfl, rfl⟩) ?_ ?_
                           rotate_left
                           ·simp only [Act.put, List.setIfInBounds_toArray, List.set_cons_zero, List.set_cons_succ, i64_w, i32_w]
                            rfl
                           refine pure_ (i := 29) (N := some 148) (v := ?_) (a' := ?_) #[true, true, true, true, true, true, true, true, true, true, true, true, true, true, true, true, true, true, true, true, true, true, true, true, true, true, true, true, true, true, false] rfl rfl (any_of HT_.out (by kernel_rfl)) (fun _ _ _ h => h) (Or.inl ⟨by rfl, ?_⟩) ?_ ?_
                           rotate_left
                           ·intro w'
                            go_simp
                            with_reducible rfl
                           rotate_left
                           ·simp only [Act.put, List.setIfInBounds_toArray, List.set_cons_zero, List.set_cons_succ, i64_w, i32_w]
                            rfl
                           refine pure_ (i := 30) (N := some 18) (v := ?_) (a' := ?_) #[true, true, true, true, true, true, true, true, true, true, true, true, true, true, true, true, true, true, true, true, true, true, true, true, true, true, true, true, true, true, true] rfl rfl (any_of HT_.out (by kernel_rfl)) (fun _ _ _ h => h) (Or.inl ⟨by rfl, ?_⟩) ?_ ?_
                           rotate_left
                           ·intro w'
                            go_simp
                            with_reducible rfl
                           rotate_left
                           ·simp only [Act.put, List.setIfInBounds_toArray, List.set_cons_zero, List.set_cons_succ, i64_w, i32_w]
                            rfl
                           refine done_ (done_of HT_.out (by kernel_rfl)) ?_
                           try go_wp2
                           go_roundg k4
                           case measure => have := HK1.out; have := HK2.out; have := HJ14.out; have := HK4.out; omega
                           case rel => exact ⟨(true), (wrap64 (x19_4 + 1)), (by first | rfl | (simp; done) | (simp [*]; done)), (by first | rfl | (simp; done) | (simp [*]; done)), H', ⟨by have := HK1.out; have := HK2.out; have := HJ14.out; have := HK4.out; omega⟩, ⟨by (with_reducible repeat (first | apply Kd.S_alloc | apply Kd.S_drewN | apply Kd.S_drew)); exact HO_5.out⟩, ⟨by (with_reducible repeat (first | apply Kd.R_alloc | apply Kd.R_drewN | apply Kd.R_drew)); exact HO_6.out⟩, ⟨by repeat (first | (with_reducible exact HR237_2.out) | (with_reducible refine Kd.C_alloc ?_ _) | (with_reducible refine Kd.C_drewN ?_ _) | (with_reducible refine Kd.C_drew ?_) | exact HR237_2.out)⟩, ⟨by repeat (first | (with_reducible exact HR240_2.out) | (with_reducible refine Kd.C_alloc ?_ _) | (with_reducible refine Kd.C_drewN ?_ _) | (with_reducible refine Kd.C_drew ?_) | exact HR240_2.out)⟩, ⟨by repeat (first | (with_reducible exact HR243_2.out) | (with_reducible refine Kd.C_alloc ?_ _) | (with_reducible refine Kd.C_drewN ?_ _) | (with_reducible refine Kd.C_drew ?_) | exact HR243_2.out)⟩, ⟨by repeat (first | (with_reducible exact HR244_2.out) | (with_reducible refine Kd.C_alloc ?_ _) | (with_reducible refine Kd.C_drewN ?_ _) | (with_reducible refine Kd.C_drew ?_) | exact HR244_2.out)⟩, ⟨by repeat (first | (with_reducible exact HR247_2.out) | (with_reducible refine Kd.C_alloc ?_ _) | (with_reducible refine Kd.C_drewN ?_ _) | (with_reducible refine Kd.C_drew ?_) | exact HR247_2.out)⟩, ⟨by repeat (first | (with_reducible exact HR248_2.out) | (with_reducible refine Kd.C_alloc ?_ _) | (with_reducible refine Kd.C_drewN ?_ _) | (with_reducible refine Kd.C_drew ?_) | exact HR248_2.out)⟩, ⟨by repeat (first | (with_reducible first | exact HB.out | apply below_alloc | apply pw_below_drewN | apply below_drew1) | exact HB.out)⟩⟩
                          ·replace c43 := Bool.eq_false_iff.mpr c43
                           subst c43
                           have H1 : (if 0 ≤ x10_1 then (if x10_1 < (t227.length : Int) then (if ((rd_T36 t227 x11_2).f0) = ((rd_T36 t227 x10_1).f0) then (if x19_4 ≥ (rd ((rd_T36 t227 x10_1).f2) (rd t230 x10_1)) then (laws_FnLabelsMeet.l2 k4 t227 t230 t233 t234 x9_2 x10_1 x11_2 (rd ((rd_T36 t227 x11_2).f2) (rd t230 x11_2)) (rd ((rd_T36 t227 x10_1).f2) (rd t230 x10_1)) t245 t246 t249 t250 (decide (x19_4 < (wrap64 ((rd ((rd_T36 t227 x10_1).f2) (rd t230 x10_1)) + ((rd_T36 t227 x10_1).f1))))) (wrap64 (x19_4 + 1))) else (laws_FnLabelsMeet.l2 k4 t227 t230 t233 t234 x9_2 x10_1 x11_2 (rd ((rd_T36 t227 x11_2).f2) (rd t230 x11_2)) (rd ((rd_T36 t227 x10_1).f2) (rd t230 x10_1)) t245 t246 t249 t250 false (wrap64 (x19_4 + 1)))) else (laws_FnLabelsMeet.l2 k4 t227 t230 t233 t234 x9_2 x10_1 x11_2 (rd ((rd_T36 t227 x11_2).f2) (rd t230 x11_2)) (rd ((rd_T36 t227 x10_1).f2) (rd t230 x10_1)) t245 t246 t249 t250 false (wrap64 (x19_4 + 1)))) else (none)) else (none)) = some r := by rw [if_neg (show ¬ (false = true) by decide)] at H; exact H
                           clear H
                           have H := H1
                           clear H1
                           by_cases c45 : 0 ≤ x10_1
                           ·rw [if_pos c45] at H
                            have c45b0 : decide (0 ≤ x10_1) = true := decide_eq_true c45
                            clear c45
                            by_cases c46 : x10_1 < (t227.length : Int)
                            ·rw [if_pos c46] at H
                             have c46b0 : decide (x10_1 < (t227.length : Int)) = true := decide_eq_true c46
                             clear c46
                             by_cases c47 : ((rd_T36 t227 x11_2).f0) = ((rd_T36 t227 x10_1).f0)
                             ·rw [if_pos c47] at H
                              have c47b0 : (((rd_T36 t227 x11_2).f0) == ((rd_T36 t227 x10_1).f0)) = true := beq_iff_eq.mpr c47
                              have c47b1 : (((rd_T36 t227 x11_2).f0) != ((rd_T36 t227 x10_1).f0)) = false := bne_eq_false_iff_eq.mpr c47
                              clear c47
                              by_cases c48 : x19_4 ≥ (rd ((rd_T36 t227 x10_1).f2) (rd t230 x10_1))
                              ·rw [if_pos c48] at H
                               have c48b0 : decide ((rd ((rd_T36 t227 x10_1).f2) (rd t230 x10_1)) ≤ x19_4) = true := decide_eq_true c48
                               clear c48
                               have H' := Aside0.mk H
                               clear H
                               have p251 : 0 ≤ (x11_2 : Int) := od_
                               have q251 : x11_2 < (t227.length : Int) := od_
                               obtain ⟨ad251, A251_2, c251_2, e251, hx251_0, hx251_1, hx251_2, hx251_3, hl251_2, hi251_2⟩ := at_T36 (Kd.S_reads' HO_5.out).2.2 x11_2 p251 q251
                               obtain rfl : ad237 = ad251 := (by injection e251)
                               obtain ⟨ce251, hce251, hMe251, hcc251⟩ := Kd.S_get HO_5.out z36 x11_2 p251 (by first | exact q251 | exact od_ | (have e_ := (Kd.S_reads' HO_5.out).1; omega))
                               obtain ⟨ve251_2, rfl, ge251_2⟩ := k36_openM hMe251
                               have hv251_2 := hcc251 2 _ rfl
                               rw [add_field _ _ 2 (by omega)] at hv251_2
                               replace hv251_2 := Option.some.inj (hv251_2.symm.trans hx251_2)
                               rw [hv251_2] at ge251_2
                               have HL251_2 := Aside0.mk (show Kd.R (Kd.int .i64) 2 _ _ _ _ ((rd_T36 t227 x11_2).f2) from ge251_2)
                               clear hv251_2 ge251_2
                               clear hcc251 hce251
                               have HR251_2 := Aside0.mk hi251_2
                               have HC251_2 := Aside0.mk hl251_2
                               clear hi251_2 hl251_2
                               replace p251 := eq_true p251
                               replace q251 := eq_true q251
                               try go_wp2
                               have n0_ := Aside0.mk (Kd.S_drew HO_5.out)
                               have n1_ := Aside0.mk (Kd.R_drew HO_6.out)
                               have n2_ := Aside0.mk (Kd.R_drew HL251_2.out)
                               have n3_ := Aside0.mk (Kd.C_drew HR237_2.out)
                               have n4_ := Aside0.mk (Kd.C_drew HR240_2.out)
                               have n5_ := Aside0.mk (Kd.C_drew HR243_2.out)
                               have n6_ := Aside0.mk (Kd.C_drew HR244_2.out)
                               have n7_ := Aside0.mk (Kd.C_drew HR247_2.out)
                               have n8_ := Aside0.mk (Kd.C_drew HR248_2.out)
                               have n9_ := Aside0.mk (Kd.C_drew HR251_2.out)
                               have n10_ := Aside0.mk (below_drew1 HB.out)
                               clear HO_5
                               clear HO_6
                               clear HL251_2
                               clear HR237_2
                               clear HR240_2
                               clear HR243_2
                               clear HR244_2
                               clear HR247_2
                               clear HR248_2
                               clear HR251_2
                               clear HB
                               have HO_5 := n0_
                               have HO_6 := n1_
                               have HL251_2 := n2_
                               have HR237_2 := n3_
                               have HR240_2 := n4_
                               have HR243_2 := n5_
                               have HR244_2 := n6_
                               have HR247_2 := n7_
                               have HR248_2 := n8_
                               have HR251_2 := n9_
                               have HB := n10_
                               clear n0_ n1_ n2_ n3_ n4_ n5_ n6_ n7_ n8_ n9_ n10_
                               have p252 : 0 ≤ (x11_2 : Int) := od_
                               have q252 : x11_2 < (t227.length : Int) := od_
                               obtain ⟨ad252, A252_2, c252_2, e252, hx252_0, hx252_1, hx252_2, hx252_3, hl252_2, hi252_2⟩ := at_T36 (Kd.S_reads' HO_5.out).2.2 x11_2 p252 q252
                               obtain rfl : ad237 = ad252 := (by injection e252)
                               obtain ⟨ce252, hce252, hMe252, hcc252⟩ := Kd.S_get HO_5.out z36 x11_2 p252 (by first | exact q252 | exact od_ | (have e_ := (Kd.S_reads' HO_5.out).1; omega))
                               obtain ⟨ve252_2, rfl, ge252_2⟩ := k36_openM hMe252
                               have hv252_2 := hcc252 2 _ rfl
                               rw [add_field _ _ 2 (by omega)] at hv252_2
                               replace hv252_2 := Option.some.inj (hv252_2.symm.trans hx252_2)
                               rw [hv252_2] at ge252_2
                               have HL252_2 := Aside0.mk (show Kd.R (Kd.int .i64) 2 _ _ _ _ ((rd_T36 t227 x11_2).f2) from ge252_2)
                               clear hv252_2 ge252_2
                               clear hcc252 hce252
                               have HR252_2 := Aside0.mk hi252_2
                               have HC252_2 := Aside0.mk hl252_2
                               clear hi252_2 hl252_2
                               replace p252 := eq_true p252
                               replace q252 := eq_true q252
                               have p253 : 0 ≤ (x10_1 : Int) := od_
                               have q253 : x10_1 < (t227.length : Int) := od_
                               obtain ⟨ad253, A253_2, c253_2, e253, hx253_0, hx253_1, hx253_2, hx253_3, hl253_2, hi253_2⟩ := at_T36 (Kd.S_reads' HO_5.out).2.2 x10_1 p253 q253
                               obtain rfl : ad237 = ad253 := (by injection e253)
                               obtain ⟨ce253, hce253, hMe253, hcc253⟩ := Kd.S_get HO_5.out z36 x10_1 p253 (by first | exact q253 | exact od_ | (have e_ := (Kd.S_reads' HO_5.out).1; omega))
                               obtain ⟨ve253_2, rfl, ge253_2⟩ := k36_openM hMe253
                               have hv253_2 := hcc253 2 _ rfl
                               rw [add_field _ _ 2 (by omega)] at hv253_2
                               replace hv253_2 := Option.some.inj (hv253_2.symm.trans hx253_2)
                               rw [hv253_2] at ge253_2
                               have HL253_2 := Aside0.mk (show Kd.R (Kd.int .i64) 2 _ _ _ _ ((rd_T36 t227 x10_1).f2) from ge253_2)
                               clear hv253_2 ge253_2
                               clear hcc253 hce253
                               have HR253_2 := Aside0.mk hi253_2
                               have HC253_2 := Aside0.mk hl253_2
                               clear hi253_2 hl253_2
                               replace p253 := eq_true p253
                               replace q253 := eq_true q253
                               have p254 : 0 ≤ (x10_1 : Int) := od_
                               have q254 : x10_1 < (t227.length : Int) := od_
                               obtain ⟨ad254, A254_2, c254_2, e254, hx254_0, hx254_1, hx254_2, hx254_3, hl254_2, hi254_2⟩ := at_T36 (Kd.S_reads' HO_5.out).2.2 x10_1 p254 q254
                               obtain rfl : ad237 = ad254 := (by injection e254)
                               obtain ⟨ce254, hce254, hMe254, hcc254⟩ := Kd.S_get HO_5.out z36 x10_1 p254 (by first | exact q254 | exact od_ | (have e_ := (Kd.S_reads' HO_5.out).1; omega))
                               obtain ⟨ve254_2, rfl, ge254_2⟩ := k36_openM hMe254
                               have hv254_2 := hcc254 2 _ rfl
                               rw [add_field _ _ 2 (by omega)] at hv254_2
                               replace hv254_2 := Option.some.inj (hv254_2.symm.trans hx254_2)
                               rw [hv254_2] at ge254_2
                               have HL254_2 := Aside0.mk (show Kd.R (Kd.int .i64) 2 _ _ _ _ ((rd_T36 t227 x10_1).f2) from ge254_2)
                               clear hv254_2 ge254_2
                               clear hcc254 hce254
                               have HR254_2 := Aside0.mk hi254_2
                               have HC254_2 := Aside0.mk hl254_2
                               clear hi254_2 hl254_2
                               replace p254 := eq_true p254
                               replace q254 := eq_true q254
                               have ea_ := Option.some.inj (hx253_2.symm.trans hx254_2)
                               injection ea_ with ea_ en_ ec_
                               subst ea_
                               subst ec_
                               clear en_
                               refine start_ (n := 31) (S := fun w' => w'.cell? (ad237.add ((x11_2).toNat * 4)) = some (.int .i64 ((rd_T36 t227 x11_2).f0)) ∧ w'.cell? ⟨(ad237.add ((x11_2).toNat * 4)).block, (ad237.add ((x11_2).toNat * 4)).off + 1, none⟩ = some (.int .i64 ((rd_T36 t227 x11_2).f1)) ∧ w'.cell? ⟨(ad237.add ((x11_2).toNat * 4)).block, (ad237.add ((x11_2).toNat * 4)).off + 2, none⟩ = some (.slice A252_2 ((rd_T36 t227 x11_2).f2).length c252_2) ∧ w'.cell? ⟨(ad237.add ((x11_2).toNat * 4)).block, (ad237.add ((x11_2).toNat * 4)).off + 3, none⟩ = some (.int .i64 ((rd_T36 t227 x11_2).f3)) ∧ w'.cell? (ad237.add ((x10_1).toNat * 4)) = some (.int .i64 ((rd_T36 t227 x10_1).f0)) ∧ w'.cell? ⟨(ad237.add ((x10_1).toNat * 4)).block, (ad237.add ((x10_1).toNat * 4)).off + 1, none⟩ = some (.int .i64 ((rd_T36 t227 x10_1).f1)) ∧ w'.cell? ⟨(ad237.add ((x10_1).toNat * 4)).block, (ad237.add ((x10_1).toNat * 4)).off + 2, none⟩ = some (.slice A253_2 ((rd_T36 t227 x10_1).f2).length c253_2) ∧ w'.cell? ⟨(ad237.add ((x10_1).toNat * 4)).block, (ad237.add ((x10_1).toNat * 4)).off + 3, none⟩ = some (.int .i64 ((rd_T36 t227 x10_1).f3)) ∧ w'.cell? (ad237.add ((x10_1).toNat * 4)) = some (.int .i64 ((rd_T36 t227 x10_1).f0)) ∧ w'.cell? ⟨(ad237.add ((x10_1).toNat * 4)).block, (ad237.add ((x10_1).toNat * 4)).off + 1, none⟩ = some (.int .i64 ((rd_T36 t227 x10_1).f1)) ∧ w'.cell? ⟨(ad237.add ((x10_1).toNat * 4)).block, (ad237.add ((x10_1).toNat * 4)).off + 2, none⟩ = some (.slice A253_2 ((rd_T36 t227 x10_1).f2).length c253_2) ∧ w'.cell? ⟨(ad237.add ((x10_1).toNat * 4)).block, (ad237.add ((x10_1).toNat * 4)).off + 3, none⟩ = some (.int .i64 ((rd_T36 t227 x10_1).f3))) (ds := []) #[false, false, false, false, false, false, false, false, false, false, false, false, false, false, false, false, false, false, false, false, false, false, false, false, false, false, false, false, false, false, false] (by kernel_rfl) rfl rfl ⟨hx252_0, hx252_1, hx252_2, hx252_3, hx253_0, hx253_1, hx253_2, hx253_3, hx254_0, hx254_1, hx254_2, hx254_3⟩ (fun hHeld => ?_); refine with_tabW laws_FnLabelsMeet.tab22 laws_FnLabelsMeet.bits22 (fun HT_ HW_ => ?_)
                               generalize wr.drew = w49 at HO_5 HO_6 HL251_2 HR237_2 HR240_2 HR243_2 HR244_2 HR247_2 HR248_2 HR251_2 HB HL252_2 HL253_2 HL254_2 HR252_2 HR253_2 HR254_2 hx252_0 hx252_1 hx252_2 hx252_3 hx253_0 hx253_1 hx253_2 hx253_3 hx254_0 hx254_1 hx254_2 hx254_3 hHeld ⊢
                               refine pure_ (i := 0) (N := some 119) (v := ?_) (a' := ?_) #[true, false, false, false, false, false, false, false, false, false, false, false, false, false, false, false, false, false, false, false, false, false, false, false, false, false, false, false, false, false, false] rfl rfl (any_of HT_.out (by kernel_rfl)) (fun _ _ _ h => h) (Or.inl ⟨by rfl, ?_⟩) ?_ ?_
                               rotate_left
                               ·intro w'
                                go_simp
                                with_reducible rfl
                               rotate_left
                               ·simp only [Act.put, List.setIfInBounds_toArray, List.set_cons_zero, List.set_cons_succ, i64_w, i32_w]
                                rfl
                               refine pure_ (i := 1) (N := some 120) (v := ?_) (a' := ?_) #[true, true, false, false, false, false, false, false, false, false, false, false, false, false, false, false, false, false, false, false, false, false, false, false, false, false, false, false, false, false, false] rfl rfl (any_of HT_.out (by kernel_rfl)) (fun _ _ _ h => h) (Or.inl ⟨by rfl, ?_⟩) ?_ ?_
                               rotate_left
                               ·intro w'
                                go_simp
                                with_reducible rfl
                               rotate_left
                               ·simp only [Act.put, List.setIfInBounds_toArray, List.set_cons_zero, List.set_cons_succ, i64_w, i32_w]
                                rfl
                               refine pure_ (i := 2) (N := some 121) (v := ?_) (a' := ?_) #[true, true, true, false, false, false, false, false, false, false, false, false, false, false, false, false, false, false, false, false, false, false, false, false, false, false, false, false, false, false, false] rfl rfl (any_of HT_.out (by kernel_rfl)) (fun _ _ _ h => h) (Or.inl ⟨by rfl, ?_⟩) ?_ ?_
                               rotate_left
                               ·intro w'
                                go_simp
                                with_reducible rfl
                               rotate_left
                               ·simp only [Act.put, List.setIfInBounds_toArray, List.set_cons_zero, List.set_cons_succ, i64_w, i32_w]
                                rfl
                               refine pure_ (i := 3) (N := some 122) (v := ?_) (a' := ?_) #[true, true, true, true, false, false, false, false, false, false, false, false, false, false, false, false, false, false, false, false, false, false, false, false, false, false, false, false, false, false, false] rfl rfl (any_of HT_.out (by kernel_rfl)) (fun _ _ _ h => h) (Or.inl ⟨by rfl, ?_⟩) ?_ ?_
                               rotate_left
                               ·intro w'
                                go_simp
                                with_reducible rfl
                               rotate_left
                               ·simp only [Act.put, List.setIfInBounds_toArray, List.set_cons_zero, List.set_cons_succ, i64_w, i32_w]
                                rfl
                               refine pure_ (i := 4) (N := some 123) (v := ?_) (a' := ?_) #[true, true, true, true, true, false, false, false, false, false, false, false, false, false, false, false, false, false, false, false, false, false, false, false, false, false, false, false, false, false, false] rfl rfl (any_of HT_.out (by kernel_rfl)) (fun _ _ _ h => h) (Or.inl ⟨by rfl, ?_⟩) ?_ ?_
                               rotate_left
                               ·intro w'
                                go_simp
                                with_reducible rfl
                               rotate_left
                               ·simp only [Act.put, List.setIfInBounds_toArray, List.set_cons_zero, List.set_cons_succ, i64_w, i32_w]
                                rfl
                               refine pure_ (i := 5) (N := some 124) (v := ?_) (a' := ?_) #[true, true, true, true, true, true, false, false, false, false, false, false, false, false, false, false, false, false, false, false, false, false, false, false, false, false, false, false, false, false, false] rfl rfl (any_of HT_.out (by kernel_rfl)) (fun _ _ _ h => h) (Or.inl ⟨by rfl, ?_⟩) ?_ ?_
                               rotate_left
                               ·intro w'
                                go_simp
                                with_reducible rfl
                               rotate_left
                               ·simp only [Act.put, List.setIfInBounds_toArray, List.set_cons_zero, List.set_cons_succ, i64_w, i32_w]
                                rfl
                               refine pure_ (i := 7) (N := some 126) (v := ?_) (a' := ?_) #[true, true, true, true, true, true, false, true, false, false, false, false, false, false, false, false, false, false, false, false, false, false, false, false, false, false, false, false, false, false, false] rfl rfl (any_of HT_.out (by kernel_rfl)) (fun _ _ _ h => h) (Or.inl ⟨by rfl, ?_⟩) ?_ ?_
                               rotate_left
                               ·intro w'
                                go_simp
                                with_reducible rfl
                               rotate_left
                               ·simp only [Act.put, List.setIfInBounds_toArray, List.set_cons_zero, List.set_cons_succ, i64_w, i32_w]
                                rfl
                               refine pure_ (i := 8) (N := some 127) (v := ?_) (a' := ?_) #[true, true, true, true, true, true, false, true, true, false, false, false, false, false, false, false, false, false, false, false, false, false, false, false, false, false, false, false, false, false, false] rfl rfl (any_of HT_.out (by kernel_rfl)) (fun _ _ _ h => h) (Or.inl ⟨by rfl, ?_⟩) ?_ ?_
                               rotate_left
                               ·intro w'
                                go_simp
                                with_reducible rfl
                               rotate_left
                               ·simp only [Act.put, List.setIfInBounds_toArray, List.set_cons_zero, List.set_cons_succ, i64_w, i32_w]
                                rfl
                               refine pure_ (i := 9) (N := some 128) (v := ?_) (a' := ?_) #[true, true, true, true, true, true, false, true, true, true, false, false, false, false, false, false, false, false, false, false, false, false, false, false, false, false, false, false, false, false, false] rfl rfl (any_of HT_.out (by kernel_rfl)) (fun _ _ _ h => h) (Or.inl ⟨by rfl, ?_⟩) ?_ ?_
                               rotate_left
                               ·intro w'
                                go_simp
                                with_reducible rfl
                               rotate_left
                               ·simp only [Act.put, List.setIfInBounds_toArray, List.set_cons_zero, List.set_cons_succ, i64_w, i32_w]
                                rfl
                               refine pure_ (i := 10) (N := some 129) (v := ?_) (a' := ?_) #[true, true, true, true, true, true, false, true, true, true, true, false, false, false, false, false, false, false, false, false, false, false, false, false, false, false, false, false, false, false, false] rfl rfl (any_of HT_.out (by kernel_rfl)) (fun _ _ _ h => h) (Or.inl ⟨by rfl, ?_⟩) ?_ ?_
                               rotate_left
                               ·intro w'
                                go_simp
                                with_reducible rfl
                               rotate_left
                               ·simp only [Act.put, List.setIfInBounds_toArray, List.set_cons_zero, List.set_cons_succ, i64_w, i32_w]
                                rfl
                               refine take_ (i := 6) (N := some 125) (v := ?_) (a' := ?_) #[true, true, true, true, true, true, true, true, true, true, true, false, false, false, false, false, false, false, false, false, false, false, false, false, false, false, false, false, false, false, false] rfl rfl (take_ofW HT_.out HW_.out (by kernel_rfl)) (fun _ _ _ h => h) (Or.inl ⟨by rfl, ?_⟩) hHeld ?_ ?_
                               rotate_left
                               ·rintro w' ⟨s0, s1, s2, s3, s4, s5, s6, s7, s8, s9, s10, s11⟩
                                go_simp
                                with_reducible rfl
                               rotate_left
                               ·simp only [Act.put, List.setIfInBounds_toArray, List.set_cons_zero, List.set_cons_succ, i64_w, i32_w]
                                rfl
                               refine take_ (i := 11) (N := some 130) (v := ?_) (a' := ?_) #[true, true, true, true, true, true, true, true, true, true, true, true, false, false, false, false, false, false, false, false, false, false, false, false, false, false, false, false, false, false, false] rfl rfl (take_ofW HT_.out HW_.out (by kernel_rfl)) (fun _ _ _ h => h) (Or.inl ⟨by rfl, ?_⟩) hHeld ?_ ?_
                               rotate_left
                               ·rintro w' ⟨s0, s1, s2, s3, s4, s5, s6, s7, s8, s9, s10, s11⟩
                                go_simp
                                with_reducible rfl
                               rotate_left
                               ·simp only [Act.put, List.setIfInBounds_toArray, List.set_cons_zero, List.set_cons_succ, i64_w, i32_w]
                                rfl
                               refine pure_ (i := 12) (N := some 131) (v := ?_) (a' := ?_) #[true, true, true, true, true, true, true, true, true, true, true, true, true, false, false, false, false, false, false, false, false, false, false, false, false, false, false, false, false, false, false] rfl rfl (any_of HT_.out (by kernel_rfl)) (fun _ _ _ h => h) (Or.inl ⟨by rfl, ?_⟩) ?_ ?_
                               rotate_left
                               ·intro w'
                                go_simp
                                with_reducible rfl
                               rotate_left
                               ·simp only [Act.put, List.setIfInBounds_toArray, List.set_cons_zero, List.set_cons_succ, i64_w, i32_w]
                                rfl
                               refine pure_ (i := 13) (N := some 132) (v := ?_) (a' := ?_) #[true, true, true, true, true, true, true, true, true, true, true, true, true, true, false, false, false, false, false, false, false, false, false, false, false, false, false, false, false, false, false] rfl rfl (any_of HT_.out (by kernel_rfl)) (fun _ _ _ h => h) (Or.inl ⟨by rfl, ?_⟩) ?_ ?_
                               rotate_left
                               ·intro w'
                                go_simp
                                with_reducible rfl
                               rotate_left
                               ·simp only [Act.put, List.setIfInBounds_toArray, List.set_cons_zero, List.set_cons_succ, i64_w, i32_w]
                                rfl
                               refine pure_ (i := 14) (N := some 133) (v := ?_) (a' := ?_) #[true, true, true, true, true, true, true, true, true, true, true, true, true, true, true, false, false, false, false, false, false, false, false, false, false, false, false, false, false, false, false] rfl rfl (any_of HT_.out (by kernel_rfl)) (fun _ _ _ h => h) (Or.inl ⟨by rfl, ?_⟩) ?_ ?_
                               rotate_left
                               ·intro w'
                                go_simp
                                with_reducible rfl
                               rotate_left
                               ·simp only [Act.put, List.setIfInBounds_toArray, List.set_cons_zero, List.set_cons_succ, i64_w, i32_w]
                                rfl
                               refine pure_ (i := 15) (N := some 134) (v := ?_) (a' := ?_) #[true, true, true, true, true, true, true, true, true, true, true, true, true, true, true, true, false, false, false, false, false, false, false, false, false, false, false, false, false, false, false] rfl rfl (any_of HT_.out (by kernel_rfl)) (fun _ _ _ h => h) (Or.inl ⟨by rfl, ?_⟩) ?_ ?_
                               rotate_left
                               ·intro w'
                                go_simp
                                with_reducible rfl
                               rotate_left
                               ·simp only [Act.put, List.setIfInBounds_toArray, List.set_cons_zero, List.set_cons_succ, i64_w, i32_w]
                                rfl
                               refine pure_ (i := 16) (N := some 135) (v := ?_) (a' := ?_) #[true, true, true, true, true, true, true, true, true, true, true, true, true, true, true, true, true, false, false, false, false, false, false, false, false, false, false, false, false, false, false] rfl rfl (any_of HT_.out (by kernel_rfl)) (fun _ _ _ h => h) (Or.inl ⟨by rfl, ?_⟩) ?_ ?_
                               rotate_left
                               ·intro w'
                                go_simp
                                with_reducible rfl
                               rotate_left
                               ·simp only [Act.put, List.setIfInBounds_toArray, List.set_cons_zero, List.set_cons_succ, i64_w, i32_w]
                                rfl
                               refine pure_ (i := 17) (N := some 136) (v := ?_) (a' := ?_) #[true, true, true, true, true, true, true, true, true, true, true, true, true, true, true, true, true, true, false, false, false, false, false, false, false, false, false, false, false, false, false] rfl rfl (any_of HT_.out (by kernel_rfl)) (fun _ _ _ h => h) (Or.inl ⟨by rfl, ?_⟩) ?_ ?_
                               rotate_left
                               ·intro w'
                                go_simp
                                with_reducible rfl
                               rotate_left
                               ·simp only [Act.put, List.setIfInBounds_toArray, List.set_cons_zero, List.set_cons_succ, i64_w, i32_w]
                                rfl
                               refine pure_ (i := 18) (N := some 137) (v := ?_) (a' := ?_) #[true, true, true, true, true, true, true, true, true, true, true, true, true, true, true, true, true, true, true, false, false, false, false, false, false, false, false, false, false, false, false] rfl rfl (any_of HT_.out (by kernel_rfl)) (fun _ _ _ h => h) (Or.inl ⟨by rfl, ?_⟩) ?_ ?_
                               rotate_left
                               ·intro w'
                                go_simp
                                with_reducible rfl
                               rotate_left
                               ·simp only [Act.put, List.setIfInBounds_toArray, List.set_cons_zero, List.set_cons_succ, i64_w, i32_w]
                                rfl
                               refine pure_ (i := 19) (N := some 138) (v := ?_) (a' := ?_) #[true, true, true, true, true, true, true, true, true, true, true, true, true, true, true, true, true, true, true, true, false, false, false, false, false, false, false, false, false, false, false] rfl rfl (any_of HT_.out (by kernel_rfl)) (fun _ _ _ h => h) (Or.inl ⟨by rfl, ?_⟩) ?_ ?_
                               rotate_left
                               ·intro w'
                                go_simp
                                with_reducible rfl
                               rotate_left
                               ·simp only [Act.put, List.setIfInBounds_toArray, List.set_cons_zero, List.set_cons_succ, i64_w, i32_w]
                                rfl
                               refine pure_ (i := 20) (N := some 139) (v := ?_) (a' := ?_) #[true, true, true, true, true, true, true, true, true, true, true, true, true, true, true, true, true, true, true, true, true, false, false, false, false, false, false, false, false, false, false] rfl rfl (any_of HT_.out (by kernel_rfl)) (fun _ _ _ h => h) (Or.inl ⟨by rfl, ?_⟩) ?_ ?_
                               rotate_left
                               ·intro w'
                                go_simp
                                with_reducible rfl
                               rotate_left
                               ·simp only [Act.put, List.setIfInBounds_toArray, List.set_cons_zero, List.set_cons_succ, i64_w, i32_w]
                                rfl
                               refine pure_ (i := 21) (N := some 140) (v := ?_) (a' := ?_) #[true, true, true, true, true, true, true, true, true, true, true, true, true, true, true, true, true, true, true, true, true, true, false, false, false, false, false, false, false, false, false] rfl rfl (any_of HT_.out (by kernel_rfl)) (fun _ _ _ h => h) (Or.inl ⟨by rfl, ?_⟩) ?_ ?_
                               rotate_left
                               ·intro w'
                                go_simp
                                with_reducible rfl
                               rotate_left
                               ·simp only [Act.put, List.setIfInBounds_toArray, List.set_cons_zero, List.set_cons_succ, i64_w, i32_w]
                                rfl
                               refine pure_ (i := 22) (N := some 141) (v := ?_) (a' := ?_) #[true, true, true, true, true, true, true, true, true, true, true, true, true, true, true, true, true, true, true, true, true, true, true, false, false, false, false, false, false, false, false] rfl rfl (any_of HT_.out (by kernel_rfl)) (fun _ _ _ h => h) (Or.inl ⟨by rfl, ?_⟩) ?_ ?_
                               rotate_left
                               ·intro w'
                                go_simp
                                with_reducible rfl
                               rotate_left
                               ·simp only [Act.put, List.setIfInBounds_toArray, List.set_cons_zero, List.set_cons_succ, i64_w, i32_w]
                                rfl
                               refine pure_ (i := 23) (N := some 142) (v := ?_) (a' := ?_) #[true, true, true, true, true, true, true, true, true, true, true, true, true, true, true, true, true, true, true, true, true, true, true, true, false, false, false, false, false, false, false] rfl rfl (any_of HT_.out (by kernel_rfl)) (fun _ _ _ h => h) (Or.inl ⟨by rfl, ?_⟩) ?_ ?_
                               rotate_left
                               ·intro w'
                                go_simp
                                with_reducible rfl
                               rotate_left
                               ·simp only [Act.put, List.setIfInBounds_toArray, List.set_cons_zero, List.set_cons_succ, i64_w, i32_w]
                                rfl
                               refine pure_ (i := 24) (N := some 143) (v := ?_) (a' := ?_) #[true, true, true, true, true, true, true, true, true, true, true, true, true, true, true, true, true, true, true, true, true, true, true, true, true, false, false, false, false, false, false] rfl rfl (any_of HT_.out (by kernel_rfl)) (fun _ _ _ h => h) (Or.inl ⟨by rfl, ?_⟩) ?_ ?_
                               rotate_left
                               ·intro w'
                                go_simp
                                with_reducible rfl
                               rotate_left
                               ·simp only [Act.put, List.setIfInBounds_toArray, List.set_cons_zero, List.set_cons_succ, i64_w, i32_w]
                                rfl
                               refine take_ (i := 25) (N := some 144) (v := ?_) (a' := ?_) #[true, true, true, true, true, true, true, true, true, true, true, true, true, true, true, true, true, true, true, true, true, true, true, true, true, true, false, false, false, false, false] rfl rfl (take_ofW HT_.out HW_.out (by kernel_rfl)) (fun _ _ _ h => h) (Or.inl ⟨by rfl, ?_⟩) hHeld ?_ ?_
                               rotate_left
                               ·rintro w' ⟨s0, s1, s2, s3, s4, s5, s6, s7, s8, s9, s10, s11⟩
                                go_simp
                                with_reducible rfl
                               rotate_left
                               ·simp only [Act.put, List.setIfInBounds_toArray, List.set_cons_zero, List.set_cons_succ, i64_w, i32_w]
                                rfl
                               refine pure_ (i := 26) (N := some 145) (v := ?_) (a' := ?_) #[true, true, true, true, true, true, true, true, true, true, true, true, true, true, true, true, true, true, true, true, true, true, true, true, true, true, true, false, false, false, false] rfl rfl (any_of HT_.out (by kernel_rfl)) (fun _ _ _ h => h) (Or.inl ⟨by rfl, ?_⟩) ?_ ?_
                               rotate_left
                               ·intro w'
                                go_simp
                                with_reducible rfl
                               rotate_left
                               ·simp only [Act.put, List.setIfInBounds_toArray, List.set_cons_zero, List.set_cons_succ, i64_w, i32_w]
                                rfl
                               refine pure_ (i := 27) (N := some 146) (v := ?_) (a' := ?_) #[true, true, true, true, true, true, true, true, true, true, true, true, true, true, true, true, true, true, true, true, true, true, true, true, true, true, true, true, false, false, false] rfl rfl (any_of HT_.out (by kernel_rfl)) (fun _ _ _ h => h) (Or.inl ⟨by rfl, ?_⟩) ?_ ?_
                               rotate_left
                               ·intro w'
                                go_simp
                                with_reducible rfl
                               rotate_left
                               ·simp only [Act.put, List.setIfInBounds_toArray, List.set_cons_zero, List.set_cons_succ, i64_w, i32_w]
                                rfl
                               refine pure_ (i := 28) (N := some 147) (v := ?_) (a' := ?_) #[true, true, true, true, true, true, true, true, true, true, true, true, true, true, true, true, true, true, true, true, true, true, true, true, true, true, true, true, true, false, false] rfl rfl (any_of HT_.out (by kernel_rfl)) (fun _ _ _ h => h) (Or.inl ⟨by rfl, ?_⟩) ?_ ?_
                               rotate_left
                               ·intro w'
                                go_simp
                                with_reducible rfl
                               rotate_left
                               ·simp only [Act.put, List.setIfInBounds_toArray, List.set_cons_zero, List.set_cons_succ, i64_w, i32_w]
                                rfl
                               refine pure_ (i := 29) (N := some 148) (v := ?_) (a' := ?_) #[true, true, true, true, true, true, true, true, true, true, true, true, true, true, true, true, true, true, true, true, true, true, true, true, true, true, true, true, true, true, false] rfl rfl (any_of HT_.out (by kernel_rfl)) (fun _ _ _ h => h) (Or.inl ⟨by rfl, ?_⟩) ?_ ?_
                               rotate_left
                               ·intro w'
                                go_simp
                                with_reducible rfl
                               rotate_left
                               ·simp only [Act.put, List.setIfInBounds_toArray, List.set_cons_zero, List.set_cons_succ, i64_w, i32_w]
                                rfl
                               refine pure_ (i := 30) (N := some 18) (v := ?_) (a' := ?_) #[true, true, true, true, true, true, true, true, true, true, true, true, true, true, true, true, true, true, true, true, true, true, true, true, true, true, true, true, true, true, true] rfl rfl (any_of HT_.out (by kernel_rfl)) (fun _ _ _ h => h) (Or.inl ⟨by rfl, ?_⟩) ?_ ?_
                               rotate_left
                               ·intro w'
                                go_simp
                                with_reducible rfl
                               rotate_left
                               ·simp only [Act.put, List.setIfInBounds_toArray, List.set_cons_zero, List.set_cons_succ, i64_w, i32_w]
                                rfl
                               refine done_ (done_of HT_.out (by kernel_rfl)) ?_
                               try go_wp2
                               go_roundg k4
                               case measure => have := HK1.out; have := HK2.out; have := HJ14.out; have := HK4.out; omega
                               case rel => exact ⟨(decide (x19_4 < (wrap64 ((rd ((rd_T36 t227 x10_1).f2) (rd t230 x10_1)) + ((rd_T36 t227 x10_1).f1))))), (wrap64 (x19_4 + 1)), (by first | rfl | (simp; done) | (simp [*]; done)), (by first | rfl | (simp; done) | (simp [*]; done)), H', ⟨by have := HK1.out; have := HK2.out; have := HJ14.out; have := HK4.out; omega⟩, ⟨by (with_reducible repeat (first | apply Kd.S_alloc | apply Kd.S_drewN | apply Kd.S_drew)); exact HO_5.out⟩, ⟨by (with_reducible repeat (first | apply Kd.R_alloc | apply Kd.R_drewN | apply Kd.R_drew)); exact HO_6.out⟩, ⟨by repeat (first | (with_reducible exact HR237_2.out) | (with_reducible refine Kd.C_alloc ?_ _) | (with_reducible refine Kd.C_drewN ?_ _) | (with_reducible refine Kd.C_drew ?_) | exact HR237_2.out)⟩, ⟨by repeat (first | (with_reducible exact HR240_2.out) | (with_reducible refine Kd.C_alloc ?_ _) | (with_reducible refine Kd.C_drewN ?_ _) | (with_reducible refine Kd.C_drew ?_) | exact HR240_2.out)⟩, ⟨by repeat (first | (with_reducible exact HR243_2.out) | (with_reducible refine Kd.C_alloc ?_ _) | (with_reducible refine Kd.C_drewN ?_ _) | (with_reducible refine Kd.C_drew ?_) | exact HR243_2.out)⟩, ⟨by repeat (first | (with_reducible exact HR244_2.out) | (with_reducible refine Kd.C_alloc ?_ _) | (with_reducible refine Kd.C_drewN ?_ _) | (with_reducible refine Kd.C_drew ?_) | exact HR244_2.out)⟩, ⟨by repeat (first | (with_reducible exact HR247_2.out) | (with_reducible refine Kd.C_alloc ?_ _) | (with_reducible refine Kd.C_drewN ?_ _) | (with_reducible refine Kd.C_drew ?_) | exact HR247_2.out)⟩, ⟨by repeat (first | (with_reducible exact HR248_2.out) | (with_reducible refine Kd.C_alloc ?_ _) | (with_reducible refine Kd.C_drewN ?_ _) | (with_reducible refine Kd.C_drew ?_) | exact HR248_2.out)⟩, ⟨by repeat (first | (with_reducible first | exact HB.out | apply below_alloc | apply pw_below_drewN | apply below_drew1) | exact HB.out)⟩⟩
                              ·rw [if_neg c48] at H
                               have c48b0 : decide ((rd ((rd_T36 t227 x10_1).f2) (rd t230 x10_1)) ≤ x19_4) = false := decide_eq_false c48
                               clear c48
                               have H' := Aside0.mk H
                               clear H
                               have p251 : 0 ≤ (x11_2 : Int) := od_
                               have q251 : x11_2 < (t227.length : Int) := od_
                               obtain ⟨ad251, A251_2, c251_2, e251, hx251_0, hx251_1, hx251_2, hx251_3, hl251_2, hi251_2⟩ := at_T36 (Kd.S_reads' HO_5.out).2.2 x11_2 p251 q251
                               obtain rfl : ad237 = ad251 := (by injection e251)
                               obtain ⟨ce251, hce251, hMe251, hcc251⟩ := Kd.S_get HO_5.out z36 x11_2 p251 (by first | exact q251 | exact od_ | (have e_ := (Kd.S_reads' HO_5.out).1; omega))
                               obtain ⟨ve251_2, rfl, ge251_2⟩ := k36_openM hMe251
                               have hv251_2 := hcc251 2 _ rfl
                               rw [add_field _ _ 2 (by omega)] at hv251_2
                               replace hv251_2 := Option.some.inj (hv251_2.symm.trans hx251_2)
                               rw [hv251_2] at ge251_2
                               have HL251_2 := Aside0.mk (show Kd.R (Kd.int .i64) 2 _ _ _ _ ((rd_T36 t227 x11_2).f2) from ge251_2)
                               clear hv251_2 ge251_2
                               clear hcc251 hce251
                               have HR251_2 := Aside0.mk hi251_2
                               have HC251_2 := Aside0.mk hl251_2
                               clear hi251_2 hl251_2
                               replace p251 := eq_true p251
                               replace q251 := eq_true q251
                               try go_wp2
                               have n0_ := Aside0.mk (Kd.S_drew HO_5.out)
                               have n1_ := Aside0.mk (Kd.R_drew HO_6.out)
                               have n2_ := Aside0.mk (Kd.R_drew HL251_2.out)
                               have n3_ := Aside0.mk (Kd.C_drew HR237_2.out)
                               have n4_ := Aside0.mk (Kd.C_drew HR240_2.out)
                               have n5_ := Aside0.mk (Kd.C_drew HR243_2.out)
                               have n6_ := Aside0.mk (Kd.C_drew HR244_2.out)
                               have n7_ := Aside0.mk (Kd.C_drew HR247_2.out)
                               have n8_ := Aside0.mk (Kd.C_drew HR248_2.out)
                               have n9_ := Aside0.mk (Kd.C_drew HR251_2.out)
                               have n10_ := Aside0.mk (below_drew1 HB.out)
                               clear HO_5
                               clear HO_6
                               clear HL251_2
                               clear HR237_2
                               clear HR240_2
                               clear HR243_2
                               clear HR244_2
                               clear HR247_2
                               clear HR248_2
                               clear HR251_2
                               clear HB
                               have HO_5 := n0_
                               have HO_6 := n1_
                               have HL251_2 := n2_
                               have HR237_2 := n3_
                               have HR240_2 := n4_
                               have HR243_2 := n5_
                               have HR244_2 := n6_
                               have HR247_2 := n7_
                               have HR248_2 := n8_
                               have HR251_2 := n9_
                               have HB := n10_
                               clear n0_ n1_ n2_ n3_ n4_ n5_ n6_ n7_ n8_ n9_ n10_
                               have p252 : 0 ≤ (x11_2 : Int) := od_
                               have q252 : x11_2 < (t227.length : Int) := od_
                               obtain ⟨ad252, A252_2, c252_2, e252, hx252_0, hx252_1, hx252_2, hx252_3, hl252_2, hi252_2⟩ := at_T36 (Kd.S_reads' HO_5.out).2.2 x11_2 p252 q252
                               obtain rfl : ad237 = ad252 := (by injection e252)
                               obtain ⟨ce252, hce252, hMe252, hcc252⟩ := Kd.S_get HO_5.out z36 x11_2 p252 (by first | exact q252 | exact od_ | (have e_ := (Kd.S_reads' HO_5.out).1; omega))
                               obtain ⟨ve252_2, rfl, ge252_2⟩ := k36_openM hMe252
                               have hv252_2 := hcc252 2 _ rfl
                               rw [add_field _ _ 2 (by omega)] at hv252_2
                               replace hv252_2 := Option.some.inj (hv252_2.symm.trans hx252_2)
                               rw [hv252_2] at ge252_2
                               have HL252_2 := Aside0.mk (show Kd.R (Kd.int .i64) 2 _ _ _ _ ((rd_T36 t227 x11_2).f2) from ge252_2)
                               clear hv252_2 ge252_2
                               clear hcc252 hce252
                               have HR252_2 := Aside0.mk hi252_2
                               have HC252_2 := Aside0.mk hl252_2
                               clear hi252_2 hl252_2
                               replace p252 := eq_true p252
                               replace q252 := eq_true q252
                               have p253 : 0 ≤ (x10_1 : Int) := od_
                               have q253 : x10_1 < (t227.length : Int) := od_
                               obtain ⟨ad253, A253_2, c253_2, e253, hx253_0, hx253_1, hx253_2, hx253_3, hl253_2, hi253_2⟩ := at_T36 (Kd.S_reads' HO_5.out).2.2 x10_1 p253 q253
                               obtain rfl : ad237 = ad253 := (by injection e253)
                               obtain ⟨ce253, hce253, hMe253, hcc253⟩ := Kd.S_get HO_5.out z36 x10_1 p253 (by first | exact q253 | exact od_ | (have e_ := (Kd.S_reads' HO_5.out).1; omega))
                               obtain ⟨ve253_2, rfl, ge253_2⟩ := k36_openM hMe253
                               have hv253_2 := hcc253 2 _ rfl
                               rw [add_field _ _ 2 (by omega)] at hv253_2
                               replace hv253_2 := Option.some.inj (hv253_2.symm.trans hx253_2)
                               rw [hv253_2] at ge253_2
                               have HL253_2 := Aside0.mk (show Kd.R (Kd.int .i64) 2 _ _ _ _ ((rd_T36 t227 x10_1).f2) from ge253_2)
                               clear hv253_2 ge253_2
                               clear hcc253 hce253
                               have HR253_2 := Aside0.mk hi253_2
                               have HC253_2 := Aside0.mk hl253_2
                               clear hi253_2 hl253_2
                               replace p253 := eq_true p253
                               replace q253 := eq_true q253
                               refine start_ (n := 31) (S := fun w' => w'.cell? (ad237.add ((x11_2).toNat * 4)) = some (.int .i64 ((rd_T36 t227 x11_2).f0)) ∧ w'.cell? ⟨(ad237.add ((x11_2).toNat * 4)).block, (ad237.add ((x11_2).toNat * 4)).off + 1, none⟩ = some (.int .i64 ((rd_T36 t227 x11_2).f1)) ∧ w'.cell? ⟨(ad237.add ((x11_2).toNat * 4)).block, (ad237.add ((x11_2).toNat * 4)).off + 2, none⟩ = some (.slice A252_2 ((rd_T36 t227 x11_2).f2).length c252_2) ∧ w'.cell? ⟨(ad237.add ((x11_2).toNat * 4)).block, (ad237.add ((x11_2).toNat * 4)).off + 3, none⟩ = some (.int .i64 ((rd_T36 t227 x11_2).f3)) ∧ w'.cell? (ad237.add ((x10_1).toNat * 4)) = some (.int .i64 ((rd_T36 t227 x10_1).f0)) ∧ w'.cell? ⟨(ad237.add ((x10_1).toNat * 4)).block, (ad237.add ((x10_1).toNat * 4)).off + 1, none⟩ = some (.int .i64 ((rd_T36 t227 x10_1).f1)) ∧ w'.cell? ⟨(ad237.add ((x10_1).toNat * 4)).block, (ad237.add ((x10_1).toNat * 4)).off + 2, none⟩ = some (.slice A253_2 ((rd_T36 t227 x10_1).f2).length c253_2) ∧ w'.cell? ⟨(ad237.add ((x10_1).toNat * 4)).block, (ad237.add ((x10_1).toNat * 4)).off + 3, none⟩ = some (.int .i64 ((rd_T36 t227 x10_1).f3))) (ds := []) #[false, false, false, false, false, false, false, false, false, false, false, false, false, false, false, false, false, false, false, false, false, false, false, false, false, false, false, false, false, false, false] (by kernel_rfl) rfl rfl ⟨hx252_0, hx252_1, hx252_2, hx252_3, hx253_0, hx253_1, hx253_2, hx253_3⟩ (fun hHeld => ?_); refine with_tabW laws_FnLabelsMeet.tab22 laws_FnLabelsMeet.bits22 (fun HT_ HW_ => ?_)
                               generalize wr.drew = w50 at HO_5 HO_6 HL251_2 HR237_2 HR240_2 HR243_2 HR244_2 HR247_2 HR248_2 HR251_2 HB HL252_2 HL253_2 HR252_2 HR253_2 hx252_0 hx252_1 hx252_2 hx252_3 hx253_0 hx253_1 hx253_2 hx253_3 hHeld ⊢
                               refine pure_ (i := 0) (N := some 119) (v := ?_) (a' := ?_) #[true, false, false, false, false, false, false, false, false, false, false, false, false, false, false, false, false, false, false, false, false, false, false, false, false, false, false, false, false, false, false] rfl rfl (any_of HT_.out (by kernel_rfl)) (fun _ _ _ h => h) (Or.inl ⟨by rfl, ?_⟩) ?_ ?_
                               rotate_left
                               ·intro w'
                                go_simp
                                with_reducible rfl
                               rotate_left
                               ·simp only [Act.put, List.setIfInBounds_toArray, List.set_cons_zero, List.set_cons_succ, i64_w, i32_w]
                                rfl
                               refine pure_ (i := 1) (N := some 120) (v := ?_) (a' := ?_) #[true, true, false, false, false, false, false, false, false, false, false, false, false, false, false, false, false, false, false, false, false, false, false, false, false, false, false, false, false, false, false] rfl rfl (any_of HT_.out (by kernel_rfl)) (fun _ _ _ h => h) (Or.inl ⟨by rfl, ?_⟩) ?_ ?_
                               rotate_left
                               ·intro w'
                                go_simp
                                with_reducible rfl
                               rotate_left
                               ·simp only [Act.put, List.setIfInBounds_toArray, List.set_cons_zero, List.set_cons_succ, i64_w, i32_w]
                                rfl
                               refine pure_ (i := 2) (N := some 121) (v := ?_) (a' := ?_) #[true, true, true, false, false, false, false, false, false, false, false, false, false, false, false, false, false, false, false, false, false, false, false, false, false, false, false, false, false, false, false] rfl rfl (any_of HT_.out (by kernel_rfl)) (fun _ _ _ h => h) (Or.inl ⟨by rfl, ?_⟩) ?_ ?_
                               rotate_left
                               ·intro w'
                                go_simp
                                with_reducible rfl
                               rotate_left
                               ·simp only [Act.put, List.setIfInBounds_toArray, List.set_cons_zero, List.set_cons_succ, i64_w, i32_w]
                                rfl
                               refine pure_ (i := 3) (N := some 122) (v := ?_) (a' := ?_) #[true, true, true, true, false, false, false, false, false, false, false, false, false, false, false, false, false, false, false, false, false, false, false, false, false, false, false, false, false, false, false] rfl rfl (any_of HT_.out (by kernel_rfl)) (fun _ _ _ h => h) (Or.inl ⟨by rfl, ?_⟩) ?_ ?_
                               rotate_left
                               ·intro w'
                                go_simp
                                with_reducible rfl
                               rotate_left
                               ·simp only [Act.put, List.setIfInBounds_toArray, List.set_cons_zero, List.set_cons_succ, i64_w, i32_w]
                                rfl
                               refine pure_ (i := 4) (N := some 123) (v := ?_) (a' := ?_) #[true, true, true, true, true, false, false, false, false, false, false, false, false, false, false, false, false, false, false, false, false, false, false, false, false, false, false, false, false, false, false] rfl rfl (any_of HT_.out (by kernel_rfl)) (fun _ _ _ h => h) (Or.inl ⟨by rfl, ?_⟩) ?_ ?_
                               rotate_left
                               ·intro w'
                                go_simp
                                with_reducible rfl
                               rotate_left
                               ·simp only [Act.put, List.setIfInBounds_toArray, List.set_cons_zero, List.set_cons_succ, i64_w, i32_w]
                                rfl
                               refine pure_ (i := 5) (N := some 124) (v := ?_) (a' := ?_) #[true, true, true, true, true, true, false, false, false, false, false, false, false, false, false, false, false, false, false, false, false, false, false, false, false, false, false, false, false, false, false] rfl rfl (any_of HT_.out (by kernel_rfl)) (fun _ _ _ h => h) (Or.inl ⟨by rfl, ?_⟩) ?_ ?_
                               rotate_left
                               ·intro w'
                                go_simp
                                with_reducible rfl
                               rotate_left
                               ·simp only [Act.put, List.setIfInBounds_toArray, List.set_cons_zero, List.set_cons_succ, i64_w, i32_w]
                                rfl
                               refine pure_ (i := 7) (N := some 126) (v := ?_) (a' := ?_) #[true, true, true, true, true, true, false, true, false, false, false, false, false, false, false, false, false, false, false, false, false, false, false, false, false, false, false, false, false, false, false] rfl rfl (any_of HT_.out (by kernel_rfl)) (fun _ _ _ h => h) (Or.inl ⟨by rfl, ?_⟩) ?_ ?_
                               rotate_left
                               ·intro w'
                                go_simp
                                with_reducible rfl
                               rotate_left
                               ·simp only [Act.put, List.setIfInBounds_toArray, List.set_cons_zero, List.set_cons_succ, i64_w, i32_w]
                                rfl
                               refine pure_ (i := 8) (N := some 127) (v := ?_) (a' := ?_) #[true, true, true, true, true, true, false, true, true, false, false, false, false, false, false, false, false, false, false, false, false, false, false, false, false, false, false, false, false, false, false] rfl rfl (any_of HT_.out (by kernel_rfl)) (fun _ _ _ h => h) (Or.inl ⟨by rfl, ?_⟩) ?_ ?_
                               rotate_left
                               ·intro w'
                                go_simp
                                with_reducible rfl
                               rotate_left
                               ·simp only [Act.put, List.setIfInBounds_toArray, List.set_cons_zero, List.set_cons_succ, i64_w, i32_w]
                                rfl
                               refine pure_ (i := 9) (N := some 128) (v := ?_) (a' := ?_) #[true, true, true, true, true, true, false, true, true, true, false, false, false, false, false, false, false, false, false, false, false, false, false, false, false, false, false, false, false, false, false] rfl rfl (any_of HT_.out (by kernel_rfl)) (fun _ _ _ h => h) (Or.inl ⟨by rfl, ?_⟩) ?_ ?_
                               rotate_left
                               ·intro w'
                                go_simp
                                with_reducible rfl
                               rotate_left
                               ·simp only [Act.put, List.setIfInBounds_toArray, List.set_cons_zero, List.set_cons_succ, i64_w, i32_w]
                                rfl
                               refine pure_ (i := 10) (N := some 129) (v := ?_) (a' := ?_) #[true, true, true, true, true, true, false, true, true, true, true, false, false, false, false, false, false, false, false, false, false, false, false, false, false, false, false, false, false, false, false] rfl rfl (any_of HT_.out (by kernel_rfl)) (fun _ _ _ h => h) (Or.inl ⟨by rfl, ?_⟩) ?_ ?_
                               rotate_left
                               ·intro w'
                                go_simp
                                with_reducible rfl
                               rotate_left
                               ·simp only [Act.put, List.setIfInBounds_toArray, List.set_cons_zero, List.set_cons_succ, i64_w, i32_w]
                                rfl
                               refine take_ (i := 6) (N := some 125) (v := ?_) (a' := ?_) #[true, true, true, true, true, true, true, true, true, true, true, false, false, false, false, false, false, false, false, false, false, false, false, false, false, false, false, false, false, false, false] rfl rfl (take_ofW HT_.out HW_.out (by kernel_rfl)) (fun _ _ _ h => h) (Or.inl ⟨by rfl, ?_⟩) hHeld ?_ ?_
                               rotate_left
                               ·rintro w' ⟨s0, s1, s2, s3, s4, s5, s6, s7⟩
                                go_simp
                                with_reducible rfl
                               rotate_left
                               ·simp only [Act.put, List.setIfInBounds_toArray, List.set_cons_zero, List.set_cons_succ, i64_w, i32_w]
                                rfl
                               refine take_ (i := 11) (N := some 130) (v := ?_) (a' := ?_) #[true, true, true, true, true, true, true, true, true, true, true, true, false, false, false, false, false, false, false, false, false, false, false, false, false, false, false, false, false, false, false] rfl rfl (take_ofW HT_.out HW_.out (by kernel_rfl)) (fun _ _ _ h => h) (Or.inl ⟨by rfl, ?_⟩) hHeld ?_ ?_
                               rotate_left
                               ·rintro w' ⟨s0, s1, s2, s3, s4, s5, s6, s7⟩
                                go_simp
                                with_reducible rfl
                               rotate_left
                               ·simp only [Act.put, List.setIfInBounds_toArray, List.set_cons_zero, List.set_cons_succ, i64_w, i32_w]
                                rfl
                               refine pure_ (i := 12) (N := some 131) (v := ?_) (a' := ?_) #[true, true, true, true, true, true, true, true, true, true, true, true, true, false, false, false, false, false, false, false, false, false, false, false, false, false, false, false, false, false, false] rfl rfl (any_of HT_.out (by kernel_rfl)) (fun _ _ _ h => h) (Or.inl ⟨by rfl, ?_⟩) ?_ ?_
                               rotate_left
                               ·intro w'
                                go_simp
                                with_reducible rfl
                               rotate_left
                               ·simp only [Act.put, List.setIfInBounds_toArray, List.set_cons_zero, List.set_cons_succ, i64_w, i32_w]
                                rfl
                               refine pure_ (i := 13) (N := some 132) (v := ?_) (a' := ?_) #[true, true, true, true, true, true, true, true, true, true, true, true, true, true, false, false, false, false, false, false, false, false, false, false, false, false, false, false, false, false, false] rfl rfl (any_of HT_.out (by kernel_rfl)) (fun _ _ _ h => h) (Or.inl ⟨by rfl, ?_⟩) ?_ ?_
                               rotate_left
                               ·intro w'
                                go_simp
                                with_reducible rfl
                               rotate_left
                               ·simp only [Act.put, List.setIfInBounds_toArray, List.set_cons_zero, List.set_cons_succ, i64_w, i32_w]
                                rfl
                               refine pure_ (i := 14) (N := some 133) (v := ?_) (a' := ?_) #[true, true, true, true, true, true, true, true, true, true, true, true, true, true, true, false, false, false, false, false, false, false, false, false, false, false, false, false, false, false, false] rfl rfl (any_of HT_.out (by kernel_rfl)) (fun _ _ _ h => h) (Or.inl ⟨by rfl, ?_⟩) ?_ ?_
                               rotate_left
                               ·intro w'
                                go_simp
                                with_reducible rfl
                               rotate_left
                               ·simp only [Act.put, List.setIfInBounds_toArray, List.set_cons_zero, List.set_cons_succ, i64_w, i32_w]
                                rfl
                               refine pure_ (i := 15) (N := some 134) (v := ?_) (a' := ?_) #[true, true, true, true, true, true, true, true, true, true, true, true, true, true, true, true, false, false, false, false, false, false, false, false, false, false, false, false, false, false, false] rfl rfl (any_of HT_.out (by kernel_rfl)) (fun _ _ _ h => h) (Or.inl ⟨by rfl, ?_⟩) ?_ ?_
                               rotate_left
                               ·intro w'
                                go_simp
                                with_reducible rfl
                               rotate_left
                               ·simp only [Act.put, List.setIfInBounds_toArray, List.set_cons_zero, List.set_cons_succ, i64_w, i32_w]
                                rfl
                               refine pure_ (i := 16) (N := some 135) (v := ?_) (a' := ?_) #[true, true, true, true, true, true, true, true, true, true, true, true, true, true, true, true, true, false, false, false, false, false, false, false, false, false, false, false, false, false, false] rfl rfl (any_of HT_.out (by kernel_rfl)) (fun _ _ _ h => h) (Or.inl ⟨by rfl, ?_⟩) ?_ ?_
                               rotate_left
                               ·intro w'
                                go_simp
                                with_reducible rfl
                               rotate_left
                               ·simp only [Act.put, List.setIfInBounds_toArray, List.set_cons_zero, List.set_cons_succ, i64_w, i32_w]
                                rfl
                               refine pure_ (i := 17) (N := some 136) (v := ?_) (a' := ?_) #[true, true, true, true, true, true, true, true, true, true, true, true, true, true, true, true, true, true, false, false, false, false, false, false, false, false, false, false, false, false, false] rfl rfl (any_of HT_.out (by kernel_rfl)) (fun _ _ _ h => h) (Or.inl ⟨by rfl, ?_⟩) ?_ ?_
                               rotate_left
                               ·intro w'
                                go_simp
                                with_reducible rfl
                               rotate_left
                               ·simp only [Act.put, List.setIfInBounds_toArray, List.set_cons_zero, List.set_cons_succ, i64_w, i32_w]
                                rfl
                               refine pure_ (i := 18) (N := some 137) (v := ?_) (a' := ?_) #[true, true, true, true, true, true, true, true, true, true, true, true, true, true, true, true, true, true, true, false, false, false, false, false, false, false, false, false, false, false, false] rfl rfl (any_of HT_.out (by kernel_rfl)) (fun _ _ _ h => h) (Or.inl ⟨by rfl, ?_⟩) ?_ ?_
                               rotate_left
                               ·intro w'
                                go_simp
                                with_reducible rfl
                               rotate_left
                               ·simp only [Act.put, List.setIfInBounds_toArray, List.set_cons_zero, List.set_cons_succ, i64_w, i32_w]
                                rfl
                               refine pure_ (i := 19) (N := some 138) (v := undef) (a' := ?_) #[true, true, true, true, true, true, true, true, true, true, true, true, true, true, true, true, true, true, true, true, false, false, false, false, false, false, false, false, false, false, false] rfl rfl (any_of HT_.out (by kernel_rfl)) (fun _ _ _ h => h) (Or.inr ⟨by rfl, rfl⟩) ?_ ?_
                               rotate_left
                               ·simp only [Act.put, List.setIfInBounds_toArray, List.set_cons_zero, List.set_cons_succ, i64_w, i32_w]
                                rfl
                               refine pure_ (i := 20) (N := some 139) (v := undef) (a' := ?_) #[true, true, true, true, true, true, true, true, true, true, true, true, true, true, true, true, true, true, true, true, true, false, false, false, false, false, false, false, false, false, false] rfl rfl (any_of HT_.out (by kernel_rfl)) (fun _ _ _ h => h) (Or.inr ⟨by rfl, rfl⟩) ?_ ?_
                               rotate_left
                               ·simp only [Act.put, List.setIfInBounds_toArray, List.set_cons_zero, List.set_cons_succ, i64_w, i32_w]
                                rfl
                               refine pure_ (i := 21) (N := some 140) (v := undef) (a' := ?_) #[true, true, true, true, true, true, true, true, true, true, true, true, true, true, true, true, true, true, true, true, true, true, false, false, false, false, false, false, false, false, false] rfl rfl (any_of HT_.out (by kernel_rfl)) (fun _ _ _ h => h) (Or.inr ⟨by rfl, rfl⟩) ?_ ?_
                               rotate_left
                               ·simp only [Act.put, List.setIfInBounds_toArray, List.set_cons_zero, List.set_cons_succ, i64_w, i32_w]
                                rfl
                               refine pure_ (i := 22) (N := some 141) (v := undef) (a' := ?_) #[true, true, true, true, true, true, true, true, true, true, true, true, true, true, true, true, true, true, true, true, true, true, true, false, false, false, false, false, false, false, false] rfl rfl (any_of HT_.out (by kernel_rfl)) (fun _ _ _ h => h) (Or.inr ⟨by rfl, rfl⟩) ?_ ?_
                               rotate_left
                               ·simp only [Act.put, List.setIfInBounds_toArray, List.set_cons_zero, List.set_cons_succ, i64_w, i32_w]
                                rfl
                               refine pure_ (i := 23) (N := some 142) (v := undef) (a' := ?_) #[true, true, true, true, true, true, true, true, true, true, true, true, true, true, true, true, true, true, true, true, true, true, true, true, false, false, false, false, false, false, false] rfl rfl (any_of HT_.out (by kernel_rfl)) (fun _ _ _ h => h) (Or.inr ⟨by rfl, rfl⟩) ?_ ?_
                               rotate_left
                               ·simp only [Act.put, List.setIfInBounds_toArray, List.set_cons_zero, List.set_cons_succ, i64_w, i32_w]
                                rfl
                               refine pure_ (i := 24) (N := some 143) (v := undef) (a' := ?_) #[true, true, true, true, true, true, true, true, true, true, true, true, true, true, true, true, true, true, true, true, true, true, true, true, true, false, false, false, false, false, false] rfl rfl (any_of HT_.out (by kernel_rfl)) (fun _ _ _ h => h) (Or.inr ⟨by rfl, rfl⟩) ?_ ?_
                               rotate_left
                               ·simp only [Act.put, List.setIfInBounds_toArray, List.set_cons_zero, List.set_cons_succ, i64_w, i32_w]
                                rfl
                               refine pure_ (i := 25) (N := some 144) (v := undef) (a' := ?_) #[true, true, true, true, true, true, true, true, true, true, true, true, true, true, true, true, true, true, true, true, true, true, true, true, true, true, false, false, false, false, false] rfl rfl (any_of HT_.out (by kernel_rfl)) (fun _ _ _ h => h) (Or.inr ⟨by rfl, rfl⟩) ?_ ?_
                               rotate_left
                               ·simp only [Act.put, List.setIfInBounds_toArray, List.set_cons_zero, List.set_cons_succ, i64_w, i32_w]
                                rfl
                               refine pure_ (i := 26) (N := some 145) (v := undef) (a' := ?_) #[true, true, true, true, true, true, true, true, true, true, true, true, true, true, true, true, true, true, true, true, true, true, true, true, true, true, true, false, false, false, false] rfl rfl (any_of HT_.out (by kernel_rfl)) (fun _ _ _ h => h) (Or.inr ⟨by rfl, rfl⟩) ?_ ?_
                               rotate_left
                               ·simp only [Act.put, List.setIfInBounds_toArray, List.set_cons_zero, List.set_cons_succ, i64_w, i32_w]
                                rfl
                               refine pure_ (i := 27) (N := some 146) (v := undef) (a' := ?_) #[true, true, true, true, true, true, true, true, true, true, true, true, true, true, true, true, true, true, true, true, true, true, true, true, true, true, true, true, false, false, false] rfl rfl (any_of HT_.out (by kernel_rfl)) (fun _ _ _ h => h) (Or.inr ⟨by rfl, rfl⟩) ?_ ?_
                               rotate_left
                               ·simp only [Act.put, List.setIfInBounds_toArray, List.set_cons_zero, List.set_cons_succ, i64_w, i32_w]
                                rfl
                               refine pure_ (i := 28) (N := some 147) (v := ?_) (a' := ?_) #[true, true, true, true, true, true, true, true, true, true, true, true, true, true, true, true, true, true, true, true, true, true, true, true, true, true, true, true, true, false, false] rfl rfl (any_of HT_.out (by kernel_rfl)) (fun _ _ _ h => h) (Or.inl ⟨by rfl, ?_⟩) ?_ ?_
                               rotate_left
                               ·intro w'
                                go_simp
                                with_reducible rfl
                               rotate_left
                               ·simp only [Act.put, List.setIfInBounds_toArray, List.set_cons_zero, List.set_cons_succ, i64_w, i32_w]
                                rfl
                               refine pure_ (i := 29) (N := some 148) (v := ?_) (a' := ?_) #[true, true, true, true, true, true, true, true, true, true, true, true, true, true, true, true, true, true, true, true, true, true, true, true, true, true, true, true, true, true, false] rfl rfl (any_of HT_.out (by kernel_rfl)) (fun _ _ _ h => h) (Or.inl ⟨by rfl, ?_⟩) ?_ ?_
                               rotate_left
                               ·intro w'
                                go_simp
                                with_reducible rfl
                               rotate_left
                               ·simp only [Act.put, List.setIfInBounds_toArray, List.set_cons_zero, List.set_cons_succ, i64_w, i32_w]
                                rfl
                               refine pure_ (i := 30) (N := some 18) (v := ?_) (a' := ?_) #[true, true, true, true, true, true, true, true, true, true, true, true, true, true, true, true, true, true, true, true, true, true, true, true, true, true, true, true, true, true, true] rfl rfl (any_of HT_.out (by kernel_rfl)) (fun _ _ _ h => h) (Or.inl ⟨by rfl, ?_⟩) ?_ ?_
                               rotate_left
                               ·intro w'
                                go_simp
                                with_reducible rfl
                               rotate_left
                               ·simp only [Act.put, List.setIfInBounds_toArray, List.set_cons_zero, List.set_cons_succ, i64_w, i32_w]
                                rfl
                               refine done_ (done_of HT_.out (by kernel_rfl)) ?_
                               try go_wp2
                               go_roundg k4
                               case measure => have := HK1.out; have := HK2.out; have := HJ14.out; have := HK4.out; omega
                               case rel => exact ⟨(false), (wrap64 (x19_4 + 1)), (by first | rfl | (simp; done) | (simp [*]; done)), (by first | rfl | (simp; done) | (simp [*]; done)), H', ⟨by have := HK1.out; have := HK2.out; have := HJ14.out; have := HK4.out; omega⟩, ⟨by (with_reducible repeat (first | apply Kd.S_alloc | apply Kd.S_drewN | apply Kd.S_drew)); exact HO_5.out⟩, ⟨by (with_reducible repeat (first | apply Kd.R_alloc | apply Kd.R_drewN | apply Kd.R_drew)); exact HO_6.out⟩, ⟨by repeat (first | (with_reducible exact HR237_2.out) | (with_reducible refine Kd.C_alloc ?_ _) | (with_reducible refine Kd.C_drewN ?_ _) | (with_reducible refine Kd.C_drew ?_) | exact HR237_2.out)⟩, ⟨by repeat (first | (with_reducible exact HR240_2.out) | (with_reducible refine Kd.C_alloc ?_ _) | (with_reducible refine Kd.C_drewN ?_ _) | (with_reducible refine Kd.C_drew ?_) | exact HR240_2.out)⟩, ⟨by repeat (first | (with_reducible exact HR243_2.out) | (with_reducible refine Kd.C_alloc ?_ _) | (with_reducible refine Kd.C_drewN ?_ _) | (with_reducible refine Kd.C_drew ?_) | exact HR243_2.out)⟩, ⟨by repeat (first | (with_reducible exact HR244_2.out) | (with_reducible refine Kd.C_alloc ?_ _) | (with_reducible refine Kd.C_drewN ?_ _) | (with_reducible refine Kd.C_drew ?_) | exact HR244_2.out)⟩, ⟨by repeat (first | (with_reducible exact HR247_2.out) | (with_reducible refine Kd.C_alloc ?_ _) | (with_reducible refine Kd.C_drewN ?_ _) | (with_reducible refine Kd.C_drew ?_) | exact HR247_2.out)⟩, ⟨by repeat (first | (with_reducible exact HR248_2.out) | (with_reducible refine Kd.C_alloc ?_ _) | (with_reducible refine Kd.C_drewN ?_ _) | (with_reducible refine Kd.C_drew ?_) | exact HR248_2.out)⟩, ⟨by repeat (first | (with_reducible first | exact HB.out | apply below_alloc | apply pw_below_drewN | apply below_drew1) | exact HB.out)⟩⟩
                             ·rw [if_neg c47] at H
                              have c47b0 : (((rd_T36 t227 x11_2).f0) == ((rd_T36 t227 x10_1).f0)) = false := beq_eq_false_iff_ne.mpr c47
                              have c47b1 : (((rd_T36 t227 x11_2).f0) != ((rd_T36 t227 x10_1).f0)) = true := bne_iff_ne.mpr c47
                              have H' := Aside0.mk H
                              clear H
                              have p251 : 0 ≤ (x11_2 : Int) := od_
                              have q251 : x11_2 < (t227.length : Int) := od_
                              obtain ⟨ad251, A251_2, c251_2, e251, hx251_0, hx251_1, hx251_2, hx251_3, hl251_2, hi251_2⟩ := at_T36 (Kd.S_reads' HO_5.out).2.2 x11_2 p251 q251
                              obtain rfl : ad237 = ad251 := (by injection e251)
                              obtain ⟨ce251, hce251, hMe251, hcc251⟩ := Kd.S_get HO_5.out z36 x11_2 p251 (by first | exact q251 | exact od_ | (have e_ := (Kd.S_reads' HO_5.out).1; omega))
                              obtain ⟨ve251_2, rfl, ge251_2⟩ := k36_openM hMe251
                              have hv251_2 := hcc251 2 _ rfl
                              rw [add_field _ _ 2 (by omega)] at hv251_2
                              replace hv251_2 := Option.some.inj (hv251_2.symm.trans hx251_2)
                              rw [hv251_2] at ge251_2
                              have HL251_2 := Aside0.mk (show Kd.R (Kd.int .i64) 2 _ _ _ _ ((rd_T36 t227 x11_2).f2) from ge251_2)
                              clear hv251_2 ge251_2
                              clear hcc251 hce251
                              have HR251_2 := Aside0.mk hi251_2
                              have HC251_2 := Aside0.mk hl251_2
                              clear hi251_2 hl251_2
                              replace p251 := eq_true p251
                              replace q251 := eq_true q251
                              try go_wp2
                              have n0_ := Aside0.mk (Kd.S_drew HO_5.out)
                              have n1_ := Aside0.mk (Kd.R_drew HO_6.out)
                              have n2_ := Aside0.mk (Kd.R_drew HL251_2.out)
                              have n3_ := Aside0.mk (Kd.C_drew HR237_2.out)
                              have n4_ := Aside0.mk (Kd.C_drew HR240_2.out)
                              have n5_ := Aside0.mk (Kd.C_drew HR243_2.out)
                              have n6_ := Aside0.mk (Kd.C_drew HR244_2.out)
                              have n7_ := Aside0.mk (Kd.C_drew HR247_2.out)
                              have n8_ := Aside0.mk (Kd.C_drew HR248_2.out)
                              have n9_ := Aside0.mk (Kd.C_drew HR251_2.out)
                              have n10_ := Aside0.mk (below_drew1 HB.out)
                              clear HO_5
                              clear HO_6
                              clear HL251_2
                              clear HR237_2
                              clear HR240_2
                              clear HR243_2
                              clear HR244_2
                              clear HR247_2
                              clear HR248_2
                              clear HR251_2
                              clear HB
                              have HO_5 := n0_
                              have HO_6 := n1_
                              have HL251_2 := n2_
                              have HR237_2 := n3_
                              have HR240_2 := n4_
                              have HR243_2 := n5_
                              have HR244_2 := n6_
                              have HR247_2 := n7_
                              have HR248_2 := n8_
                              have HR251_2 := n9_
                              have HB := n10_
                              clear n0_ n1_ n2_ n3_ n4_ n5_ n6_ n7_ n8_ n9_ n10_
                              have p252 : 0 ≤ (x11_2 : Int) := od_
                              have q252 : x11_2 < (t227.length : Int) := od_
                              obtain ⟨ad252, A252_2, c252_2, e252, hx252_0, hx252_1, hx252_2, hx252_3, hl252_2, hi252_2⟩ := at_T36 (Kd.S_reads' HO_5.out).2.2 x11_2 p252 q252
                              obtain rfl : ad237 = ad252 := (by injection e252)
                              obtain ⟨ce252, hce252, hMe252, hcc252⟩ := Kd.S_get HO_5.out z36 x11_2 p252 (by first | exact q252 | exact od_ | (have e_ := (Kd.S_reads' HO_5.out).1; omega))
                              obtain ⟨ve252_2, rfl, ge252_2⟩ := k36_openM hMe252
                              have hv252_2 := hcc252 2 _ rfl
                              rw [add_field _ _ 2 (by omega)] at hv252_2
                              replace hv252_2 := Option.some.inj (hv252_2.symm.trans hx252_2)
                              rw [hv252_2] at ge252_2
                              have HL252_2 := Aside0.mk (show Kd.R (Kd.int .i64) 2 _ _ _ _ ((rd_T36 t227 x11_2).f2) from ge252_2)
                              clear hv252_2 ge252_2
                              clear hcc252 hce252
                              have HR252_2 := Aside0.mk hi252_2
                              have HC252_2 := Aside0.mk hl252_2
                              clear hi252_2 hl252_2
                              replace p252 := eq_true p252
                              replace q252 := eq_true q252
                              have p253 : 0 ≤ (x10_1 : Int) := od_
                              have q253 : x10_1 < (t227.length : Int) := od_
                              obtain ⟨ad253, A253_2, c253_2, e253, hx253_0, hx253_1, hx253_2, hx253_3, hl253_2, hi253_2⟩ := at_T36 (Kd.S_reads' HO_5.out).2.2 x10_1 p253 q253
                              obtain rfl : ad237 = ad253 := (by injection e253)
                              obtain ⟨ce253, hce253, hMe253, hcc253⟩ := Kd.S_get HO_5.out z36 x10_1 p253 (by first | exact q253 | exact od_ | (have e_ := (Kd.S_reads' HO_5.out).1; omega))
                              obtain ⟨ve253_2, rfl, ge253_2⟩ := k36_openM hMe253
                              have hv253_2 := hcc253 2 _ rfl
                              rw [add_field _ _ 2 (by omega)] at hv253_2
                              replace hv253_2 := Option.some.inj (hv253_2.symm.trans hx253_2)
                              rw [hv253_2] at ge253_2
                              have HL253_2 := Aside0.mk (show Kd.R (Kd.int .i64) 2 _ _ _ _ ((rd_T36 t227 x10_1).f2) from ge253_2)
                              clear hv253_2 ge253_2
                              clear hcc253 hce253
                              have HR253_2 := Aside0.mk hi253_2
                              have HC253_2 := Aside0.mk hl253_2
                              clear hi253_2 hl253_2
                              replace p253 := eq_true p253
                              replace q253 := eq_true q253
                              refine start_ (n := 31) (S := fun w' => w'.cell? (ad237.add ((x11_2).toNat * 4)) = some (.int .i64 ((rd_T36 t227 x11_2).f0)) ∧ w'.cell? ⟨(ad237.add ((x11_2).toNat * 4)).block, (ad237.add ((x11_2).toNat * 4)).off + 1, none⟩ = some (.int .i64 ((rd_T36 t227 x11_2).f1)) ∧ w'.cell? ⟨(ad237.add ((x11_2).toNat * 4)).block, (ad237.add ((x11_2).toNat * 4)).off + 2, none⟩ = some (.slice A252_2 ((rd_T36 t227 x11_2).f2).length c252_2) ∧ w'.cell? ⟨(ad237.add ((x11_2).toNat * 4)).block, (ad237.add ((x11_2).toNat * 4)).off + 3, none⟩ = some (.int .i64 ((rd_T36 t227 x11_2).f3)) ∧ w'.cell? (ad237.add ((x10_1).toNat * 4)) = some (.int .i64 ((rd_T36 t227 x10_1).f0)) ∧ w'.cell? ⟨(ad237.add ((x10_1).toNat * 4)).block, (ad237.add ((x10_1).toNat * 4)).off + 1, none⟩ = some (.int .i64 ((rd_T36 t227 x10_1).f1)) ∧ w'.cell? ⟨(ad237.add ((x10_1).toNat * 4)).block, (ad237.add ((x10_1).toNat * 4)).off + 2, none⟩ = some (.slice A253_2 ((rd_T36 t227 x10_1).f2).length c253_2) ∧ w'.cell? ⟨(ad237.add ((x10_1).toNat * 4)).block, (ad237.add ((x10_1).toNat * 4)).off + 3, none⟩ = some (.int .i64 ((rd_T36 t227 x10_1).f3))) (ds := []) #[false, false, false, false, false, false, false, false, false, false, false, false, false, false, false, false, false, false, false, false, false, false, false, false, false, false, false, false, false, false, false] (by kernel_rfl) rfl rfl ⟨hx252_0, hx252_1, hx252_2, hx252_3, hx253_0, hx253_1, hx253_2, hx253_3⟩ (fun hHeld => ?_); refine with_tabW laws_FnLabelsMeet.tab22 laws_FnLabelsMeet.bits22 (fun HT_ HW_ => ?_)
                              generalize wr.drew = w51 at HO_5 HO_6 HL251_2 HR237_2 HR240_2 HR243_2 HR244_2 HR247_2 HR248_2 HR251_2 HB HL252_2 HL253_2 HR252_2 HR253_2 hx252_0 hx252_1 hx252_2 hx252_3 hx253_0 hx253_1 hx253_2 hx253_3 hHeld ⊢
                              refine pure_ (i := 0) (N := some 119) (v := ?_) (a' := ?_) #[true, false, false, false, false, false, false, false, false, false, false, false, false, false, false, false, false, false, false, false, false, false, false, false, false, false, false, false, false, false, false] rfl rfl (any_of HT_.out (by kernel_rfl)) (fun _ _ _ h => h) (Or.inl ⟨by rfl, ?_⟩) ?_ ?_
                              rotate_left
                              ·intro w'
                               go_simp
                               with_reducible rfl
                              rotate_left
                              ·simp only [Act.put, List.setIfInBounds_toArray, List.set_cons_zero, List.set_cons_succ, i64_w, i32_w]
                               rfl
                              refine pure_ (i := 1) (N := some 120) (v := ?_) (a' := ?_) #[true, true, false, false, false, false, false, false, false, false, false, false, false, false, false, false, false, false, false, false, false, false, false, false, false, false, false, false, false, false, false] rfl rfl (any_of HT_.out (by kernel_rfl)) (fun _ _ _ h => h) (Or.inl ⟨by rfl, ?_⟩) ?_ ?_
                              rotate_left
                              ·intro w'
                               go_simp
                               with_reducible rfl
                              rotate_left
                              ·simp only [Act.put, List.setIfInBounds_toArray, List.set_cons_zero, List.set_cons_succ, i64_w, i32_w]
                               rfl
                              refine pure_ (i := 2) (N := some 121) (v := ?_) (a' := ?_) #[true, true, true, false, false, false, false, false, false, false, false, false, false, false, false, false, false, false, false, false, false, false, false, false, false, false, false, false, false, false, false] rfl rfl (any_of HT_.out (by kernel_rfl)) (fun _ _ _ h => h) (Or.inl ⟨by rfl, ?_⟩) ?_ ?_
                              rotate_left
                              ·intro w'
                               go_simp
                               with_reducible rfl
                              rotate_left
                              ·simp only [Act.put, List.setIfInBounds_toArray, List.set_cons_zero, List.set_cons_succ, i64_w, i32_w]
                               rfl
                              refine pure_ (i := 3) (N := some 122) (v := ?_) (a' := ?_) #[true, true, true, true, false, false, false, false, false, false, false, false, false, false, false, false, false, false, false, false, false, false, false, false, false, false, false, false, false, false, false] rfl rfl (any_of HT_.out (by kernel_rfl)) (fun _ _ _ h => h) (Or.inl ⟨by rfl, ?_⟩) ?_ ?_
                              rotate_left
                              ·intro w'
                               go_simp
                               with_reducible rfl
                              rotate_left
                              ·simp only [Act.put, List.setIfInBounds_toArray, List.set_cons_zero, List.set_cons_succ, i64_w, i32_w]
                               rfl
                              refine pure_ (i := 4) (N := some 123) (v := ?_) (a' := ?_) #[true, true, true, true, true, false, false, false, false, false, false, false, false, false, false, false, false, false, false, false, false, false, false, false, false, false, false, false, false, false, false] rfl rfl (any_of HT_.out (by kernel_rfl)) (fun _ _ _ h => h) (Or.inl ⟨by rfl, ?_⟩) ?_ ?_
                              rotate_left
                              ·intro w'
                               go_simp
                               with_reducible rfl
                              rotate_left
                              ·simp only [Act.put, List.setIfInBounds_toArray, List.set_cons_zero, List.set_cons_succ, i64_w, i32_w]
                               rfl
                              refine pure_ (i := 5) (N := some 124) (v := ?_) (a' := ?_) #[true, true, true, true, true, true, false, false, false, false, false, false, false, false, false, false, false, false, false, false, false, false, false, false, false, false, false, false, false, false, false] rfl rfl (any_of HT_.out (by kernel_rfl)) (fun _ _ _ h => h) (Or.inl ⟨by rfl, ?_⟩) ?_ ?_
                              rotate_left
                              ·intro w'
                               go_simp
                               with_reducible rfl
                              rotate_left
                              ·simp only [Act.put, List.setIfInBounds_toArray, List.set_cons_zero, List.set_cons_succ, i64_w, i32_w]
                               rfl
                              refine pure_ (i := 7) (N := some 126) (v := ?_) (a' := ?_) #[true, true, true, true, true, true, false, true, false, false, false, false, false, false, false, false, false, false, false, false, false, false, false, false, false, false, false, false, false, false, false] rfl rfl (any_of HT_.out (by kernel_rfl)) (fun _ _ _ h => h) (Or.inl ⟨by rfl, ?_⟩) ?_ ?_
                              rotate_left
                              ·intro w'
                               go_simp
                               with_reducible rfl
                              rotate_left
                              ·simp only [Act.put, List.setIfInBounds_toArray, List.set_cons_zero, List.set_cons_succ, i64_w, i32_w]
                               rfl
                              refine pure_ (i := 8) (N := some 127) (v := ?_) (a' := ?_) #[true, true, true, true, true, true, false, true, true, false, false, false, false, false, false, false, false, false, false, false, false, false, false, false, false, false, false, false, false, false, false] rfl rfl (any_of HT_.out (by kernel_rfl)) (fun _ _ _ h => h) (Or.inl ⟨by rfl, ?_⟩) ?_ ?_
                              rotate_left
                              ·intro w'
                               go_simp
                               with_reducible rfl
                              rotate_left
                              ·simp only [Act.put, List.setIfInBounds_toArray, List.set_cons_zero, List.set_cons_succ, i64_w, i32_w]
                               rfl
                              refine pure_ (i := 9) (N := some 128) (v := ?_) (a' := ?_) #[true, true, true, true, true, true, false, true, true, true, false, false, false, false, false, false, false, false, false, false, false, false, false, false, false, false, false, false, false, false, false] rfl rfl (any_of HT_.out (by kernel_rfl)) (fun _ _ _ h => h) (Or.inl ⟨by rfl, ?_⟩) ?_ ?_
                              rotate_left
                              ·intro w'
                               go_simp
                               with_reducible rfl
                              rotate_left
                              ·simp only [Act.put, List.setIfInBounds_toArray, List.set_cons_zero, List.set_cons_succ, i64_w, i32_w]
                               rfl
                              refine pure_ (i := 10) (N := some 129) (v := ?_) (a' := ?_) #[true, true, true, true, true, true, false, true, true, true, true, false, false, false, false, false, false, false, false, false, false, false, false, false, false, false, false, false, false, false, false] rfl rfl (any_of HT_.out (by kernel_rfl)) (fun _ _ _ h => h) (Or.inl ⟨by rfl, ?_⟩) ?_ ?_
                              rotate_left
                              ·intro w'
                               go_simp
                               with_reducible rfl
                              rotate_left
                              ·simp only [Act.put, List.setIfInBounds_toArray, List.set_cons_zero, List.set_cons_succ, i64_w, i32_w]
                               rfl
                              refine take_ (i := 6) (N := some 125) (v := ?_) (a' := ?_) #[true, true, true, true, true, true, true, true, true, true, true, false, false, false, false, false, false, false, false, false, false, false, false, false, false, false, false, false, false, false, false] rfl rfl (take_ofW HT_.out HW_.out (by kernel_rfl)) (fun _ _ _ h => h) (Or.inl ⟨by rfl, ?_⟩) hHeld ?_ ?_
                              rotate_left
                              ·rintro w' ⟨s0, s1, s2, s3, s4, s5, s6, s7⟩
                               go_simp
                               with_reducible rfl
                              rotate_left
                              ·simp only [Act.put, List.setIfInBounds_toArray, List.set_cons_zero, List.set_cons_succ, i64_w, i32_w]
                               rfl
                              refine take_ (i := 11) (N := some 130) (v := ?_) (a' := ?_) #[true, true, true, true, true, true, true, true, true, true, true, true, false, false, false, false, false, false, false, false, false, false, false, false, false, false, false, false, false, false, false] rfl rfl (take_ofW HT_.out HW_.out (by kernel_rfl)) (fun _ _ _ h => h) (Or.inl ⟨by rfl, ?_⟩) hHeld ?_ ?_
                              rotate_left
                              ·rintro w' ⟨s0, s1, s2, s3, s4, s5, s6, s7⟩
                               go_simp
                               with_reducible rfl
                              rotate_left
                              ·simp only [Act.put, List.setIfInBounds_toArray, List.set_cons_zero, List.set_cons_succ, i64_w, i32_w]
                               rfl
                              refine pure_ (i := 12) (N := some 131) (v := ?_) (a' := ?_) #[true, true, true, true, true, true, true, true, true, true, true, true, true, false, false, false, false, false, false, false, false, false, false, false, false, false, false, false, false, false, false] rfl rfl (any_of HT_.out (by kernel_rfl)) (fun _ _ _ h => h) (Or.inl ⟨by rfl, ?_⟩) ?_ ?_
                              rotate_left
                              ·intro w'
                               go_simp
                               with_reducible rfl
                              rotate_left
                              ·simp only [Act.put, List.setIfInBounds_toArray, List.set_cons_zero, List.set_cons_succ, i64_w, i32_w]
                               rfl
                              refine pure_ (i := 13) (N := some 132) (v := ?_) (a' := ?_) #[true, true, true, true, true, true, true, true, true, true, true, true, true, true, false, false, false, false, false, false, false, false, false, false, false, false, false, false, false, false, false] rfl rfl (any_of HT_.out (by kernel_rfl)) (fun _ _ _ h => h) (Or.inl ⟨by rfl, ?_⟩) ?_ ?_
                              rotate_left
                              ·intro w'
                               go_simp
                               with_reducible rfl
                              rotate_left
                              ·simp only [Act.put, List.setIfInBounds_toArray, List.set_cons_zero, List.set_cons_succ, i64_w, i32_w]
                               rfl
                              refine pure_ (i := 14) (N := some 133) (v := undef) (a' := ?_) #[true, true, true, true, true, true, true, true, true, true, true, true, true, true, true, false, false, false, false, false, false, false, false, false, false, false, false, false, false, false, false] rfl rfl (any_of HT_.out (by kernel_rfl)) (fun _ _ _ h => h) (Or.inr ⟨by rfl, rfl⟩) ?_ ?_
                              rotate_left
                              ·simp only [Act.put, List.setIfInBounds_toArray, List.set_cons_zero, List.set_cons_succ, i64_w, i32_w]
                               rfl
                              refine pure_ (i := 15) (N := some 134) (v := undef) (a' := ?_) #[true, true, true, true, true, true, true, true, true, true, true, true, true, true, true, true, false, false, false, false, false, false, false, false, false, false, false, false, false, false, false] rfl rfl (any_of HT_.out (by kernel_rfl)) (fun _ _ _ h => h) (Or.inr ⟨by rfl, rfl⟩) ?_ ?_
                              rotate_left
                              ·simp only [Act.put, List.setIfInBounds_toArray, List.set_cons_zero, List.set_cons_succ, i64_w, i32_w]
                               rfl
                              refine pure_ (i := 16) (N := some 135) (v := undef) (a' := ?_) #[true, true, true, true, true, true, true, true, true, true, true, true, true, true, true, true, true, false, false, false, false, false, false, false, false, false, false, false, false, false, false] rfl rfl (any_of HT_.out (by kernel_rfl)) (fun _ _ _ h => h) (Or.inr ⟨by rfl, rfl⟩) ?_ ?_
                              rotate_left
                              ·simp only [Act.put, List.setIfInBounds_toArray, List.set_cons_zero, List.set_cons_succ, i64_w, i32_w]
                               rfl
                              refine pure_ (i := 17) (N := some 136) (v := ?_) (a' := ?_) #[true, true, true, true, true, true, true, true, true, true, true, true, true, true, true, true, true, true, false, false, false, false, false, false, false, false, false, false, false, false, false] rfl rfl (any_of HT_.out (by kernel_rfl)) (fun _ _ _ h => h) (Or.inl ⟨by rfl, ?_⟩) ?_ ?_
                              rotate_left
                              ·intro w'
                               go_simp
                               with_reducible rfl
                              rotate_left
                              ·simp only [Act.put, List.setIfInBounds_toArray, List.set_cons_zero, List.set_cons_succ, i64_w, i32_w]
                               rfl
                              refine pure_ (i := 18) (N := some 137) (v := ?_) (a' := ?_) #[true, true, true, true, true, true, true, true, true, true, true, true, true, true, true, true, true, true, true, false, false, false, false, false, false, false, false, false, false, false, false] rfl rfl (any_of HT_.out (by kernel_rfl)) (fun _ _ _ h => h) (Or.inl ⟨by rfl, ?_⟩) ?_ ?_
                              rotate_left
                              ·intro w'
                               go_simp
                               with_reducible rfl
                              rotate_left
                              ·simp only [Act.put, List.setIfInBounds_toArray, List.set_cons_zero, List.set_cons_succ, i64_w, i32_w]
                               rfl
                              refine pure_ (i := 19) (N := some 138) (v := undef) (a' := ?_) #[true, true, true, true, true, true, true, true, true, true, true, true, true, true, true, true, true, true, true, true, false, false, false, false, false, false, false, false, false, false, false] rfl rfl (any_of HT_.out (by kernel_rfl)) (fun _ _ _ h => h) (Or.inr ⟨by rfl, rfl⟩) ?_ ?_
                              rotate_left
                              ·simp only [Act.put, List.setIfInBounds_toArray, List.set_cons_zero, List.set_cons_succ, i64_w, i32_w]
                               rfl
                              refine pure_ (i := 20) (N := some 139) (v := undef) (a' := ?_) #[true, true, true, true, true, true, true, true, true, true, true, true, true, true, true, true, true, true, true, true, true, false, false, false, false, false, false, false, false, false, false] rfl rfl (any_of HT_.out (by kernel_rfl)) (fun _ _ _ h => h) (Or.inr ⟨by rfl, rfl⟩) ?_ ?_
                              rotate_left
                              ·simp only [Act.put, List.setIfInBounds_toArray, List.set_cons_zero, List.set_cons_succ, i64_w, i32_w]
                               rfl
                              refine pure_ (i := 21) (N := some 140) (v := undef) (a' := ?_) #[true, true, true, true, true, true, true, true, true, true, true, true, true, true, true, true, true, true, true, true, true, true, false, false, false, false, false, false, false, false, false] rfl rfl (any_of HT_.out (by kernel_rfl)) (fun _ _ _ h => h) (Or.inr ⟨by rfl, rfl⟩) ?_ ?_
                              rotate_left
                              ·simp only [Act.put, List.setIfInBounds_toArray, List.set_cons_zero, List.set_cons_succ, i64_w, i32_w]
                               rfl
                              refine pure_ (i := 22) (N := some 141) (v := undef) (a' := ?_) #[true, true, true, true, true, true, true, true, true, true, true, true, true, true, true, true, true, true, true, true, true, true, true, false, false, false, false, false, false, false, false] rfl rfl (any_of HT_.out (by kernel_rfl)) (fun _ _ _ h => h) (Or.inr ⟨by rfl, rfl⟩) ?_ ?_
                              rotate_left
                              ·simp only [Act.put, List.setIfInBounds_toArray, List.set_cons_zero, List.set_cons_succ, i64_w, i32_w]
                               rfl
                              refine pure_ (i := 23) (N := some 142) (v := undef) (a' := ?_) #[true, true, true, true, true, true, true, true, true, true, true, true, true, true, true, true, true, true, true, true, true, true, true, true, false, false, false, false, false, false, false] rfl rfl (any_of HT_.out (by kernel_rfl)) (fun _ _ _ h => h) (Or.inr ⟨by rfl, rfl⟩) ?_ ?_
                              rotate_left
                              ·simp only [Act.put, List.setIfInBounds_toArray, List.set_cons_zero, List.set_cons_succ, i64_w, i32_w]
                               rfl
                              refine pure_ (i := 24) (N := some 143) (v := undef) (a' := ?_) #[true, true, true, true, true, true, true, true, true, true, true, true, true, true, true, true, true, true, true, true, true, true, true, true, true, false, false, false, false, false, false] rfl rfl (any_of HT_.out (by kernel_rfl)) (fun _ _ _ h => h) (Or.inr ⟨by rfl, rfl⟩) ?_ ?_
                              rotate_left
                              ·simp only [Act.put, List.setIfInBounds_toArray, List.set_cons_zero, List.set_cons_succ, i64_w, i32_w]
                               rfl
                              refine pure_ (i := 25) (N := some 144) (v := undef) (a' := ?_) #[true, true, true, true, true, true, true, true, true, true, true, true, true, true, true, true, true, true, true, true, true, true, true, true, true, true, false, false, false, false, false] rfl rfl (any_of HT_.out (by kernel_rfl)) (fun _ _ _ h => h) (Or.inr ⟨by rfl, rfl⟩) ?_ ?_
                              rotate_left
                              ·simp only [Act.put, List.setIfInBounds_toArray, List.set_cons_zero, List.set_cons_succ, i64_w, i32_w]
                               rfl
                              refine pure_ (i := 26) (N := some 145) (v := undef) (a' := ?_) #[true, true, true, true, true, true, true, true, true, true, true, true, true, true, true, true, true, true, true, true, true, true, true, true, true, true, true, false, false, false, false] rfl rfl (any_of HT_.out (by kernel_rfl)) (fun _ _ _ h => h) (Or.inr ⟨by rfl, rfl⟩) ?_ ?_
                              rotate_left
                              ·simp only [Act.put, List.setIfInBounds_toArray, List.set_cons_zero, List.set_cons_succ, i64_w, i32_w]
                               rfl
                              refine pure_ (i := 27) (N := some 146) (v := undef) (a' := ?_) #[true, true, true, true, true, true, true, true, true, true, true, true, true, true, true, true, true, true, true, true, true, true, true, true, true, true, true, true, false, false, false] rfl rfl (any_of HT_.out (by kernel_rfl)) (fun _ _ _ h => h) (Or.inr ⟨by rfl, rfl⟩) ?_ ?_
                              rotate_left
                              ·simp only [Act.put, List.setIfInBounds_toArray, List.set_cons_zero, List.set_cons_succ, i64_w, i32_w]
                               rfl
                              refine pure_ (i := 28) (N := some 147) (v := ?_) (a' := ?_) #[true, true, true, true, true, true, true, true, true, true, true, true, true, true, true, true, true, true, true, true, true, true, true, true, true, true, true, true, true, false, false] rfl rfl (any_of HT_.out (by kernel_rfl)) (fun _ _ _ h => h) (Or.inl ⟨by rfl, ?_⟩) ?_ ?_
                              rotate_left
                              ·intro w'
                               go_simp
                               with_reducible rfl
                              rotate_left
                              ·simp only [Act.put, List.setIfInBounds_toArray, List.set_cons_zero, List.set_cons_succ, i64_w, i32_w]
                               rfl
                              refine pure_ (i := 29) (N := some 148) (v := ?_) (a' := ?_) #[true, true, true, true, true, true, true, true, true, true, true, true, true, true, true, true, true, true, true, true, true, true, true, true, true, true, true, true, true, true, false] rfl rfl (any_of HT_.out (by kernel_rfl)) (fun _ _ _ h => h) (Or.inl ⟨by rfl, ?_⟩) ?_ ?_
                              rotate_left
                              ·intro w'
                               go_simp
                               with_reducible rfl
                              rotate_left
                              ·simp only [Act.put, List.setIfInBounds_toArray, List.set_cons_zero, List.set_cons_succ, i64_w, i32_w]
                               rfl
                              refine pure_ (i := 30) (N := some 18) (v := ?_) (a' := ?_) #[true, true, true, true, true, true, true, true, true, true, true, true, true, true, true, true, true, true, true, true, true, true, true, true, true, true, true, true, true, true, true] rfl rfl (any_of HT_.out (by kernel_rfl)) (fun _ _ _ h => h) (Or.inl ⟨by rfl, ?_⟩) ?_ ?_
                              rotate_left
                              ·intro w'
                               go_simp
                               with_reducible rfl
                              rotate_left
                              ·simp only [Act.put, List.setIfInBounds_toArray, List.set_cons_zero, List.set_cons_succ, i64_w, i32_w]
                               rfl
                              refine done_ (done_of HT_.out (by kernel_rfl)) ?_
                              try go_wp2
                              go_roundg k4
                              case measure => have := HK1.out; have := HK2.out; have := HJ14.out; have := HK4.out; omega
                              case rel => exact ⟨(false), (wrap64 (x19_4 + 1)), (by first | rfl | (simp; done) | (simp [*]; done)), (by first | rfl | (simp; done) | (simp [*]; done)), H', ⟨by have := HK1.out; have := HK2.out; have := HJ14.out; have := HK4.out; omega⟩, ⟨by (with_reducible repeat (first | apply Kd.S_alloc | apply Kd.S_drewN | apply Kd.S_drew)); exact HO_5.out⟩, ⟨by (with_reducible repeat (first | apply Kd.R_alloc | apply Kd.R_drewN | apply Kd.R_drew)); exact HO_6.out⟩, ⟨by repeat (first | (with_reducible exact HR237_2.out) | (with_reducible refine Kd.C_alloc ?_ _) | (with_reducible refine Kd.C_drewN ?_ _) | (with_reducible refine Kd.C_drew ?_) | exact HR237_2.out)⟩, ⟨by repeat (first | (with_reducible exact HR240_2.out) | (with_reducible refine Kd.C_alloc ?_ _) | (with_reducible refine Kd.C_drewN ?_ _) | (with_reducible refine Kd.C_drew ?_) | exact HR240_2.out)⟩, ⟨by repeat (first | (with_reducible exact HR243_2.out) | (with_reducible refine Kd.C_alloc ?_ _) | (with_reducible refine Kd.C_drewN ?_ _) | (with_reducible refine Kd.C_drew ?_) | exact HR243_2.out)⟩, ⟨by repeat (first | (with_reducible exact HR244_2.out) | (with_reducible refine Kd.C_alloc ?_ _) | (with_reducible refine Kd.C_drewN ?_ _) | (with_reducible refine Kd.C_drew ?_) | exact HR244_2.out)⟩, ⟨by repeat (first | (with_reducible exact HR247_2.out) | (with_reducible refine Kd.C_alloc ?_ _) | (with_reducible refine Kd.C_drewN ?_ _) | (with_reducible refine Kd.C_drew ?_) | exact HR247_2.out)⟩, ⟨by repeat (first | (with_reducible exact HR248_2.out) | (with_reducible refine Kd.C_alloc ?_ _) | (with_reducible refine Kd.C_drewN ?_ _) | (with_reducible refine Kd.C_drew ?_) | exact HR248_2.out)⟩, ⟨by repeat (first | (with_reducible first | exact HB.out | apply below_alloc | apply pw_below_drewN | apply below_drew1) | exact HB.out)⟩⟩
                            ·rw [if_neg c46] at H
                             exact absurd H (by simp)
                           ·rw [if_neg c45] at H
                            exact absurd H (by simp)
                         ·rw [if_neg c42] at H
                          have c42b0 : decide (x19_4 < (wrap64 ((rd ((rd_T36 t227 x11_2).f2) (rd t230 x11_2)) + ((rd_T36 t227 x11_2).f1)))) = false := decide_eq_false c42
                          clear c42
                          have HC52 := Aside0.mk H
                          clear H
                          have p251 : 0 ≤ (x11_2 : Int) := od_
                          have q251 : x11_2 < (t227.length : Int) := od_
                          obtain ⟨ad251, A251_2, c251_2, e251, hx251_0, hx251_1, hx251_2, hx251_3, hl251_2, hi251_2⟩ := at_T36 (Kd.S_reads' HO_5.out).2.2 x11_2 p251 q251
                          obtain rfl : ad237 = ad251 := (by injection e251)
                          obtain ⟨ce251, hce251, hMe251, hcc251⟩ := Kd.S_get HO_5.out z36 x11_2 p251 (by first | exact q251 | exact od_ | (have e_ := (Kd.S_reads' HO_5.out).1; omega))
                          obtain ⟨ve251_2, rfl, ge251_2⟩ := k36_openM hMe251
                          have hv251_2 := hcc251 2 _ rfl
                          rw [add_field _ _ 2 (by omega)] at hv251_2
                          replace hv251_2 := Option.some.inj (hv251_2.symm.trans hx251_2)
                          rw [hv251_2] at ge251_2
                          have HL251_2 := Aside0.mk (show Kd.R (Kd.int .i64) 2 _ _ _ _ ((rd_T36 t227 x11_2).f2) from ge251_2)
                          clear hv251_2 ge251_2
                          clear hcc251 hce251
                          have HR251_2 := Aside0.mk hi251_2
                          have HC251_2 := Aside0.mk hl251_2
                          clear hi251_2 hl251_2
                          replace p251 := eq_true p251
                          replace q251 := eq_true q251
                          go_upto_region 23 with (fail)
                          go_cut [164] (fun v164 wc => ∃ (kq : Nat) (x164_51 : Bool), v164 = .bool x164_51 ∧ Aside0 (laws_FnLabelsMeet.j4 kq t227 t230 t233 t234 x9_2 x10_1 x11_2 t245 x164_51 = some r) ∧ Aside0 (kq ≤ k4) ∧ Aside0 (Kd.S k36 36 wc w.heap.size (fun k_ => some k_ ≠ ((.slice (some ad238) t230.length co11) : Value).ownBlock) (.slice (some ad237) t227.length co9) t227) ∧ Aside0 (Kd.R (Kd.int .i64) 2 wc w.heap.size (fun _ => True) (.slice (some ad238) t230.length co11) t230) ∧ Aside0 (Kd.C (Kd.int .i64) wc (some ad239) ((rd_T36 t227 x11_2).f2).length ((rd_T36 t227 x11_2).f2)) ∧ Aside0 (Kd.C (Kd.int .i64) wc (some ad242) ((rd_T36 t227 x10_1).f2).length ((rd_T36 t227 x10_1).f2)) ∧ Aside0 (Kd.C (Kd.int .i64) wc A243_2 ((rd_T36 t227 x11_2).f2).length ((rd_T36 t227 x11_2).f2)) ∧ Aside0 (Kd.C (Kd.int .i64) wc A244_2 ((rd_T36 t227 x10_1).f2).length ((rd_T36 t227 x10_1).f2)) ∧ Aside0 (Kd.C (Kd.int .i64) wc A247_2 ((rd_T36 t227 x10_1).f2).length ((rd_T36 t227 x10_1).f2)) ∧ Aside0 (Kd.C (Kd.int .i64) wc A248_2 ((rd_T36 t227 x11_2).f2).length ((rd_T36 t227 x11_2).f2)) ∧ Aside0 (Kd.C (Kd.int .i64) wc A251_2 ((rd_T36 t227 x11_2).f2).length ((rd_T36 t227 x11_2).f2)) ∧ Aside0 (Below w.heap.size w wc))
                          case first =>
                           have H := HC52.out
                           clear HC52
                           by_cases c53 : t246 = 0
                           ·rw [if_pos c53] at H
                            have c53b0 : (t246 == 0) = true := beq_iff_eq.mpr c53
                            have c53b1 : (t246 != 0) = false := bne_eq_false_iff_eq.mpr c53
                            clear c53
                            (first | rw [c53b0] | (simp only [i64_w, i32_w]; rw [c53b0]) | skip)
                            by_cases c54 : t250 = 0
                            ·rw [if_pos c54] at H
                             have c54b0 : (t250 == 0) = true := beq_iff_eq.mpr c54
                             have c54b1 : (t250 != 0) = false := bne_eq_false_iff_eq.mpr c54
                             clear c54
                             by_cases c55 : (t245 != t249) = true
                             ·rw [if_pos c55] at H
                              exact absurd H (by simp)
                             ·rw [if_neg c55] at H
                              have c55b0 : (t245 != t249) = false := by simpa using c55
                              (try (have c55b1 : decide (t245 = t249) = true := by simpa using c55))
                              (try (have c55b2 : (t245 == t249) = true := by simpa using c55))
                              clear c55
                              have H' := Aside0.mk H
                              clear H
                              go_wp2
                              go_meet
                              case rel => exact ⟨_, ((t245 != x18_4)), (by first | rfl | (simp; done) | (simp [*]; done)), H', ⟨by have := HK1.out; have := HK2.out; have := HJ14.out; have := HK4.out; first | omega | exact Nat.le_refl _⟩, ⟨by (with_reducible repeat (first | apply Kd.S_alloc | apply Kd.S_drewN | apply Kd.S_drew)); exact HO_5.out⟩, ⟨by (with_reducible repeat (first | apply Kd.R_alloc | apply Kd.R_drewN | apply Kd.R_drew)); exact HO_6.out⟩, ⟨by repeat (first | (with_reducible exact HR237_2.out) | (with_reducible refine Kd.C_alloc ?_ _) | (with_reducible refine Kd.C_drewN ?_ _) | (with_reducible refine Kd.C_drew ?_) | exact HR237_2.out)⟩, ⟨by repeat (first | (with_reducible exact HR240_2.out) | (with_reducible refine Kd.C_alloc ?_ _) | (with_reducible refine Kd.C_drewN ?_ _) | (with_reducible refine Kd.C_drew ?_) | exact HR240_2.out)⟩, ⟨by repeat (first | (with_reducible exact HR243_2.out) | (with_reducible refine Kd.C_alloc ?_ _) | (with_reducible refine Kd.C_drewN ?_ _) | (with_reducible refine Kd.C_drew ?_) | exact HR243_2.out)⟩, ⟨by repeat (first | (with_reducible exact HR244_2.out) | (with_reducible refine Kd.C_alloc ?_ _) | (with_reducible refine Kd.C_drewN ?_ _) | (with_reducible refine Kd.C_drew ?_) | exact HR244_2.out)⟩, ⟨by repeat (first | (with_reducible exact HR247_2.out) | (with_reducible refine Kd.C_alloc ?_ _) | (with_reducible refine Kd.C_drewN ?_ _) | (with_reducible refine Kd.C_drew ?_) | exact HR247_2.out)⟩, ⟨by repeat (first | (with_reducible exact HR248_2.out) | (with_reducible refine Kd.C_alloc ?_ _) | (with_reducible refine Kd.C_drewN ?_ _) | (with_reducible refine Kd.C_drew ?_) | exact HR248_2.out)⟩, ⟨by repeat (first | (with_reducible exact HR251_2.out) | (with_reducible refine Kd.C_alloc ?_ _) | (with_reducible refine Kd.C_drewN ?_ _) | (with_reducible refine Kd.C_drew ?_) | exact HR251_2.out)⟩, ⟨by repeat (first | (with_reducible first | exact HB.out | apply below_alloc | apply pw_below_drewN | apply below_drew1) | exact HB.out)⟩⟩
                            ·rw [if_neg c54] at H
                             exact absurd H (by simp)
                           ·rw [if_neg c53] at H
                            exact absurd H (by simp)
                          case rest =>
                           clear HC52
                           try clear c2
                           try clear p2
                           try clear q2
                           try clear hx2
                           try clear c4
                           try clear c5
                           try clear p6
                           try clear c25
                           try clear p25
                           try clear q25
                           try clear hx25
                           try clear c42
                           try clear c42b0
                           try clear c45
                           try clear c46
                           try clear c47
                           try clear c47b0
                           try clear c47b1
                           try clear c53
                           try clear c53b0
                           try clear c53b1
                           try clear c54
                           try clear c54b0
                           try clear c54b1
                           try clear c55
                           try clear c55b0
                           try clear c55b1
                           try clear c55b2
                           try clear hx251_0
                           try clear hx251_1
                           try clear hx251_2
                           try clear hx251_3
                           try clear hx252_0
                           try clear hx252_1
                           try clear hx252_2
                           try clear hx252_3
                           try clear hx253_0
                           try clear hx253_1
                           try clear hx253_2
                           try clear hx253_3
                           try clear p251
                           try clear p252
                           try clear p253
                           try clear q251
                           try clear q252
                           try clear q253
                           obtain ⟨kq, x164_51, rfl, HA, HJ51, HO_5, HO_6, HR237_2, HR240_2, HR243_2, HR244_2, HR247_2, HR248_2, HR251_2, HB⟩ := hcut
                           cases kq with
                           | zero => exact absurd HA.out (by simp [laws_FnLabelsMeet.j4])
                           | succ kj51 =>
                            have H := HA.out
                            clear HA
                            simp only [laws_FnLabelsMeet.j4] at H
                            by_cases c56 : x164_51 = true
                            ·subst c56
                             have H1 : (none) = some r := by rw [if_pos rfl] at H; exact H
                             clear H
                             have H := H1
                             clear H1
                             exact absurd H (by simp)
                            ·replace c56 := Bool.eq_false_iff.mpr c56
                             subst c56
                             have H1 : (if t245 = true then (if x9_2 < 0 then (laws_FnLabelsMeet.l1 kj51 t227 t230 t233 t234 x10_1 x10_1 (wrap64 (x11_2 + 1))) else (laws_FnLabelsMeet.l1 kj51 t227 t230 t233 t234 x9_2 x10_1 (wrap64 (x11_2 + 1)))) else (laws_FnLabelsMeet.l1 kj51 t227 t230 t233 t234 x9_2 x10_1 (wrap64 (x11_2 + 1)))) = some r := by rw [if_neg (show ¬ (false = true) by decide)] at H; exact H
                             clear H
                             have H := H1
                             clear H1
                             by_cases c57 : t245 = true
                             ·subst c57
                              have H1 : (if x9_2 < 0 then (laws_FnLabelsMeet.l1 kj51 t227 t230 t233 t234 x10_1 x10_1 (wrap64 (x11_2 + 1))) else (laws_FnLabelsMeet.l1 kj51 t227 t230 t233 t234 x9_2 x10_1 (wrap64 (x11_2 + 1)))) = some r := by rw [if_pos rfl] at H; exact H
                              clear H
                              have H := H1
                              clear H1
                              by_cases c58 : x9_2 < 0
                              ·rw [if_pos c58] at H
                               have c58b0 : decide (x9_2 < 0) = true := decide_eq_true c58
                               clear c58
                               have H' := Aside0.mk H
                               clear H
                               go_wp2
                               go_roundg kj51
                               case measure => have := HK1.out; have := HK2.out; have := HJ14.out; have := HK4.out; have := HJ51.out; omega
                               case rel => exact ⟨(x10_1), (wrap64 (x11_2 + 1)), (by first | rfl | (simp; done) | (simp [*]; done)), (by first | rfl | (simp; done) | (simp [*]; done)), H', ⟨by have := HK1.out; have := HK2.out; have := HJ14.out; have := HK4.out; have := HJ51.out; omega⟩, ⟨by (with_reducible repeat (first | apply Kd.S_alloc | apply Kd.S_drewN | apply Kd.S_drew)); exact HO_5.out⟩, ⟨by (with_reducible repeat (first | apply Kd.R_alloc | apply Kd.R_drewN | apply Kd.R_drew)); exact HO_6.out⟩, ⟨by repeat (first | (with_reducible first | exact HB.out | apply below_alloc | apply pw_below_drewN | apply below_drew1) | exact HB.out)⟩⟩
                              ·rw [if_neg c58] at H
                               have c58b0 : decide (x9_2 < 0) = false := decide_eq_false c58
                               clear c58
                               have H' := Aside0.mk H
                               clear H
                               go_wp2
                               go_roundg kj51
                               case measure => have := HK1.out; have := HK2.out; have := HJ14.out; have := HK4.out; have := HJ51.out; omega
                               case rel => exact ⟨(x9_2), (wrap64 (x11_2 + 1)), (by first | rfl | (simp; done) | (simp [*]; done)), (by first | rfl | (simp; done) | (simp [*]; done)), H', ⟨by have := HK1.out; have := HK2.out; have := HJ14.out; have := HK4.out; have := HJ51.out; omega⟩, ⟨by (with_reducible repeat (first | apply Kd.S_alloc | apply Kd.S_drewN | apply Kd.S_drew)); exact HO_5.out⟩, ⟨by (with_reducible repeat (first | apply Kd.R_alloc | apply Kd.R_drewN | apply Kd.R_drew)); exact HO_6.out⟩, ⟨by repeat (first | (with_reducible first | exact HB.out | apply below_alloc | apply pw_below_drewN | apply below_drew1) | exact HB.out)⟩⟩
                             ·replace c57 := Bool.eq_false_iff.mpr c57
                              subst c57
                              have H1 : (laws_FnLabelsMeet.l1 kj51 t227 t230 t233 t234 x9_2 x10_1 (wrap64 (x11_2 + 1))) = some r := by rw [if_neg (show ¬ (false = true) by decide)] at H; exact H
                              clear H
                              have H := H1
                              clear H1
                              have H' := Aside0.mk H
                              clear H
                              go_wp2
                              go_roundg kj51
                              case measure => have := HK1.out; have := HK2.out; have := HJ14.out; have := HK4.out; have := HJ51.out; omega
                              case rel => exact ⟨(x9_2), (wrap64 (x11_2 + 1)), (by first | rfl | (simp; done) | (simp [*]; done)), (by first | rfl | (simp; done) | (simp [*]; done)), H', ⟨by have := HK1.out; have := HK2.out; have := HJ14.out; have := HK4.out; have := HJ51.out; omega⟩, ⟨by (with_reducible repeat (first | apply Kd.S_alloc | apply Kd.S_drewN | apply Kd.S_drew)); exact HO_5.out⟩, ⟨by (with_reducible repeat (first | apply Kd.R_alloc | apply Kd.R_drewN | apply Kd.R_drew)); exact HO_6.out⟩, ⟨by repeat (first | (with_reducible first | exact HB.out | apply below_alloc | apply pw_below_drewN | apply below_drew1) | exact HB.out)⟩⟩
                        ·rw [if_neg c41] at H
                         exact absurd H (by simp)
                       ·rw [if_neg c40] at H
                        exact absurd H (by simp)
                    ·rw [if_neg c31] at H
                     exact absurd H (by simp)
                   ·rw [if_neg c30] at H
                    exact absurd H (by simp)
                  ·rw [if_neg c29] at H
                   exact absurd H (by simp)
                 ·rw [if_neg c28] at H
                  exact absurd H (by simp)
                ·rw [if_neg c27] at H
                 exact absurd H (by simp)
               ·rw [if_neg c26] at H
                exact absurd H (by simp)
              ·rw [if_neg c25] at H
               exact absurd H (by simp)
             ·rw [if_neg c24] at H
              exact absurd H (by simp)
            ·rw [if_neg c23] at H
             exact absurd H (by simp)
           ·rw [if_neg c22] at H
            exact absurd H (by simp)
       ·rw [if_neg c14] at H
        have c14b0 : decide (x11_2 < x10_1) = false := decide_eq_false c14
        clear c14
        have H' := Aside0.mk H
        clear H
        go_wp2
        go_roundg k2
        case measure => have := HK1.out; have := HK2.out; omega
        case rel => exact ⟨(x9_2), (wrap64 (x10_1 + 1)), (by first | rfl | (simp; done) | (simp [*]; done)), (by first | rfl | (simp; done) | (simp [*]; done)), H', ⟨by have := HK1.out; have := HK2.out; omega⟩, ⟨by (with_reducible repeat (first | apply Kd.S_alloc | apply Kd.S_drewN | apply Kd.S_drew)); exact HO_5.out⟩, ⟨by (with_reducible repeat (first | apply Kd.R_alloc | apply Kd.R_drewN | apply Kd.R_drew)); exact HO_6.out⟩, ⟨by repeat (first | (with_reducible first | exact HB.out | apply below_alloc | apply pw_below_drewN | apply below_drew1) | exact HB.out)⟩⟩
    ·rw [if_neg c13] at H
     have c13b0 : decide (x10_1 < (t227.length : Int)) = false := decide_eq_false c13
     clear c13
     by_cases c59 : t234 = 0
     ·rw [if_pos c59] at H
      have c59b0 : (t234 == 0) = true := beq_iff_eq.mpr c59
      have c59b1 : (t234 != 0) = false := bne_eq_false_iff_eq.mpr c59
      clear c59
      obtain rfl := Option.some.inj H
      go_wp2
      go_ret
      exact ⟨by first | rfl | (simp [errW_none, errW_some] <;> rfl) | (simp [*, errW_none, errW_some] <;> rfl), by repeat (first | (with_reducible first | exact HB.out | apply below_alloc | apply pw_below_drewN | apply below_drew1) | exact HB.out)⟩
     ·rw [if_neg c59] at H
      exact absurd H (by simp)

/-- THE ONE PURE STATEMENT of laws_FnLabelsMeet. -/
def laws_FnLabelsMeet.Pure : Prop := ∀ (l0 : List Int) (l1 : List Int), wfS (wfI .u8) l0 → l0.length * 1 ≤ 140737488351232 → wfS (wfI .u8) l1 → l1.length * 1 ≤ 140737488351232 → ∃ k, laws_FnLabelsMeet.f k l0 l1 = some true

end Go.Proofs.Ytidommcimkmmfaa.Print
