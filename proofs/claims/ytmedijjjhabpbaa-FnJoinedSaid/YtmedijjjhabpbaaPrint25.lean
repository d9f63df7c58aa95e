-- Printed by a program of this session out of the translation; not trusted: Lean checks it.
-- SQUEEZED
-- SHRUNK
import Derived.Test.YtmedijjjhabpbaaPrint0
import Derived.Test.YtmedijjjhabpbaaPrint6
import Derived.Test.YtmedijjjhabpbaaPrint12
import Derived.Test.YtmedijjjhabpbaaPrint14
import Derived.Test.YtmedijjjhabpbaaPrint19
import Derived.Test.YtmedijjjhabpbaaPrint20
import Derived.Test.YtmedijjjhabpbaaPrint22
import Derived.Test.YtmedijjjhabpbaaPrint23
import Derived.Test.YtmedijjjhabpbaaPrint24
namespace Go.Proofs.Ytmedijjjhabpbaa.Print
open Go.RowKit Go.Proofs.YtmedijjjhabpbaaW.PrintWords Go.Proofs.YtmedijjjhabpbaaW.PrintLast Go.Proofs.YtmedijjjhabpbaaW.PrintMore
attribute [local go_sem] max2_int min2_int max_two min_two max_three min_three max_four min_four   -- for this text's walks alone
set_option linter.unusedVariables false
set_option linter.unusedSimpArgs false

/-! ### laws_FnJoined: function 4 -/
mutual
def laws_FnJoined.j0 : Nat → List (List (S49)) → List (List (S49)) → Int → List (List (S49)) → List (S49) → List (S49) → Int → List (S49) → Bool → Option (Bool)
 | 0, _, _, _, _, _, _, _, _, _ => none
 | k + 1, x3, x4, x5, x6, x8, x9, x11, x12, x98 => if x98 = true then (none) else (laws_FnJoined.l0 k x3 x4 x5 x6 x8 x9 x11 x12 0)
def laws_FnJoined.l0 : Nat → List (List (S49)) → List (List (S49)) → Int → List (List (S49)) → List (S49) → List (S49) → Int → List (S49) → Int → Option (Bool)
 | 0, _, _, _, _, _, _, _, _, _ => none
 | k + 1, x3, x4, x5, x6, x8, x9, x11, x12, x18 => if x18 < (x6.length : Int) then (if 0 ≤ x18 then (if x18 < (x4.length : Int) then ((spec_SameChain.f k (rd_L2 x4 x18) (rd_L2 x6 x18)).bind fun t594 => (if t594 = true then (laws_FnJoined.l0 k x3 x4 x5 x6 x8 x9 x11 x12 (wrap64 (x18 + 1))) else (none))) else (none)) else (none)) else (if x11 = 0 then (laws_FnJoined.j2 k x3 x5 x6 ((x12.length : Int) != (wrap64 ((wrap64 ((x8.length : Int) + (x9.length : Int))) - 1)))) else (laws_FnJoined.j2 k x3 x5 x6 false))
def laws_FnJoined.j2 : Nat → List (List (S49)) → Int → List (List (S49)) → Bool → Option (Bool)
 | 0, _, _, _, _ => none
 | k + 1, x3, x5, x6, x127 => if x127 = true then (none) else (if x5 = 0 then (laws_FnJoined.l1 k x3 x6 0 0) else (some true))
def laws_FnJoined.l1 : Nat → List (List (S49)) → List (List (S49)) → Int → Int → Option (Bool)
 | 0, _, _, _, _ => none
 | k + 1, x3, x6, x19, x20 => if x20 < (x3.length : Int) then (if 0 ≤ x20 then (laws_FnJoined.l1 k x3 x6 (wrap64 (x19 + ((rd_L2 x3 x20).length : Int))) (wrap64 (x20 + 1))) else (none)) else (laws_FnJoined.l2 k x3 x6 x19 0 0)
def laws_FnJoined.l2 : Nat → List (List (S49)) → List (List (S49)) → Int → Int → Int → Option (Bool)
 | 0, _, _, _, _, _ => none
 | k + 1, x3, x6, x19, x21, x22 => if x22 < (x6.length : Int) then (if 0 ≤ x22 then (laws_FnJoined.l3 k x3 x6 x19 (wrap64 (x21 + ((rd_L2 x6 x22).length : Int))) x22 0) else (none)) else (some (x21 == (wrap64 (x19 - (wrap64 ((x3.length : Int) - (x6.length : Int)))))))
def laws_FnJoined.l3 : Nat → List (List (S49)) → List (List (S49)) → Int → Int → Int → Int → Option (Bool)
 | 0, _, _, _, _, _, _ => none
 | k + 1, x3, x6, x19, x21, x22, x23 => if x23 < (x6.length : Int) then (if x22 = x23 then (laws_FnJoined.l3 k x3 x6 x19 x21 x22 (wrap64 (x23 + 1))) else (if 0 ≤ (mn x22 x23) then (if (mn x22 x23) < (x6.length : Int) then (if 0 ≤ (mx x22 x23) then (if (mx x22 x23) < (x6.length : Int) then ((spec_JoinTwo.f k (rd_L2 x6 (mn x22 x23)) (rd_L2 x6 (mx x22 x23))).bind fun bt599 => (if bt599.2 = 0 then (none) else (laws_FnJoined.l3 k x3 x6 x19 x21 x22 (wrap64 (x23 + 1))))) else (none)) else (none)) else (none)) else (none))) else (laws_FnJoined.l2 k x3 x6 x19 x21 (wrap64 (x22 + 1)))
end
def laws_FnJoined.f (k : Nat) (l0 : List Int) : Option (Bool) := (laws_f6big.f l0).bind fun t556 => (if t556 = true then (some true) else ((spec_DrawJoinAll.f k l0).bind fun t557 => ((impl_JoinAll.f k t557).bind fun bt560 => ((spec_JoinAll.f k t557).bind fun bt564 => ((spec_DrawJoinTwo.f k l0).bind fun bt568 => ((impl_JoinTwo.f k bt568.1 bt568.2).bind fun bt574 => ((spec_JoinTwo.f k bt568.1 bt568.2).bind fun bt578 => ((impl_LooseEnds.f k t557).bind fun bt582 => ((spec_LooseEnds.f k t557).bind fun bt586 => (if bt560.2 = bt564.2 then (if (bt560.1.length : Int) = (bt564.1.length : Int) then (if bt574.2 = bt578.2 then ((spec_SameChain.f k bt574.1 bt578.1).bind fun t590 => (if t590 = true then (if bt582.2 = bt586.2 then ((spec_SameChain.f k bt582.1 bt586.1).bind fun t591 => (laws_FnJoined.j0 k t557 bt560.1 bt560.2 bt564.1 bt568.1 bt568.2 bt574.2 bt578.1 (!t591))) else (none)) else (none))) else (none)) else (none)) else (none)))))))))))
theorem laws_FnJoined.mono_l : ∀ k, (∀ y0 y1 y2 y3 y4 y5 y6 y7 y8, LeO (laws_FnJoined.j0 k y0 y1 y2 y3 y4 y5 y6 y7 y8) (laws_FnJoined.j0 (k + 1) y0 y1 y2 y3 y4 y5 y6 y7 y8)) ∧ (∀ y0 y1 y2 y3 y4 y5 y6 y7 y8, LeO (laws_FnJoined.l0 k y0 y1 y2 y3 y4 y5 y6 y7 y8) (laws_FnJoined.l0 (k + 1) y0 y1 y2 y3 y4 y5 y6 y7 y8)) ∧ (∀ y0 y1 y2 y3, LeO (laws_FnJoined.j2 k y0 y1 y2 y3) (laws_FnJoined.j2 (k + 1) y0 y1 y2 y3)) ∧ (∀ y0 y1 y2 y3, LeO (laws_FnJoined.l1 k y0 y1 y2 y3) (laws_FnJoined.l1 (k + 1) y0 y1 y2 y3)) ∧ (∀ y0 y1 y2 y3 y4, LeO (laws_FnJoined.l2 k y0 y1 y2 y3 y4) (laws_FnJoined.l2 (k + 1) y0 y1 y2 y3 y4)) ∧ (∀ y0 y1 y2 y3 y4 y5, LeO (laws_FnJoined.l3 k y0 y1 y2 y3 y4 y5) (laws_FnJoined.l3 (k + 1) y0 y1 y2 y3 y4 y5))
 | 0 => ⟨fun _ _ _ _ _ _ _ _ _ r h => by simp [laws_FnJoined.j0] at h, fun _ _ _ _ _ _ _ _ _ r h => by simp [laws_FnJoined.l0] at h, fun _ _ _ _ r h => by simp [laws_FnJoined.j2] at h, fun _ _ _ _ r h => by simp [laws_FnJoined.l1] at h, fun _ _ _ _ _ r h => by simp [laws_FnJoined.l2] at h, fun _ _ _ _ _ _ r h => by simp [laws_FnJoined.l3] at h⟩
 | k + 1 => by
  obtain ⟨ih0, ih1, ih2, ih3, ih4, ih5⟩ := laws_FnJoined.mono_l k
  refine ⟨?_, ?_, ?_, ?_, ?_, ?_⟩
  ·intro y0 y1 y2 y3 y4 y5 y6 y7 y8
   unfold laws_FnJoined.j0
   repeat' first
   | (with_reducible exact ih0 _ _ _ _ _ _ _ _ _)
   | (with_reducible exact ih1 _ _ _ _ _ _ _ _ _)
   | (with_reducible exact ih2 _ _ _ _)
   | (with_reducible exact ih3 _ _ _ _)
   | (with_reducible exact ih4 _ _ _ _ _)
   | (with_reducible exact ih5 _ _ _ _ _ _)
   | (with_reducible exact impl_JoinAll.mono _ _)
   | (with_reducible exact impl_JoinTwo.mono _ _ _)
   | (with_reducible exact impl_LooseEnds.mono _ _)
   | (with_reducible exact spec_DrawJoinAll.mono _ _)
   | (with_reducible exact spec_DrawJoinTwo.mono _ _)
   | (with_reducible exact spec_JoinAll.mono _ _)
   | (with_reducible exact spec_JoinTwo.mono _ _ _)
   | (with_reducible exact spec_LooseEnds.mono _ _)
   | (with_reducible exact spec_SameChain.mono _ _ _)
   | (with_reducible exact LeO.refl _)
   | (with_reducible exact LeO.none _)
   | (with_reducible refine LeO.ite ?_ ?_)
   | (with_reducible refine LeO.bind ?_ (fun _ => ?_))
   | exact ih0 _ _ _ _ _ _ _ _ _
   | exact ih1 _ _ _ _ _ _ _ _ _
   | exact ih2 _ _ _ _
   | exact ih3 _ _ _ _
   | exact ih4 _ _ _ _ _
   | exact ih5 _ _ _ _ _ _
   | exact impl_JoinAll.mono _ _
   | exact impl_JoinTwo.mono _ _ _
   | exact impl_LooseEnds.mono _ _
   | exact spec_DrawJoinAll.mono _ _
   | exact spec_DrawJoinTwo.mono _ _
   | exact spec_JoinAll.mono _ _
   | exact spec_JoinTwo.mono _ _ _
   | exact spec_LooseEnds.mono _ _
   | exact spec_SameChain.mono _ _ _
   | exact LeO.none _
   | refine LeO.ite ?_ ?_
   | refine LeO.bind ?_ (fun _ => ?_)
  ·intro y0 y1 y2 y3 y4 y5 y6 y7 y8
   unfold laws_FnJoined.l0
   repeat' first
   | (with_reducible exact ih0 _ _ _ _ _ _ _ _ _)
   | (with_reducible exact ih1 _ _ _ _ _ _ _ _ _)
   | (with_reducible exact ih2 _ _ _ _)
   | (with_reducible exact ih3 _ _ _ _)
   | (with_reducible exact ih4 _ _ _ _ _)
   | (with_reducible exact ih5 _ _ _ _ _ _)
   | (with_reducible exact impl_JoinAll.mono _ _)
   | (with_reducible exact impl_JoinTwo.mono _ _ _)
   | (with_reducible exact impl_LooseEnds.mono _ _)
   | (with_reducible exact spec_DrawJoinAll.mono _ _)
   | (with_reducible exact spec_DrawJoinTwo.mono _ _)
   | (with_reducible exact spec_JoinAll.mono _ _)
   | (with_reducible exact spec_JoinTwo.mono _ _ _)
   | (with_reducible exact spec_LooseEnds.mono _ _)
   | (with_reducible exact spec_SameChain.mono _ _ _)
   | (with_reducible exact LeO.refl _)
   | (with_reducible exact LeO.none _)
   | (with_reducible refine LeO.ite ?_ ?_)
   | (with_reducible refine LeO.bind ?_ (fun _ => ?_))
   | exact ih0 _ _ _ _ _ _ _ _ _
   | exact ih1 _ _ _ _ _ _ _ _ _
   | exact ih2 _ _ _ _
   | exact ih3 _ _ _ _
   | exact ih4 _ _ _ _ _
   | exact ih5 _ _ _ _ _ _
   | exact impl_JoinAll.mono _ _
   | exact impl_JoinTwo.mono _ _ _
   | exact impl_LooseEnds.mono _ _
   | exact spec_DrawJoinAll.mono _ _
   | exact spec_DrawJoinTwo.mono _ _
   | exact spec_JoinAll.mono _ _
   | exact spec_JoinTwo.mono _ _ _
   | exact spec_LooseEnds.mono _ _
   | exact spec_SameChain.mono _ _ _
   | exact LeO.none _
   | refine LeO.ite ?_ ?_
   | refine LeO.bind ?_ (fun _ => ?_)
  ·intro y0 y1 y2 y3
   unfold laws_FnJoined.j2
   repeat' first
   | (with_reducible exact ih0 _ _ _ _ _ _ _ _ _)
   | (with_reducible exact ih1 _ _ _ _ _ _ _ _ _)
   | (with_reducible exact ih2 _ _ _ _)
   | (with_reducible exact ih3 _ _ _ _)
   | (with_reducible exact ih4 _ _ _ _ _)
   | (with_reducible exact ih5 _ _ _ _ _ _)
   | (with_reducible exact impl_JoinAll.mono _ _)
   | (with_reducible exact impl_JoinTwo.mono _ _ _)
   | (with_reducible exact impl_LooseEnds.mono _ _)
   | (with_reducible exact spec_DrawJoinAll.mono _ _)
   | (with_reducible exact spec_DrawJoinTwo.mono _ _)
   | (with_reducible exact spec_JoinAll.mono _ _)
   | (with_reducible exact spec_JoinTwo.mono _ _ _)
   | (with_reducible exact spec_LooseEnds.mono _ _)
   | (with_reducible exact spec_SameChain.mono _ _ _)
   | (with_reducible exact LeO.refl _)
   | (with_reducible exact LeO.none _)
   | (with_reducible refine LeO.ite ?_ ?_)
   | (with_reducible refine LeO.bind ?_ (fun _ => ?_))
   | exact ih0 _ _ _ _ _ _ _ _ _
   | exact ih1 _ _ _ _ _ _ _ _ _
   | exact ih2 _ _ _ _
   | exact ih3 _ _ _ _
   | exact ih4 _ _ _ _ _
   | exact ih5 _ _ _ _ _ _
   | exact impl_JoinAll.mono _ _
   | exact impl_JoinTwo.mono _ _ _
   | exact impl_LooseEnds.mono _ _
   | exact spec_DrawJoinAll.mono _ _
   | exact spec_DrawJoinTwo.mono _ _
   | exact spec_JoinAll.mono _ _
   | exact spec_JoinTwo.mono _ _ _
   | exact spec_LooseEnds.mono _ _
   | exact spec_SameChain.mono _ _ _
   | exact LeO.none _
   | refine LeO.ite ?_ ?_
   | refine LeO.bind ?_ (fun _ => ?_)
  ·intro y0 y1 y2 y3
   unfold laws_FnJoined.l1
   repeat' first
   | (with_reducible exact ih0 _ _ _ _ _ _ _ _ _)
   | (with_reducible exact ih1 _ _ _ _ _ _ _ _ _)
   | (with_reducible exact ih2 _ _ _ _)
   | (with_reducible exact ih3 _ _ _ _)
   | (with_reducible exact ih4 _ _ _ _ _)
   | (with_reducible exact ih5 _ _ _ _ _ _)
   | (with_reducible exact impl_JoinAll.mono _ _)
   | (with_reducible exact impl_JoinTwo.mono _ _ _)
   | (with_reducible exact impl_LooseEnds.mono _ _)
   | (with_reducible exact spec_DrawJoinAll.mono _ _)
   | (with_reducible exact spec_DrawJoinTwo.mono _ _)
   | (with_reducible exact spec_JoinAll.mono _ _)
   | (with_reducible exact spec_JoinTwo.mono _ _ _)
   | (with_reducible exact spec_LooseEnds.mono _ _)
   | (with_reducible exact spec_SameChain.mono _ _ _)
   | (with_reducible exact LeO.refl _)
   | (with_reducible exact LeO.none _)
   | (with_reducible refine LeO.ite ?_ ?_)
   | (with_reducible refine LeO.bind ?_ (fun _ => ?_))
   | exact ih0 _ _ _ _ _ _ _ _ _
   | exact ih1 _ _ _ _ _ _ _ _ _
   | exact ih2 _ _ _ _
   | exact ih3 _ _ _ _
   | exact ih4 _ _ _ _ _
   | exact ih5 _ _ _ _ _ _
   | exact impl_JoinAll.mono _ _
   | exact impl_JoinTwo.mono _ _ _
   | exact impl_LooseEnds.mono _ _
   | exact spec_DrawJoinAll.mono _ _
   | exact spec_DrawJoinTwo.mono _ _
   | exact spec_JoinAll.mono _ _
   | exact spec_JoinTwo.mono _ _ _
   | exact spec_LooseEnds.mono _ _
   | exact spec_SameChain.mono _ _ _
   | exact LeO.none _
   | refine LeO.ite ?_ ?_
   | refine LeO.bind ?_ (fun _ => ?_)
  ·intro y0 y1 y2 y3 y4
   unfold laws_FnJoined.l2
   repeat' first
   | (with_reducible exact ih0 _ _ _ _ _ _ _ _ _)
   | (with_reducible exact ih1 _ _ _ _ _ _ _ _ _)
   | (with_reducible exact ih2 _ _ _ _)
   | (with_reducible exact ih3 _ _ _ _)
   | (with_reducible exact ih4 _ _ _ _ _)
   | (with_reducible exact ih5 _ _ _ _ _ _)
   | (with_reducible exact impl_JoinAll.mono _ _)
   | (with_reducible exact impl_JoinTwo.mono _ _ _)
   | (with_reducible exact impl_LooseEnds.mono _ _)
   | (with_reducible exact spec_DrawJoinAll.mono _ _)
   | (with_reducible exact spec_DrawJoinTwo.mono _ _)
   | (with_reducible exact spec_JoinAll.mono _ _)
   | (with_reducible exact spec_JoinTwo.mono _ _ _)
   | (with_reducible exact spec_LooseEnds.mono _ _)
   | (with_reducible exact spec_SameChain.mono _ _ _)
   | (with_reducible exact LeO.refl _)
   | (with_reducible exact LeO.none _)
   | (with_reducible refine LeO.ite ?_ ?_)
   | (with_reducible refine LeO.bind ?_ (fun _ => ?_))
   | exact ih0 _ _ _ _ _ _ _ _ _
   | exact ih1 _ _ _ _ _ _ _ _ _
   | exact ih2 _ _ _ _
   | exact ih3 _ _ _ _
   | exact ih4 _ _ _ _ _
   | exact ih5 _ _ _ _ _ _
   | exact impl_JoinAll.mono _ _
   | exact impl_JoinTwo.mono _ _ _
   | exact impl_LooseEnds.mono _ _
   | exact spec_DrawJoinAll.mono _ _
   | exact spec_DrawJoinTwo.mono _ _
   | exact spec_JoinAll.mono _ _
   | exact spec_JoinTwo.mono _ _ _
   | exact spec_LooseEnds.mono _ _
   | exact spec_SameChain.mono _ _ _
   | exact LeO.none _
   | refine LeO.ite ?_ ?_
   | refine LeO.bind ?_ (fun _ => ?_)
  ·intro y0 y1 y2 y3 y4 y5
   unfold laws_FnJoined.l3
   repeat' first
   | (with_reducible exact ih0 _ _ _ _ _ _ _ _ _)
   | (with_reducible exact ih1 _ _ _ _ _ _ _ _ _)
   | (with_reducible exact ih2 _ _ _ _)
   | (with_reducible exact ih3 _ _ _ _)
   | (with_reducible exact ih4 _ _ _ _ _)
   | (with_reducible exact ih5 _ _ _ _ _ _)
   | (with_reducible exact impl_JoinAll.mono _ _)
   | (with_reducible exact impl_JoinTwo.mono _ _ _)
   | (with_reducible exact impl_LooseEnds.mono _ _)
   | (with_reducible exact spec_DrawJoinAll.mono _ _)
   | (with_reducible exact spec_DrawJoinTwo.mono _ _)
   | (with_reducible exact spec_JoinAll.mono _ _)
   | (with_reducible exact spec_JoinTwo.mono _ _ _)
   | (with_reducible exact spec_LooseEnds.mono _ _)
   | (with_reducible exact spec_SameChain.mono _ _ _)
   | (with_reducible exact LeO.refl _)
   | (with_reducible exact LeO.none _)
   | (with_reducible refine LeO.ite ?_ ?_)
   | (with_reducible refine LeO.bind ?_ (fun _ => ?_))
   | exact ih0 _ _ _ _ _ _ _ _ _
   | exact ih1 _ _ _ _ _ _ _ _ _
   | exact ih2 _ _ _ _
   | exact ih3 _ _ _ _
   | exact ih4 _ _ _ _ _
   | exact ih5 _ _ _ _ _ _
   | exact impl_JoinAll.mono _ _
   | exact impl_JoinTwo.mono _ _ _
   | exact impl_LooseEnds.mono _ _
   | exact spec_DrawJoinAll.mono _ _
   | exact spec_DrawJoinTwo.mono _ _
   | exact spec_JoinAll.mono _ _
   | exact spec_JoinTwo.mono _ _ _
   | exact spec_LooseEnds.mono _ _
   | exact spec_SameChain.mono _ _ _
   | exact LeO.none _
   | refine LeO.ite ?_ ?_
   | refine LeO.bind ?_ (fun _ => ?_)
theorem laws_FnJoined.mono : ∀ a0 k, LeO (laws_FnJoined.f k a0) (laws_FnJoined.f (k + 1) a0) := by
 intro a0 k
 obtain ⟨ih0, ih1, ih2, ih3, ih4, ih5⟩ := laws_FnJoined.mono_l k
 unfold laws_FnJoined.f
 repeat' first
   | (with_reducible exact ih0 _ _ _ _ _ _ _ _ _)
   | (with_reducible exact ih1 _ _ _ _ _ _ _ _ _)
   | (with_reducible exact ih2 _ _ _ _)
   | (with_reducible exact ih3 _ _ _ _)
   | (with_reducible exact ih4 _ _ _ _ _)
   | (with_reducible exact ih5 _ _ _ _ _ _)
   | (with_reducible exact impl_JoinAll.mono _ _)
   | (with_reducible exact impl_JoinTwo.mono _ _ _)
   | (with_reducible exact impl_LooseEnds.mono _ _)
   | (with_reducible exact spec_DrawJoinAll.mono _ _)
   | (with_reducible exact spec_DrawJoinTwo.mono _ _)
   | (with_reducible exact spec_JoinAll.mono _ _)
   | (with_reducible exact spec_JoinTwo.mono _ _ _)
   | (with_reducible exact spec_LooseEnds.mono _ _)
   | (with_reducible exact spec_SameChain.mono _ _ _)
   | (with_reducible exact LeO.refl _)
   | (with_reducible exact LeO.none _)
   | (with_reducible refine LeO.ite ?_ ?_)
   | (with_reducible refine LeO.bind ?_ (fun _ => ?_))
   | exact ih0 _ _ _ _ _ _ _ _ _
   | exact ih1 _ _ _ _ _ _ _ _ _
   | exact ih2 _ _ _ _
   | exact ih3 _ _ _ _
   | exact ih4 _ _ _ _ _
   | exact ih5 _ _ _ _ _ _
   | exact impl_JoinAll.mono _ _
   | exact impl_JoinTwo.mono _ _ _
   | exact impl_LooseEnds.mono _ _
   | exact spec_DrawJoinAll.mono _ _
   | exact spec_DrawJoinTwo.mono _ _
   | exact spec_JoinAll.mono _ _
   | exact spec_JoinTwo.mono _ _ _
   | exact spec_LooseEnds.mono _ _
   | exact spec_SameChain.mono _ _ _
   | exact LeO.none _
   | refine LeO.ite ?_ ?_
   | refine LeO.bind ?_ (fun _ => ?_)
def laws_FnJoined.T16 : Bool × List (List Nat × List Nat) := (true, [([], []), ([], []), ([0, 1], [0, 1]), ([2], [2]), ([], []), ([], []), ([4, 5], [4, 5]), ([6], [6]), ([3, 7], [3, 7]), ([8], [8])])
def laws_FnJoined.B16 : List Nat := [0, 0, 3, 7, 0, 0, 48, 112, 255, 511]
theorem laws_FnJoined.tab16 : rtab .any (opsOf Try.f4 16) = laws_FnJoined.T16 := by kernel_rfl
theorem laws_FnJoined.bits16 : waitsOk laws_FnJoined.T16.2 laws_FnJoined.B16 = true := by kernel_rfl
def laws_FnJoined.T36 : Bool × List (List Nat × List Nat) := (true, [([], []), ([], []), ([], []), ([1, 2], [1, 2]), ([0, 3], [0, 3]), ([4], [4]), ([], []), ([], []), ([], []), ([7, 8], [7, 8]), ([6, 9], [6, 9]), ([10], [10]), ([5, 11], [5, 11]), ([12], [12]), ([13], [13]), ([13], [13]), ([14, 12, 0, 1, 2, 3, 4, 5, 6, 7, 8, 9, 10, 11, 12, 13, 14], [14]), ([15, 16, 0, 1, 2, 3, 4, 5, 6, 7, 8, 9, 10, 11, 12, 13, 14, 15, 16], [15])])
def laws_FnJoined.B36 : List Nat := [0, 0, 0, 6, 15, 31, 0, 0, 0, 384, 960, 1984, 4095, 8191, 16383, 16383, 32767, 131071]
theorem laws_FnJoined.tab36 : rtab .any (opsOf Try.f4 36) = laws_FnJoined.T36 := by kernel_rfl
theorem laws_FnJoined.bits36 : waitsOk laws_FnJoined.T36.2 laws_FnJoined.B36 = true := by kernel_rfl
set_option maxHeartbeats 8000000 in
set_option maxRecDepth 100000 in
theorem laws_FnJoined.calls (k : Nat) (A0 : Option Addr) (c0 : Nat) (l0 : List Int) (r : Bool) (w : World) (hr0 : Kd.C (Kd.int .u8) w A0 l0.length l0) (hc0 : l0.length ≤ c0) (h : laws_FnJoined.f k l0 = some r) :
  Calls Try.prog 4 #[.slice A0 l0.length c0] w fun e w' => e = .returned (.bool r) ∧ Below w.heap.size w w' := by
 have HR0 := Aside0.mk hr0
 have HC0 := Aside0.mk hc0
 clear hr0 hc0
 have HB := Aside0.mk (Below.refl w.heap.size w)
 have H : ((laws_f6big.f l0).bind fun t556 => (if t556 = true then (some true) else ((spec_DrawJoinAll.f k l0).bind fun t557 => ((impl_JoinAll.f k t557).bind fun bt560 => ((spec_JoinAll.f k t557).bind fun bt564 => ((spec_DrawJoinTwo.f k l0).bind fun bt568 => ((impl_JoinTwo.f k bt568.1 bt568.2).bind fun bt574 => ((spec_JoinTwo.f k bt568.1 bt568.2).bind fun bt578 => ((impl_LooseEnds.f k t557).bind fun bt582 => ((spec_LooseEnds.f k t557).bind fun bt586 => (if bt560.2 = bt564.2 then (if (bt560.1.length : Int) = (bt564.1.length : Int) then (if bt574.2 = bt578.2 then ((spec_SameChain.f k bt574.1 bt578.1).bind fun t590 => (if t590 = true then (if bt582.2 = bt586.2 then ((spec_SameChain.f k bt582.1 bt586.1).bind fun t591 => (laws_FnJoined.j0 k t557 bt560.1 bt560.2 bt564.1 bt568.1 bt568.2 bt574.2 bt578.1 (!t591))) else (none)) else (none))) else (none)) else (none)) else (none)))))))))))) = some r := h
 clear h
 replace H := Option.bind_eq_some_iff.mp H
 obtain ⟨t556, A20, H⟩ := H
 replace H : (if t556 = true then (some true) else ((spec_DrawJoinAll.f k l0).bind fun t557 => ((impl_JoinAll.f k t557).bind fun bt560 => ((spec_JoinAll.f k t557).bind fun bt564 => ((spec_DrawJoinTwo.f k l0).bind fun bt568 => ((impl_JoinTwo.f k bt568.1 bt568.2).bind fun bt574 => ((spec_JoinTwo.f k bt568.1 bt568.2).bind fun bt578 => ((impl_LooseEnds.f k t557).bind fun bt582 => ((spec_LooseEnds.f k t557).bind fun bt586 => (if bt560.2 = bt564.2 then (if (bt560.1.length : Int) = (bt564.1.length : Int) then (if bt574.2 = bt578.2 then ((spec_SameChain.f k bt574.1 bt578.1).bind fun t590 => (if t590 = true then (if bt582.2 = bt586.2 then ((spec_SameChain.f k bt582.1 bt586.1).bind fun t591 => (laws_FnJoined.j0 k t557 bt560.1 bt560.2 bt564.1 bt568.1 bt568.2 bt574.2 bt578.1 (!t591))) else (none)) else (none))) else (none)) else (none)) else (none))))))))))) = some r := H
 have A2 := Aside0.mk A20
 clear A20
 by_cases c3 : t556 = true
 ·subst c3
  have H1 : (some true) = some r := by rw [if_pos rfl] at H; exact H
  clear H
  have H := H1
  clear H1
  obtain rfl := Option.some.inj H
  go_enter Try.func4, Try.ntmps4
  go_wp2_with (first | ((with_reducible refine gate_callee (f := 12) rfl ?_); refine goesL_ (some 27) rfl rfl Try.func12 (by kernel_rfl) rfl #[.slice A0 l0.length c0] rfl gl_ ?_; (with_reducible refine (laws_f6big.calls _ _ l0 true _ ?side1 ?side2 A2.out).mono ?_); (case side1 => repeat (first | exact HR0.out | (with_reducible refine Kd.C_alloc ?_ _) | (with_reducible refine Kd.C_drewN ?_ _) | (with_reducible refine Kd.C_drew ?_))); (case side2 => exact HC0.out); rintro e w' ⟨rfl, ⟨nd, rfl⟩⟩; refine ⟨_, rfl, ?_⟩))
  go_ret
  exact ⟨by first | rfl | (simp [errW_none, errW_some] <;> rfl) | (simp [*, errW_none, errW_some] <;> rfl), by repeat (first | (with_reducible first | exact HB.out | apply below_alloc | apply pw_below_drewN | apply below_drew1) | exact HB.out)⟩
 ·replace c3 := Bool.eq_false_iff.mpr c3
  subst c3
  have H1 : ((spec_DrawJoinAll.f k l0).bind fun t557 => ((impl_JoinAll.f k t557).bind fun bt560 => ((spec_JoinAll.f k t557).bind fun bt564 => ((spec_DrawJoinTwo.f k l0).bind fun bt568 => ((impl_JoinTwo.f k bt568.1 bt568.2).bind fun bt574 => ((spec_JoinTwo.f k bt568.1 bt568.2).bind fun bt578 => ((impl_LooseEnds.f k t557).bind fun bt582 => ((spec_LooseEnds.f k t557).bind fun bt586 => (if bt560.2 = bt564.2 then (if (bt560.1.length : Int) = (bt564.1.length : Int) then (if bt574.2 = bt578.2 then ((spec_SameChain.f k bt574.1 bt578.1).bind fun t590 => (if t590 = true then (if bt582.2 = bt586.2 then ((spec_SameChain.f k bt582.1 bt586.1).bind fun t591 => (laws_FnJoined.j0 k t557 bt560.1 bt560.2 bt564.1 bt568.1 bt568.2 bt574.2 bt578.1 (!t591))) else (none)) else (none))) else (none)) else (none)) else (none)))))))))) = some r := by rw [if_neg (show ¬ (false = true) by decide)] at H; exact H
  clear H
  have H := H1
  clear H1
  replace H := Option.bind_eq_some_iff.mp H
  obtain ⟨t557, A40, H⟩ := H
  replace H : ((impl_JoinAll.f k t557).bind fun bt560 => ((spec_JoinAll.f k t557).bind fun bt564 => ((spec_DrawJoinTwo.f k l0).bind fun bt568 => ((impl_JoinTwo.f k bt568.1 bt568.2).bind fun bt574 => ((spec_JoinTwo.f k bt568.1 bt568.2).bind fun bt578 => ((impl_LooseEnds.f k t557).bind fun bt582 => ((spec_LooseEnds.f k t557).bind fun bt586 => (if bt560.2 = bt564.2 then (if (bt560.1.length : Int) = (bt564.1.length : Int) then (if bt574.2 = bt578.2 then ((spec_SameChain.f k bt574.1 bt578.1).bind fun t590 => (if t590 = true then (if bt582.2 = bt586.2 then ((spec_SameChain.f k bt582.1 bt586.1).bind fun t591 => (laws_FnJoined.j0 k t557 bt560.1 bt560.2 bt564.1 bt568.1 bt568.2 bt574.2 bt578.1 (!t591))) else (none)) else (none))) else (none)) else (none)) else (none))))))))) = some r := H
  have A4 := Aside0.mk A40
  clear A40
  replace H := Option.bind_eq_some_iff.mp H
  obtain ⟨⟨t560, t561⟩, A50, H⟩ := H
  replace H : ((spec_JoinAll.f k t557).bind fun bt564 => ((spec_DrawJoinTwo.f k l0).bind fun bt568 => ((impl_JoinTwo.f k bt568.1 bt568.2).bind fun bt574 => ((spec_JoinTwo.f k bt568.1 bt568.2).bind fun bt578 => ((impl_LooseEnds.f k t557).bind fun bt582 => ((spec_LooseEnds.f k t557).bind fun bt586 => (if t561 = bt564.2 then (if (t560.length : Int) = (bt564.1.length : Int) then (if bt574.2 = bt578.2 then ((spec_SameChain.f k bt574.1 bt578.1).bind fun t590 => (if t590 = true then (if bt582.2 = bt586.2 then ((spec_SameChain.f k bt582.1 bt586.1).bind fun t591 => (laws_FnJoined.j0 k t557 t560 t561 bt564.1 bt568.1 bt568.2 bt574.2 bt578.1 (!t591))) else (none)) else (none))) else (none)) else (none)) else (none)))))))) = some r := H
  have A5 := Aside0.mk A50
  clear A50
  replace H := Option.bind_eq_some_iff.mp H
  obtain ⟨⟨t564, t565⟩, A60, H⟩ := H
  replace H : ((spec_DrawJoinTwo.f k l0).bind fun bt568 => ((impl_JoinTwo.f k bt568.1 bt568.2).bind fun bt574 => ((spec_JoinTwo.f k bt568.1 bt568.2).bind fun bt578 => ((impl_LooseEnds.f k t557).bind fun bt582 => ((spec_LooseEnds.f k t557).bind fun bt586 => (if t561 = t565 then (if (t560.length : Int) = (t564.length : Int) then (if bt574.2 = bt578.2 then ((spec_SameChain.f k bt574.1 bt578.1).bind fun t590 => (if t590 = true then (if bt582.2 = bt586.2 then ((spec_SameChain.f k bt582.1 bt586.1).bind fun t591 => (laws_FnJoined.j0 k t557 t560 t561 t564 bt568.1 bt568.2 bt574.2 bt578.1 (!t591))) else (none)) else (none))) else (none)) else (none)) else (none))))))) = some r := H
  have A6 := Aside0.mk A60
  clear A60
  replace H := Option.bind_eq_some_iff.mp H
  obtain ⟨⟨t568, t569⟩, A70, H⟩ := H
  replace H : ((impl_JoinTwo.f k t568 t569).bind fun bt574 => ((spec_JoinTwo.f k t568 t569).bind fun bt578 => ((impl_LooseEnds.f k t557).bind fun bt582 => ((spec_LooseEnds.f k t557).bind fun bt586 => (if t561 = t565 then (if (t560.length : Int) = (t564.length : Int) then (if bt574.2 = bt578.2 then ((spec_SameChain.f k bt574.1 bt578.1).bind fun t590 => (if t590 = true then (if bt582.2 = bt586.2 then ((spec_SameChain.f k bt582.1 bt586.1).bind fun t591 => (laws_FnJoined.j0 k t557 t560 t561 t564 t568 t569 bt574.2 bt578.1 (!t591))) else (none)) else (none))) else (none)) else (none)) else (none)))))) = some r := H
  have A7 := Aside0.mk A70
  clear A70
  replace H := Option.bind_eq_some_iff.mp H
  obtain ⟨⟨t574, t575⟩, A80, H⟩ := H
  replace H : ((spec_JoinTwo.f k t568 t569).bind fun bt578 => ((impl_LooseEnds.f k t557).bind fun bt582 => ((spec_LooseEnds.f k t557).bind fun bt586 => (if t561 = t565 then (if (t560.length : Int) = (t564.length : Int) then (if t575 = bt578.2 then ((spec_SameChain.f k t574 bt578.1).bind fun t590 => (if t590 = true then (if bt582.2 = bt586.2 then ((spec_SameChain.f k bt582.1 bt586.1).bind fun t591 => (laws_FnJoined.j0 k t557 t560 t561 t564 t568 t569 t575 bt578.1 (!t591))) else (none)) else (none))) else (none)) else (none)) else (none))))) = some r := H
  have A8 := Aside0.mk A80
  clear A80
  replace H := Option.bind_eq_some_iff.mp H
  obtain ⟨⟨t578, t579⟩, A90, H⟩ := H
  replace H : ((impl_LooseEnds.f k t557).bind fun bt582 => ((spec_LooseEnds.f k t557).bind fun bt586 => (if t561 = t565 then (if (t560.length : Int) = (t564.length : Int) then (if t575 = t579 then ((spec_SameChain.f k t574 t578).bind fun t590 => (if t590 = true then (if bt582.2 = bt586.2 then ((spec_SameChain.f k bt582.1 bt586.1).bind fun t591 => (laws_FnJoined.j0 k t557 t560 t561 t564 t568 t569 t575 t578 (!t591))) else (none)) else (none))) else (none)) else (none)) else (none)))) = some r := H
  have A9 := Aside0.mk A90
  clear A90
  replace H := Option.bind_eq_some_iff.mp H
  obtain ⟨⟨t582, t583⟩, A100, H⟩ := H
  replace H : ((spec_LooseEnds.f k t557).bind fun bt586 => (if t561 = t565 then (if (t560.length : Int) = (t564.length : Int) then (if t575 = t579 then ((spec_SameChain.f k t574 t578).bind fun t590 => (if t590 = true then (if t583 = bt586.2 then ((spec_SameChain.f k t582 bt586.1).bind fun t591 => (laws_FnJoined.j0 k t557 t560 t561 t564 t568 t569 t575 t578 (!t591))) else (none)) else (none))) else (none)) else (none)) else (none))) = some r := H
  have A10 := Aside0.mk A100
  clear A100
  replace H := Option.bind_eq_some_iff.mp H
  obtain ⟨⟨t586, t587⟩, A110, H⟩ := H
  replace H : (if t561 = t565 then (if (t560.length : Int) = (t564.length : Int) then (if t575 = t579 then ((spec_SameChain.f k t574 t578).bind fun t590 => (if t590 = true then (if t583 = t587 then ((spec_SameChain.f k t582 t586).bind fun t591 => (laws_FnJoined.j0 k t557 t560 t561 t564 t568 t569 t575 t578 (!t591))) else (none)) else (none))) else (none)) else (none)) else (none)) = some r := H
  have A11 := Aside0.mk A110
  clear A110
  have HC12 := Aside0.mk H
  clear H
  go_enter Try.func4, Try.ntmps4
  go_upto_region 11 with (first | ((with_reducible refine gate_callee (f := 12) rfl ?_); refine goesL_ (some 27) rfl rfl Try.func12 (by kernel_rfl) rfl #[.slice A0 l0.length c0] rfl gl_ ?_; (with_reducible refine (laws_f6big.calls _ _ l0 false _ ?side1 ?side2 A2.out).mono ?_); (case side1 => repeat (first | exact HR0.out | (with_reducible refine Kd.C_alloc ?_ _) | (with_reducible refine Kd.C_drewN ?_ _) | (with_reducible refine Kd.C_drew ?_))); (case side2 => exact HC0.out); rintro e w' ⟨rfl, ⟨nd, rfl⟩⟩; refine ⟨_, rfl, ?_⟩) | ((with_reducible refine gate_callee (f := 13) rfl ?_); refine goesL_ (some 29) rfl rfl Try.func13 (by kernel_rfl) rfl #[.slice A0 l0.length c0] rfl gl_ ?_; (with_reducible refine (spec_DrawJoinAll.calls k _ _ l0 t557 _ ?side1 ?side2 A4.out).mono ?_); (case side1 => repeat (first | exact HR0.out | (with_reducible refine Kd.C_alloc ?_ _) | (with_reducible refine Kd.C_drewN ?_ _) | (with_reducible refine Kd.C_drew ?_))); (case side2 => exact HC0.out); rintro e w13 ⟨v558, rfl, ho0, hb⟩; refine ⟨_, rfl, ?_⟩; have n0_ := Aside0.mk (Kd.S_lower ho0 (below_size (bw_ HB.out))); have n1_ := Aside0.mk (below_step (bw_ HB.out) hb); clear HB; have HO559 := n0_; have HB := n1_; clear n0_ n1_; (try clear hb); (try clear hb2); (try clear hk); (try clear hi); (try clear ho0); obtain ⟨Ao14, co14, eo14⟩ := Kd.S_slice HO559.out; subst eo14) | ((with_reducible refine gate_callee (f := 8) rfl ?_); refine goesL_ (some 32) rfl rfl Try.func8 (by kernel_rfl) rfl #[.slice Ao14 t557.length co14] rfl gl_ ?_; (with_reducible refine (impl_JoinAll.calls k _ _ t557 t560 t561 _ ?side1 ?side2 A5.out).mono ?_); (case side1 => repeat (first | exact (Kd.S_reads' HO559.out).2.2 | (with_reducible refine Kd.C_alloc ?_ _) | (with_reducible refine Kd.C_drewN ?_ _) | (with_reducible refine Kd.C_drew ?_))); (case side2 => exact (Kd.S_reads' HO559.out).2.1); rintro e w15 ⟨v562, rfl, ho0, hb⟩; refine ⟨_, rfl, ?_⟩; have n0_ := Aside0.mk (Kd.S_elder' (by (with_reducible repeat (first | apply Kd.S_alloc | apply Kd.S_drewN | apply Kd.S_drew)); exact HO559.out) (Kd.S_base ho0) hb); have n1_ := Aside0.mk (Kd.S_lower (Kd.S_new' ho0 (Kd.S_lt (by (with_reducible repeat (first | apply Kd.S_alloc | apply Kd.S_drewN | apply Kd.S_drew)); exact HO559.out))) (below_size (bw_ HB.out))); have n2_ := Aside0.mk (below_step (bw_ HB.out) hb); clear HO559; clear HB; have HO559 := n0_; have HO563 := n1_; have HB := n2_; clear n0_ n1_ n2_; (try clear hb); (try clear hb2); (try clear hk); (try clear hi); (try clear ho0)) | ((with_reducible refine gate_callee (f := 6) rfl ?_); refine goesL_ (some 37) rfl rfl Try.func6 (by kernel_rfl) rfl #[.slice Ao14 t557.length co14] rfl gl_ ?_; (with_reducible refine (spec_JoinAll.calls k _ _ t557 t564 t565 _ ?side1 ?side2 A6.out).mono ?_); (case side1 => repeat (first | exact (Kd.S_reads' HO559.out).2.2 | (with_reducible refine Kd.C_alloc ?_ _) | (with_reducible refine Kd.C_drewN ?_ _) | (with_reducible refine Kd.C_drew ?_))); (case side2 => exact (Kd.S_reads' HO559.out).2.1); rintro e w16 ⟨v566, rfl, ho0, hb⟩; refine ⟨_, rfl, ?_⟩; have n0_ := Aside0.mk (Kd.S_elder' (by (with_reducible repeat (first | apply Kd.S_alloc | apply Kd.S_drewN | apply Kd.S_drew)); exact HO559.out) (Kd.S_base ho0) hb); have n1_ := Aside0.mk (Kd.S_elder' (by (with_reducible repeat (first | apply Kd.S_alloc | apply Kd.S_drewN | apply Kd.S_drew)); exact HO563.out) (Kd.S_base ho0) hb); have n2_ := Aside0.mk (Kd.S_lower (Kd.S_new' (Kd.S_new' ho0 (Kd.S_lt (by (with_reducible repeat (first | apply Kd.S_alloc | apply Kd.S_drewN | apply Kd.S_drew)); exact HO559.out))) (Kd.S_lt (by (with_reducible repeat (first | apply Kd.S_alloc | apply Kd.S_drewN | apply Kd.S_drew)); exact HO563.out))) (below_size (bw_ HB.out))); have n3_ := Aside0.mk (below_step (bw_ HB.out) hb); clear HO559; clear HO563; clear HB; have HO559 := n0_; have HO563 := n1_; have HO567 := n2_; have HB := n3_; clear n0_ n1_ n2_ n3_; (try clear hb); (try clear hb2); (try clear hk); (try clear hi); (try clear ho0)) | ((with_reducible refine gate_callee (f := 14) rfl ?_); refine goesL_ (some 42) rfl rfl Try.func14 (by kernel_rfl) rfl #[.slice A0 l0.length c0] rfl gl_ ?_; (with_reducible refine (spec_DrawJoinTwo.calls k _ _ l0 t568 t569 _ ?side1 ?side2 A7.out).mono ?_); (case side1 => repeat (first | exact (Kd.C_below HR0.out HB.out) | (with_reducible refine Kd.C_alloc ?_ _) | (with_reducible refine Kd.C_drewN ?_ _) | (with_reducible refine Kd.C_drew ?_))); (case side2 => exact HC0.out); rintro e w17 ⟨v570, v572, rfl, ho0, ho1, hb⟩; refine ⟨_, rfl, ?_⟩; have n0_ := Aside0.mk (Kd.S_mono (Kd.S_told (Kd.S_told (Kd.S_old (by (with_reducible repeat (first | apply Kd.S_alloc | apply Kd.S_drewN | apply Kd.S_drew)); exact HO559.out) hb) (Kd.R_base ho0)) (Kd.R_base ho1)) (fun _ h_ => h_.1)); have n1_ := Aside0.mk (Kd.S_mono (Kd.S_told (Kd.S_told (Kd.S_old (by (with_reducible repeat (first | apply Kd.S_alloc | apply Kd.S_drewN | apply Kd.S_drew)); exact HO563.out) hb) (Kd.R_base ho0)) (Kd.R_base ho1)) (fun _ h_ => h_.1)); have n2_ := Aside0.mk (Kd.S_mono (Kd.S_told (Kd.S_told (Kd.S_old (by (with_reducible repeat (first | apply Kd.S_alloc | apply Kd.S_drewN | apply Kd.S_drew)); exact HO567.out) hb) (Kd.R_base ho0)) (Kd.R_base ho1)) (fun _ h_ => h_.1)); have n3_ := Aside0.mk (Kd.R_lower ho0 (below_size (bw_ HB.out))); have n4_ := Aside0.mk (Kd.R_lower ho1 (below_size (bw_ HB.out))); have n5_ := Aside0.mk (below_step (bw_ HB.out) hb); clear HO559; clear HO563; clear HO567; clear HB; have HO559 := n0_; have HO563 := n1_; have HO567 := n2_; have HO571 := n3_; have HO573 := n4_; have HB := n5_; clear n0_ n1_ n2_ n3_ n4_ n5_; (try clear hb); (try clear hb2); (try clear hk); (try clear hi); (try clear ho0); (try clear ho1); obtain ⟨Ao18, co18, eo18⟩ := Kd.R_slice HO571.out; subst eo18; obtain ⟨Ao19, co19, eo19⟩ := Kd.R_slice HO573.out; subst eo19) | ((with_reducible refine gate_callee (f := 15) rfl ?_); refine goesL_ (some 48) rfl rfl Try.func15 (by kernel_rfl) rfl #[.slice Ao18 t568.length co18, .slice Ao19 t569.length co19] rfl gl_ ?_; (with_reducible refine (impl_JoinTwo.calls k _ _ t568 _ _ t569 t574 t575 _ ?side1 ?side2 ?side3 ?side4 A8.out).mono ?_); (case side1 => repeat (first | exact (Kd.R_reads' HO571.out).2.2 | (with_reducible refine Kd.C_alloc ?_ _) | (with_reducible refine Kd.C_drewN ?_ _) | (with_reducible refine Kd.C_drew ?_))); (case side2 => exact (Kd.R_reads' HO571.out).2.1); (case side3 => repeat (first | exact (Kd.R_reads' HO573.out).2.2 | (with_reducible refine Kd.C_alloc ?_ _) | (with_reducible refine Kd.C_drewN ?_ _) | (with_reducible refine Kd.C_drew ?_))); (case side4 => exact (Kd.R_reads' HO573.out).2.1); rintro e w20 ⟨v576, rfl, ho0, hb⟩; refine ⟨_, rfl, ?_⟩; have n0_ := Aside0.mk (Kd.S_elder' (by (with_reducible repeat (first | apply Kd.S_alloc | apply Kd.S_drewN | apply Kd.S_drew)); exact HO559.out) (Kd.R_base ho0) hb); have n1_ := Aside0.mk (Kd.S_elder' (by (with_reducible repeat (first | apply Kd.S_alloc | apply Kd.S_drewN | apply Kd.S_drew)); exact HO563.out) (Kd.R_base ho0) hb); have n2_ := Aside0.mk (Kd.S_elder' (by (with_reducible repeat (first | apply Kd.S_alloc | apply Kd.S_drewN | apply Kd.S_drew)); exact HO567.out) (Kd.R_base ho0) hb); have n3_ := Aside0.mk (Kd.R_elder' (by (with_reducible repeat (first | apply Kd.R_alloc | apply Kd.R_drewN | apply Kd.R_drew)); exact HO571.out) (Kd.R_base ho0) hb); have n4_ := Aside0.mk (Kd.R_elder' (by (with_reducible repeat (first | apply Kd.R_alloc | apply Kd.R_drewN | apply Kd.R_drew)); exact HO573.out) (Kd.R_base ho0) hb); have n5_ := Aside0.mk (Kd.R_lower (Kd.R_new' (Kd.R_new' ho0 (Kd.R_lt (by (with_reducible repeat (first | apply Kd.R_alloc | apply Kd.R_drewN | apply Kd.R_drew)); exact HO571.out))) (Kd.R_lt (by (with_reducible repeat (first | apply Kd.R_alloc | apply Kd.R_drewN | apply Kd.R_drew)); exact HO573.out))) (below_size (bw_ HB.out))); have n6_ := Aside0.mk (below_step (bw_ HB.out) hb); clear HO559; clear HO563; clear HO567; clear HO571; clear HO573; clear HB; have HO559 := n0_; have HO563 := n1_; have HO567 := n2_; have HO571 := n3_; have HO573 := n4_; have HO577 := n5_; have HB := n6_; clear n0_ n1_ n2_ n3_ n4_ n5_ n6_; (try clear hb); (try clear hb2); (try clear hk); (try clear hi); (try clear ho0)) | ((with_reducible refine gate_callee (f := 16) rfl ?_); refine goesL_ (some 54) rfl rfl Try.func16 (by kernel_rfl) rfl #[.slice Ao18 t568.length co18, .slice Ao19 t569.length co19] rfl gl_ ?_; (with_reducible refine (spec_JoinTwo.calls k _ _ t568 _ _ t569 t578 t579 _ ?side1 ?side2 ?side3 ?side4 A9.out).mono ?_); (case side1 => repeat (first | exact (Kd.R_reads' HO571.out).2.2 | (with_reducible refine Kd.C_alloc ?_ _) | (with_reducible refine Kd.C_drewN ?_ _) | (with_reducible refine Kd.C_drew ?_))); (case side2 => exact (Kd.R_reads' HO571.out).2.1); (case side3 => repeat (first | exact (Kd.R_reads' HO573.out).2.2 | (with_reducible refine Kd.C_alloc ?_ _) | (with_reducible refine Kd.C_drewN ?_ _) | (with_reducible refine Kd.C_drew ?_))); (case side4 => exact (Kd.R_reads' HO573.out).2.1); rintro e w21 ⟨v580, rfl, ho0, hb⟩; refine ⟨_, rfl, ?_⟩; have n0_ := Aside0.mk (Kd.S_elder' (by (with_reducible repeat (first | apply Kd.S_alloc | apply Kd.S_drewN | apply Kd.S_drew)); exact HO559.out) (Kd.R_base ho0) hb); have n1_ := Aside0.mk (Kd.S_elder' (by (with_reducible repeat (first | apply Kd.S_alloc | apply Kd.S_drewN | apply Kd.S_drew)); exact HO563.out) (Kd.R_base ho0) hb); have n2_ := Aside0.mk (Kd.S_elder' (by (with_reducible repeat (first | apply Kd.S_alloc | apply Kd.S_drewN | apply Kd.S_drew)); exact HO567.out) (Kd.R_base ho0) hb); have n3_ := Aside0.mk (Kd.R_elder' (by (with_reducible repeat (first | apply Kd.R_alloc | apply Kd.R_drewN | apply Kd.R_drew)); exact HO571.out) (Kd.R_base ho0) hb); have n4_ := Aside0.mk (Kd.R_elder' (by (with_reducible repeat (first | apply Kd.R_alloc | apply Kd.R_drewN | apply Kd.R_drew)); exact HO573.out) (Kd.R_base ho0) hb); have n5_ := Aside0.mk (Kd.R_elder' (by (with_reducible repeat (first | apply Kd.R_alloc | apply Kd.R_drewN | apply Kd.R_drew)); exact HO577.out) (Kd.R_base ho0) hb); have n6_ := Aside0.mk (Kd.R_lower (Kd.R_new' (Kd.R_new' (Kd.R_new' ho0 (Kd.R_lt (by (with_reducible repeat (first | apply Kd.R_alloc | apply Kd.R_drewN | apply Kd.R_drew)); exact HO571.out))) (Kd.R_lt (by (with_reducible repeat (first | apply Kd.R_alloc | apply Kd.R_drewN | apply Kd.R_drew)); exact HO573.out))) (Kd.R_lt (by (with_reducible repeat (first | apply Kd.R_alloc | apply Kd.R_drewN | apply Kd.R_drew)); exact HO577.out))) (below_size (bw_ HB.out))); have n7_ := Aside0.mk (below_step (bw_ HB.out) hb); clear HO559; clear HO563; clear HO567; clear HO571; clear HO573; clear HO577; clear HB; have HO559 := n0_; have HO563 := n1_; have HO567 := n2_; have HO571 := n3_; have HO573 := n4_; have HO577 := n5_; have HO581 := n6_; have HB := n7_; clear n0_ n1_ n2_ n3_ n4_ n5_ n6_ n7_; (try clear hb); (try clear hb2); (try clear hk); (try clear hi); (try clear ho0)) | ((with_reducible refine gate_callee (f := 17) rfl ?_); refine goesL_ (some 59) rfl rfl Try.func17 (by kernel_rfl) rfl #[.slice Ao14 t557.length co14] rfl gl_ ?_; (with_reducible refine (impl_LooseEnds.calls k _ _ t557 t582 t583 _ ?side1 ?side2 A10.out).mono ?_); (case side1 => repeat (first | exact (Kd.S_reads' HO559.out).2.2 | (with_reducible refine Kd.C_alloc ?_ _) | (with_reducible refine Kd.C_drewN ?_ _) | (with_reducible refine Kd.C_drew ?_))); (case side2 => exact (Kd.S_reads' HO559.out).2.1); rintro e w22 ⟨v584, rfl, ho0, hb⟩; refine ⟨_, rfl, ?_⟩; have n0_ := Aside0.mk (Kd.S_elder' (by (with_reducible repeat (first | apply Kd.S_alloc | apply Kd.S_drewN | apply Kd.S_drew)); exact HO559.out) (Kd.R_base ho0) hb); have n1_ := Aside0.mk (Kd.S_elder' (by (with_reducible repeat (first | apply Kd.S_alloc | apply Kd.S_drewN | apply Kd.S_drew)); exact HO563.out) (Kd.R_base ho0) hb); have n2_ := Aside0.mk (Kd.S_elder' (by (with_reducible repeat (first | apply Kd.S_alloc | apply Kd.S_drewN | apply Kd.S_drew)); exact HO567.out) (Kd.R_base ho0) hb); have n3_ := Aside0.mk (Kd.R_elder' (by (with_reducible repeat (first | apply Kd.R_alloc | apply Kd.R_drewN | apply Kd.R_drew)); exact HO571.out) (Kd.R_base ho0) hb); have n4_ := Aside0.mk (Kd.R_elder' (by (with_reducible repeat (first | apply Kd.R_alloc | apply Kd.R_drewN | apply Kd.R_drew)); exact HO573.out) (Kd.R_base ho0) hb); have n5_ := Aside0.mk (Kd.R_elder' (by (with_reducible repeat (first | apply Kd.R_alloc | apply Kd.R_drewN | apply Kd.R_drew)); exact HO577.out) (Kd.R_base ho0) hb); have n6_ := Aside0.mk (Kd.R_elder' (by (with_reducible repeat (first | apply Kd.R_alloc | apply Kd.R_drewN | apply Kd.R_drew)); exact HO581.out) (Kd.R_base ho0) hb); have n7_ := Aside0.mk (Kd.R_lower (Kd.R_new' (Kd.R_new' (Kd.R_new' (Kd.R_new' ho0 (Kd.R_lt (by (with_reducible repeat (first | apply Kd.R_alloc | apply Kd.R_drewN | apply Kd.R_drew)); exact HO571.out))) (Kd.R_lt (by (with_reducible repeat (first | apply Kd.R_alloc | apply Kd.R_drewN | apply Kd.R_drew)); exact HO573.out))) (Kd.R_lt (by (with_reducible repeat (first | apply Kd.R_alloc | apply Kd.R_drewN | apply Kd.R_drew)); exact HO577.out))) (Kd.R_lt (by (with_reducible repeat (first | apply Kd.R_alloc | apply Kd.R_drewN | apply Kd.R_drew)); exact HO581.out))) (below_size (bw_ HB.out))); have n8_ := Aside0.mk (below_step (bw_ HB.out) hb); clear HO559; clear HO563; clear HO567; clear HO571; clear HO573; clear HO577; clear HO581; clear HB; have HO559 := n0_; have HO563 := n1_; have HO567 := n2_; have HO571 := n3_; have HO573 := n4_; have HO577 := n5_; have HO581 := n6_; have HO585 := n7_; have HB := n8_; clear n0_ n1_ n2_ n3_ n4_ n5_ n6_ n7_ n8_; (try clear hb); (try clear hb2); (try clear hk); (try clear hi); (try clear ho0)) | ((with_reducible refine gate_callee (f := 18) rfl ?_); refine goesL_ (some 64) rfl rfl Try.func18 (by kernel_rfl) rfl #[.slice Ao14 t557.length co14] rfl gl_ ?_; (with_reducible refine (spec_LooseEnds.calls k _ _ t557 t586 t587 _ ?side1 ?side2 A11.out).mono ?_); (case side1 => repeat (first | exact (Kd.S_reads' HO559.out).2.2 | (with_reducible refine Kd.C_alloc ?_ _) | (with_reducible refine Kd.C_drewN ?_ _) | (with_reducible refine Kd.C_drew ?_))); (case side2 => exact (Kd.S_reads' HO559.out).2.1); rintro e w23 ⟨v588, rfl, ho0, hb⟩; refine ⟨_, rfl, ?_⟩; have n0_ := Aside0.mk (Kd.S_elder' (by (with_reducible repeat (first | apply Kd.S_alloc | apply Kd.S_drewN | apply Kd.S_drew)); exact HO559.out) (Kd.R_base ho0) hb); have n1_ := Aside0.mk (Kd.S_elder' (by (with_reducible repeat (first | apply Kd.S_alloc | apply Kd.S_drewN | apply Kd.S_drew)); exact HO563.out) (Kd.R_base ho0) hb); have n2_ := Aside0.mk (Kd.S_elder' (by (with_reducible repeat (first | apply Kd.S_alloc | apply Kd.S_drewN | apply Kd.S_drew)); exact HO567.out) (Kd.R_base ho0) hb); have n3_ := Aside0.mk (Kd.R_elder' (by (with_reducible repeat (first | apply Kd.R_alloc | apply Kd.R_drewN | apply Kd.R_drew)); exact HO571.out) (Kd.R_base ho0) hb); have n4_ := Aside0.mk (Kd.R_elder' (by (with_reducible repeat (first | apply Kd.R_alloc | apply Kd.R_drewN | apply Kd.R_drew)); exact HO573.out) (Kd.R_base ho0) hb); have n5_ := Aside0.mk (Kd.R_elder' (by (with_reducible repeat (first | apply Kd.R_alloc | apply Kd.R_drewN | apply Kd.R_drew)); exact HO577.out) (Kd.R_base ho0) hb); have n6_ := Aside0.mk (Kd.R_elder' (by (with_reducible repeat (first | apply Kd.R_alloc | apply Kd.R_drewN | apply Kd.R_drew)); exact HO581.out) (Kd.R_base ho0) hb); have n7_ := Aside0.mk (Kd.R_elder' (by (with_reducible repeat (first | apply Kd.R_alloc | apply Kd.R_drewN | apply Kd.R_drew)); exact HO585.out) (Kd.R_base ho0) hb); have n8_ := Aside0.mk (Kd.R_lower (Kd.R_new' (Kd.R_new' (Kd.R_new' (Kd.R_new' (Kd.R_new' ho0 (Kd.R_lt (by (with_reducible repeat (first | apply Kd.R_alloc | apply Kd.R_drewN | apply Kd.R_drew)); exact HO571.out))) (Kd.R_lt (by (with_reducible repeat (first | apply Kd.R_alloc | apply Kd.R_drewN | apply Kd.R_drew)); exact HO573.out))) (Kd.R_lt (by (with_reducible repeat (first | apply Kd.R_alloc | apply Kd.R_drewN | apply Kd.R_drew)); exact HO577.out))) (Kd.R_lt (by (with_reducible repeat (first | apply Kd.R_alloc | apply Kd.R_drewN | apply Kd.R_drew)); exact HO581.out))) (Kd.R_lt (by (with_reducible repeat (first | apply Kd.R_alloc | apply Kd.R_drewN | apply Kd.R_drew)); exact HO585.out))) (below_size (bw_ HB.out))); have n9_ := Aside0.mk (below_step (bw_ HB.out) hb); clear HO559; clear HO563; clear HO567; clear HO571; clear HO573; clear HO577; clear HO581; clear HO585; clear HB; have HO559 := n0_; have HO563 := n1_; have HO567 := n2_; have HO571 := n3_; have HO573 := n4_; have HO577 := n5_; have HO581 := n6_; have HO585 := n7_; have HO589 := n8_; have HB := n9_; clear n0_ n1_ n2_ n3_ n4_ n5_ n6_ n7_ n8_ n9_; (try clear hb); (try clear hb2); (try clear hk); (try clear hi); (try clear ho0)))
  (try simp only [Act.put, List.setIfInBounds_toArray, List.set_cons_zero, List.set_cons_succ])
  go_cut [98] (fun v98 wc => ∃ (kq : Nat) (x98_11 : Bool), v98 = .bool x98_11 ∧ Aside0 (laws_FnJoined.j0 kq t557 t560 t561 t564 t568 t569 t575 t578 x98_11 = some r) ∧ Aside0 (kq ≤ k) ∧ Aside0 (Kd.S (Kd.slice 49 k49) 34 wc w.heap.size (fun k_ => some k_ ≠ (v562 : Value).ownBlock ∧ some k_ ≠ (v566 : Value).ownBlock ∧ some k_ ≠ ((.slice Ao18 t568.length co18) : Value).ownBlock ∧ some k_ ≠ ((.slice Ao19 t569.length co19) : Value).ownBlock ∧ some k_ ≠ (v580 : Value).ownBlock) (.slice Ao14 t557.length co14) t557) ∧ Aside0 (Kd.S (Kd.slice 49 k49) 34 wc w.heap.size (fun k_ => some k_ ≠ ((.slice Ao14 t557.length co14) : Value).ownBlock ∧ some k_ ≠ (v566 : Value).ownBlock ∧ some k_ ≠ ((.slice Ao18 t568.length co18) : Value).ownBlock ∧ some k_ ≠ ((.slice Ao19 t569.length co19) : Value).ownBlock ∧ some k_ ≠ (v580 : Value).ownBlock) v562 t560) ∧ Aside0 (Kd.S (Kd.slice 49 k49) 34 wc w.heap.size (fun k_ => some k_ ≠ ((.slice Ao14 t557.length co14) : Value).ownBlock ∧ some k_ ≠ (v562 : Value).ownBlock ∧ some k_ ≠ ((.slice Ao18 t568.length co18) : Value).ownBlock ∧ some k_ ≠ ((.slice Ao19 t569.length co19) : Value).ownBlock ∧ some k_ ≠ (v580 : Value).ownBlock) v566 t564) ∧ Aside0 (Kd.R k49 49 wc w.heap.size (fun k_ => some k_ ≠ ((.slice Ao19 t569.length co19) : Value).ownBlock ∧ some k_ ≠ (v580 : Value).ownBlock) (.slice Ao18 t568.length co18) t568) ∧ Aside0 (Kd.R k49 49 wc w.heap.size (fun k_ => some k_ ≠ ((.slice Ao18 t568.length co18) : Value).ownBlock ∧ some k_ ≠ (v580 : Value).ownBlock) (.slice Ao19 t569.length co19) t569) ∧ Aside0 (Kd.R k49 49 wc w.heap.size (fun k_ => some k_ ≠ ((.slice Ao18 t568.length co18) : Value).ownBlock ∧ some k_ ≠ ((.slice Ao19 t569.length co19) : Value).ownBlock) v580 t578) ∧ Aside0 (Below w.heap.size w wc))
  case first =>
   have H := HC12.out
   clear HC12
   by_cases c24 : t561 = t565
   ·rw [if_pos c24] at H
    have c24b0 : (t561 == t565) = true := beq_iff_eq.mpr c24
    have c24b1 : (t561 != t565) = false := bne_eq_false_iff_eq.mpr c24
    clear c24
    (first | rw [c24b0] | (simp only [i64_w, i32_w]; rw [c24b0]) | skip)
    by_cases c25 : (t560.length : Int) = (t564.length : Int)
    ·rw [if_pos c25] at H
     have c25b0 : ((t560.length : Int) == (t564.length : Int)) = true := beq_iff_eq.mpr c25
     have c25b1 : ((t560.length : Int) != (t564.length : Int)) = false := bne_eq_false_iff_eq.mpr c25
     have c25b2 : (t560.length == t564.length) = true := by first | simpa using c25 | (simp at c25 ⊢; omega)
     clear c25
     by_cases c26 : t575 = t579
     ·rw [if_pos c26] at H
      have c26b0 : (t575 == t579) = true := beq_iff_eq.mpr c26
      have c26b1 : (t575 != t579) = false := bne_eq_false_iff_eq.mpr c26
      clear c26
      replace H := Option.bind_eq_some_iff.mp H
      obtain ⟨t590, A270, H⟩ := H
      replace H : (if t590 = true then (if t583 = t587 then ((spec_SameChain.f k t582 t586).bind fun t591 => (laws_FnJoined.j0 k t557 t560 t561 t564 t568 t569 t575 t578 (!t591))) else (none)) else (none)) = some r := H
      have A27 := Aside0.mk A270
      clear A270
      by_cases c28 : t590 = true
      ·subst c28
       have H1 : (if t583 = t587 then ((spec_SameChain.f k t582 t586).bind fun t591 => (laws_FnJoined.j0 k t557 t560 t561 t564 t568 t569 t575 t578 (!t591))) else (none)) = some r := by rw [if_pos rfl] at H; exact H
       clear H
       have H := H1
       clear H1
       by_cases c29 : t583 = t587
       ·rw [if_pos c29] at H
        have c29b0 : (t583 == t587) = true := beq_iff_eq.mpr c29
        have c29b1 : (t583 != t587) = false := bne_eq_false_iff_eq.mpr c29
        clear c29
        replace H := Option.bind_eq_some_iff.mp H
        obtain ⟨t591, A300, H⟩ := H
        replace H : (laws_FnJoined.j0 k t557 t560 t561 t564 t568 t569 t575 t578 (!t591)) = some r := H
        have A30 := Aside0.mk A300
        clear A300
        have H' := Aside0.mk H
        clear H
        obtain ⟨Ao31, co31, eo31⟩ := Kd.S_slice HO563.out
        subst eo31
        obtain ⟨Ao32, co32, eo32⟩ := Kd.S_slice HO567.out
        subst eo32
        obtain ⟨Ao33, co33, eo33⟩ := Kd.R_slice HO577.out
        subst eo33
        obtain ⟨Ao34, co34, eo34⟩ := Kd.R_slice HO581.out
        subst eo34
        go_wp2_with (first | (go_at_call 19; (with_reducible refine (spec_SameChain.calls k _ _ t574 _ _ t578 true _ ?side1 ?side2 ?side3 ?side4 A27.out).mono ?_); (case side1 => repeat (first | exact (Kd.R_reads' HO577.out).2.2 | (with_reducible refine Kd.C_alloc ?_ _) | (with_reducible refine Kd.C_drewN ?_ _) | (with_reducible refine Kd.C_drew ?_))); (case side2 => exact (Kd.R_reads' HO577.out).2.1); (case side3 => repeat (first | exact (Kd.R_reads' HO581.out).2.2 | (with_reducible refine Kd.C_alloc ?_ _) | (with_reducible refine Kd.C_drewN ?_ _) | (with_reducible refine Kd.C_drew ?_))); (case side4 => exact (Kd.R_reads' HO581.out).2.1); rintro e w' ⟨rfl, ⟨nd, rfl⟩⟩; obtain ⟨Ao35, co35, eo35⟩ := Kd.R_slice HO585.out; subst eo35; obtain ⟨Ao36, co36, eo36⟩ := Kd.R_slice HO589.out; subst eo36) | (go_at_call 19; (with_reducible refine (spec_SameChain.calls k _ _ t582 _ _ t586 t591 _ ?side1 ?side2 ?side3 ?side4 A30.out).mono ?_); (case side1 => repeat (first | exact (Kd.R_reads' HO585.out).2.2 | (with_reducible refine Kd.C_alloc ?_ _) | (with_reducible refine Kd.C_drewN ?_ _) | (with_reducible refine Kd.C_drew ?_))); (case side2 => exact (Kd.R_reads' HO585.out).2.1); (case side3 => repeat (first | exact (Kd.R_reads' HO589.out).2.2 | (with_reducible refine Kd.C_alloc ?_ _) | (with_reducible refine Kd.C_drewN ?_ _) | (with_reducible refine Kd.C_drew ?_))); (case side4 => exact (Kd.R_reads' HO589.out).2.1); rintro e w' ⟨rfl, ⟨nd, rfl⟩⟩))
        go_meet
        case rel => exact ⟨_, (!t591), (by first | rfl | (simp; done) | (simp [*]; done)), H', ⟨by first | omega | exact Nat.le_refl _⟩, ⟨by (with_reducible repeat (first | apply Kd.S_alloc | apply Kd.S_drewN | apply Kd.S_drew)); exact Kd.S_mono HO559.out (fun _ hk => ⟨hk.1.1.1.1.1.1.1.2, ⟨hk.1.1.1.1.1.1.2, ⟨hk.1.1.1.1.1.2, ⟨hk.1.1.1.1.2, hk.1.1.2⟩⟩⟩⟩)⟩, ⟨by (with_reducible repeat (first | apply Kd.S_alloc | apply Kd.S_drewN | apply Kd.S_drew)); exact Kd.S_mono HO563.out (fun _ hk => ⟨hk.1.1.1.1.1.1.1.2, ⟨hk.1.1.1.1.1.1.2, ⟨hk.1.1.1.1.1.2, ⟨hk.1.1.1.1.2, hk.1.1.2⟩⟩⟩⟩)⟩, ⟨by (with_reducible repeat (first | apply Kd.S_alloc | apply Kd.S_drewN | apply Kd.S_drew)); exact Kd.S_mono HO567.out (fun _ hk => ⟨hk.1.1.1.1.1.1.1.2, ⟨hk.1.1.1.1.1.1.2, ⟨hk.1.1.1.1.1.2, ⟨hk.1.1.1.1.2, hk.1.1.2⟩⟩⟩⟩)⟩, ⟨by (with_reducible repeat (first | apply Kd.R_alloc | apply Kd.R_drewN | apply Kd.R_drew)); exact Kd.R_mono HO571.out (fun _ hk => ⟨hk.1.1.1.1, hk.1.1.2⟩)⟩, ⟨by (with_reducible repeat (first | apply Kd.R_alloc | apply Kd.R_drewN | apply Kd.R_drew)); exact Kd.R_mono HO573.out (fun _ hk => ⟨hk.1.1.1.1, hk.1.1.2⟩)⟩, ⟨by (with_reducible repeat (first | apply Kd.R_alloc | apply Kd.R_drewN | apply Kd.R_drew)); exact Kd.R_mono HO581.out (fun _ hk => ⟨hk.1.1.1.1.2, hk.1.1.1.2⟩)⟩, ⟨bw_ HB.out⟩⟩
       ·rw [if_neg c29] at H
        exact absurd H (by simp)
      ·replace c28 := Bool.eq_false_iff.mpr c28
       subst c28
       have H1 : (none) = some r := by rw [if_neg (show ¬ (false = true) by decide)] at H; exact H
       clear H
       have H := H1
       clear H1
       exact absurd H (by simp)
     ·rw [if_neg c26] at H
      exact absurd H (by simp)
    ·rw [if_neg c25] at H
     exact absurd H (by simp)
   ·rw [if_neg c24] at H
    exact absurd H (by simp)
  case rest =>
   clear HC12
   try clear c1
   try clear c2
   try clear p2
   try clear c3
   try clear c4
   try clear c6
   try clear c8
   try clear c12
   try clear c13
   try clear c14
   try clear c15
   try clear c16
   try clear c17
   try clear c18
   try clear c24
   try clear c24b0
   try clear c24b1
   try clear c25
   try clear c25b0
   try clear c25b1
   try clear c25b2
   try clear c26
   try clear c26b0
   try clear c26b1
   try clear c28
   try clear c29
   try clear c29b0
   try clear c29b1
   obtain ⟨kq, x98_11, rfl, HA, HJ11, HO_3, HO_4, HO_6, HO_8, HO_9, HO_12, HB⟩ := hcut
   cases kq with
   | zero => exact absurd HA.out (by simp [laws_FnJoined.j0])
   | succ kj11 =>
    have H := HA.out
    clear HA
    simp only [laws_FnJoined.j0] at H
    by_cases c37 : x98_11 = true
    ·subst c37
     have H1 : (none) = some r := by rw [if_pos rfl] at H; exact H
     clear H
     have H := H1
     clear H1
     exact absurd H (by simp)
    ·replace c37 := Bool.eq_false_iff.mpr c37
     subst c37
     have H1 : (laws_FnJoined.l0 kj11 t557 t560 t561 t564 t568 t569 t575 t578 0) = some r := by rw [if_neg (show ¬ (false = true) by decide)] at H; exact H
     clear H
     have H := H1
     clear H1
     have H' := Aside0.mk H
     clear H
     go_wp2
     go_loopg [18] kj11 (fun kq v18 w' => ∃ (x18_2 : Int), v18 = .int .i64 x18_2 ∧ Aside0 (laws_FnJoined.l0 kq t557 t560 t561 t564 t568 t569 t575 t578 x18_2 = some r) ∧ Aside0 (kq ≤ kj11) ∧ Aside0 (Kd.S (Kd.slice 49 k49) 34 w' w.heap.size (fun k_ => some k_ ≠ (v562 : Value).ownBlock ∧ some k_ ≠ (v566 : Value).ownBlock ∧ some k_ ≠ ((.slice Ao18 t568.length co18) : Value).ownBlock ∧ some k_ ≠ ((.slice Ao19 t569.length co19) : Value).ownBlock ∧ some k_ ≠ (v580 : Value).ownBlock) (.slice Ao14 t557.length co14) t557) ∧ Aside0 (Kd.S (Kd.slice 49 k49) 34 w' w.heap.size (fun k_ => some k_ ≠ ((.slice Ao14 t557.length co14) : Value).ownBlock ∧ some k_ ≠ (v566 : Value).ownBlock ∧ some k_ ≠ ((.slice Ao18 t568.length co18) : Value).ownBlock ∧ some k_ ≠ ((.slice Ao19 t569.length co19) : Value).ownBlock ∧ some k_ ≠ (v580 : Value).ownBlock) v562 t560) ∧ Aside0 (Kd.S (Kd.slice 49 k49) 34 w' w.heap.size (fun k_ => some k_ ≠ ((.slice Ao14 t557.length co14) : Value).ownBlock ∧ some k_ ≠ (v562 : Value).ownBlock ∧ some k_ ≠ ((.slice Ao18 t568.length co18) : Value).ownBlock ∧ some k_ ≠ ((.slice Ao19 t569.length co19) : Value).ownBlock ∧ some k_ ≠ (v580 : Value).ownBlock) v566 t564) ∧ Aside0 (Kd.R k49 49 w' w.heap.size (fun k_ => some k_ ≠ ((.slice Ao19 t569.length co19) : Value).ownBlock ∧ some k_ ≠ (v580 : Value).ownBlock) (.slice Ao18 t568.length co18) t568) ∧ Aside0 (Kd.R k49 49 w' w.heap.size (fun k_ => some k_ ≠ ((.slice Ao18 t568.length co18) : Value).ownBlock ∧ some k_ ≠ (v580 : Value).ownBlock) (.slice Ao19 t569.length co19) t569) ∧ Aside0 (Kd.R k49 49 w' w.heap.size (fun k_ => some k_ ≠ ((.slice Ao18 t568.length co18) : Value).ownBlock ∧ some k_ ≠ ((.slice Ao19 t569.length co19) : Value).ownBlock) v580 t578) ∧ Aside0 (Below w.heap.size w w'))
     case atStart => exact ⟨(0), (by first | rfl | (simp; done) | (simp [*]; done)), H', ⟨Nat.le_refl _⟩, ⟨by (with_reducible repeat (first | apply Kd.S_alloc | apply Kd.S_drewN | apply Kd.S_drew)); exact HO_3.out⟩, ⟨by (with_reducible repeat (first | apply Kd.S_alloc | apply Kd.S_drewN | apply Kd.S_drew)); exact HO_4.out⟩, ⟨by (with_reducible repeat (first | apply Kd.S_alloc | apply Kd.S_drewN | apply Kd.S_drew)); exact HO_6.out⟩, ⟨by (with_reducible repeat (first | apply Kd.R_alloc | apply Kd.R_drewN | apply Kd.R_drew)); exact HO_8.out⟩, ⟨by (with_reducible repeat (first | apply Kd.R_alloc | apply Kd.R_drewN | apply Kd.R_drew)); exact HO_9.out⟩, ⟨by (with_reducible repeat (first | apply Kd.R_alloc | apply Kd.R_drewN | apply Kd.R_drew)); exact HO_12.out⟩, ⟨bw_ HB.out⟩⟩
     case round =>
      clear H'
      try clear c1
      try clear c2
      try clear p2
      try clear c3
      try clear c4
      try clear c6
      try clear c8
      try clear c12
      try clear c13
      try clear c14
      try clear c15
      try clear c16
      try clear c17
      try clear c18
      try clear c24
      try clear c24b0
      try clear c24b1
      try clear c25
      try clear c25b0
      try clear c25b1
      try clear c25b2
      try clear c26
      try clear c26b0
      try clear c26b1
      try clear c28
      try clear c29
      try clear c29b0
      try clear c29b1
      try clear c37
      try clear p2
      obtain ⟨x18_2, rfl, HA, HK2, HO_3, HO_4, HO_6, HO_8, HO_9, HO_12, HB⟩ := hrel
      cases gk with
      | zero => exact absurd HA.out (by simp [laws_FnJoined.l0])
      | succ k2 =>
       have H := HA.out
       clear HA
       simp only [laws_FnJoined.l0] at H
       by_cases c38 : x18_2 < (t564.length : Int)
       ·rw [if_pos c38] at H
        have c38b0 : decide (x18_2 < (t564.length : Int)) = true := decide_eq_true c38
        clear c38
        by_cases c39 : 0 ≤ x18_2
        ·rw [if_pos c39] at H
         have c39b0 : decide (0 ≤ x18_2) = true := decide_eq_true c39
         clear c39
         by_cases c40 : x18_2 < (t560.length : Int)
         ·rw [if_pos c40] at H
          have c40b0 : decide (x18_2 < (t560.length : Int)) = true := decide_eq_true c40
          clear c40
          replace H := Option.bind_eq_some_iff.mp H
          obtain ⟨t594, A410, H⟩ := H
          replace H : (if t594 = true then (laws_FnJoined.l0 k2 t557 t560 t561 t564 t568 t569 t575 t578 (wrap64 (x18_2 + 1))) else (none)) = some r := H
          have A41 := Aside0.mk A410
          clear A410
          by_cases c42 : t594 = true
          ·subst c42
           have H1 : (laws_FnJoined.l0 k2 t557 t560 t561 t564 t568 t569 t575 t578 (wrap64 (x18_2 + 1))) = some r := by rw [if_pos rfl] at H; exact H
           clear H
           have H := H1
           clear H1
           have H' := Aside0.mk H
           clear H
           obtain ⟨Ao43, co43, eo43⟩ := Kd.S_slice HO_6.out
           subst eo43
           try go_wp2
           have n0_ := Aside0.mk (Kd.S_drew HO_3.out)
           have n1_ := Aside0.mk (Kd.S_drew HO_4.out)
           have n2_ := Aside0.mk (Kd.S_drew HO_6.out)
           have n3_ := Aside0.mk (Kd.R_drew HO_8.out)
           have n4_ := Aside0.mk (Kd.R_drew HO_9.out)
           have n5_ := Aside0.mk (Kd.R_drew HO_12.out)
           have n6_ := Aside0.mk (below_drew1 HB.out)
           clear HO_3 HO_4 HO_6 HO_8 HO_9 HO_12 HB
           have HO_3 := n0_; have HO_4 := n1_; have HO_6 := n2_; have HO_8 := n3_; have HO_9 := n4_; have HO_12 := n5_; have HB := n6_
           clear n0_ n1_ n2_ n3_ n4_ n5_ n6_
           obtain ⟨Ao45, co45, eo45⟩ := Kd.S_slice HO_4.out
           (first | subst eo45 | (injection eo45 with f1_ f2_ f3_; have f4_ := f1_.symm; have f5_ := f3_.symm; clear f1_ f2_ f3_; subst f4_; subst f5_))
           have p592 : 0 ≤ (x18_2 : Int) := od_
           have q592 : x18_2 < (t560.length : Int) := od_
           obtain ⟨ad592, A592_0, c592_0, e592, hx592_0, hl592_0, hi592_0⟩ := at_L2 (Kd.S_reads' HO_4.out).2.2 x18_2 p592 q592
           cases e592
           obtain ⟨ce592, hce592, hMe592, hcc592⟩ := Kd.S_get HO_4.out [] x18_2 p592 (by first | exact q592 | exact od_ | (have e_ := (Kd.S_reads' HO_4.out).1; omega))
           obtain ⟨ve592_0, rfl, ge592_0⟩ := hMe592
           have hv592_0 := hcc592 0 _ rfl
           rw [Nat.add_zero, show ((Kd.slice 49 k49)).sz = 1 from rfl, Nat.mul_one] at hv592_0
           replace hv592_0 := Option.some.inj (hv592_0.symm.trans hx592_0)
           rw [hv592_0] at ge592_0
           have HL592_0 := Aside0.mk (show Kd.R k49 49 _ _ _ _ (rd_L2 t560 x18_2) from ge592_0)
           clear hv592_0 ge592_0 hcc592 hce592
           have HR592_0 := Aside0.mk hi592_0
           have HC592_0 := Aside0.mk hl592_0
           clear hi592_0 hl592_0
           replace p592 := eq_true p592
           replace q592 := eq_true q592
           have p593 : 0 ≤ (x18_2 : Int) := od_
           have q593 : x18_2 < (t564.length : Int) := od_
           obtain ⟨ad593, A593_0, c593_0, e593, hx593_0, hl593_0, hi593_0⟩ := at_L2 (Kd.S_reads' HO_6.out).2.2 x18_2 p593 q593
           cases e593
           obtain ⟨ce593, hce593, hMe593, hcc593⟩ := Kd.S_get HO_6.out [] x18_2 p593 (by first | exact q593 | exact od_ | (have e_ := (Kd.S_reads' HO_6.out).1; omega))
           obtain ⟨ve593_0, rfl, ge593_0⟩ := hMe593
           have hv593_0 := hcc593 0 _ rfl
           rw [Nat.add_zero, show ((Kd.slice 49 k49)).sz = 1 from rfl, Nat.mul_one] at hv593_0
           replace hv593_0 := Option.some.inj (hv593_0.symm.trans hx593_0)
           rw [hv593_0] at ge593_0
           have HL593_0 := Aside0.mk (show Kd.R k49 49 _ _ _ _ (rd_L2 t564 x18_2) from ge593_0)
           clear hv593_0 ge593_0 hcc593 hce593
           have HR593_0 := Aside0.mk hi593_0
           have HC593_0 := Aside0.mk hl593_0
           clear hi593_0 hl593_0
           replace p593 := eq_true p593
           replace q593 := eq_true q593
           refine start_ (n := 10) (S := fun w' => w'.cell? (ad592.add (x18_2).toNat) = some (.slice A592_0 (rd_L2 t560 x18_2).length c592_0) ∧ w'.cell? (ad593.add (x18_2).toNat) = some (.slice A593_0 (rd_L2 t564 x18_2).length c593_0)) (ds := []) #[false, false, false, false, false, false, false, false, false, false] (by kernel_rfl) rfl rfl ⟨hx592_0, hx593_0⟩ (fun hHeld => ?_); refine with_tabW laws_FnJoined.tab16 laws_FnJoined.bits16 (fun HT_ HW_ => ?_)
           generalize wr.drew = w44 at HO_3 HO_4 HO_6 HO_8 HO_9 HO_12 HB HL592_0 HL593_0 HR592_0 HR593_0 hx592_0 hx593_0 hHeld ⊢
           refine pure_ (i := 0) (N := some 105) (v := ?_) (a' := ?_) #[true, false, false, false, false, false, false, false, false, false] rfl rfl (any_of HT_.out (by kernel_rfl)) (fun _ _ _ h => h) (Or.inl ⟨by rfl, ?_⟩) ?_ ?_
           rotate_left
           ·intro w'
            go_simp
            with_reducible rfl
           rotate_left
           ·simp only [Act.put, List.setIfInBounds_toArray, List.set_cons_zero, List.set_cons_succ, i64_w, i32_w]
            rfl
           refine pure_ (i := 1) (N := some 106) (v := ?_) (a' := ?_) #[true, true, false, false, false, false, false, false, false, false] rfl rfl (any_of HT_.out (by kernel_rfl)) (fun _ _ _ h => h) (Or.inl ⟨by rfl, ?_⟩) ?_ ?_
           rotate_left
           ·intro w'
            go_simp
            with_reducible rfl
           rotate_left
           ·simp only [Act.put, List.setIfInBounds_toArray, List.set_cons_zero, List.set_cons_succ, i64_w, i32_w]
            rfl
           refine pure_ (i := 2) (N := some 107) (v := ?_) (a' := ?_) #[true, true, true, false, false, false, false, false, false, false] rfl rfl (any_of HT_.out (by kernel_rfl)) (fun _ _ _ h => h) (Or.inl ⟨by rfl, ?_⟩) ?_ ?_
           rotate_left
           ·intro w'
            go_simp
            with_reducible rfl
           rotate_left
           ·simp only [Act.put, List.setIfInBounds_toArray, List.set_cons_zero, List.set_cons_succ, i64_w, i32_w]
            rfl
           refine pure_ (i := 4) (N := some 109) (v := ?_) (a' := ?_) #[true, true, true, false, true, false, false, false, false, false] rfl rfl (any_of HT_.out (by kernel_rfl)) (fun _ _ _ h => h) (Or.inl ⟨by rfl, ?_⟩) ?_ ?_
           rotate_left
           ·intro w'
            go_simp
            with_reducible rfl
           rotate_left
           ·simp only [Act.put, List.setIfInBounds_toArray, List.set_cons_zero, List.set_cons_succ, i64_w, i32_w]
            rfl
           refine pure_ (i := 5) (N := some 110) (v := ?_) (a' := ?_) #[true, true, true, false, true, true, false, false, false, false] rfl rfl (any_of HT_.out (by kernel_rfl)) (fun _ _ _ h => h) (Or.inl ⟨by rfl, ?_⟩) ?_ ?_
           rotate_left
           ·intro w'
            go_simp
            with_reducible rfl
           rotate_left
           ·simp only [Act.put, List.setIfInBounds_toArray, List.set_cons_zero, List.set_cons_succ, i64_w, i32_w]
            rfl
           refine pure_ (i := 6) (N := some 111) (v := ?_) (a' := ?_) #[true, true, true, false, true, true, true, false, false, false] rfl rfl (any_of HT_.out (by kernel_rfl)) (fun _ _ _ h => h) (Or.inl ⟨by rfl, ?_⟩) ?_ ?_
           rotate_left
           ·intro w'
            go_simp
            with_reducible rfl
           rotate_left
           ·simp only [Act.put, List.setIfInBounds_toArray, List.set_cons_zero, List.set_cons_succ, i64_w, i32_w]
            rfl
           refine take_ (i := 3) (N := some 108) (v := ?_) (a' := ?_) #[true, true, true, true, true, true, true, false, false, false] rfl rfl (take_ofW HT_.out HW_.out (by kernel_rfl)) (fun _ _ _ h => h) (Or.inl ⟨by rfl, ?_⟩) hHeld ?_ ?_
           rotate_left
           ·rintro w' ⟨s0, s1⟩
            go_simp
            with_reducible rfl
           rotate_left
           ·simp only [Act.put, List.setIfInBounds_toArray, List.set_cons_zero, List.set_cons_succ, i64_w, i32_w]
            rfl
           refine take_ (i := 7) (N := some 112) (v := ?_) (a' := ?_) #[true, true, true, true, true, true, true, true, false, false] rfl rfl (take_ofW HT_.out HW_.out (by kernel_rfl)) (fun _ _ _ h => h) (Or.inl ⟨by rfl, ?_⟩) hHeld ?_ ?_
           rotate_left
           ·rintro w' ⟨s0, s1⟩
            go_simp
            with_reducible rfl
           rotate_left
           ·simp only [Act.put, List.setIfInBounds_toArray, List.set_cons_zero, List.set_cons_succ, i64_w, i32_w]
            rfl
           refine one_ (i := 8) (N := some 113) #[true, true, true, true, true, true, true, true, true, false] rfl rfl (one_of HT_.out (by kernel_rfl)) (by decide) (fun K hK => ?_)
           refine goes_ Try.func19 (by kernel_rfl) rfl #[.slice A592_0 (rd_L2 t560 x18_2).length c592_0, .slice A593_0 (rd_L2 t564 x18_2).length c593_0] (by rfl) rfl rfl gl_ ?_
           with_reducible refine (spec_SameChain.calls k2 _ _ (rd_L2 t560 x18_2) _ _ (rd_L2 t564 x18_2) true _ ?side1 ?side2 ?side3 ?side4 A41.out).mono ?_
           (case side1 => repeat (first | exact (by repeat (first | (with_reducible exact HR592_0.out) | (with_reducible refine Kd.C_alloc ?_ _) | (with_reducible refine Kd.C_drewN ?_ _) | (with_reducible refine Kd.C_drew ?_) | exact HR592_0.out)) | (with_reducible refine Kd.C_alloc ?_ _) | (with_reducible refine Kd.C_drewN ?_ _) | (with_reducible refine Kd.C_drew ?_)))
           (case side2 => exact HC592_0.out)
           (case side3 => repeat (first | exact (by repeat (first | (with_reducible exact HR593_0.out) | (with_reducible refine Kd.C_alloc ?_ _) | (with_reducible refine Kd.C_drewN ?_ _) | (with_reducible refine Kd.C_drew ?_) | exact HR593_0.out)) | (with_reducible refine Kd.C_alloc ?_ _) | (with_reducible refine Kd.C_drewN ?_ _) | (with_reducible refine Kd.C_drew ?_)))
           (case side4 => exact HC593_0.out)
           rintro e w' ⟨rfl, ⟨nd, rfl⟩⟩
           refine ⟨_, rfl, ?_⟩
           refine hK.out _ _ ⟨hHeld.1, hHeld.2⟩ (fun hHeld => ?_)
           clear hK K
           refine norm_ (a' := ?_) ?_ ?_
           rotate_left
           ·show Act.put _ (some 113) _ = _
            simp only [Act.put, List.setIfInBounds_toArray, List.set_cons_zero, List.set_cons_succ, i64_w, i32_w]
            rfl
           refine pure_ (i := 9) (N := some 114) (v := ?_) (a' := ?_) #[true, true, true, true, true, true, true, true, true, true] rfl rfl (any_of HT_.out (by kernel_rfl)) (fun _ _ _ h => h) (Or.inl ⟨by rfl, ?_⟩) ?_ ?_
           rotate_left
           ·intro w'
            go_simp
            with_reducible rfl
           rotate_left
           ·simp only [Act.put, List.setIfInBounds_toArray, List.set_cons_zero, List.set_cons_succ, i64_w, i32_w]
            rfl
           refine done_ (done_of HT_.out (by kernel_rfl)) ?_
           try go_wp2
           go_roundg k2
           case measure => have := HJ11.out; have := HK2.out; omega
           case rel => exact ⟨(wrap64 (x18_2 + 1)), (by first | rfl | (simp; done) | (simp [*]; done)), H', ⟨by have := HJ11.out; have := HK2.out; omega⟩, ⟨by (with_reducible repeat (first | apply Kd.S_alloc | apply Kd.S_drewN | apply Kd.S_drew)); exact HO_3.out⟩, ⟨by (with_reducible repeat (first | apply Kd.S_alloc | apply Kd.S_drewN | apply Kd.S_drew)); exact HO_4.out⟩, ⟨by (with_reducible repeat (first | apply Kd.S_alloc | apply Kd.S_drewN | apply Kd.S_drew)); exact HO_6.out⟩, ⟨by (with_reducible repeat (first | apply Kd.R_alloc | apply Kd.R_drewN | apply Kd.R_drew)); exact HO_8.out⟩, ⟨by (with_reducible repeat (first | apply Kd.R_alloc | apply Kd.R_drewN | apply Kd.R_drew)); exact HO_9.out⟩, ⟨by (with_reducible repeat (first | apply Kd.R_alloc | apply Kd.R_drewN | apply Kd.R_drew)); exact HO_12.out⟩, ⟨bw_ HB.out⟩⟩
          ·replace c42 := Bool.eq_false_iff.mpr c42
           subst c42
           have H1 : (none) = some r := by rw [if_neg (show ¬ (false = true) by decide)] at H; exact H
           clear H
           have H := H1
           clear H1
           exact absurd H (by simp)
         ·rw [if_neg c40] at H
          exact absurd H (by simp)
        ·rw [if_neg c39] at H
         exact absurd H (by simp)
       ·rw [if_neg c38] at H
        have c38b0 : decide (x18_2 < (t564.length : Int)) = false := decide_eq_false c38
        clear c38
        have HC46 := Aside0.mk H
        clear H
        obtain ⟨Ao47, co47, eo47⟩ := Kd.S_slice HO_6.out
        subst eo47
        go_upto_region 18 with (fail)
        go_cut [127] (fun v127 wc => ∃ (kq : Nat) (x127_45 : Bool), v127 = .bool x127_45 ∧ Aside0 (laws_FnJoined.j2 kq t557 t561 t564 x127_45 = some r) ∧ Aside0 (kq ≤ k2) ∧ Aside0 (Kd.S (Kd.slice 49 k49) 34 wc w.heap.size (fun k_ => some k_ ≠ ((.slice Ao47 t564.length co47) : Value).ownBlock) (.slice Ao14 t557.length co14) t557) ∧ Aside0 (Kd.S (Kd.slice 49 k49) 34 wc w.heap.size (fun k_ => some k_ ≠ ((.slice Ao14 t557.length co14) : Value).ownBlock) (.slice Ao47 t564.length co47) t564) ∧ Aside0 (Below w.heap.size w wc))
        case first =>
         have H := HC46.out
         clear HC46
         by_cases c48 : t575 = 0
         ·rw [if_pos c48] at H
          have c48b0 : (t575 == 0) = true := beq_iff_eq.mpr c48
          have c48b1 : (t575 != 0) = false := bne_eq_false_iff_eq.mpr c48
          clear c48
          (first | rw [c48b0] | (simp only [i64_w, i32_w]; rw [c48b0]) | skip)
          have H' := Aside0.mk H
          clear H
          obtain ⟨Ao49, co49, eo49⟩ := Kd.R_slice HO_12.out
          subst eo49
          go_wp2
          go_meet
          case rel => exact ⟨_, (((t578.length : Int) != (wrap64 ((wrap64 ((t568.length : Int) + (t569.length : Int))) - 1)))), (by first | rfl | (simp; done) | (simp [*]; done)), H', ⟨by have := HJ11.out; have := HK2.out; first | omega | exact Nat.le_refl _⟩, ⟨by (with_reducible repeat (first | apply Kd.S_alloc | apply Kd.S_drewN | apply Kd.S_drew)); exact Kd.S_mono HO_3.out (fun _ hk => hk.2.1)⟩, ⟨by (with_reducible repeat (first | apply Kd.S_alloc | apply Kd.S_drewN | apply Kd.S_drew)); exact Kd.S_mono HO_6.out (fun _ hk => hk.1)⟩, ⟨bw_ HB.out⟩⟩
         ·rw [if_neg c48] at H
          have c48b0 : (t575 == 0) = false := beq_eq_false_iff_ne.mpr c48
          have c48b1 : (t575 != 0) = true := bne_iff_ne.mpr c48
          (first | rw [c48b0] | (simp only [i64_w, i32_w]; rw [c48b0]) | skip)
          have H' := Aside0.mk H
          clear H
          go_wp2
          go_meet
          case rel => exact ⟨_, (false), (by first | rfl | (simp; done) | (simp [*]; done)), H', ⟨by have := HJ11.out; have := HK2.out; first | omega | exact Nat.le_refl _⟩, ⟨by (with_reducible repeat (first | apply Kd.S_alloc | apply Kd.S_drewN | apply Kd.S_drew)); exact Kd.S_mono HO_3.out (fun _ hk => hk.2.1)⟩, ⟨by (with_reducible repeat (first | apply Kd.S_alloc | apply Kd.S_drewN | apply Kd.S_drew)); exact Kd.S_mono HO_6.out (fun _ hk => hk.1)⟩, ⟨bw_ HB.out⟩⟩
        case rest =>
         clear HC46
         try clear c1
         try clear c2
         try clear p2
         try clear c3
         try clear c4
         try clear c5
         try clear p5
         try clear q5
         try clear hx5
         try clear c6
         try clear p6
         try clear c8
         try clear c12
         try clear c13
         try clear c14
         try clear c15
         try clear c16
         try clear c17
         try clear c18
         try clear c19
         try clear c24
         try clear c24b0
         try clear c24b1
         try clear c25
         try clear c25b0
         try clear c25b1
         try clear c25b2
         try clear c26
         try clear c26b0
         try clear c26b1
         try clear c28
         try clear c29
         try clear c29b0
         try clear c29b1
         try clear c37
         try clear c38
         try clear c38b0
         try clear c39
         try clear c39b0
         try clear c40
         try clear c40b0
         try clear c42
         try clear c48
         try clear c48b0
         try clear c48b1
         try clear hx592_0
         try clear hx593_0
         try clear p2
         try clear p592
         try clear p593
         try clear q592
         try clear q593
         obtain ⟨kq, x127_45, rfl, HA, HJ45, HO_3, HO_6, HB⟩ := hcut
         cases kq with
         | zero => exact absurd HA.out (by simp [laws_FnJoined.j2])
         | succ kj45 =>
          have H := HA.out
          clear HA
          simp only [laws_FnJoined.j2] at H
          by_cases c50 : x127_45 = true
          ·subst c50
           have H1 : (none) = some r := by rw [if_pos rfl] at H; exact H
           clear H
           have H := H1
           clear H1
           exact absurd H (by simp)
          ·replace c50 := Bool.eq_false_iff.mpr c50
           subst c50
           have H1 : (if t561 = 0 then (laws_FnJoined.l1 kj45 t557 t564 0 0) else (some true)) = some r := by rw [if_neg (show ¬ (false = true) by decide)] at H; exact H
           clear H
           have H := H1
           clear H1
           by_cases c51 : t561 = 0
           ·rw [if_pos c51] at H
            have c51b0 : (t561 == 0) = true := beq_iff_eq.mpr c51
            have c51b1 : (t561 != 0) = false := bne_eq_false_iff_eq.mpr c51
            clear c51
            have H' := Aside0.mk H
            clear H
            go_wp2
            go_loopg [19, 20] kj45 (fun kq v19 v20 w' => ∃ (x19_4 : Int) (x20_4 : Int), v19 = .int .i64 x19_4 ∧ v20 = .int .i64 x20_4 ∧ Aside0 (laws_FnJoined.l1 kq t557 t564 x19_4 x20_4 = some r) ∧ Aside0 (kq ≤ kj45) ∧ Aside0 (Kd.S (Kd.slice 49 k49) 34 w' w.heap.size (fun k_ => some k_ ≠ ((.slice Ao47 t564.length co47) : Value).ownBlock) (.slice Ao14 t557.length co14) t557) ∧ Aside0 (Kd.S (Kd.slice 49 k49) 34 w' w.heap.size (fun k_ => some k_ ≠ ((.slice Ao14 t557.length co14) : Value).ownBlock) (.slice Ao47 t564.length co47) t564) ∧ Aside0 (Below w.heap.size w w'))
            case atStart => exact ⟨(0), (0), (by first | rfl | (simp; done) | (simp [*]; done)), (by first | rfl | (simp; done) | (simp [*]; done)), H', ⟨Nat.le_refl _⟩, ⟨by (with_reducible repeat (first | apply Kd.S_alloc | apply Kd.S_drewN | apply Kd.S_drew)); exact HO_3.out⟩, ⟨by (with_reducible repeat (first | apply Kd.S_alloc | apply Kd.S_drewN | apply Kd.S_drew)); exact HO_6.out⟩, ⟨bw_ HB.out⟩⟩
            case round =>
             clear H'
             try clear c1
             try clear c2
             try clear p2
             try clear c3
             try clear c4
             try clear c5
             try clear p5
             try clear q5
             try clear hx5
             try clear c6
             try clear p6
             try clear c8
             try clear c12
             try clear c13
             try clear c14
             try clear c15
             try clear c16
             try clear c17
             try clear c18
             try clear c19
             try clear c24
             try clear c24b0
             try clear c24b1
             try clear c25
             try clear c25b0
             try clear c25b1
             try clear c25b2
             try clear c26
             try clear c26b0
             try clear c26b1
             try clear c28
             try clear c29
             try clear c29b0
             try clear c29b1
             try clear c37
             try clear c38
             try clear c38b0
             try clear c39
             try clear c39b0
             try clear c40
             try clear c40b0
             try clear c42
             try clear c48
             try clear c48b0
             try clear c48b1
             try clear c50
             try clear c51
             try clear c51b0
             try clear c51b1
             try clear hx592_0
             try clear hx593_0
             try clear p2
             try clear p5
             try clear p592
             try clear p593
             try clear p6
             try clear q5
             try clear q592
             try clear q593
             obtain ⟨x19_4, x20_4, rfl, rfl, HA, HK4, HO_3, HO_6, HB⟩ := hrel
             cases gk with
             | zero => exact absurd HA.out (by simp [laws_FnJoined.l1])
             | succ k4 =>
              have H := HA.out
              clear HA
              simp only [laws_FnJoined.l1] at H
              by_cases c52 : x20_4 < (t557.length : Int)
              ·rw [if_pos c52] at H
               have c52b0 : decide (x20_4 < (t557.length : Int)) = true := decide_eq_true c52
               clear c52
               by_cases c53 : 0 ≤ x20_4
               ·rw [if_pos c53] at H
                have c53b0 : decide (0 ≤ x20_4) = true := decide_eq_true c53
                clear c53
                have H' := Aside0.mk H
                clear H
                have p595 : 0 ≤ (x20_4 : Int) := od_
                have q595 : x20_4 < (t557.length : Int) := od_
                obtain ⟨ad595, A595_0, c595_0, e595, hx595_0, hl595_0, hi595_0⟩ := at_L2 (Kd.S_reads' HO_3.out).2.2 x20_4 p595 q595
                cases e595
                obtain ⟨ce595, hce595, hMe595, hcc595⟩ := Kd.S_get HO_3.out [] x20_4 p595 (by first | exact q595 | exact od_ | (have e_ := (Kd.S_reads' HO_3.out).1; omega))
                obtain ⟨ve595_0, rfl, ge595_0⟩ := hMe595
                have hv595_0 := hcc595 0 _ rfl
                rw [Nat.add_zero, show ((Kd.slice 49 k49)).sz = 1 from rfl, Nat.mul_one] at hv595_0
                replace hv595_0 := Option.some.inj (hv595_0.symm.trans hx595_0)
                rw [hv595_0] at ge595_0
                have HL595_0 := Aside0.mk (show Kd.R k49 49 _ _ _ _ (rd_L2 t557 x20_4) from ge595_0)
                clear hv595_0 ge595_0 hcc595 hce595
                have HR595_0 := Aside0.mk hi595_0
                have HC595_0 := Aside0.mk hl595_0
                clear hi595_0 hl595_0
                replace p595 := eq_true p595
                replace q595 := eq_true q595
                go_wp2
                go_roundg k4
                case measure => have := HJ11.out; have := HK2.out; have := HJ45.out; have := HK4.out; omega
                case rel => exact ⟨(wrap64 (x19_4 + ((rd_L2 t557 x20_4).length : Int))), (wrap64 (x20_4 + 1)), (by first | rfl | (simp; done) | (simp [*]; done)), (by first | rfl | (simp; done) | (simp [*]; done)), H', ⟨by have := HJ11.out; have := HK2.out; have := HJ45.out; have := HK4.out; omega⟩, ⟨by (with_reducible repeat (first | apply Kd.S_alloc | apply Kd.S_drewN | apply Kd.S_drew)); exact HO_3.out⟩, ⟨by (with_reducible repeat (first | apply Kd.S_alloc | apply Kd.S_drewN | apply Kd.S_drew)); exact HO_6.out⟩, ⟨bw_ HB.out⟩⟩
               ·rw [if_neg c53] at H
                exact absurd H (by simp)
              ·rw [if_neg c52] at H
               have c52b0 : decide (x20_4 < (t557.length : Int)) = false := decide_eq_false c52
               clear c52
               have H' := Aside0.mk H
               clear H
               go_wp2
               go_loopg [21, 22] k4 (fun kq v21 v22 w' => ∃ (x21_5 : Int) (x22_5 : Int), v21 = .int .i64 x21_5 ∧ v22 = .int .i64 x22_5 ∧ Aside0 (laws_FnJoined.l2 kq t557 t564 x19_4 x21_5 x22_5 = some r) ∧ Aside0 (kq ≤ k4) ∧ Aside0 (Kd.S (Kd.slice 49 k49) 34 w' w.heap.size (fun k_ => some k_ ≠ ((.slice Ao47 t564.length co47) : Value).ownBlock) (.slice Ao14 t557.length co14) t557) ∧ Aside0 (Kd.S (Kd.slice 49 k49) 34 w' w.heap.size (fun k_ => some k_ ≠ ((.slice Ao14 t557.length co14) : Value).ownBlock) (.slice Ao47 t564.length co47) t564) ∧ Aside0 (Below w.heap.size w w'))
               case atStart => exact ⟨(0), (0), (by first | rfl | (simp; done) | (simp [*]; done)), (by first | rfl | (simp; done) | (simp [*]; done)), H', ⟨Nat.le_refl _⟩, ⟨by (with_reducible repeat (first | apply Kd.S_alloc | apply Kd.S_drewN | apply Kd.S_drew)); exact HO_3.out⟩, ⟨by (with_reducible repeat (first | apply Kd.S_alloc | apply Kd.S_drewN | apply Kd.S_drew)); exact HO_6.out⟩, ⟨bw_ HB.out⟩⟩
               case round =>
                clear H'
                try clear c1
                try clear c2
                try clear p2
                try clear c3
                try clear c4
                try clear c5
                try clear p5
                try clear q5
                try clear hx5
                try clear c6
                try clear p6
                try clear c8
                try clear c12
                try clear c13
                try clear c14
                try clear c15
                try clear c16
                try clear c17
                try clear c18
                try clear c19
                try clear c24
                try clear c24b0
                try clear c24b1
                try clear c25
                try clear c25b0
                try clear c25b1
                try clear c25b2
                try clear c26
                try clear c26b0
                try clear c26b1
                try clear c28
                try clear c29
                try clear c29b0
                try clear c29b1
                try clear c37
                try clear c38
                try clear c38b0
                try clear c39
                try clear c39b0
                try clear c40
                try clear c40b0
                try clear c42
                try clear c48
                try clear c48b0
                try clear c48b1
                try clear c50
                try clear c51
                try clear c51b0
                try clear c51b1
                try clear c52
                try clear c52b0
                try clear c53
                try clear c53b0
                try clear hx592_0
                try clear hx593_0
                try clear hx595_0
                try clear p2
                try clear p5
                try clear p592
                try clear p593
                try clear p595
                try clear p6
                try clear q5
                try clear q592
                try clear q593
                try clear q595
                obtain ⟨x21_5, x22_5, rfl, rfl, HA, HK5, HO_3, HO_6, HB⟩ := hrel
                cases gk with
                | zero => exact absurd HA.out (by simp [laws_FnJoined.l2])
                | succ k5 =>
                 have H := HA.out
                 clear HA
                 simp only [laws_FnJoined.l2] at H
                 by_cases c54 : x22_5 < (t564.length : Int)
                 ·rw [if_pos c54] at H
                  have c54b0 : decide (x22_5 < (t564.length : Int)) = true := decide_eq_true c54
                  clear c54
                  by_cases c55 : 0 ≤ x22_5
                  ·rw [if_pos c55] at H
                   have c55b0 : decide (0 ≤ x22_5) = true := decide_eq_true c55
                   clear c55
                   have H' := Aside0.mk H
                   clear H
                   have p596 : 0 ≤ (x22_5 : Int) := od_
                   have q596 : x22_5 < (t564.length : Int) := od_
                   obtain ⟨ad596, A596_0, c596_0, e596, hx596_0, hl596_0, hi596_0⟩ := at_L2 (Kd.S_reads' HO_6.out).2.2 x22_5 p596 q596
                   cases e596
                   obtain ⟨ce596, hce596, hMe596, hcc596⟩ := Kd.S_get HO_6.out [] x22_5 p596 (by first | exact q596 | exact od_ | (have e_ := (Kd.S_reads' HO_6.out).1; omega))
                   obtain ⟨ve596_0, rfl, ge596_0⟩ := hMe596
                   have hv596_0 := hcc596 0 _ rfl
                   rw [Nat.add_zero, show ((Kd.slice 49 k49)).sz = 1 from rfl, Nat.mul_one] at hv596_0
                   replace hv596_0 := Option.some.inj (hv596_0.symm.trans hx596_0)
                   rw [hv596_0] at ge596_0
                   have HL596_0 := Aside0.mk (show Kd.R k49 49 _ _ _ _ (rd_L2 t564 x22_5) from ge596_0)
                   clear hv596_0 ge596_0 hcc596 hce596
                   have HR596_0 := Aside0.mk hi596_0
                   have HC596_0 := Aside0.mk hl596_0
                   clear hi596_0 hl596_0
                   replace p596 := eq_true p596
                   replace q596 := eq_true q596
                   go_wp2
                   go_loopg [23] k5 (fun kq v23 w' => ∃ (x23_6 : Int), v23 = .int .i64 x23_6 ∧ Aside0 (laws_FnJoined.l3 kq t557 t564 x19_4 (wrap64 (x21_5 + ((rd_L2 t564 x22_5).length : Int))) x22_5 x23_6 = some r) ∧ Aside0 (kq ≤ k5) ∧ Aside0 (Kd.S (Kd.slice 49 k49) 34 w' w.heap.size (fun k_ => some k_ ≠ ((.slice (some ad596) t564.length co47) : Value).ownBlock) (.slice Ao14 t557.length co14) t557) ∧ Aside0 (Kd.S (Kd.slice 49 k49) 34 w' w.heap.size (fun k_ => some k_ ≠ ((.slice Ao14 t557.length co14) : Value).ownBlock) (.slice (some ad596) t564.length co47) t564) ∧ Aside0 (Kd.C k49 w' A596_0 (rd_L2 t564 x22_5).length (rd_L2 t564 x22_5)) ∧ Aside0 (Below w.heap.size w w'))
                   case atStart => exact ⟨(0), (by first | rfl | (simp; done) | (simp [*]; done)), H', ⟨Nat.le_refl _⟩, ⟨by (with_reducible repeat (first | apply Kd.S_alloc | apply Kd.S_drewN | apply Kd.S_drew)); exact HO_3.out⟩, ⟨by (with_reducible repeat (first | apply Kd.S_alloc | apply Kd.S_drewN | apply Kd.S_drew)); exact HO_6.out⟩, ⟨by repeat (first | (with_reducible exact HR596_0.out) | (with_reducible refine Kd.C_alloc ?_ _) | (with_reducible refine Kd.C_drewN ?_ _) | (with_reducible refine Kd.C_drew ?_) | exact HR596_0.out)⟩, ⟨bw_ HB.out⟩⟩
                   case round =>
                    clear H'
                    try clear c1
                    try clear c2
                    try clear p2
                    try clear c3
                    try clear c4
                    try clear c5
                    try clear p5
                    try clear q5
                    try clear hx5
                    try clear c6
                    try clear p6
                    try clear c8
                    try clear c12
                    try clear c13
                    try clear c14
                    try clear c15
                    try clear c16
                    try clear c17
                    try clear c18
                    try clear c19
                    try clear c24
                    try clear c24b0
                    try clear c24b1
                    try clear c25
                    try clear c25b0
                    try clear c25b1
                    try clear c25b2
                    try clear c26
                    try clear c26b0
                    try clear c26b1
                    try clear c28
                    try clear c29
                    try clear c29b0
                    try clear c29b1
                    try clear c37
                    try clear c38
                    try clear c38b0
                    try clear c39
                    try clear c39b0
                    try clear c40
                    try clear c40b0
                    try clear c42
                    try clear c48
                    try clear c48b0
                    try clear c48b1
                    try clear c50
                    try clear c51
                    try clear c51b0
                    try clear c51b1
                    try clear c52
                    try clear c52b0
                    try clear c53
                    try clear c53b0
                    try clear c54
                    try clear c54b0
                    try clear c55
                    try clear c55b0
                    try clear hx592_0
                    try clear hx593_0
                    try clear hx595_0
                    try clear hx596_0
                    try clear p2
                    try clear p5
                    try clear p592
                    try clear p593
                    try clear p595
                    try clear p596
                    try clear p6
                    try clear q5
                    try clear q592
                    try clear q593
                    try clear q595
                    try clear q596
                    obtain ⟨x23_6, rfl, HA, HK6, HO_3, HO_6, HR596_0, HB⟩ := hrel
                    cases gk with
                    | zero => exact absurd HA.out (by simp [laws_FnJoined.l3])
                    | succ k6 =>
                     have H := HA.out
                     clear HA
                     simp only [laws_FnJoined.l3] at H
                     by_cases c56 : x23_6 < (t564.length : Int)
                     ·rw [if_pos c56] at H
                      have c56b0 : decide (x23_6 < (t564.length : Int)) = true := decide_eq_true c56
                      clear c56
                      by_cases c57 : x22_5 = x23_6
                      ·rw [if_pos c57] at H
                       have c57b0 : (x22_5 == x23_6) = true := beq_iff_eq.mpr c57
                       have c57b1 : (x22_5 != x23_6) = false := bne_eq_false_iff_eq.mpr c57
                       clear c57
                       have H' := Aside0.mk H
                       clear H
                       go_wp2
                       go_roundg k6
                       case measure => have := HJ11.out; have := HK2.out; have := HJ45.out; have := HK4.out; have := HK5.out; have := HK6.out; omega
                       case rel => exact ⟨(wrap64 (x23_6 + 1)), (by first | rfl | (simp; done) | (simp [*]; done)), H', ⟨by have := HJ11.out; have := HK2.out; have := HJ45.out; have := HK4.out; have := HK5.out; have := HK6.out; omega⟩, ⟨by (with_reducible repeat (first | apply Kd.S_alloc | apply Kd.S_drewN | apply Kd.S_drew)); exact HO_3.out⟩, ⟨by (with_reducible repeat (first | apply Kd.S_alloc | apply Kd.S_drewN | apply Kd.S_drew)); exact HO_6.out⟩, ⟨by repeat (first | (with_reducible exact HR596_0.out) | (with_reducible refine Kd.C_alloc ?_ _) | (with_reducible refine Kd.C_drewN ?_ _) | (with_reducible refine Kd.C_drew ?_) | exact HR596_0.out)⟩, ⟨bw_ HB.out⟩⟩
                      ·rw [if_neg c57] at H
                       have c57b0 : (x22_5 == x23_6) = false := beq_eq_false_iff_ne.mpr c57
                       have c57b1 : (x22_5 != x23_6) = true := bne_iff_ne.mpr c57
                       obtain ⟨ji58, hji58⟩ : ∃ j_ : Int, (mn x22_5 x23_6) = j_ := ⟨_, rfl⟩
                       replace H : (if 0 ≤ (ji58) then (if (ji58) < (t564.length : Int) then (if 0 ≤ (mx x22_5 x23_6) then (if (mx x22_5 x23_6) < (t564.length : Int) then ((spec_JoinTwo.f k6 (rd_L2 t564 (ji58)) (rd_L2 t564 (mx x22_5 x23_6))).bind fun bt599 => (if bt599.2 = 0 then (none) else (laws_FnJoined.l3 k6 t557 t564 x19_4 (wrap64 (x21_5 + ((rd_L2 t564 x22_5).length : Int))) x22_5 (wrap64 (x23_6 + 1))))) else (none)) else (none)) else (none)) else (none)) = some r := by first | (rw [hji58] at H; exact H) | (simp only [hji58] at H ⊢; exact H)
                       have hji58_ : (if x23_6 < x22_5 then x23_6 else x22_5) = ji58 := hji58
                       by_cases c59 : 0 ≤ (ji58)
                       ·rw [if_pos c59] at H
                        have c59b0 : decide (0 ≤ (ji58)) = true := decide_eq_true c59
                        clear c59
                        by_cases c60 : (ji58) < (t564.length : Int)
                        ·rw [if_pos c60] at H
                         have c60b0 : decide ((ji58) < (t564.length : Int)) = true := decide_eq_true c60
                         clear c60
                         obtain ⟨ji61, hji61⟩ : ∃ j_ : Int, (mx x22_5 x23_6) = j_ := ⟨_, rfl⟩
                         replace H : (if 0 ≤ (ji61) then (if (ji61) < (t564.length : Int) then ((spec_JoinTwo.f k6 (rd_L2 t564 (ji58)) (rd_L2 t564 (ji61))).bind fun bt599 => (if bt599.2 = 0 then (none) else (laws_FnJoined.l3 k6 t557 t564 x19_4 (wrap64 (x21_5 + ((rd_L2 t564 x22_5).length : Int))) x22_5 (wrap64 (x23_6 + 1))))) else (none)) else (none)) = some r := by first | (rw [hji61] at H; exact H) | (simp only [hji61] at H ⊢; exact H)
                         have hji61_ : (if x22_5 < x23_6 then x23_6 else x22_5) = ji61 := hji61
                         by_cases c62 : 0 ≤ (ji61)
                         ·rw [if_pos c62] at H
                          have c62b0 : decide (0 ≤ (ji61)) = true := decide_eq_true c62
                          clear c62
                          by_cases c63 : (ji61) < (t564.length : Int)
                          ·rw [if_pos c63] at H
                           have c63b0 : decide ((ji61) < (t564.length : Int)) = true := decide_eq_true c63
                           clear c63
                           replace H := Option.bind_eq_some_iff.mp H
                           obtain ⟨⟨t599, t600⟩, A640, H⟩ := H
                           replace H : (if t600 = 0 then (none) else (laws_FnJoined.l3 k6 t557 t564 x19_4 (wrap64 (x21_5 + ((rd_L2 t564 x22_5).length : Int))) x22_5 (wrap64 (x23_6 + 1)))) = some r := H
                           have A64 := Aside0.mk A640
                           clear A640
                           by_cases c65 : t600 = 0
                           ·rw [if_pos c65] at H
                            exact absurd H (by simp)
                           ·rw [if_neg c65] at H
                            have c65b0 : (t600 == 0) = false := beq_eq_false_iff_ne.mpr c65
                            have c65b1 : (t600 != 0) = true := bne_iff_ne.mpr c65
                            have H' := Aside0.mk H
                            clear H
                            try go_wp2
                            have n0_ := Aside0.mk (Kd.S_drew HO_3.out)
                            have n1_ := Aside0.mk (Kd.S_drew HO_6.out)
                            have n2_ := Aside0.mk (Kd.C_drew HR596_0.out)
                            have n3_ := Aside0.mk (below_drew1 HB.out)
                            clear HO_3 HO_6 HR596_0 HB
                            have HO_3 := n0_; have HO_6 := n1_; have HR596_0 := n2_; have HB := n3_
                            clear n0_ n1_ n2_ n3_
                            have p597 : 0 ≤ ((ji58) : Int) := od_
                            have q597 : (ji58) < (t564.length : Int) := od_
                            obtain ⟨ad597, A597_0, c597_0, e597, hx597_0, hl597_0, hi597_0⟩ := at_L2 (Kd.S_reads' HO_6.out).2.2 (ji58) p597 q597
                            obtain rfl : ad596 = ad597 := (by injection e597)
                            obtain ⟨ce597, hce597, hMe597, hcc597⟩ := Kd.S_get HO_6.out [] (ji58) p597 (by first | exact q597 | exact od_ | (have e_ := (Kd.S_reads' HO_6.out).1; omega))
                            obtain ⟨ve597_0, rfl, ge597_0⟩ := hMe597
                            have hv597_0 := hcc597 0 _ rfl
                            rw [Nat.add_zero, show ((Kd.slice 49 k49)).sz = 1 from rfl, Nat.mul_one] at hv597_0
                            replace hv597_0 := Option.some.inj (hv597_0.symm.trans hx597_0)
                            rw [hv597_0] at ge597_0
                            have HL597_0 := Aside0.mk (show Kd.R k49 49 _ _ _ _ (rd_L2 t564 (ji58)) from ge597_0)
                            clear hv597_0 ge597_0 hcc597 hce597
                            have HR597_0 := Aside0.mk hi597_0
                            have HC597_0 := Aside0.mk hl597_0
                            clear hi597_0 hl597_0
                            replace p597 := eq_true p597
                            replace q597 := eq_true q597
                            have p598 : 0 ≤ ((ji61) : Int) := od_
                            have q598 : (ji61) < (t564.length : Int) := od_
                            obtain ⟨ad598, A598_0, c598_0, e598, hx598_0, hl598_0, hi598_0⟩ := at_L2 (Kd.S_reads' HO_6.out).2.2 (ji61) p598 q598
                            obtain rfl : ad596 = ad598 := (by injection e598)
                            obtain ⟨ce598, hce598, hMe598, hcc598⟩ := Kd.S_get HO_6.out [] (ji61) p598 (by first | exact q598 | exact od_ | (have e_ := (Kd.S_reads' HO_6.out).1; omega))
                            obtain ⟨ve598_0, rfl, ge598_0⟩ := hMe598
                            have hv598_0 := hcc598 0 _ rfl
                            rw [Nat.add_zero, show ((Kd.slice 49 k49)).sz = 1 from rfl, Nat.mul_one] at hv598_0
                            replace hv598_0 := Option.some.inj (hv598_0.symm.trans hx598_0)
                            rw [hv598_0] at ge598_0
                            have HL598_0 := Aside0.mk (show Kd.R k49 49 _ _ _ _ (rd_L2 t564 (ji61)) from ge598_0)
                            clear hv598_0 ge598_0 hcc598 hce598
                            have HR598_0 := Aside0.mk hi598_0
                            have HC598_0 := Aside0.mk hl598_0
                            clear hi598_0 hl598_0
                            replace p598 := eq_true p598
                            replace q598 := eq_true q598
                            refine start_ (n := 18) (S := fun w' => w'.cell? (ad596.add ((ji58)).toNat) = some (.slice A597_0 (rd_L2 t564 (ji58)).length c597_0) ∧ w'.cell? (ad596.add ((ji61)).toNat) = some (.slice A598_0 (rd_L2 t564 (ji61)).length c598_0)) (ds := []) #[false, false, false, false, false, false, false, false, false, false, false, false, false, false, false, false, false, false] (by kernel_rfl) rfl rfl ⟨hx597_0, hx598_0⟩ (fun hHeld => ?_); refine with_tabW laws_FnJoined.tab36 laws_FnJoined.bits36 (fun HT_ HW_ => ?_)
                            generalize wr.drew = w66 at HO_3 HO_6 HR596_0 HB HL597_0 HL598_0 HR597_0 HR598_0 hx597_0 hx598_0 hHeld ⊢
                            refine pure_ (i := 0) (N := some 166) (v := ?_) (a' := ?_) #[true, false, false, false, false, false, false, false, false, false, false, false, false, false, false, false, false, false] rfl rfl (any_of HT_.out (by kernel_rfl)) (fun _ _ _ h => h) (Or.inl ⟨by rfl, ?_⟩) ?_ ?_
                            rotate_left
                            ·intro w'
                             go_simp
                             with_reducible rfl
                            rotate_left
                            ·simp only [Act.put, List.setIfInBounds_toArray, List.set_cons_zero, List.set_cons_succ, i64_w, i32_w]
                             rfl
                            refine pure_ (i := 1) (N := some 167) (v := ?_) (a' := ?_) #[true, true, false, false, false, false, false, false, false, false, false, false, false, false, false, false, false, false] rfl rfl (any_of HT_.out (by kernel_rfl)) (fun _ _ _ h => h) (Or.inl ⟨by rfl, ?_⟩) ?_ ?_
                            rotate_left
                            ·intro w'
                             go_simp
                             with_reducible rfl
                            rotate_left
                            ·simp only [Act.put, List.setIfInBounds_toArray, List.set_cons_zero, List.set_cons_succ, i64_w, i32_w]
                             rfl
                            refine pure_ (i := 2) (N := some 168) (v := ?_) (a' := ?_) #[true, true, true, false, false, false, false, false, false, false, false, false, false, false, false, false, false, false] rfl rfl (any_of HT_.out (by kernel_rfl)) (fun _ _ _ h => h) (Or.inl ⟨by rfl, ?_⟩) ?_ ?_
                            rotate_left
                            ·intro w'
                             go_simp
                             with_reducible rfl
                            rotate_left
                            ·simp only [Act.put, List.setIfInBounds_toArray, List.set_cons_zero, List.set_cons_succ, i64_w, i32_w]
                             rfl
                            refine pure_ (i := 3) (N := some 169) (v := ?_) (a' := ?_) #[true, true, true, true, false, false, false, false, false, false, false, false, false, false, false, false, false, false] rfl rfl (any_of HT_.out (by kernel_rfl)) (fun _ _ _ h => h) (Or.inl ⟨by rfl, ?_⟩) ?_ ?_
                            rotate_left
                            ·intro w'
                             go_simp
                             with_reducible rfl
                            rotate_left
                            ·simp only [Act.put, List.setIfInBounds_toArray, List.set_cons_zero, List.set_cons_succ, i64_w, i32_w]
                             rfl
                            refine pure_ (i := 4) (N := some 170) (v := ?_) (a' := ?_) #[true, true, true, true, true, false, false, false, false, false, false, false, false, false, false, false, false, false] rfl rfl (any_of HT_.out (by kernel_rfl)) (fun _ _ _ h => h) (Or.inl ⟨by rfl, ?_⟩) ?_ ?_
                            rotate_left
                            ·intro w'
                             go_simp
                             with_reducible rfl
                            rotate_left
                            ·simp only [Act.put, List.setIfInBounds_toArray, List.set_cons_zero, List.set_cons_succ, i64_w, i32_w]
                             rfl
                            refine pure_ (i := 6) (N := some 172) (v := ?_) (a' := ?_) #[true, true, true, true, true, false, true, false, false, false, false, false, false, false, false, false, false, false] rfl rfl (any_of HT_.out (by kernel_rfl)) (fun _ _ _ h => h) (Or.inl ⟨by rfl, ?_⟩) ?_ ?_
                            rotate_left
                            ·intro w'
                             go_simp
                             with_reducible rfl
                            rotate_left
                            ·simp only [Act.put, List.setIfInBounds_toArray, List.set_cons_zero, List.set_cons_succ, i64_w, i32_w]
                             rfl
                            refine pure_ (i := 7) (N := some 173) (v := ?_) (a' := ?_) #[true, true, true, true, true, false, true, true, false, false, false, false, false, false, false, false, false, false] rfl rfl (any_of HT_.out (by kernel_rfl)) (fun _ _ _ h => h) (Or.inl ⟨by rfl, ?_⟩) ?_ ?_
                            rotate_left
                            ·intro w'
                             go_simp
                             with_reducible rfl
                            rotate_left
                            ·simp only [Act.put, List.setIfInBounds_toArray, List.set_cons_zero, List.set_cons_succ, i64_w, i32_w]
                             rfl
                            refine pure_ (i := 8) (N := some 174) (v := ?_) (a' := ?_) #[true, true, true, true, true, false, true, true, true, false, false, false, false, false, false, false, false, false] rfl rfl (any_of HT_.out (by kernel_rfl)) (fun _ _ _ h => h) (Or.inl ⟨by rfl, ?_⟩) ?_ ?_
                            rotate_left
                            ·intro w'
                             go_simp
                             with_reducible rfl
                            rotate_left
                            ·simp only [Act.put, List.setIfInBounds_toArray, List.set_cons_zero, List.set_cons_succ, i64_w, i32_w]
                             rfl
                            refine pure_ (i := 9) (N := some 175) (v := ?_) (a' := ?_) #[true, true, true, true, true, false, true, true, true, true, false, false, false, false, false, false, false, false] rfl rfl (any_of HT_.out (by kernel_rfl)) (fun _ _ _ h => h) (Or.inl ⟨by rfl, ?_⟩) ?_ ?_
                            rotate_left
                            ·intro w'
                             go_simp
                             with_reducible rfl
                            rotate_left
                            ·simp only [Act.put, List.setIfInBounds_toArray, List.set_cons_zero, List.set_cons_succ, i64_w, i32_w]
                             rfl
                            refine pure_ (i := 10) (N := some 176) (v := ?_) (a' := ?_) #[true, true, true, true, true, false, true, true, true, true, true, false, false, false, false, false, false, false] rfl rfl (any_of HT_.out (by kernel_rfl)) (fun _ _ _ h => h) (Or.inl ⟨by rfl, ?_⟩) ?_ ?_
                            rotate_left
                            ·intro w'
                             go_simp
                             with_reducible rfl
                            rotate_left
                            ·simp only [Act.put, List.setIfInBounds_toArray, List.set_cons_zero, List.set_cons_succ, i64_w, i32_w]
                             rfl
                            refine take_ (i := 5) (N := some 171) (v := ?_) (a' := ?_) #[true, true, true, true, true, true, true, true, true, true, true, false, false, false, false, false, false, false] rfl rfl (take_ofW HT_.out HW_.out (by kernel_rfl)) (fun _ _ _ h => h) (Or.inl ⟨by rfl, ?_⟩) hHeld ?_ ?_
                            rotate_left
                            ·rintro w' ⟨s0, s1⟩
                             go_simp
                             with_reducible rfl
                            rotate_left
                            ·simp only [Act.put, List.setIfInBounds_toArray, List.set_cons_zero, List.set_cons_succ, i64_w, i32_w]
                             rfl
                            refine take_ (i := 11) (N := some 177) (v := ?_) (a' := ?_) #[true, true, true, true, true, true, true, true, true, true, true, true, false, false, false, false, false, false] rfl rfl (take_ofW HT_.out HW_.out (by kernel_rfl)) (fun _ _ _ h => h) (Or.inl ⟨by rfl, ?_⟩) hHeld ?_ ?_
                            rotate_left
                            ·rintro w' ⟨s0, s1⟩
                             go_simp
                             with_reducible rfl
                            rotate_left
                            ·simp only [Act.put, List.setIfInBounds_toArray, List.set_cons_zero, List.set_cons_succ, i64_w, i32_w]
                             rfl
                            refine one_ (i := 12) (N := some 178) #[true, true, true, true, true, true, true, true, true, true, true, true, true, false, false, false, false, false] rfl rfl (one_of HT_.out (by kernel_rfl)) (by decide) (fun K hK => ?_)
                            refine goes_ Try.func16 (by kernel_rfl) rfl #[.slice A597_0 (rd_L2 t564 (ji58)).length c597_0, .slice A598_0 (rd_L2 t564 (ji61)).length c598_0] (by rfl) rfl rfl (by (try simp only [List.map_toArray, List.map_cons, List.map_nil]); first | done | (simp only [hji58, hji61]; rfl) | rfl | (simp only [List.length_drop, List.length_take]; rfl)) ?_
                            with_reducible refine (spec_JoinTwo.calls k6 _ _ (rd_L2 t564 (ji58)) _ _ (rd_L2 t564 (ji61)) t599 t600 _ ?side1 ?side2 ?side3 ?side4 A64.out).mono ?_
                            (case side1 => repeat (first | exact (by repeat (first | (with_reducible exact HR597_0.out) | (with_reducible refine Kd.C_alloc ?_ _) | (with_reducible refine Kd.C_drewN ?_ _) | (with_reducible refine Kd.C_drew ?_) | exact HR597_0.out)) | (with_reducible refine Kd.C_alloc ?_ _) | (with_reducible refine Kd.C_drewN ?_ _) | (with_reducible refine Kd.C_drew ?_)))
                            (case side2 => exact HC597_0.out)
                            (case side3 => repeat (first | exact (by repeat (first | (with_reducible exact HR598_0.out) | (with_reducible refine Kd.C_alloc ?_ _) | (with_reducible refine Kd.C_drewN ?_ _) | (with_reducible refine Kd.C_drew ?_) | exact HR598_0.out)) | (with_reducible refine Kd.C_alloc ?_ _) | (with_reducible refine Kd.C_drewN ?_ _) | (with_reducible refine Kd.C_drew ?_)))
                            (case side4 => exact HC598_0.out)
                            rintro e w67 ⟨v601, rfl, ho0, hb⟩
                            have HS0_ := hs_ hb hHeld.1
                            have HS1_ := hs_ hb hHeld.2
                            refine ⟨_, rfl, ?_⟩
                            have n0_ := Aside0.mk (Kd.S_elder' (by (with_reducible repeat (first | apply Kd.S_alloc | apply Kd.S_drewN | apply Kd.S_drew)); exact HO_3.out) (Kd.R_base ho0) hb)
                            have n1_ := Aside0.mk (Kd.S_elder' (by (with_reducible repeat (first | apply Kd.S_alloc | apply Kd.S_drewN | apply Kd.S_drew)); exact HO_6.out) (Kd.R_base ho0) hb)
                            have n2_ := Aside0.mk (Kd.R_elder' (by (with_reducible repeat (first | apply Kd.R_alloc | apply Kd.R_drewN | apply Kd.R_drew)); exact HL597_0.out) (Kd.R_base ho0) hb)
                            have n3_ := Aside0.mk (Kd.R_elder' (by (with_reducible repeat (first | apply Kd.R_alloc | apply Kd.R_drewN | apply Kd.R_drew)); exact HL598_0.out) (Kd.R_base ho0) hb)
                            have n4_ := Aside0.mk (Kd.R_lower (Kd.R_new' (Kd.R_new' ho0 (Kd.R_lt (by (with_reducible repeat (first | apply Kd.R_alloc | apply Kd.R_drewN | apply Kd.R_drew)); exact HL597_0.out))) (Kd.R_lt (by (with_reducible repeat (first | apply Kd.R_alloc | apply Kd.R_drewN | apply Kd.R_drew)); exact HL598_0.out))) (below_size (bw_ HB.out)))
                            have n5_ := Aside0.mk (Kd.C_below (by repeat (first | (with_reducible exact HR596_0.out) | (with_reducible refine Kd.C_alloc ?_ _) | (with_reducible refine Kd.C_drewN ?_ _) | (with_reducible refine Kd.C_drew ?_) | exact HR596_0.out)) hb)
                            have n6_ := Aside0.mk (Kd.C_below (by repeat (first | (with_reducible exact HR597_0.out) | (with_reducible refine Kd.C_alloc ?_ _) | (with_reducible refine Kd.C_drewN ?_ _) | (with_reducible refine Kd.C_drew ?_) | exact HR597_0.out)) hb)
                            have n7_ := Aside0.mk (Kd.C_below (by repeat (first | (with_reducible exact HR598_0.out) | (with_reducible refine Kd.C_alloc ?_ _) | (with_reducible refine Kd.C_drewN ?_ _) | (with_reducible refine Kd.C_drew ?_) | exact HR598_0.out)) hb)
                            have n8_ := Aside0.mk (below_step (bw_ HB.out) hb)
                            clear HO_3 HO_6 HL597_0 HL598_0 HR596_0 HR597_0 HR598_0 HB
                            have HO_3 := n0_; have HO_6 := n1_; have HL597_0 := n2_; have HL598_0 := n3_; have HO602 := n4_; have HR596_0 := n5_; have HR597_0 := n6_; have HR598_0 := n7_; have HB := n8_
                            clear n0_ n1_ n2_ n3_ n4_ n5_ n6_ n7_ n8_
                            (try clear hb)
                            (try clear hb2)
                            (try clear hk)
                            (try clear hi)
                            (try clear ho0)
                            refine hK.out _ _ ⟨HS0_, HS1_⟩ (fun hHeld => ?_)
                            clear hK K
                            refine norm_ (a' := ?_) ?_ ?_
                            rotate_left
                            ·show Act.put _ (some 178) _ = _
                             simp only [Act.put, List.setIfInBounds_toArray, List.set_cons_zero, List.set_cons_succ, i64_w, i32_w]
                             rfl
                            refine pure_ (i := 13) (N := some 165) (v := ?_) (a' := ?_) #[true, true, true, true, true, true, true, true, true, true, true, true, true, true, false, false, false, false] rfl rfl (any_of HT_.out (by kernel_rfl)) (fun _ _ _ h => h) (Or.inl ⟨by rfl, ?_⟩) ?_ ?_
                            rotate_left
                            ·intro w'
                             go_simp
                             with_reducible rfl
                            rotate_left
                            ·simp only [Act.put, List.setIfInBounds_toArray, List.set_cons_zero, List.set_cons_succ, i64_w, i32_w]
                             rfl
                            refine pure_ (i := 14) (N := some 179) (v := ?_) (a' := ?_) #[true, true, true, true, true, true, true, true, true, true, true, true, true, true, true, false, false, false] rfl rfl (any_of HT_.out (by kernel_rfl)) (fun _ _ _ h => h) (Or.inl ⟨by rfl, ?_⟩) ?_ ?_
                            rotate_left
                            ·intro w'
                             go_simp
                             with_reducible rfl
                            rotate_left
                            ·simp only [Act.put, List.setIfInBounds_toArray, List.set_cons_zero, List.set_cons_succ, i64_w, i32_w]
                             rfl
                            refine pure_ (i := 15) (N := some 180) (v := ?_) (a' := ?_) #[true, true, true, true, true, true, true, true, true, true, true, true, true, true, true, true, false, false] rfl rfl (any_of HT_.out (by kernel_rfl)) (fun _ _ _ h => h) (Or.inl ⟨by rfl, ?_⟩) ?_ ?_
                            rotate_left
                            ·intro w'
                             go_simp
                             with_reducible rfl
                            rotate_left
                            ·simp only [Act.put, List.setIfInBounds_toArray, List.set_cons_zero, List.set_cons_succ, i64_w, i32_w]
                             rfl
                            refine pure_ (i := 16) (N := some 24) (v := ?_) (a' := ?_) #[true, true, true, true, true, true, true, true, true, true, true, true, true, true, true, true, true, false] rfl rfl (any_of HT_.out (by kernel_rfl)) (fun _ _ _ h => h) (Or.inl ⟨by rfl, ?_⟩) ?_ ?_
                            rotate_left
                            ·intro w'
                             go_simp
                             with_reducible rfl
                            rotate_left
                            ·simp only [Act.put, List.setIfInBounds_toArray, List.set_cons_zero, List.set_cons_succ, i64_w, i32_w]
                             rfl
                            refine pure_ (i := 17) (N := some 25) (v := ?_) (a' := ?_) #[true, true, true, true, true, true, true, true, true, true, true, true, true, true, true, true, true, true] rfl rfl (any_of HT_.out (by kernel_rfl)) (fun _ _ _ h => h) (Or.inl ⟨by rfl, ?_⟩) ?_ ?_
                            rotate_left
                            ·intro w'
                             go_simp
                             with_reducible rfl
                            rotate_left
                            ·simp only [Act.put, List.setIfInBounds_toArray, List.set_cons_zero, List.set_cons_succ, i64_w, i32_w]
                             rfl
                            refine done_ (done_of HT_.out (by kernel_rfl)) ?_
                            try go_wp2
                            try subst hji61
                            try subst hji58
                            go_roundg k6
                            case measure => have := HJ11.out; have := HK2.out; have := HJ45.out; have := HK4.out; have := HK5.out; have := HK6.out; omega
                            case rel => exact ⟨(wrap64 (x23_6 + 1)), (by first | rfl | (simp; done) | (simp [*]; done)), H', ⟨by have := HJ11.out; have := HK2.out; have := HJ45.out; have := HK4.out; have := HK5.out; have := HK6.out; omega⟩, ⟨by (with_reducible repeat (first | apply Kd.S_alloc | apply Kd.S_drewN | apply Kd.S_drew)); exact Kd.S_mono HO_3.out (fun _ hk => hk.1)⟩, ⟨by (with_reducible repeat (first | apply Kd.S_alloc | apply Kd.S_drewN | apply Kd.S_drew)); exact Kd.S_mono HO_6.out (fun _ hk => hk.1)⟩, ⟨by repeat (first | (with_reducible exact HR596_0.out) | (with_reducible refine Kd.C_alloc ?_ _) | (with_reducible refine Kd.C_drewN ?_ _) | (with_reducible refine Kd.C_drew ?_) | exact HR596_0.out)⟩, ⟨bw_ HB.out⟩⟩
                          ·rw [if_neg c63] at H
                           exact absurd H (by simp)
                         ·rw [if_neg c62] at H
                          exact absurd H (by simp)
                        ·rw [if_neg c60] at H
                         exact absurd H (by simp)
                       ·rw [if_neg c59] at H
                        exact absurd H (by simp)
                     ·rw [if_neg c56] at H
                      have c56b0 : decide (x23_6 < (t564.length : Int)) = false := decide_eq_false c56
                      clear c56
                      have H' := Aside0.mk H
                      clear H
                      go_wp2
                      go_roundg k6
                      case measure => have := HJ11.out; have := HK2.out; have := HJ45.out; have := HK4.out; have := HK5.out; have := HK6.out; omega
                      case rel => exact ⟨((wrap64 (x21_5 + ((rd_L2 t564 x22_5).length : Int)))), (wrap64 (x22_5 + 1)), (by first | rfl | (simp; done) | (simp [*]; done)), (by first | rfl | (simp; done) | (simp [*]; done)), H', ⟨by have := HJ11.out; have := HK2.out; have := HJ45.out; have := HK4.out; have := HK5.out; have := HK6.out; omega⟩, ⟨by (with_reducible repeat (first | apply Kd.S_alloc | apply Kd.S_drewN | apply Kd.S_drew)); exact HO_3.out⟩, ⟨by (with_reducible repeat (first | apply Kd.S_alloc | apply Kd.S_drewN | apply Kd.S_drew)); exact HO_6.out⟩, ⟨bw_ HB.out⟩⟩
                  ·rw [if_neg c55] at H
                   exact absurd H (by simp)
                 ·rw [if_neg c54] at H
                  have c54b0 : decide (x22_5 < (t564.length : Int)) = false := decide_eq_false c54
                  clear c54
                  obtain rfl := Option.some.inj H
                  go_wp2
                  go_ret
                  exact ⟨by first | rfl | (simp [errW_none, errW_some] <;> rfl) | (simp [*, errW_none, errW_some] <;> rfl), by repeat (first | (with_reducible first | exact HB.out | apply below_alloc | apply pw_below_drewN | apply below_drew1) | exact HB.out)⟩
           ·rw [if_neg c51] at H
            have c51b0 : (t561 == 0) = false := beq_eq_false_iff_ne.mpr c51
            have c51b1 : (t561 != 0) = true := bne_iff_ne.mpr c51
            obtain rfl := Option.some.inj H
            go_wp2
            go_ret
            exact ⟨by first | rfl | (simp [errW_none, errW_some] <;> rfl) | (simp [*, errW_none, errW_some] <;> rfl), by repeat (first | (with_reducible first | exact HB.out | apply below_alloc | apply pw_below_drewN | apply below_drew1) | exact HB.out)⟩

/-- THE ONE PURE STATEMENT of laws_FnJoined. -/
def laws_FnJoined.Pure : Prop := ∀ (l0 : List Int), wfS (wfI .u8) l0 → l0.length * 1 ≤ 140737488351232 → ∃ k, laws_FnJoined.f k l0 = some true

end Go.Proofs.Ytmedijjjhabpbaa.Print
