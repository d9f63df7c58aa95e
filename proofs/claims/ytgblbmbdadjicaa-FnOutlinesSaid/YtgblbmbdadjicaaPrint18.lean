-- Printed by a program of this session out of the translation; not trusted: Lean checks it.
-- SHRUNK
import Derived.Test.YtgblbmbdadjicaaPrint0
import Derived.Test.YtgblbmbdadjicaaPrint2
import Derived.Test.YtgblbmbdadjicaaPrint4
import Derived.Test.YtgblbmbdadjicaaPrint6
import Derived.Test.YtgblbmbdadjicaaPrint7
import Derived.Test.YtgblbmbdadjicaaPrint8
import Derived.Test.YtgblbmbdadjicaaPrint9
import Derived.Test.YtgblbmbdadjicaaPrint10
import Derived.Test.YtgblbmbdadjicaaPrint11
import Derived.Test.YtgblbmbdadjicaaPrint12
import Derived.Test.YtgblbmbdadjicaaPrint13
import Derived.Test.YtgblbmbdadjicaaPrint15
import Derived.Test.YtgblbmbdadjicaaPrint16
import Derived.Test.YtgblbmbdadjicaaPrint17
namespace Go.Proofs.Ytgblbmbdadjicaa.Print
open Go.RowKit Go.Proofs.YtgblbmbdadjicaaW.PrintWords Go.Proofs.YtgblbmbdadjicaaW.PrintLast Go.Proofs.YtgblbmbdadjicaaW.PrintMore
attribute [local go_sem] max2_int min2_int max_two min_two max_three min_three max_four min_four   -- for this text's walks alone
set_option linter.unusedVariables false
set_option linter.unusedSimpArgs false

/-! ### laws_FnOutlines: function 12 -/
mutual
def laws_FnOutlines.j0 : Nat → Int → Int → List (S44) → List (S44) → List (S44) → Int → List (List (S44)) → Int → Int → Int → Bool → Bool → Option (Bool)
 | 0, _, _, _, _, _, _, _, _, _, _, _, _ => none
 | k + 1, x5, x6, x8, x12, x15, x16, x25, x27, x28, x31, x32, x187 => if x187 = true then (none) else (if x31 = 0 then (laws_FnOutlines.j1 k x5 x6 x8 x12 x15 x16 x25 x27 x28 (x32 != (x5 == 0))) else (laws_FnOutlines.j1 k x5 x6 x8 x12 x15 x16 x25 x27 x28 false))
def laws_FnOutlines.j1 : Nat → Int → Int → List (S44) → List (S44) → List (S44) → Int → List (List (S44)) → Int → Int → Bool → Option (Bool)
 | 0, _, _, _, _, _, _, _, _, _, _ => none
 | k + 1, x5, x6, x8, x12, x15, x16, x25, x27, x28, x195 => if x195 = true then (none) else (if x16 = 0 then ((spec_TwiceArea.f k x12).bind fun bt540 => ((impl_TwiceArea.f k x15).bind fun bt542 => (if bt540.2 = bt542.2 then (if bt540.1 = bt542.1 then (laws_FnOutlines.j2 k x5 x6 x8 x25 x27 x28) else (none)) else (none)))) else (laws_FnOutlines.j2 k x5 x6 x8 x25 x27 x28))
def laws_FnOutlines.j2 : Nat → Int → Int → List (S44) → List (List (S44)) → Int → Int → Option (Bool)
 | 0, _, _, _, _, _, _ => none
 | k + 1, x5, x6, x8, x25, x27, x28 => if x27 = 0 then (if 0 ≤ x28 then (if x28 < (x25.length : Int) then ((spec_TwiceArea.f k (rd_L3 x25 x28)).bind fun bt545 => (laws_FnOutlines.l0 k x5 x6 x8 x25 bt545.1 bt545.2 0)) else (none)) else (none)) else (laws_FnOutlines.j4 k x5 x6 x8)
def laws_FnOutlines.j4 : Nat → Int → Int → List (S44) → Option (Bool)
 | 0, _, _, _ => none
 | k + 1, x5, x6, x8 => if x5 = 0 then ((impl_TwiceArea.f k x8).bind fun bt552 => (if bt552.2 = 0 then ((laws_f6abs.f x6).bind fun t554 => (some (bt552.1 == t554))) else (none))) else (some true)
def laws_FnOutlines.l0 : Nat → Int → Int → List (S44) → List (List (S44)) → Int → Int → Int → Option (Bool)
 | 0, _, _, _, _, _, _, _ => none
 | k + 1, x5, x6, x8, x25, x38, x39, x40 => if x40 < (x25.length : Int) then (if 0 ≤ x40 then ((impl_TwiceArea.f k (rd_L3 x25 x40)).bind fun bt548 => (if x39 = 0 then (if bt548.2 = 0 then ((laws_f6abs.f bt548.1).bind fun t550 => ((laws_f6abs.f x38).bind fun t551 => (if t550 > t551 then (none) else (laws_FnOutlines.l0 k x5 x6 x8 x25 x38 x39 (wrap64 (x40 + 1)))))) else (laws_FnOutlines.l0 k x5 x6 x8 x25 x38 x39 (wrap64 (x40 + 1)))) else (none))) else (none)) else (laws_FnOutlines.j4 k x5 x6 x8)
end
def laws_FnOutlines.f (k : Nat) (l0 : List Int) : Option (Bool) := (laws_f6big.f l0).bind fun t488 => (if t488 = true then (some true) else ((spec_DrawTwiceArea.f k l0).bind fun t489 => ((impl_TwiceArea.f k t489).bind fun bt492 => ((spec_TwiceArea.f k t489).bind fun bt494 => ((impl_LeftTurned.f k t489).bind fun bt496 => ((spec_LeftTurned.f k t489).bind fun bt500 => ((spec_DrawMoveChain.f k l0).bind fun bt504 => ((impl_MoveChain.f k bt504.1 bt504.2.1 bt504.2.2).bind fun bt509 => ((spec_MoveChain.f k bt504.1 bt504.2.1 bt504.2.2).bind fun bt513 => ((spec_DrawInsideOf.f k l0).bind fun bt517 => ((impl_InsideOf.f k bt517.1 bt517.2.1 bt517.2.2).bind fun bt523 => ((spec_InsideOf.f k bt517.1 bt517.2.1 bt517.2.2).bind fun bt525 => ((spec_DrawGreatestOutline.f k l0).bind fun t527 => ((impl_GreatestOutline.f k t527).bind fun bt530 => ((spec_GreatestOutline.f k t527).bind fun bt532 => ((impl_IsClosed.f k t489).bind fun bt534 => ((spec_IsClosed.f k t489).bind fun bt536 => (if bt492.2 = bt494.2 then (if bt492.1 = bt494.1 then (if bt496.2 = bt500.2 then ((spec_SameChain.f k bt496.1 bt500.1).bind fun t538 => (if t538 = true then (if bt509.2 = bt513.2 then ((spec_SameChain.f k bt509.1 bt513.1).bind fun t539 => (if t539 = true then (if bt523.2 = bt525.2 then (if (bt523.1 != bt525.1) = true then (none) else (if bt530.2 = bt532.2 then (if bt530.1 = bt532.1 then (if bt534.2 = bt536.2 then (laws_FnOutlines.j0 k bt492.2 bt494.1 bt496.1 bt504.1 bt509.1 bt509.2 t527 bt530.2 bt532.1 bt534.2 bt536.1 (bt534.1 != bt536.1)) else (none)) else (none)) else (none))) else (none)) else (none))) else (none)) else (none))) else (none)) else (none)) else (none)))))))))))))))))))
theorem laws_FnOutlines.mono_l : ∀ k, (∀ y0 y1 y2 y3 y4 y5 y6 y7 y8 y9 y10 y11, LeO (laws_FnOutlines.j0 k y0 y1 y2 y3 y4 y5 y6 y7 y8 y9 y10 y11) (laws_FnOutlines.j0 (k + 1) y0 y1 y2 y3 y4 y5 y6 y7 y8 y9 y10 y11)) ∧ (∀ y0 y1 y2 y3 y4 y5 y6 y7 y8 y9, LeO (laws_FnOutlines.j1 k y0 y1 y2 y3 y4 y5 y6 y7 y8 y9) (laws_FnOutlines.j1 (k + 1) y0 y1 y2 y3 y4 y5 y6 y7 y8 y9)) ∧ (∀ y0 y1 y2 y3 y4 y5, LeO (laws_FnOutlines.j2 k y0 y1 y2 y3 y4 y5) (laws_FnOutlines.j2 (k + 1) y0 y1 y2 y3 y4 y5)) ∧ (∀ y0 y1 y2, LeO (laws_FnOutlines.j4 k y0 y1 y2) (laws_FnOutlines.j4 (k + 1) y0 y1 y2)) ∧ (∀ y0 y1 y2 y3 y4 y5 y6, LeO (laws_FnOutlines.l0 k y0 y1 y2 y3 y4 y5 y6) (laws_FnOutlines.l0 (k + 1) y0 y1 y2 y3 y4 y5 y6))
 | 0 => ⟨fun _ _ _ _ _ _ _ _ _ _ _ _ r h => by simp [laws_FnOutlines.j0] at h, fun _ _ _ _ _ _ _ _ _ _ r h => by simp [laws_FnOutlines.j1] at h, fun _ _ _ _ _ _ r h => by simp [laws_FnOutlines.j2] at h, fun _ _ _ r h => by simp [laws_FnOutlines.j4] at h, fun _ _ _ _ _ _ _ r h => by simp [laws_FnOutlines.l0] at h⟩
 | k + 1 => by
  obtain ⟨ih0, ih1, ih2, ih3, ih4⟩ := laws_FnOutlines.mono_l k
  refine ⟨?_, ?_, ?_, ?_, ?_⟩
  ·intro y0 y1 y2 y3 y4 y5 y6 y7 y8 y9 y10 y11
   unfold laws_FnOutlines.j0
   repeat' first
   | (with_reducible exact ih0 _ _ _ _ _ _ _ _ _ _ _ _)
   | (with_reducible exact ih1 _ _ _ _ _ _ _ _ _ _)
   | (with_reducible exact ih2 _ _ _ _ _ _)
   | (with_reducible exact ih3 _ _ _)
   | (with_reducible exact ih4 _ _ _ _ _ _ _)
   | (with_reducible exact impl_GreatestOutline.mono _ _)
   | (with_reducible exact impl_InsideOf.mono _ _ _ _)
   | (with_reducible exact impl_IsClosed.mono _ _)
   | (with_reducible exact impl_LeftTurned.mono _ _)
   | (with_reducible exact impl_MoveChain.mono _ _ _ _)
   | (with_reducible exact impl_TwiceArea.mono _ _)
   | (with_reducible exact spec_DrawGreatestOutline.mono _ _)
   | (with_reducible exact spec_DrawInsideOf.mono _ _)
   | (with_reducible exact spec_DrawMoveChain.mono _ _)
   | (with_reducible exact spec_DrawTwiceArea.mono _ _)
   | (with_reducible exact spec_GreatestOutline.mono _ _)
   | (with_reducible exact spec_InsideOf.mono _ _ _ _)
   | (with_reducible exact spec_IsClosed.mono _ _)
   | (with_reducible exact spec_LeftTurned.mono _ _)
   | (with_reducible exact spec_MoveChain.mono _ _ _ _)
   | (with_reducible exact spec_SameChain.mono _ _ _)
   | (with_reducible exact spec_TwiceArea.mono _ _)
   | (with_reducible exact LeO.refl _)
   | (with_reducible exact LeO.none _)
   | (with_reducible refine LeO.ite ?_ ?_)
   | (with_reducible refine LeO.bind ?_ (fun _ => ?_))
   | exact ih0 _ _ _ _ _ _ _ _ _ _ _ _
   | exact ih1 _ _ _ _ _ _ _ _ _ _
   | exact ih2 _ _ _ _ _ _
   | exact ih3 _ _ _
   | exact ih4 _ _ _ _ _ _ _
   | exact impl_GreatestOutline.mono _ _
   | exact impl_InsideOf.mono _ _ _ _
   | exact impl_IsClosed.mono _ _
   | exact impl_LeftTurned.mono _ _
   | exact impl_MoveChain.mono _ _ _ _
   | exact impl_TwiceArea.mono _ _
   | exact spec_DrawGreatestOutline.mono _ _
   | exact spec_DrawInsideOf.mono _ _
   | exact spec_DrawMoveChain.mono _ _
   | exact spec_DrawTwiceArea.mono _ _
   | exact spec_GreatestOutline.mono _ _
   | exact spec_InsideOf.mono _ _ _ _
   | exact spec_IsClosed.mono _ _
   | exact spec_LeftTurned.mono _ _
   | exact spec_MoveChain.mono _ _ _ _
   | exact spec_SameChain.mono _ _ _
   | exact spec_TwiceArea.mono _ _
   | exact LeO.none _
   | refine LeO.ite ?_ ?_
   | refine LeO.bind ?_ (fun _ => ?_)
  ·intro y0 y1 y2 y3 y4 y5 y6 y7 y8 y9
   unfold laws_FnOutlines.j1
   repeat' first
   | (with_reducible exact ih0 _ _ _ _ _ _ _ _ _ _ _ _)
   | (with_reducible exact ih1 _ _ _ _ _ _ _ _ _ _)
   | (with_reducible exact ih2 _ _ _ _ _ _)
   | (with_reducible exact ih3 _ _ _)
   | (with_reducible exact ih4 _ _ _ _ _ _ _)
   | (with_reducible exact impl_GreatestOutline.mono _ _)
   | (with_reducible exact impl_InsideOf.mono _ _ _ _)
   | (with_reducible exact impl_IsClosed.mono _ _)
   | (with_reducible exact impl_LeftTurned.mono _ _)
   | (with_reducible exact impl_MoveChain.mono _ _ _ _)
   | (with_reducible exact impl_TwiceArea.mono _ _)
   | (with_reducible exact spec_DrawGreatestOutline.mono _ _)
   | (with_reducible exact spec_DrawInsideOf.mono _ _)
   | (with_reducible exact spec_DrawMoveChain.mono _ _)
   | (with_reducible exact spec_DrawTwiceArea.mono _ _)
   | (with_reducible exact spec_GreatestOutline.mono _ _)
   | (with_reducible exact spec_InsideOf.mono _ _ _ _)
   | (with_reducible exact spec_IsClosed.mono _ _)
   | (with_reducible exact spec_LeftTurned.mono _ _)
   | (with_reducible exact spec_MoveChain.mono _ _ _ _)
   | (with_reducible exact spec_SameChain.mono _ _ _)
   | (with_reducible exact spec_TwiceArea.mono _ _)
   | (with_reducible exact LeO.refl _)
   | (with_reducible exact LeO.none _)
   | (with_reducible refine LeO.ite ?_ ?_)
   | (with_reducible refine LeO.bind ?_ (fun _ => ?_))
   | exact ih0 _ _ _ _ _ _ _ _ _ _ _ _
   | exact ih1 _ _ _ _ _ _ _ _ _ _
   | exact ih2 _ _ _ _ _ _
   | exact ih3 _ _ _
   | exact ih4 _ _ _ _ _ _ _
   | exact impl_GreatestOutline.mono _ _
   | exact impl_InsideOf.mono _ _ _ _
   | exact impl_IsClosed.mono _ _
   | exact impl_LeftTurned.mono _ _
   | exact impl_MoveChain.mono _ _ _ _
   | exact impl_TwiceArea.mono _ _
   | exact spec_DrawGreatestOutline.mono _ _
   | exact spec_DrawInsideOf.mono _ _
   | exact spec_DrawMoveChain.mono _ _
   | exact spec_DrawTwiceArea.mono _ _
   | exact spec_GreatestOutline.mono _ _
   | exact spec_InsideOf.mono _ _ _ _
   | exact spec_IsClosed.mono _ _
   | exact spec_LeftTurned.mono _ _
   | exact spec_MoveChain.mono _ _ _ _
   | exact spec_SameChain.mono _ _ _
   | exact spec_TwiceArea.mono _ _
   | exact LeO.none _
   | refine LeO.ite ?_ ?_
   | refine LeO.bind ?_ (fun _ => ?_)
  ·intro y0 y1 y2 y3 y4 y5
   unfold laws_FnOutlines.j2
   repeat' first
   | (with_reducible exact ih0 _ _ _ _ _ _ _ _ _ _ _ _)
   | (with_reducible exact ih1 _ _ _ _ _ _ _ _ _ _)
   | (with_reducible exact ih2 _ _ _ _ _ _)
   | (with_reducible exact ih3 _ _ _)
   | (with_reducible exact ih4 _ _ _ _ _ _ _)
   | (with_reducible exact impl_GreatestOutline.mono _ _)
   | (with_reducible exact impl_InsideOf.mono _ _ _ _)
   | (with_reducible exact impl_IsClosed.mono _ _)
   | (with_reducible exact impl_LeftTurned.mono _ _)
   | (with_reducible exact impl_MoveChain.mono _ _ _ _)
   | (with_reducible exact impl_TwiceArea.mono _ _)
   | (with_reducible exact spec_DrawGreatestOutline.mono _ _)
   | (with_reducible exact spec_DrawInsideOf.mono _ _)
   | (with_reducible exact spec_DrawMoveChain.mono _ _)
   | (with_reducible exact spec_DrawTwiceArea.mono _ _)
   | (with_reducible exact spec_GreatestOutline.mono _ _)
   | (with_reducible exact spec_InsideOf.mono _ _ _ _)
   | (with_reducible exact spec_IsClosed.mono _ _)
   | (with_reducible exact spec_LeftTurned.mono _ _)
   | (with_reducible exact spec_MoveChain.mono _ _ _ _)
   | (with_reducible exact spec_SameChain.mono _ _ _)
   | (with_reducible exact spec_TwiceArea.mono _ _)
   | (with_reducible exact LeO.refl _)
   | (with_reducible exact LeO.none _)
   | (with_reducible refine LeO.ite ?_ ?_)
   | (with_reducible refine LeO.bind ?_ (fun _ => ?_))
   | exact ih0 _ _ _ _ _ _ _ _ _ _ _ _
   | exact ih1 _ _ _ _ _ _ _ _ _ _
   | exact ih2 _ _ _ _ _ _
   | exact ih3 _ _ _
   | exact ih4 _ _ _ _ _ _ _
   | exact impl_GreatestOutline.mono _ _
   | exact impl_InsideOf.mono _ _ _ _
   | exact impl_IsClosed.mono _ _
   | exact impl_LeftTurned.mono _ _
   | exact impl_MoveChain.mono _ _ _ _
   | exact impl_TwiceArea.mono _ _
   | exact spec_DrawGreatestOutline.mono _ _
   | exact spec_DrawInsideOf.mono _ _
   | exact spec_DrawMoveChain.mono _ _
   | exact spec_DrawTwiceArea.mono _ _
   | exact spec_GreatestOutline.mono _ _
   | exact spec_InsideOf.mono _ _ _ _
   | exact spec_IsClosed.mono _ _
   | exact spec_LeftTurned.mono _ _
   | exact spec_MoveChain.mono _ _ _ _
   | exact spec_SameChain.mono _ _ _
   | exact spec_TwiceArea.mono _ _
   | exact LeO.none _
   | refine LeO.ite ?_ ?_
   | refine LeO.bind ?_ (fun _ => ?_)
  ·intro y0 y1 y2
   unfold laws_FnOutlines.j4
   repeat' first
   | (with_reducible exact ih0 _ _ _ _ _ _ _ _ _ _ _ _)
   | (with_reducible exact ih1 _ _ _ _ _ _ _ _ _ _)
   | (with_reducible exact ih2 _ _ _ _ _ _)
   | (with_reducible exact ih3 _ _ _)
   | (with_reducible exact ih4 _ _ _ _ _ _ _)
   | (with_reducible exact impl_GreatestOutline.mono _ _)
   | (with_reducible exact impl_InsideOf.mono _ _ _ _)
   | (with_reducible exact impl_IsClosed.mono _ _)
   | (with_reducible exact impl_LeftTurned.mono _ _)
   | (with_reducible exact impl_MoveChain.mono _ _ _ _)
   | (with_reducible exact impl_TwiceArea.mono _ _)
   | (with_reducible exact spec_DrawGreatestOutline.mono _ _)
   | (with_reducible exact spec_DrawInsideOf.mono _ _)
   | (with_reducible exact spec_DrawMoveChain.mono _ _)
   | (with_reducible exact spec_DrawTwiceArea.mono _ _)
   | (with_reducible exact spec_GreatestOutline.mono _ _)
   | (with_reducible exact spec_InsideOf.mono _ _ _ _)
   | (with_reducible exact spec_IsClosed.mono _ _)
   | (with_reducible exact spec_LeftTurned.mono _ _)
   | (with_reducible exact spec_MoveChain.mono _ _ _ _)
   | (with_reducible exact spec_SameChain.mono _ _ _)
   | (with_reducible exact spec_TwiceArea.mono _ _)
   | (with_reducible exact LeO.refl _)
   | (with_reducible exact LeO.none _)
   | (with_reducible refine LeO.ite ?_ ?_)
   | (with_reducible refine LeO.bind ?_ (fun _ => ?_))
   | exact ih0 _ _ _ _ _ _ _ _ _ _ _ _
   | exact ih1 _ _ _ _ _ _ _ _ _ _
   | exact ih2 _ _ _ _ _ _
   | exact ih3 _ _ _
   | exact ih4 _ _ _ _ _ _ _
   | exact impl_GreatestOutline.mono _ _
   | exact impl_InsideOf.mono _ _ _ _
   | exact impl_IsClosed.mono _ _
   | exact impl_LeftTurned.mono _ _
   | exact impl_MoveChain.mono _ _ _ _
   | exact impl_TwiceArea.mono _ _
   | exact spec_DrawGreatestOutline.mono _ _
   | exact spec_DrawInsideOf.mono _ _
   | exact spec_DrawMoveChain.mono _ _
   | exact spec_DrawTwiceArea.mono _ _
   | exact spec_GreatestOutline.mono _ _
   | exact spec_InsideOf.mono _ _ _ _
   | exact spec_IsClosed.mono _ _
   | exact spec_LeftTurned.mono _ _
   | exact spec_MoveChain.mono _ _ _ _
   | exact spec_SameChain.mono _ _ _
   | exact spec_TwiceArea.mono _ _
   | exact LeO.none _
   | refine LeO.ite ?_ ?_
   | refine LeO.bind ?_ (fun _ => ?_)
  ·intro y0 y1 y2 y3 y4 y5 y6
   unfold laws_FnOutlines.l0
   repeat' first
   | (with_reducible exact ih0 _ _ _ _ _ _ _ _ _ _ _ _)
   | (with_reducible exact ih1 _ _ _ _ _ _ _ _ _ _)
   | (with_reducible exact ih2 _ _ _ _ _ _)
   | (with_reducible exact ih3 _ _ _)
   | (with_reducible exact ih4 _ _ _ _ _ _ _)
   | (with_reducible exact impl_GreatestOutline.mono _ _)
   | (with_reducible exact impl_InsideOf.mono _ _ _ _)
   | (with_reducible exact impl_IsClosed.mono _ _)
   | (with_reducible exact impl_LeftTurned.mono _ _)
   | (with_reducible exact impl_MoveChain.mono _ _ _ _)
   | (with_reducible exact impl_TwiceArea.mono _ _)
   | (with_reducible exact spec_DrawGreatestOutline.mono _ _)
   | (with_reducible exact spec_DrawInsideOf.mono _ _)
   | (with_reducible exact spec_DrawMoveChain.mono _ _)
   | (with_reducible exact spec_DrawTwiceArea.mono _ _)
   | (with_reducible exact spec_GreatestOutline.mono _ _)
   | (with_reducible exact spec_InsideOf.mono _ _ _ _)
   | (with_reducible exact spec_IsClosed.mono _ _)
   | (with_reducible exact spec_LeftTurned.mono _ _)
   | (with_reducible exact spec_MoveChain.mono _ _ _ _)
   | (with_reducible exact spec_SameChain.mono _ _ _)
   | (with_reducible exact spec_TwiceArea.mono _ _)
   | (with_reducible exact LeO.refl _)
   | (with_reducible exact LeO.none _)
   | (with_reducible refine LeO.ite ?_ ?_)
   | (with_reducible refine LeO.bind ?_ (fun _ => ?_))
   | exact ih0 _ _ _ _ _ _ _ _ _ _ _ _
   | exact ih1 _ _ _ _ _ _ _ _ _ _
   | exact ih2 _ _ _ _ _ _
   | exact ih3 _ _ _
   | exact ih4 _ _ _ _ _ _ _
   | exact impl_GreatestOutline.mono _ _
   | exact impl_InsideOf.mono _ _ _ _
   | exact impl_IsClosed.mono _ _
   | exact impl_LeftTurned.mono _ _
   | exact impl_MoveChain.mono _ _ _ _
   | exact impl_TwiceArea.mono _ _
   | exact spec_DrawGreatestOutline.mono _ _
   | exact spec_DrawInsideOf.mono _ _
   | exact spec_DrawMoveChain.mono _ _
   | exact spec_DrawTwiceArea.mono _ _
   | exact spec_GreatestOutline.mono _ _
   | exact spec_InsideOf.mono _ _ _ _
   | exact spec_IsClosed.mono _ _
   | exact spec_LeftTurned.mono _ _
   | exact spec_MoveChain.mono _ _ _ _
   | exact spec_SameChain.mono _ _ _
   | exact spec_TwiceArea.mono _ _
   | exact LeO.none _
   | refine LeO.ite ?_ ?_
   | refine LeO.bind ?_ (fun _ => ?_)
theorem laws_FnOutlines.mono : ∀ a0 k, LeO (laws_FnOutlines.f k a0) (laws_FnOutlines.f (k + 1) a0) := by
 intro a0 k
 obtain ⟨ih0, ih1, ih2, ih3, ih4⟩ := laws_FnOutlines.mono_l k
 unfold laws_FnOutlines.f
 repeat' first
   | (with_reducible exact ih0 _ _ _ _ _ _ _ _ _ _ _ _)
   | (with_reducible exact ih1 _ _ _ _ _ _ _ _ _ _)
   | (with_reducible exact ih2 _ _ _ _ _ _)
   | (with_reducible exact ih3 _ _ _)
   | (with_reducible exact ih4 _ _ _ _ _ _ _)
   | (with_reducible exact impl_GreatestOutline.mono _ _)
   | (with_reducible exact impl_InsideOf.mono _ _ _ _)
   | (with_reducible exact impl_IsClosed.mono _ _)
   | (with_reducible exact impl_LeftTurned.mono _ _)
   | (with_reducible exact impl_MoveChain.mono _ _ _ _)
   | (with_reducible exact impl_TwiceArea.mono _ _)
   | (with_reducible exact spec_DrawGreatestOutline.mono _ _)
   | (with_reducible exact spec_DrawInsideOf.mono _ _)
   | (with_reducible exact spec_DrawMoveChain.mono _ _)
   | (with_reducible exact spec_DrawTwiceArea.mono _ _)
   | (with_reducible exact spec_GreatestOutline.mono _ _)
   | (with_reducible exact spec_InsideOf.mono _ _ _ _)
   | (with_reducible exact spec_IsClosed.mono _ _)
   | (with_reducible exact spec_LeftTurned.mono _ _)
   | (with_reducible exact spec_MoveChain.mono _ _ _ _)
   | (with_reducible exact spec_SameChain.mono _ _ _)
   | (with_reducible exact spec_TwiceArea.mono _ _)
   | (with_reducible exact LeO.refl _)
   | (with_reducible exact LeO.none _)
   | (with_reducible refine LeO.ite ?_ ?_)
   | (with_reducible refine LeO.bind ?_ (fun _ => ?_))
   | exact ih0 _ _ _ _ _ _ _ _ _ _ _ _
   | exact ih1 _ _ _ _ _ _ _ _ _ _
   | exact ih2 _ _ _ _ _ _
   | exact ih3 _ _ _
   | exact ih4 _ _ _ _ _ _ _
   | exact impl_GreatestOutline.mono _ _
   | exact impl_InsideOf.mono _ _ _ _
   | exact impl_IsClosed.mono _ _
   | exact impl_LeftTurned.mono _ _
   | exact impl_MoveChain.mono _ _ _ _
   | exact impl_TwiceArea.mono _ _
   | exact spec_DrawGreatestOutline.mono _ _
   | exact spec_DrawInsideOf.mono _ _
   | exact spec_DrawMoveChain.mono _ _
   | exact spec_DrawTwiceArea.mono _ _
   | exact spec_GreatestOutline.mono _ _
   | exact spec_InsideOf.mono _ _ _ _
   | exact spec_IsClosed.mono _ _
   | exact spec_LeftTurned.mono _ _
   | exact spec_MoveChain.mono _ _ _ _
   | exact spec_SameChain.mono _ _ _
   | exact spec_TwiceArea.mono _ _
   | exact LeO.none _
   | refine LeO.ite ?_ ?_
   | refine LeO.bind ?_ (fun _ => ?_)
set_option maxHeartbeats 8000000 in
set_option maxRecDepth 100000 in
theorem laws_FnOutlines.calls (k : Nat) (A0 : Option Addr) (c0 : Nat) (l0 : List Int) (r : Bool) (w : World) (hr0 : Kd.C (Kd.int .u8) w A0 l0.length l0) (hc0 : l0.length ≤ c0) (h : laws_FnOutlines.f k l0 = some r) :
  Calls Try.prog 12 #[.slice A0 l0.length c0] w fun e w' => e = .returned (.bool r) ∧ Below w.heap.size w w' := by
 have hu44 := Try.underlying44
 have HR0 := Aside0.mk hr0
 have HC0 := Aside0.mk hc0
 clear hr0 hc0
 have HB := Aside0.mk (Below.refl w.heap.size w)
 have H : ((laws_f6big.f l0).bind fun t488 => (if t488 = true then (some true) else ((spec_DrawTwiceArea.f k l0).bind fun t489 => ((impl_TwiceArea.f k t489).bind fun bt492 => ((spec_TwiceArea.f k t489).bind fun bt494 => ((impl_LeftTurned.f k t489).bind fun bt496 => ((spec_LeftTurned.f k t489).bind fun bt500 => ((spec_DrawMoveChain.f k l0).bind fun bt504 => ((impl_MoveChain.f k bt504.1 bt504.2.1 bt504.2.2).bind fun bt509 => ((spec_MoveChain.f k bt504.1 bt504.2.1 bt504.2.2).bind fun bt513 => ((spec_DrawInsideOf.f k l0).bind fun bt517 => ((impl_InsideOf.f k bt517.1 bt517.2.1 bt517.2.2).bind fun bt523 => ((spec_InsideOf.f k bt517.1 bt517.2.1 bt517.2.2).bind fun bt525 => ((spec_DrawGreatestOutline.f k l0).bind fun t527 => ((impl_GreatestOutline.f k t527).bind fun bt530 => ((spec_GreatestOutline.f k t527).bind fun bt532 => ((impl_IsClosed.f k t489).bind fun bt534 => ((spec_IsClosed.f k t489).bind fun bt536 => (if bt492.2 = bt494.2 then (if bt492.1 = bt494.1 then (if bt496.2 = bt500.2 then ((spec_SameChain.f k bt496.1 bt500.1).bind fun t538 => (if t538 = true then (if bt509.2 = bt513.2 then ((spec_SameChain.f k bt509.1 bt513.1).bind fun t539 => (if t539 = true then (if bt523.2 = bt525.2 then (if (bt523.1 != bt525.1) = true then (none) else (if bt530.2 = bt532.2 then (if bt530.1 = bt532.1 then (if bt534.2 = bt536.2 then (laws_FnOutlines.j0 k bt492.2 bt494.1 bt496.1 bt504.1 bt509.1 bt509.2 t527 bt530.2 bt532.1 bt534.2 bt536.1 (bt534.1 != bt536.1)) else (none)) else (none)) else (none))) else (none)) else (none))) else (none)) else (none))) else (none)) else (none)) else (none)))))))))))))))))))) = some r := h
 clear h
 replace H := Option.bind_eq_some_iff.mp H
 obtain ⟨t488, A20, H⟩ := H
 replace H : (if t488 = true then (some true) else ((spec_DrawTwiceArea.f k l0).bind fun t489 => ((impl_TwiceArea.f k t489).bind fun bt492 => ((spec_TwiceArea.f k t489).bind fun bt494 => ((impl_LeftTurned.f k t489).bind fun bt496 => ((spec_LeftTurned.f k t489).bind fun bt500 => ((spec_DrawMoveChain.f k l0).bind fun bt504 => ((impl_MoveChain.f k bt504.1 bt504.2.1 bt504.2.2).bind fun bt509 => ((spec_MoveChain.f k bt504.1 bt504.2.1 bt504.2.2).bind fun bt513 => ((spec_DrawInsideOf.f k l0).bind fun bt517 => ((impl_InsideOf.f k bt517.1 bt517.2.1 bt517.2.2).bind fun bt523 => ((spec_InsideOf.f k bt517.1 bt517.2.1 bt517.2.2).bind fun bt525 => ((spec_DrawGreatestOutline.f k l0).bind fun t527 => ((impl_GreatestOutline.f k t527).bind fun bt530 => ((spec_GreatestOutline.f k t527).bind fun bt532 => ((impl_IsClosed.f k t489).bind fun bt534 => ((spec_IsClosed.f k t489).bind fun bt536 => (if bt492.2 = bt494.2 then (if bt492.1 = bt494.1 then (if bt496.2 = bt500.2 then ((spec_SameChain.f k bt496.1 bt500.1).bind fun t538 => (if t538 = true then (if bt509.2 = bt513.2 then ((spec_SameChain.f k bt509.1 bt513.1).bind fun t539 => (if t539 = true then (if bt523.2 = bt525.2 then (if (bt523.1 != bt525.1) = true then (none) else (if bt530.2 = bt532.2 then (if bt530.1 = bt532.1 then (if bt534.2 = bt536.2 then (laws_FnOutlines.j0 k bt492.2 bt494.1 bt496.1 bt504.1 bt509.1 bt509.2 t527 bt530.2 bt532.1 bt534.2 bt536.1 (bt534.1 != bt536.1)) else (none)) else (none)) else (none))) else (none)) else (none))) else (none)) else (none))) else (none)) else (none)) else (none))))))))))))))))))) = some r := H
 have A2 := Aside0.mk A20
 clear A20
 by_cases c3 : t488 = true
 ·as_aux_lemma =>
  subst c3
  have H1 : (some true) = some r := by rw [if_pos rfl] at H; exact H
  clear H
  have H := H1
  clear H1
  obtain rfl := Option.some.inj H
  go_enter Try.func12, Try.ntmps12
  go_wp2_with (first | ((with_reducible refine gate_callee (f := 50) rfl ?_); refine goesL_ (some 46) rfl rfl Try.func50 (by kernel_rfl) rfl #[.slice A0 l0.length c0] rfl (by (try simp only [List.map_toArray, List.map_cons, List.map_nil]); first | done | rfl | (simp only [List.length_drop, List.length_take]; rfl)) ?_; (with_reducible refine (laws_f6big.calls _ _ l0 true _ ?side1 ?side2 A2.out).mono ?_); (case side1 => repeat (first | exact HR0.out | (with_reducible refine Kd.C_alloc ?_ _) | (with_reducible refine Kd.C_drewN ?_ _) | (with_reducible refine Kd.C_drew ?_))); (case side2 => exact HC0.out); rintro e w' ⟨rfl, ⟨nd, rfl⟩⟩; refine ⟨_, rfl, ?_⟩))
  go_ret
  exact ⟨by first | rfl | (simp [errW_none, errW_some] <;> rfl) | (simp [*, errW_none, errW_some] <;> rfl), by repeat (first | (with_reducible first | exact HB.out | apply below_alloc | apply pw_below_drewN | apply below_drew1) | exact HB.out)⟩
 ·as_aux_lemma =>
  replace c3 := Bool.eq_false_iff.mpr c3
  subst c3
  have H1 : ((spec_DrawTwiceArea.f k l0).bind fun t489 => ((impl_TwiceArea.f k t489).bind fun bt492 => ((spec_TwiceArea.f k t489).bind fun bt494 => ((impl_LeftTurned.f k t489).bind fun bt496 => ((spec_LeftTurned.f k t489).bind fun bt500 => ((spec_DrawMoveChain.f k l0).bind fun bt504 => ((impl_MoveChain.f k bt504.1 bt504.2.1 bt504.2.2).bind fun bt509 => ((spec_MoveChain.f k bt504.1 bt504.2.1 bt504.2.2).bind fun bt513 => ((spec_DrawInsideOf.f k l0).bind fun bt517 => ((impl_InsideOf.f k bt517.1 bt517.2.1 bt517.2.2).bind fun bt523 => ((spec_InsideOf.f k bt517.1 bt517.2.1 bt517.2.2).bind fun bt525 => ((spec_DrawGreatestOutline.f k l0).bind fun t527 => ((impl_GreatestOutline.f k t527).bind fun bt530 => ((spec_GreatestOutline.f k t527).bind fun bt532 => ((impl_IsClosed.f k t489).bind fun bt534 => ((spec_IsClosed.f k t489).bind fun bt536 => (if bt492.2 = bt494.2 then (if bt492.1 = bt494.1 then (if bt496.2 = bt500.2 then ((spec_SameChain.f k bt496.1 bt500.1).bind fun t538 => (if t538 = true then (if bt509.2 = bt513.2 then ((spec_SameChain.f k bt509.1 bt513.1).bind fun t539 => (if t539 = true then (if bt523.2 = bt525.2 then (if (bt523.1 != bt525.1) = true then (none) else (if bt530.2 = bt532.2 then (if bt530.1 = bt532.1 then (if bt534.2 = bt536.2 then (laws_FnOutlines.j0 k bt492.2 bt494.1 bt496.1 bt504.1 bt509.1 bt509.2 t527 bt530.2 bt532.1 bt534.2 bt536.1 (bt534.1 != bt536.1)) else (none)) else (none)) else (none))) else (none)) else (none))) else (none)) else (none))) else (none)) else (none)) else (none)))))))))))))))))) = some r := by rw [if_neg (show ¬ (false = true) by decide)] at H; exact H
  clear H
  have H := H1
  clear H1
  replace H := Option.bind_eq_some_iff.mp H
  obtain ⟨t489, A40, H⟩ := H
  replace H : ((impl_TwiceArea.f k t489).bind fun bt492 => ((spec_TwiceArea.f k t489).bind fun bt494 => ((impl_LeftTurned.f k t489).bind fun bt496 => ((spec_LeftTurned.f k t489).bind fun bt500 => ((spec_DrawMoveChain.f k l0).bind fun bt504 => ((impl_MoveChain.f k bt504.1 bt504.2.1 bt504.2.2).bind fun bt509 => ((spec_MoveChain.f k bt504.1 bt504.2.1 bt504.2.2).bind fun bt513 => ((spec_DrawInsideOf.f k l0).bind fun bt517 => ((impl_InsideOf.f k bt517.1 bt517.2.1 bt517.2.2).bind fun bt523 => ((spec_InsideOf.f k bt517.1 bt517.2.1 bt517.2.2).bind fun bt525 => ((spec_DrawGreatestOutline.f k l0).bind fun t527 => ((impl_GreatestOutline.f k t527).bind fun bt530 => ((spec_GreatestOutline.f k t527).bind fun bt532 => ((impl_IsClosed.f k t489).bind fun bt534 => ((spec_IsClosed.f k t489).bind fun bt536 => (if bt492.2 = bt494.2 then (if bt492.1 = bt494.1 then (if bt496.2 = bt500.2 then ((spec_SameChain.f k bt496.1 bt500.1).bind fun t538 => (if t538 = true then (if bt509.2 = bt513.2 then ((spec_SameChain.f k bt509.1 bt513.1).bind fun t539 => (if t539 = true then (if bt523.2 = bt525.2 then (if (bt523.1 != bt525.1) = true then (none) else (if bt530.2 = bt532.2 then (if bt530.1 = bt532.1 then (if bt534.2 = bt536.2 then (laws_FnOutlines.j0 k bt492.2 bt494.1 bt496.1 bt504.1 bt509.1 bt509.2 t527 bt530.2 bt532.1 bt534.2 bt536.1 (bt534.1 != bt536.1)) else (none)) else (none)) else (none))) else (none)) else (none))) else (none)) else (none))) else (none)) else (none)) else (none))))))))))))))))) = some r := H
  have A4 := Aside0.mk A40
  clear A40
  replace H := Option.bind_eq_some_iff.mp H
  obtain ⟨⟨t492, t493⟩, A50, H⟩ := H
  replace H : ((spec_TwiceArea.f k t489).bind fun bt494 => ((impl_LeftTurned.f k t489).bind fun bt496 => ((spec_LeftTurned.f k t489).bind fun bt500 => ((spec_DrawMoveChain.f k l0).bind fun bt504 => ((impl_MoveChain.f k bt504.1 bt504.2.1 bt504.2.2).bind fun bt509 => ((spec_MoveChain.f k bt504.1 bt504.2.1 bt504.2.2).bind fun bt513 => ((spec_DrawInsideOf.f k l0).bind fun bt517 => ((impl_InsideOf.f k bt517.1 bt517.2.1 bt517.2.2).bind fun bt523 => ((spec_InsideOf.f k bt517.1 bt517.2.1 bt517.2.2).bind fun bt525 => ((spec_DrawGreatestOutline.f k l0).bind fun t527 => ((impl_GreatestOutline.f k t527).bind fun bt530 => ((spec_GreatestOutline.f k t527).bind fun bt532 => ((impl_IsClosed.f k t489).bind fun bt534 => ((spec_IsClosed.f k t489).bind fun bt536 => (if t493 = bt494.2 then (if t492 = bt494.1 then (if bt496.2 = bt500.2 then ((spec_SameChain.f k bt496.1 bt500.1).bind fun t538 => (if t538 = true then (if bt509.2 = bt513.2 then ((spec_SameChain.f k bt509.1 bt513.1).bind fun t539 => (if t539 = true then (if bt523.2 = bt525.2 then (if (bt523.1 != bt525.1) = true then (none) else (if bt530.2 = bt532.2 then (if bt530.1 = bt532.1 then (if bt534.2 = bt536.2 then (laws_FnOutlines.j0 k t493 bt494.1 bt496.1 bt504.1 bt509.1 bt509.2 t527 bt530.2 bt532.1 bt534.2 bt536.1 (bt534.1 != bt536.1)) else (none)) else (none)) else (none))) else (none)) else (none))) else (none)) else (none))) else (none)) else (none)) else (none)))))))))))))))) = some r := H
  have A5 := Aside0.mk A50
  clear A50
  replace H := Option.bind_eq_some_iff.mp H
  obtain ⟨⟨t494, t495⟩, A60, H⟩ := H
  replace H : ((impl_LeftTurned.f k t489).bind fun bt496 => ((spec_LeftTurned.f k t489).bind fun bt500 => ((spec_DrawMoveChain.f k l0).bind fun bt504 => ((impl_MoveChain.f k bt504.1 bt504.2.1 bt504.2.2).bind fun bt509 => ((spec_MoveChain.f k bt504.1 bt504.2.1 bt504.2.2).bind fun bt513 => ((spec_DrawInsideOf.f k l0).bind fun bt517 => ((impl_InsideOf.f k bt517.1 bt517.2.1 bt517.2.2).bind fun bt523 => ((spec_InsideOf.f k bt517.1 bt517.2.1 bt517.2.2).bind fun bt525 => ((spec_DrawGreatestOutline.f k l0).bind fun t527 => ((impl_GreatestOutline.f k t527).bind fun bt530 => ((spec_GreatestOutline.f k t527).bind fun bt532 => ((impl_IsClosed.f k t489).bind fun bt534 => ((spec_IsClosed.f k t489).bind fun bt536 => (if t493 = t495 then (if t492 = t494 then (if bt496.2 = bt500.2 then ((spec_SameChain.f k bt496.1 bt500.1).bind fun t538 => (if t538 = true then (if bt509.2 = bt513.2 then ((spec_SameChain.f k bt509.1 bt513.1).bind fun t539 => (if t539 = true then (if bt523.2 = bt525.2 then (if (bt523.1 != bt525.1) = true then (none) else (if bt530.2 = bt532.2 then (if bt530.1 = bt532.1 then (if bt534.2 = bt536.2 then (laws_FnOutlines.j0 k t493 t494 bt496.1 bt504.1 bt509.1 bt509.2 t527 bt530.2 bt532.1 bt534.2 bt536.1 (bt534.1 != bt536.1)) else (none)) else (none)) else (none))) else (none)) else (none))) else (none)) else (none))) else (none)) else (none)) else (none))))))))))))))) = some r := H
  have A6 := Aside0.mk A60
  clear A60
  replace H := Option.bind_eq_some_iff.mp H
  obtain ⟨⟨t496, t497⟩, A70, H⟩ := H
  replace H : ((spec_LeftTurned.f k t489).bind fun bt500 => ((spec_DrawMoveChain.f k l0).bind fun bt504 => ((impl_MoveChain.f k bt504.1 bt504.2.1 bt504.2.2).bind fun bt509 => ((spec_MoveChain.f k bt504.1 bt504.2.1 bt504.2.2).bind fun bt513 => ((spec_DrawInsideOf.f k l0).bind fun bt517 => ((impl_InsideOf.f k bt517.1 bt517.2.1 bt517.2.2).bind fun bt523 => ((spec_InsideOf.f k bt517.1 bt517.2.1 bt517.2.2).bind fun bt525 => ((spec_DrawGreatestOutline.f k l0).bind fun t527 => ((impl_GreatestOutline.f k t527).bind fun bt530 => ((spec_GreatestOutline.f k t527).bind fun bt532 => ((impl_IsClosed.f k t489).bind fun bt534 => ((spec_IsClosed.f k t489).bind fun bt536 => (if t493 = t495 then (if t492 = t494 then (if t497 = bt500.2 then ((spec_SameChain.f k t496 bt500.1).bind fun t538 => (if t538 = true then (if bt509.2 = bt513.2 then ((spec_SameChain.f k bt509.1 bt513.1).bind fun t539 => (if t539 = true then (if bt523.2 = bt525.2 then (if (bt523.1 != bt525.1) = true then (none) else (if bt530.2 = bt532.2 then (if bt530.1 = bt532.1 then (if bt534.2 = bt536.2 then (laws_FnOutlines.j0 k t493 t494 t496 bt504.1 bt509.1 bt509.2 t527 bt530.2 bt532.1 bt534.2 bt536.1 (bt534.1 != bt536.1)) else (none)) else (none)) else (none))) else (none)) else (none))) else (none)) else (none))) else (none)) else (none)) else (none)))))))))))))) = some r := H
  have A7 := Aside0.mk A70
  clear A70
  replace H := Option.bind_eq_some_iff.mp H
  obtain ⟨⟨t500, t501⟩, A80, H⟩ := H
  replace H : ((spec_DrawMoveChain.f k l0).bind fun bt504 => ((impl_MoveChain.f k bt504.1 bt504.2.1 bt504.2.2).bind fun bt509 => ((spec_MoveChain.f k bt504.1 bt504.2.1 bt504.2.2).bind fun bt513 => ((spec_DrawInsideOf.f k l0).bind fun bt517 => ((impl_InsideOf.f k bt517.1 bt517.2.1 bt517.2.2).bind fun bt523 => ((spec_InsideOf.f k bt517.1 bt517.2.1 bt517.2.2).bind fun bt525 => ((spec_DrawGreatestOutline.f k l0).bind fun t527 => ((impl_GreatestOutline.f k t527).bind fun bt530 => ((spec_GreatestOutline.f k t527).bind fun bt532 => ((impl_IsClosed.f k t489).bind fun bt534 => ((spec_IsClosed.f k t489).bind fun bt536 => (if t493 = t495 then (if t492 = t494 then (if t497 = t501 then ((spec_SameChain.f k t496 t500).bind fun t538 => (if t538 = true then (if bt509.2 = bt513.2 then ((spec_SameChain.f k bt509.1 bt513.1).bind fun t539 => (if t539 = true then (if bt523.2 = bt525.2 then (if (bt523.1 != bt525.1) = true then (none) else (if bt530.2 = bt532.2 then (if bt530.1 = bt532.1 then (if bt534.2 = bt536.2 then (laws_FnOutlines.j0 k t493 t494 t496 bt504.1 bt509.1 bt509.2 t527 bt530.2 bt532.1 bt534.2 bt536.1 (bt534.1 != bt536.1)) else (none)) else (none)) else (none))) else (none)) else (none))) else (none)) else (none))) else (none)) else (none)) else (none))))))))))))) = some r := H
  have A8 := Aside0.mk A80
  clear A80
  replace H := Option.bind_eq_some_iff.mp H
  obtain ⟨⟨t504, t505, t506⟩, A90, H⟩ := H
  replace H : ((impl_MoveChain.f k t504 t505 t506).bind fun bt509 => ((spec_MoveChain.f k t504 t505 t506).bind fun bt513 => ((spec_DrawInsideOf.f k l0).bind fun bt517 => ((impl_InsideOf.f k bt517.1 bt517.2.1 bt517.2.2).bind fun bt523 => ((spec_InsideOf.f k bt517.1 bt517.2.1 bt517.2.2).bind fun bt525 => ((spec_DrawGreatestOutline.f k l0).bind fun t527 => ((impl_GreatestOutline.f k t527).bind fun bt530 => ((spec_GreatestOutline.f k t527).bind fun bt532 => ((impl_IsClosed.f k t489).bind fun bt534 => ((spec_IsClosed.f k t489).bind fun bt536 => (if t493 = t495 then (if t492 = t494 then (if t497 = t501 then ((spec_SameChain.f k t496 t500).bind fun t538 => (if t538 = true then (if bt509.2 = bt513.2 then ((spec_SameChain.f k bt509.1 bt513.1).bind fun t539 => (if t539 = true then (if bt523.2 = bt525.2 then (if (bt523.1 != bt525.1) = true then (none) else (if bt530.2 = bt532.2 then (if bt530.1 = bt532.1 then (if bt534.2 = bt536.2 then (laws_FnOutlines.j0 k t493 t494 t496 t504 bt509.1 bt509.2 t527 bt530.2 bt532.1 bt534.2 bt536.1 (bt534.1 != bt536.1)) else (none)) else (none)) else (none))) else (none)) else (none))) else (none)) else (none))) else (none)) else (none)) else (none)))))))))))) = some r := H
  have A9 := Aside0.mk A90
  clear A90
  replace H := Option.bind_eq_some_iff.mp H
  obtain ⟨⟨t509, t510⟩, A100, H⟩ := H
  replace H : ((spec_MoveChain.f k t504 t505 t506).bind fun bt513 => ((spec_DrawInsideOf.f k l0).bind fun bt517 => ((impl_InsideOf.f k bt517.1 bt517.2.1 bt517.2.2).bind fun bt523 => ((spec_InsideOf.f k bt517.1 bt517.2.1 bt517.2.2).bind fun bt525 => ((spec_DrawGreatestOutline.f k l0).bind fun t527 => ((impl_GreatestOutline.f k t527).bind fun bt530 => ((spec_GreatestOutline.f k t527).bind fun bt532 => ((impl_IsClosed.f k t489).bind fun bt534 => ((spec_IsClosed.f k t489).bind fun bt536 => (if t493 = t495 then (if t492 = t494 then (if t497 = t501 then ((spec_SameChain.f k t496 t500).bind fun t538 => (if t538 = true then (if t510 = bt513.2 then ((spec_SameChain.f k t509 bt513.1).bind fun t539 => (if t539 = true then (if bt523.2 = bt525.2 then (if (bt523.1 != bt525.1) = true then (none) else (if bt530.2 = bt532.2 then (if bt530.1 = bt532.1 then (if bt534.2 = bt536.2 then (laws_FnOutlines.j0 k t493 t494 t496 t504 t509 t510 t527 bt530.2 bt532.1 bt534.2 bt536.1 (bt534.1 != bt536.1)) else (none)) else (none)) else (none))) else (none)) else (none))) else (none)) else (none))) else (none)) else (none)) else (none))))))))))) = some r := H
  have A10 := Aside0.mk A100
  clear A100
  replace H := Option.bind_eq_some_iff.mp H
  obtain ⟨⟨t513, t514⟩, A110, H⟩ := H
  replace H : ((spec_DrawInsideOf.f k l0).bind fun bt517 => ((impl_InsideOf.f k bt517.1 bt517.2.1 bt517.2.2).bind fun bt523 => ((spec_InsideOf.f k bt517.1 bt517.2.1 bt517.2.2).bind fun bt525 => ((spec_DrawGreatestOutline.f k l0).bind fun t527 => ((impl_GreatestOutline.f k t527).bind fun bt530 => ((spec_GreatestOutline.f k t527).bind fun bt532 => ((impl_IsClosed.f k t489).bind fun bt534 => ((spec_IsClosed.f k t489).bind fun bt536 => (if t493 = t495 then (if t492 = t494 then (if t497 = t501 then ((spec_SameChain.f k t496 t500).bind fun t538 => (if t538 = true then (if t510 = t514 then ((spec_SameChain.f k t509 t513).bind fun t539 => (if t539 = true then (if bt523.2 = bt525.2 then (if (bt523.1 != bt525.1) = true then (none) else (if bt530.2 = bt532.2 then (if bt530.1 = bt532.1 then (if bt534.2 = bt536.2 then (laws_FnOutlines.j0 k t493 t494 t496 t504 t509 t510 t527 bt530.2 bt532.1 bt534.2 bt536.1 (bt534.1 != bt536.1)) else (none)) else (none)) else (none))) else (none)) else (none))) else (none)) else (none))) else (none)) else (none)) else (none)))))))))) = some r := H
  have A11 := Aside0.mk A110
  clear A110
  replace H := Option.bind_eq_some_iff.mp H
  obtain ⟨⟨t517, t520, t521⟩, A120, H⟩ := H
  replace H : ((impl_InsideOf.f k t517 t520 t521).bind fun bt523 => ((spec_InsideOf.f k t517 t520 t521).bind fun bt525 => ((spec_DrawGreatestOutline.f k l0).bind fun t527 => ((impl_GreatestOutline.f k t527).bind fun bt530 => ((spec_GreatestOutline.f k t527).bind fun bt532 => ((impl_IsClosed.f k t489).bind fun bt534 => ((spec_IsClosed.f k t489).bind fun bt536 => (if t493 = t495 then (if t492 = t494 then (if t497 = t501 then ((spec_SameChain.f k t496 t500).bind fun t538 => (if t538 = true then (if t510 = t514 then ((spec_SameChain.f k t509 t513).bind fun t539 => (if t539 = true then (if bt523.2 = bt525.2 then (if (bt523.1 != bt525.1) = true then (none) else (if bt530.2 = bt532.2 then (if bt530.1 = bt532.1 then (if bt534.2 = bt536.2 then (laws_FnOutlines.j0 k t493 t494 t496 t504 t509 t510 t527 bt530.2 bt532.1 bt534.2 bt536.1 (bt534.1 != bt536.1)) else (none)) else (none)) else (none))) else (none)) else (none))) else (none)) else (none))) else (none)) else (none)) else (none))))))))) = some r := H
  have A12 := Aside0.mk A120
  clear A120
  replace H := Option.bind_eq_some_iff.mp H
  obtain ⟨⟨t523, t524⟩, A130, H⟩ := H
  replace H : ((spec_InsideOf.f k t517 t520 t521).bind fun bt525 => ((spec_DrawGreatestOutline.f k l0).bind fun t527 => ((impl_GreatestOutline.f k t527).bind fun bt530 => ((spec_GreatestOutline.f k t527).bind fun bt532 => ((impl_IsClosed.f k t489).bind fun bt534 => ((spec_IsClosed.f k t489).bind fun bt536 => (if t493 = t495 then (if t492 = t494 then (if t497 = t501 then ((spec_SameChain.f k t496 t500).bind fun t538 => (if t538 = true then (if t510 = t514 then ((spec_SameChain.f k t509 t513).bind fun t539 => (if t539 = true then (if t524 = bt525.2 then (if (t523 != bt525.1) = true then (none) else (if bt530.2 = bt532.2 then (if bt530.1 = bt532.1 then (if bt534.2 = bt536.2 then (laws_FnOutlines.j0 k t493 t494 t496 t504 t509 t510 t527 bt530.2 bt532.1 bt534.2 bt536.1 (bt534.1 != bt536.1)) else (none)) else (none)) else (none))) else (none)) else (none))) else (none)) else (none))) else (none)) else (none)) else (none)))))))) = some r := H
  have A13 := Aside0.mk A130
  clear A130
  replace H := Option.bind_eq_some_iff.mp H
  obtain ⟨⟨t525, t526⟩, A140, H⟩ := H
  replace H : ((spec_DrawGreatestOutline.f k l0).bind fun t527 => ((impl_GreatestOutline.f k t527).bind fun bt530 => ((spec_GreatestOutline.f k t527).bind fun bt532 => ((impl_IsClosed.f k t489).bind fun bt534 => ((spec_IsClosed.f k t489).bind fun bt536 => (if t493 = t495 then (if t492 = t494 then (if t497 = t501 then ((spec_SameChain.f k t496 t500).bind fun t538 => (if t538 = true then (if t510 = t514 then ((spec_SameChain.f k t509 t513).bind fun t539 => (if t539 = true then (if t524 = t526 then (if (t523 != t525) = true then (none) else (if bt530.2 = bt532.2 then (if bt530.1 = bt532.1 then (if bt534.2 = bt536.2 then (laws_FnOutlines.j0 k t493 t494 t496 t504 t509 t510 t527 bt530.2 bt532.1 bt534.2 bt536.1 (bt534.1 != bt536.1)) else (none)) else (none)) else (none))) else (none)) else (none))) else (none)) else (none))) else (none)) else (none)) else (none))))))) = some r := H
  have A14 := Aside0.mk A140
  clear A140
  replace H := Option.bind_eq_some_iff.mp H
  obtain ⟨t527, A150, H⟩ := H
  replace H : ((impl_GreatestOutline.f k t527).bind fun bt530 => ((spec_GreatestOutline.f k t527).bind fun bt532 => ((impl_IsClosed.f k t489).bind fun bt534 => ((spec_IsClosed.f k t489).bind fun bt536 => (if t493 = t495 then (if t492 = t494 then (if t497 = t501 then ((spec_SameChain.f k t496 t500).bind fun t538 => (if t538 = true then (if t510 = t514 then ((spec_SameChain.f k t509 t513).bind fun t539 => (if t539 = true then (if t524 = t526 then (if (t523 != t525) = true then (none) else (if bt530.2 = bt532.2 then (if bt530.1 = bt532.1 then (if bt534.2 = bt536.2 then (laws_FnOutlines.j0 k t493 t494 t496 t504 t509 t510 t527 bt530.2 bt532.1 bt534.2 bt536.1 (bt534.1 != bt536.1)) else (none)) else (none)) else (none))) else (none)) else (none))) else (none)) else (none))) else (none)) else (none)) else (none)))))) = some r := H
  have A15 := Aside0.mk A150
  clear A150
  replace H := Option.bind_eq_some_iff.mp H
  obtain ⟨⟨t530, t531⟩, A160, H⟩ := H
  replace H : ((spec_GreatestOutline.f k t527).bind fun bt532 => ((impl_IsClosed.f k t489).bind fun bt534 => ((spec_IsClosed.f k t489).bind fun bt536 => (if t493 = t495 then (if t492 = t494 then (if t497 = t501 then ((spec_SameChain.f k t496 t500).bind fun t538 => (if t538 = true then (if t510 = t514 then ((spec_SameChain.f k t509 t513).bind fun t539 => (if t539 = true then (if t524 = t526 then (if (t523 != t525) = true then (none) else (if t531 = bt532.2 then (if t530 = bt532.1 then (if bt534.2 = bt536.2 then (laws_FnOutlines.j0 k t493 t494 t496 t504 t509 t510 t527 t531 bt532.1 bt534.2 bt536.1 (bt534.1 != bt536.1)) else (none)) else (none)) else (none))) else (none)) else (none))) else (none)) else (none))) else (none)) else (none)) else (none))))) = some r := H
  have A16 := Aside0.mk A160
  clear A160
  replace H := Option.bind_eq_some_iff.mp H
  obtain ⟨⟨t532, t533⟩, A170, H⟩ := H
  replace H : ((impl_IsClosed.f k t489).bind fun bt534 => ((spec_IsClosed.f k t489).bind fun bt536 => (if t493 = t495 then (if t492 = t494 then (if t497 = t501 then ((spec_SameChain.f k t496 t500).bind fun t538 => (if t538 = true then (if t510 = t514 then ((spec_SameChain.f k t509 t513).bind fun t539 => (if t539 = true then (if t524 = t526 then (if (t523 != t525) = true then (none) else (if t531 = t533 then (if t530 = t532 then (if bt534.2 = bt536.2 then (laws_FnOutlines.j0 k t493 t494 t496 t504 t509 t510 t527 t531 t532 bt534.2 bt536.1 (bt534.1 != bt536.1)) else (none)) else (none)) else (none))) else (none)) else (none))) else (none)) else (none))) else (none)) else (none)) else (none)))) = some r := H
  have A17 := Aside0.mk A170
  clear A170
  replace H := Option.bind_eq_some_iff.mp H
  obtain ⟨⟨t534, t535⟩, A180, H⟩ := H
  replace H : ((spec_IsClosed.f k t489).bind fun bt536 => (if t493 = t495 then (if t492 = t494 then (if t497 = t501 then ((spec_SameChain.f k t496 t500).bind fun t538 => (if t538 = true then (if t510 = t514 then ((spec_SameChain.f k t509 t513).bind fun t539 => (if t539 = true then (if t524 = t526 then (if (t523 != t525) = true then (none) else (if t531 = t533 then (if t530 = t532 then (if t535 = bt536.2 then (laws_FnOutlines.j0 k t493 t494 t496 t504 t509 t510 t527 t531 t532 t535 bt536.1 (t534 != bt536.1)) else (none)) else (none)) else (none))) else (none)) else (none))) else (none)) else (none))) else (none)) else (none)) else (none))) = some r := H
  have A18 := Aside0.mk A180
  clear A180
  replace H := Option.bind_eq_some_iff.mp H
  obtain ⟨⟨t536, t537⟩, A190, H⟩ := H
  replace H : (if t493 = t495 then (if t492 = t494 then (if t497 = t501 then ((spec_SameChain.f k t496 t500).bind fun t538 => (if t538 = true then (if t510 = t514 then ((spec_SameChain.f k t509 t513).bind fun t539 => (if t539 = true then (if t524 = t526 then (if (t523 != t525) = true then (none) else (if t531 = t533 then (if t530 = t532 then (if t535 = t537 then (laws_FnOutlines.j0 k t493 t494 t496 t504 t509 t510 t527 t531 t532 t535 t536 (t534 != t536)) else (none)) else (none)) else (none))) else (none)) else (none))) else (none)) else (none))) else (none)) else (none)) else (none)) = some r := H
  have A19 := Aside0.mk A190
  clear A190
  have HC20 := Aside0.mk H
  clear H
  go_enter Try.func12, Try.ntmps12
  go_upto_region 19 with (first | ((with_reducible refine gate_callee (f := 50) rfl ?_); refine goesL_ (some 46) rfl rfl Try.func50 (by kernel_rfl) rfl #[.slice A0 l0.length c0] rfl (by (try simp only [List.map_toArray, List.map_cons, List.map_nil]); first | done | rfl | (simp only [List.length_drop, List.length_take]; rfl)) ?_; (with_reducible refine (laws_f6big.calls _ _ l0 false _ ?side1 ?side2 A2.out).mono ?_); (case side1 => repeat (first | exact HR0.out | (with_reducible refine Kd.C_alloc ?_ _) | (with_reducible refine Kd.C_drewN ?_ _) | (with_reducible refine Kd.C_drew ?_))); (case side2 => exact HC0.out); rintro e w' ⟨rfl, ⟨nd, rfl⟩⟩; refine ⟨_, rfl, ?_⟩) | ((with_reducible refine gate_callee (f := 51) rfl ?_); refine goesL_ (some 48) rfl rfl Try.func51 (by kernel_rfl) rfl #[.slice A0 l0.length c0] rfl (by (try simp only [List.map_toArray, List.map_cons, List.map_nil]); first | done | rfl | (simp only [List.length_drop, List.length_take]; rfl)) ?_; (with_reducible refine (spec_DrawTwiceArea.calls k _ _ l0 t489 _ ?side1 ?side2 A4.out).mono ?_); (case side1 => repeat (first | exact HR0.out | (with_reducible refine Kd.C_alloc ?_ _) | (with_reducible refine Kd.C_drewN ?_ _) | (with_reducible refine Kd.C_drew ?_))); (case side2 => exact HC0.out); rintro e w21 ⟨v490, rfl, ho0, hb⟩; refine ⟨_, rfl, ?_⟩; have n0_ := Aside0.mk (Kd.R_lower ho0 (below_size (by repeat (first | (with_reducible first | exact HB.out | apply below_alloc | apply pw_below_drewN | apply below_drew1) | exact HB.out)))); have n1_ := Aside0.mk (below_step (by repeat (first | (with_reducible first | exact HB.out | apply below_alloc | apply pw_below_drewN | apply below_drew1) | exact HB.out)) hb); clear HB; have HO491 := n0_; have HB := n1_; clear n0_ n1_; (try clear hb); (try clear hb2); (try clear hk); (try clear hi); (try clear ho0); obtain ⟨Ao22, co22, eo22⟩ := Kd.R_slice HO491.out; subst eo22) | ((with_reducible refine gate_callee (f := 52) rfl ?_); refine goesL_ (some 51) rfl rfl Try.func52 (by kernel_rfl) rfl #[.slice Ao22 t489.length co22] rfl (by (try simp only [List.map_toArray, List.map_cons, List.map_nil]); first | done | rfl | (simp only [List.length_drop, List.length_take]; rfl)) ?_; (with_reducible refine (impl_TwiceArea.calls k _ _ t489 t492 t493 _ ?side1 ?side2 A5.out).mono ?_); (case side1 => repeat (first | exact (Kd.R_reads' HO491.out).2.2 | (with_reducible refine Kd.C_alloc ?_ _) | (with_reducible refine Kd.C_drewN ?_ _) | (with_reducible refine Kd.C_drew ?_))); (case side2 => exact (Kd.R_reads' HO491.out).2.1); rintro e w23 ⟨rfl, hb⟩; refine ⟨_, rfl, ?_⟩; have n0_ := Aside0.mk (Kd.R_below (by (with_reducible repeat (first | apply Kd.R_alloc | apply Kd.R_drewN | apply Kd.R_drew)); exact HO491.out) hb); have n1_ := Aside0.mk (below_step (by repeat (first | (with_reducible first | exact HB.out | apply below_alloc | apply pw_below_drewN | apply below_drew1) | exact HB.out)) hb); clear HO491; clear HB; have HO491 := n0_; have HB := n1_; clear n0_ n1_; (try clear hb); (try clear hb2); (try clear hk); (try clear hi)) | ((with_reducible refine gate_callee (f := 53) rfl ?_); refine goesL_ (some 56) rfl rfl Try.func53 (by kernel_rfl) rfl #[.slice Ao22 t489.length co22] rfl (by (try simp only [List.map_toArray, List.map_cons, List.map_nil]); first | done | rfl | (simp only [List.length_drop, List.length_take]; rfl)) ?_; (with_reducible refine (spec_TwiceArea.calls k _ _ t489 t494 t495 _ ?side1 ?side2 A6.out).mono ?_); (case side1 => repeat (first | exact (Kd.R_reads' HO491.out).2.2 | (with_reducible refine Kd.C_alloc ?_ _) | (with_reducible refine Kd.C_drewN ?_ _) | (with_reducible refine Kd.C_drew ?_))); (case side2 => exact (Kd.R_reads' HO491.out).2.1); rintro e w' ⟨rfl, ⟨nd, rfl⟩⟩; refine ⟨_, rfl, ?_⟩; (try (rw [drewN_self w23]; generalize hq_ : World.drewN w23 _ = w23; have n0_ : Aside0 (Kd.R k44 44 w23 w.heap.size (fun _ => True) (.slice Ao22 t489.length co22) t489) := ⟨by rw [← hq_]; exact (by (with_reducible repeat (first | apply Kd.R_alloc | apply Kd.R_drewN | apply Kd.R_drew)); exact HO491.out)⟩; have n1_ : Aside0 (Below w.heap.size w w23) := ⟨by rw [← hq_]; exact (by repeat (first | (with_reducible first | exact HB.out | apply below_alloc | apply pw_below_drewN | apply below_drew1) | exact HB.out))⟩; clear HO491 HB hq_; have HO491 := n0_; have HB := n1_; clear n0_ n1_))) | ((with_reducible refine gate_callee (f := 54) rfl ?_); refine goesL_ (some 61) rfl rfl Try.func54 (by kernel_rfl) rfl #[.slice Ao22 t489.length co22] rfl (by (try simp only [List.map_toArray, List.map_cons, List.map_nil]); first | done | rfl | (simp only [List.length_drop, List.length_take]; rfl)) ?_; (with_reducible refine (impl_LeftTurned.calls k _ _ t489 t496 t497 _ ?side1 ?side2 A7.out).mono ?_); (case side1 => repeat (first | exact (Kd.R_reads' HO491.out).2.2 | (with_reducible refine Kd.C_alloc ?_ _) | (with_reducible refine Kd.C_drewN ?_ _) | (with_reducible refine Kd.C_drew ?_))); (case side2 => exact (Kd.R_reads' HO491.out).2.1); rintro e w24 ⟨v498, rfl, ho0, hb⟩; refine ⟨_, rfl, ?_⟩; have n0_ := Aside0.mk (Kd.R_elder' (by (with_reducible repeat (first | apply Kd.R_alloc | apply Kd.R_drewN | apply Kd.R_drew)); exact HO491.out) (Kd.R_base ho0) hb); have n1_ := Aside0.mk (Kd.R_lower (Kd.R_new' ho0 (Kd.R_lt (by (with_reducible repeat (first | apply Kd.R_alloc | apply Kd.R_drewN | apply Kd.R_drew)); exact HO491.out))) (below_size (by repeat (first | (with_reducible first | exact HB.out | apply below_alloc | apply pw_below_drewN | apply below_drew1) | exact HB.out)))); have n2_ := Aside0.mk (below_step (by repeat (first | (with_reducible first | exact HB.out | apply below_alloc | apply pw_below_drewN | apply below_drew1) | exact HB.out)) hb); clear HO491; clear HB; have HO491 := n0_; have HO499 := n1_; have HB := n2_; clear n0_ n1_ n2_; (try clear hb); (try clear hb2); (try clear hk); (try clear hi); (try clear ho0)) | ((with_reducible refine gate_callee (f := 55) rfl ?_); refine goesL_ (some 66) rfl rfl Try.func55 (by kernel_rfl) rfl #[.slice Ao22 t489.length co22] rfl (by (try simp only [List.map_toArray, List.map_cons, List.map_nil]); first | done | rfl | (simp only [List.length_drop, List.length_take]; rfl)) ?_; (with_reducible refine (spec_LeftTurned.calls k _ _ t489 t500 t501 _ ?side1 ?side2 A8.out).mono ?_); (case side1 => repeat (first | exact (Kd.R_reads' HO491.out).2.2 | (with_reducible refine Kd.C_alloc ?_ _) | (with_reducible refine Kd.C_drewN ?_ _) | (with_reducible refine Kd.C_drew ?_))); (case side2 => exact (Kd.R_reads' HO491.out).2.1); rintro e w25 ⟨v502, rfl, ho0, hb⟩; refine ⟨_, rfl, ?_⟩; have n0_ := Aside0.mk (Kd.R_elder' (by (with_reducible repeat (first | apply Kd.R_alloc | apply Kd.R_drewN | apply Kd.R_drew)); exact HO491.out) (Kd.R_base ho0) hb); have n1_ := Aside0.mk (Kd.R_elder' (by (with_reducible repeat (first | apply Kd.R_alloc | apply Kd.R_drewN | apply Kd.R_drew)); exact HO499.out) (Kd.R_base ho0) hb); have n2_ := Aside0.mk (Kd.R_lower (Kd.R_new' (Kd.R_new' ho0 (Kd.R_lt (by (with_reducible repeat (first | apply Kd.R_alloc | apply Kd.R_drewN | apply Kd.R_drew)); exact HO491.out))) (Kd.R_lt (by (with_reducible repeat (first | apply Kd.R_alloc | apply Kd.R_drewN | apply Kd.R_drew)); exact HO499.out))) (below_size (by repeat (first | (with_reducible first | exact HB.out | apply below_alloc | apply pw_below_drewN | apply below_drew1) | exact HB.out)))); have n3_ := Aside0.mk (below_step (by repeat (first | (with_reducible first | exact HB.out | apply below_alloc | apply pw_below_drewN | apply below_drew1) | exact HB.out)) hb); clear HO491; clear HO499; clear HB; have HO491 := n0_; have HO499 := n1_; have HO503 := n2_; have HB := n3_; clear n0_ n1_ n2_ n3_; (try clear hb); (try clear hb2); (try clear hk); (try clear hi); (try clear ho0)) | ((with_reducible refine gate_callee (f := 56) rfl ?_); refine goesL_ (some 71) rfl rfl Try.func56 (by kernel_rfl) rfl #[.slice A0 l0.length c0] rfl (by (try simp only [List.map_toArray, List.map_cons, List.map_nil]); first | done | rfl | (simp only [List.length_drop, List.length_take]; rfl)) ?_; (with_reducible refine (spec_DrawMoveChain.calls k _ _ l0 t504 t505 t506 _ ?side1 ?side2 A9.out).mono ?_); (case side1 => repeat (first | exact (Kd.C_below HR0.out HB.out) | (with_reducible refine Kd.C_alloc ?_ _) | (with_reducible refine Kd.C_drewN ?_ _) | (with_reducible refine Kd.C_drew ?_))); (case side2 => exact HC0.out); rintro e w26 ⟨v507, rfl, ho0, hb⟩; refine ⟨_, rfl, ?_⟩; have n0_ := Aside0.mk (Kd.R_elder' (by (with_reducible repeat (first | apply Kd.R_alloc | apply Kd.R_drewN | apply Kd.R_drew)); exact HO491.out) (Kd.R_base ho0) hb); have n1_ := Aside0.mk (Kd.R_elder' (by (with_reducible repeat (first | apply Kd.R_alloc | apply Kd.R_drewN | apply Kd.R_drew)); exact HO499.out) (Kd.R_base ho0) hb); have n2_ := Aside0.mk (Kd.R_elder' (by (with_reducible repeat (first | apply Kd.R_alloc | apply Kd.R_drewN | apply Kd.R_drew)); exact HO503.out) (Kd.R_base ho0) hb); have n3_ := Aside0.mk (Kd.R_lower (Kd.R_new' (Kd.R_new' (Kd.R_new' ho0 (Kd.R_lt (by (with_reducible repeat (first | apply Kd.R_alloc | apply Kd.R_drewN | apply Kd.R_drew)); exact HO491.out))) (Kd.R_lt (by (with_reducible repeat (first | apply Kd.R_alloc | apply Kd.R_drewN | apply Kd.R_drew)); exact HO499.out))) (Kd.R_lt (by (with_reducible repeat (first | apply Kd.R_alloc | apply Kd.R_drewN | apply Kd.R_drew)); exact HO503.out))) (below_size (by repeat (first | (with_reducible first | exact HB.out | apply below_alloc | apply pw_below_drewN | apply below_drew1) | exact HB.out)))); have n4_ := Aside0.mk (below_step (by repeat (first | (with_reducible first | exact HB.out | apply below_alloc | apply pw_below_drewN | apply below_drew1) | exact HB.out)) hb); clear HO491; clear HO499; clear HO503; clear HB; have HO491 := n0_; have HO499 := n1_; have HO503 := n2_; have HO508 := n3_; have HB := n4_; clear n0_ n1_ n2_ n3_ n4_; (try clear hb); (try clear hb2); (try clear hk); (try clear hi); (try clear ho0); obtain ⟨Ao27, co27, eo27⟩ := Kd.R_slice HO508.out; subst eo27) | ((with_reducible refine gate_callee (f := 57) rfl ?_); refine goesL_ (some 79) rfl rfl Try.func57 (by kernel_rfl) rfl #[.slice Ao27 t504.length co27, .int .i64 t505, .int .i64 t506] rfl (by (try simp only [List.map_toArray, List.map_cons, List.map_nil]); first | done | rfl | (simp only [List.length_drop, List.length_take]; rfl)) ?_; (with_reducible refine (impl_MoveChain.calls k _ _ t504 t505 t506 t509 t510 _ ?side1 ?side2 A10.out).mono ?_); (case side1 => repeat (first | exact (Kd.R_reads' HO508.out).2.2 | (with_reducible refine Kd.C_alloc ?_ _) | (with_reducible refine Kd.C_drewN ?_ _) | (with_reducible refine Kd.C_drew ?_))); (case side2 => exact (Kd.R_reads' HO508.out).2.1); rintro e w28 ⟨v511, rfl, ho0, hb⟩; refine ⟨_, rfl, ?_⟩; have n0_ := Aside0.mk (Kd.R_elder' (by (with_reducible repeat (first | apply Kd.R_alloc | apply Kd.R_drewN | apply Kd.R_drew)); exact HO491.out) (Kd.R_base ho0) hb); have n1_ := Aside0.mk (Kd.R_elder' (by (with_reducible repeat (first | apply Kd.R_alloc | apply Kd.R_drewN | apply Kd.R_drew)); exact HO499.out) (Kd.R_base ho0) hb); have n2_ := Aside0.mk (Kd.R_elder' (by (with_reducible repeat (first | apply Kd.R_alloc | apply Kd.R_drewN | apply Kd.R_drew)); exact HO503.out) (Kd.R_base ho0) hb); have n3_ := Aside0.mk (Kd.R_elder' (by (with_reducible repeat (first | apply Kd.R_alloc | apply Kd.R_drewN | apply Kd.R_drew)); exact HO508.out) (Kd.R_base ho0) hb); have n4_ := Aside0.mk (Kd.R_lower (Kd.R_new' (Kd.R_new' (Kd.R_new' (Kd.R_new' ho0 (Kd.R_lt (by (with_reducible repeat (first | apply Kd.R_alloc | apply Kd.R_drewN | apply Kd.R_drew)); exact HO491.out))) (Kd.R_lt (by (with_reducible repeat (first | apply Kd.R_alloc | apply Kd.R_drewN | apply Kd.R_drew)); exact HO499.out))) (Kd.R_lt (by (with_reducible repeat (first | apply Kd.R_alloc | apply Kd.R_drewN | apply Kd.R_drew)); exact HO503.out))) (Kd.R_lt (by (with_reducible repeat (first | apply Kd.R_alloc | apply Kd.R_drewN | apply Kd.R_drew)); exact HO508.out))) (below_size (by repeat (first | (with_reducible first | exact HB.out | apply below_alloc | apply pw_below_drewN | apply below_drew1) | exact HB.out)))); have n5_ := Aside0.mk (below_step (by repeat (first | (with_reducible first | exact HB.out | apply below_alloc | apply pw_below_drewN | apply below_drew1) | exact HB.out)) hb); clear HO491; clear HO499; clear HO503; clear HO508; clear HB; have HO491 := n0_; have HO499 := n1_; have HO503 := n2_; have HO508 := n3_; have HO512 := n4_; have HB := n5_; clear n0_ n1_ n2_ n3_ n4_ n5_; (try clear hb); (try clear hb2); (try clear hk); (try clear hi); (try clear ho0)) | ((with_reducible refine gate_callee (f := 58) rfl ?_); refine goesL_ (some 86) rfl rfl Try.func58 (by kernel_rfl) rfl #[.slice Ao27 t504.length co27, .int .i64 t505, .int .i64 t506] rfl (by (try simp only [List.map_toArray, List.map_cons, List.map_nil]); first | done | rfl | (simp only [List.length_drop, List.length_take]; rfl)) ?_; (with_reducible refine (spec_MoveChain.calls k _ _ t504 t505 t506 t513 t514 _ ?side1 ?side2 A11.out).mono ?_); (case side1 => repeat (first | exact (Kd.R_reads' HO508.out).2.2 | (with_reducible refine Kd.C_alloc ?_ _) | (with_reducible refine Kd.C_drewN ?_ _) | (with_reducible refine Kd.C_drew ?_))); (case side2 => exact (Kd.R_reads' HO508.out).2.1); rintro e w29 ⟨v515, rfl, ho0, hb⟩; refine ⟨_, rfl, ?_⟩; have n0_ := Aside0.mk (Kd.R_elder' (by (with_reducible repeat (first | apply Kd.R_alloc | apply Kd.R_drewN | apply Kd.R_drew)); exact HO491.out) (Kd.R_base ho0) hb); have n1_ := Aside0.mk (Kd.R_elder' (by (with_reducible repeat (first | apply Kd.R_alloc | apply Kd.R_drewN | apply Kd.R_drew)); exact HO499.out) (Kd.R_base ho0) hb); have n2_ := Aside0.mk (Kd.R_elder' (by (with_reducible repeat (first | apply Kd.R_alloc | apply Kd.R_drewN | apply Kd.R_drew)); exact HO503.out) (Kd.R_base ho0) hb); have n3_ := Aside0.mk (Kd.R_elder' (by (with_reducible repeat (first | apply Kd.R_alloc | apply Kd.R_drewN | apply Kd.R_drew)); exact HO508.out) (Kd.R_base ho0) hb); have n4_ := Aside0.mk (Kd.R_elder' (by (with_reducible repeat (first | apply Kd.R_alloc | apply Kd.R_drewN | apply Kd.R_drew)); exact HO512.out) (Kd.R_base ho0) hb); have n5_ := Aside0.mk (Kd.R_lower (Kd.R_new' (Kd.R_new' (Kd.R_new' (Kd.R_new' (Kd.R_new' ho0 (Kd.R_lt (by (with_reducible repeat (first | apply Kd.R_alloc | apply Kd.R_drewN | apply Kd.R_drew)); exact HO491.out))) (Kd.R_lt (by (with_reducible repeat (first | apply Kd.R_alloc | apply Kd.R_drewN | apply Kd.R_drew)); exact HO499.out))) (Kd.R_lt (by (with_reducible repeat (first | apply Kd.R_alloc | apply Kd.R_drewN | apply Kd.R_drew)); exact HO503.out))) (Kd.R_lt (by (with_reducible repeat (first | apply Kd.R_alloc | apply Kd.R_drewN | apply Kd.R_drew)); exact HO508.out))) (Kd.R_lt (by (with_reducible repeat (first | apply Kd.R_alloc | apply Kd.R_drewN | apply Kd.R_drew)); exact HO512.out))) (below_size (by repeat (first | (with_reducible first | exact HB.out | apply below_alloc | apply pw_below_drewN | apply below_drew1) | exact HB.out)))); have n6_ := Aside0.mk (below_step (by repeat (first | (with_reducible first | exact HB.out | apply below_alloc | apply pw_below_drewN | apply below_drew1) | exact HB.out)) hb); clear HO491; clear HO499; clear HO503; clear HO508; clear HO512; clear HB; have HO491 := n0_; have HO499 := n1_; have HO503 := n2_; have HO508 := n3_; have HO512 := n4_; have HO516 := n5_; have HB := n6_; clear n0_ n1_ n2_ n3_ n4_ n5_ n6_; (try clear hb); (try clear hb2); (try clear hk); (try clear hi); (try clear ho0)) | ((with_reducible refine gate_callee (f := 59) rfl ?_); refine goesL_ (some 91) rfl rfl Try.func59 (by kernel_rfl) rfl #[.slice A0 l0.length c0] rfl (by (try simp only [List.map_toArray, List.map_cons, List.map_nil]); first | done | rfl | (simp only [List.length_drop, List.length_take]; rfl)) ?_; (with_reducible refine (spec_DrawInsideOf.calls k _ _ l0 t517 t520 t521 _ ?side1 ?side2 A12.out).mono ?_); (case side1 => repeat (first | exact (Kd.C_below HR0.out HB.out) | (with_reducible refine Kd.C_alloc ?_ _) | (with_reducible refine Kd.C_drewN ?_ _) | (with_reducible refine Kd.C_drew ?_))); (case side2 => exact HC0.out); rintro e w30 ⟨v518, rfl, ho0, hb⟩; refine ⟨_, rfl, ?_⟩; have n0_ := Aside0.mk (Kd.R_elder' (by (with_reducible repeat (first | apply Kd.R_alloc | apply Kd.R_drewN | apply Kd.R_drew)); exact HO491.out) (Kd.R_base ho0) hb); have n1_ := Aside0.mk (Kd.R_elder' (by (with_reducible repeat (first | apply Kd.R_alloc | apply Kd.R_drewN | apply Kd.R_drew)); exact HO499.out) (Kd.R_base ho0) hb); have n2_ := Aside0.mk (Kd.R_elder' (by (with_reducible repeat (first | apply Kd.R_alloc | apply Kd.R_drewN | apply Kd.R_drew)); exact HO503.out) (Kd.R_base ho0) hb); have n3_ := Aside0.mk (Kd.R_elder' (by (with_reducible repeat (first | apply Kd.R_alloc | apply Kd.R_drewN | apply Kd.R_drew)); exact HO508.out) (Kd.R_base ho0) hb); have n4_ := Aside0.mk (Kd.R_elder' (by (with_reducible repeat (first | apply Kd.R_alloc | apply Kd.R_drewN | apply Kd.R_drew)); exact HO512.out) (Kd.R_base ho0) hb); have n5_ := Aside0.mk (Kd.R_elder' (by (with_reducible repeat (first | apply Kd.R_alloc | apply Kd.R_drewN | apply Kd.R_drew)); exact HO516.out) (Kd.R_base ho0) hb); have n6_ := Aside0.mk (Kd.R_lower (Kd.R_new' (Kd.R_new' (Kd.R_new' (Kd.R_new' (Kd.R_new' (Kd.R_new' ho0 (Kd.R_lt (by (with_reducible repeat (first | apply Kd.R_alloc | apply Kd.R_drewN | apply Kd.R_drew)); exact HO491.out))) (Kd.R_lt (by (with_reducible repeat (first | apply Kd.R_alloc | apply Kd.R_drewN | apply Kd.R_drew)); exact HO499.out))) (Kd.R_lt (by (with_reducible repeat (first | apply Kd.R_alloc | apply Kd.R_drewN | apply Kd.R_drew)); exact HO503.out))) (Kd.R_lt (by (with_reducible repeat (first | apply Kd.R_alloc | apply Kd.R_drewN | apply Kd.R_drew)); exact HO508.out))) (Kd.R_lt (by (with_reducible repeat (first | apply Kd.R_alloc | apply Kd.R_drewN | apply Kd.R_drew)); exact HO512.out))) (Kd.R_lt (by (with_reducible repeat (first | apply Kd.R_alloc | apply Kd.R_drewN | apply Kd.R_drew)); exact HO516.out))) (below_size (by repeat (first | (with_reducible first | exact HB.out | apply below_alloc | apply pw_below_drewN | apply below_drew1) | exact HB.out)))); have n7_ := Aside0.mk (below_step (by repeat (first | (with_reducible first | exact HB.out | apply below_alloc | apply pw_below_drewN | apply below_drew1) | exact HB.out)) hb); clear HO491; clear HO499; clear HO503; clear HO508; clear HO512; clear HO516; clear HB; have HO491 := n0_; have HO499 := n1_; have HO503 := n2_; have HO508 := n3_; have HO512 := n4_; have HO516 := n5_; have HO519 := n6_; have HB := n7_; clear n0_ n1_ n2_ n3_ n4_ n5_ n6_ n7_; (try clear hb); (try clear hb2); (try clear hk); (try clear hi); (try clear ho0)) | ((with_reducible refine gate_dst (N := 20) rfl ?_); refine box_event ?hg (N := 20) ?hd (cs := #[.int .i64 0, .int .i64 0]) (t := 44) ?hr ?_; (case hd => rfl); (case hg => rfl); (case hr => first | (go_simp; done) | (go_simp; rfl)); intro gb522 hg w31 hbox hb; have n0_ := Aside0.mk (Kd.R_below (Kd.R_elderB (by (with_reducible repeat (first | apply Kd.R_alloc | apply Kd.R_drewN | apply Kd.R_drew)); exact HO491.out) gb522 (Nat.le_of_eq hg.symm)) hb); have n1_ := Aside0.mk (Kd.R_below (Kd.R_elderB (by (with_reducible repeat (first | apply Kd.R_alloc | apply Kd.R_drewN | apply Kd.R_drew)); exact HO499.out) gb522 (Nat.le_of_eq hg.symm)) hb); have n2_ := Aside0.mk (Kd.R_below (Kd.R_elderB (by (with_reducible repeat (first | apply Kd.R_alloc | apply Kd.R_drewN | apply Kd.R_drew)); exact HO503.out) gb522 (Nat.le_of_eq hg.symm)) hb); have n3_ := Aside0.mk (Kd.R_below (Kd.R_elderB (by (with_reducible repeat (first | apply Kd.R_alloc | apply Kd.R_drewN | apply Kd.R_drew)); exact HO508.out) gb522 (Nat.le_of_eq hg.symm)) hb); have n4_ := Aside0.mk (Kd.R_below (Kd.R_elderB (by (with_reducible repeat (first | apply Kd.R_alloc | apply Kd.R_drewN | apply Kd.R_drew)); exact HO512.out) gb522 (Nat.le_of_eq hg.symm)) hb); have n5_ := Aside0.mk (Kd.R_below (Kd.R_elderB (by (with_reducible repeat (first | apply Kd.R_alloc | apply Kd.R_drewN | apply Kd.R_drew)); exact HO516.out) gb522 (Nat.le_of_eq hg.symm)) hb); have n6_ := Aside0.mk (Kd.R_below (Kd.R_elderB (by (with_reducible repeat (first | apply Kd.R_alloc | apply Kd.R_drewN | apply Kd.R_drew)); exact HO519.out) gb522 (Nat.le_of_eq hg.symm)) hb); have n7_ := Aside0.mk (below_step (by repeat (first | (with_reducible first | exact HB.out | apply below_alloc | apply pw_below_drewN | apply below_drew1) | exact HB.out)) hb); have n8_ := Aside0.mk (hbox); have n9_ := Aside0.mk ((by rw [hg]; exact (below_size (by repeat (first | (with_reducible first | exact HB.out | apply below_alloc | apply pw_below_drewN | apply below_drew1) | exact HB.out))) : w.heap.size ≤ gb522)); have n10_ := Aside0.mk ((by rw [hg]; exact (below_size (by repeat (first | (with_reducible first | exact HB.out | apply below_alloc | apply pw_below_drewN | apply below_drew1) | exact HB.out))) : w.heap.size ≤ gb522)); clear HO491; clear HO499; clear HO503; clear HO508; clear HO512; clear HO516; clear HO519; clear HB; have HO491 := n0_; have HO499 := n1_; have HO503 := n2_; have HO508 := n3_; have HO512 := n4_; have HO516 := n5_; have HO519 := n6_; have HB := n7_; have BK522 := n8_; have GW522 := n9_; have GE522 := n10_; clear n0_ n1_ n2_ n3_ n4_ n5_ n6_ n7_ n8_ n9_ n10_; clear hb hbox hg; have hcz32_0 : w31.cell? ⟨gb522, 0, none⟩ = some (.int .i64 0) := (blk_cell BK522.out 0).trans rfl; have hcz32_1 : w31.cell? ⟨gb522, 1, none⟩ = some (.int .i64 0) := (blk_cell BK522.out 1).trans rfl; have hfz32_0 := blk_frozen BK522.out 0; have hfz32_1 := blk_frozen BK522.out 1; obtain ⟨Ao33, co33, eo33⟩ := Kd.R_slice HO519.out; subst eo33) | ((with_reducible refine gate_callee (f := 60) rfl ?_); refine goesL_ (some 97) rfl rfl Try.func60 (by kernel_rfl) rfl #[.slice Ao33 t517.length co33, .agg #[.int .i64 t520, .int .i64 t521]] rfl (by (try simp only [List.map_toArray, List.map_cons, List.map_nil]); first | done | rfl | (simp only [List.length_drop, List.length_take]; rfl)) ?_; (with_reducible refine (impl_InsideOf.calls k _ _ t517 t520 t521 t523 t524 _ ?side1 ?side2 A13.out).mono ?_); (case side1 => refine (Kd.R_reads' (e := 44) (base := w.heap.size) (ok := fun k_ => (((((((True ∧ some k_ ≠ (.slice Ao22 t489.length co22 : Value).ownBlock) ∧ some k_ ≠ (v498 : Value).ownBlock) ∧ some k_ ≠ (v502 : Value).ownBlock) ∧ some k_ ≠ (.slice Ao27 t504.length co27 : Value).ownBlock) ∧ some k_ ≠ (v511 : Value).ownBlock) ∧ some k_ ≠ (v515 : Value).ownBlock) ∧ k_ ≠ gb522)) (n := t517.length) (c := co33) ?_).2.2; exact (by (with_reducible repeat (first | apply Kd.R_alloc | apply Kd.R_drewN | apply Kd.R_drew)); exact (Kd.R_mono (Kd.R_far (p := ⟨gb522, 1, none⟩) (Kd.R_far (p := ⟨gb522, 0, none⟩) (Kd.R_mono HO519.out (fun k_ hk => (⟨hk, hk.2⟩ : _ ∧ k_ ≠ gb522))) (fun _ hk => hk.2) (.int .i64 t520)) (fun _ hk => hk.2) (.int .i64 t521)) (fun _ h_ => h_.1)))); (case side2 => exact (Kd.R_reads' HO519.out).2.1); rintro e w34 ⟨rfl, hb⟩; refine ⟨_, rfl, ?_⟩; have n0_ := Aside0.mk (Kd.R_below (by (with_reducible repeat (first | apply Kd.R_alloc | apply Kd.R_drewN | apply Kd.R_drew)); exact (Kd.R_mono (Kd.R_far (p := ⟨gb522, 1, none⟩) (Kd.R_far (p := ⟨gb522, 0, none⟩) (Kd.R_mono HO491.out (fun k_ hk => (⟨hk, hk.2⟩ : _ ∧ k_ ≠ gb522))) (fun _ hk => hk.2) (.int .i64 t520)) (fun _ hk => hk.2) (.int .i64 t521)) (fun _ h_ => h_.1))) hb); have n1_ := Aside0.mk (Kd.R_below (by (with_reducible repeat (first | apply Kd.R_alloc | apply Kd.R_drewN | apply Kd.R_drew)); exact (Kd.R_mono (Kd.R_far (p := ⟨gb522, 1, none⟩) (Kd.R_far (p := ⟨gb522, 0, none⟩) (Kd.R_mono HO499.out (fun k_ hk => (⟨hk, hk.2⟩ : _ ∧ k_ ≠ gb522))) (fun _ hk => hk.2) (.int .i64 t520)) (fun _ hk => hk.2) (.int .i64 t521)) (fun _ h_ => h_.1))) hb); have n2_ := Aside0.mk (Kd.R_below (by (with_reducible repeat (first | apply Kd.R_alloc | apply Kd.R_drewN | apply Kd.R_drew)); exact (Kd.R_mono (Kd.R_far (p := ⟨gb522, 1, none⟩) (Kd.R_far (p := ⟨gb522, 0, none⟩) (Kd.R_mono HO503.out (fun k_ hk => (⟨hk, hk.2⟩ : _ ∧ k_ ≠ gb522))) (fun _ hk => hk.2) (.int .i64 t520)) (fun _ hk => hk.2) (.int .i64 t521)) (fun _ h_ => h_.1))) hb); have n3_ := Aside0.mk (Kd.R_below (by (with_reducible repeat (first | apply Kd.R_alloc | apply Kd.R_drewN | apply Kd.R_drew)); exact (Kd.R_mono (Kd.R_far (p := ⟨gb522, 1, none⟩) (Kd.R_far (p := ⟨gb522, 0, none⟩) (Kd.R_mono HO508.out (fun k_ hk => (⟨hk, hk.2⟩ : _ ∧ k_ ≠ gb522))) (fun _ hk => hk.2) (.int .i64 t520)) (fun _ hk => hk.2) (.int .i64 t521)) (fun _ h_ => h_.1))) hb); have n4_ := Aside0.mk (Kd.R_below (by (with_reducible repeat (first | apply Kd.R_alloc | apply Kd.R_drewN | apply Kd.R_drew)); exact (Kd.R_mono (Kd.R_far (p := ⟨gb522, 1, none⟩) (Kd.R_far (p := ⟨gb522, 0, none⟩) (Kd.R_mono HO512.out (fun k_ hk => (⟨hk, hk.2⟩ : _ ∧ k_ ≠ gb522))) (fun _ hk => hk.2) (.int .i64 t520)) (fun _ hk => hk.2) (.int .i64 t521)) (fun _ h_ => h_.1))) hb); have n5_ := Aside0.mk (Kd.R_below (by (with_reducible repeat (first | apply Kd.R_alloc | apply Kd.R_drewN | apply Kd.R_drew)); exact (Kd.R_mono (Kd.R_far (p := ⟨gb522, 1, none⟩) (Kd.R_far (p := ⟨gb522, 0, none⟩) (Kd.R_mono HO516.out (fun k_ hk => (⟨hk, hk.2⟩ : _ ∧ k_ ≠ gb522))) (fun _ hk => hk.2) (.int .i64 t520)) (fun _ hk => hk.2) (.int .i64 t521)) (fun _ h_ => h_.1))) hb); have n6_ := Aside0.mk (Kd.R_below (by (with_reducible repeat (first | apply Kd.R_alloc | apply Kd.R_drewN | apply Kd.R_drew)); exact (Kd.R_mono (Kd.R_far (p := ⟨gb522, 1, none⟩) (Kd.R_far (p := ⟨gb522, 0, none⟩) (Kd.R_mono HO519.out (fun k_ hk => (⟨hk, hk.2⟩ : _ ∧ k_ ≠ gb522))) (fun _ hk => hk.2) (.int .i64 t520)) (fun _ hk => hk.2) (.int .i64 t521)) (fun _ h_ => h_.1))) hb); have n7_ := Aside0.mk (blk_below (g := gb522) (o := .cells #[.int .i64 t520, .int .i64 t521] 44 (0, 0)) (by (with_reducible repeat (first | refine blk_drewN ?_ _ | refine blk_drew ?_ | refine blk_alloc ?_ _)); refine blk_put (cs := #[.int .i64 t520, .int .i64 0]) ?_ 1 _ rfl; (with_reducible repeat (first | refine blk_drewN ?_ _ | refine blk_drew ?_ | refine blk_alloc ?_ _)); refine blk_put (cs := #[.int .i64 0, .int .i64 0]) ?_ 0 _ rfl; (with_reducible repeat (first | refine blk_drewN ?_ _ | refine blk_drew ?_ | refine blk_alloc ?_ _)); exact BK522.out) hb); have n8_ := Aside0.mk (below_step (by repeat (first | (with_reducible first | exact HB.out | apply below_alloc | apply pw_below_drewN | apply below_drew1 | refine below_set ?_ GE522.out) | exact HB.out)) hb); clear HO491; clear HO499; clear HO503; clear HO508; clear HO512; clear HO516; clear HO519; clear BK522; clear HB; have HO491 := n0_; have HO499 := n1_; have HO503 := n2_; have HO508 := n3_; have HO512 := n4_; have HO516 := n5_; have HO519 := n6_; have BK522 := n7_; have HB := n8_; clear n0_ n1_ n2_ n3_ n4_ n5_ n6_ n7_ n8_; (try clear hb); (try clear hb2); (try clear hk); (try clear hi); have hcz35_0 : w34.cell? ⟨gb522, 0, none⟩ = some (.int .i64 t520) := (blk_cell BK522.out 0).trans rfl; have hcz35_1 : w34.cell? ⟨gb522, 1, none⟩ = some (.int .i64 t521) := (blk_cell BK522.out 1).trans rfl; have hfz35_0 := blk_frozen BK522.out 0; have hfz35_1 := blk_frozen BK522.out 1) | ((with_reducible refine gate_callee (f := 61) rfl ?_); refine goesL_ (some 103) rfl rfl Try.func61 (by kernel_rfl) rfl #[.slice Ao33 t517.length co33, .agg #[.int .i64 t520, .int .i64 t521]] rfl (by (try simp only [List.map_toArray, List.map_cons, List.map_nil]); first | done | rfl | (simp only [List.length_drop, List.length_take]; rfl)) ?_; (with_reducible refine (spec_InsideOf.calls k _ _ t517 t520 t521 t525 t526 _ ?side1 ?side2 A14.out).mono ?_); (case side1 => repeat (first | exact (Kd.R_reads' HO519.out).2.2 | (with_reducible refine Kd.C_alloc ?_ _) | (with_reducible refine Kd.C_drewN ?_ _) | (with_reducible refine Kd.C_drew ?_))); (case side2 => exact (Kd.R_reads' HO519.out).2.1); rintro e w36 ⟨rfl, hb⟩; refine ⟨_, rfl, ?_⟩; have n0_ := Aside0.mk (Kd.R_below (by (with_reducible repeat (first | apply Kd.R_alloc | apply Kd.R_drewN | apply Kd.R_drew)); exact HO491.out) hb); have n1_ := Aside0.mk (Kd.R_below (by (with_reducible repeat (first | apply Kd.R_alloc | apply Kd.R_drewN | apply Kd.R_drew)); exact HO499.out) hb); have n2_ := Aside0.mk (Kd.R_below (by (with_reducible repeat (first | apply Kd.R_alloc | apply Kd.R_drewN | apply Kd.R_drew)); exact HO503.out) hb); have n3_ := Aside0.mk (Kd.R_below (by (with_reducible repeat (first | apply Kd.R_alloc | apply Kd.R_drewN | apply Kd.R_drew)); exact HO508.out) hb); have n4_ := Aside0.mk (Kd.R_below (by (with_reducible repeat (first | apply Kd.R_alloc | apply Kd.R_drewN | apply Kd.R_drew)); exact HO512.out) hb); have n5_ := Aside0.mk (Kd.R_below (by (with_reducible repeat (first | apply Kd.R_alloc | apply Kd.R_drewN | apply Kd.R_drew)); exact HO516.out) hb); have n6_ := Aside0.mk (Kd.R_below (by (with_reducible repeat (first | apply Kd.R_alloc | apply Kd.R_drewN | apply Kd.R_drew)); exact HO519.out) hb); have n7_ := Aside0.mk (blk_below (g := gb522) (o := .cells #[.int .i64 t520, .int .i64 t521] 44 (0, 0)) (by (with_reducible repeat (first | refine blk_drewN ?_ _ | refine blk_drew ?_ | refine blk_alloc ?_ _)); exact BK522.out) hb); have n8_ := Aside0.mk (below_step (by repeat (first | (with_reducible first | exact HB.out | apply below_alloc | apply pw_below_drewN | apply below_drew1 | refine below_set ?_ GE522.out) | exact HB.out)) hb); clear HO491; clear HO499; clear HO503; clear HO508; clear HO512; clear HO516; clear HO519; clear BK522; clear HB; have HO491 := n0_; have HO499 := n1_; have HO503 := n2_; have HO508 := n3_; have HO512 := n4_; have HO516 := n5_; have HO519 := n6_; have BK522 := n7_; have HB := n8_; clear n0_ n1_ n2_ n3_ n4_ n5_ n6_ n7_ n8_; (try clear hb); (try clear hb2); (try clear hk); (try clear hi)) | ((with_reducible refine gate_callee (f := 62) rfl ?_); refine goesL_ (some 107) rfl rfl Try.func62 (by kernel_rfl) rfl #[.slice A0 l0.length c0] rfl (by (try simp only [List.map_toArray, List.map_cons, List.map_nil]); first | done | rfl | (simp only [List.length_drop, List.length_take]; rfl)) ?_; (with_reducible refine (spec_DrawGreatestOutline.calls k _ _ l0 t527 _ ?side1 ?side2 A15.out).mono ?_); (case side1 => repeat (first | exact (Kd.C_below HR0.out HB.out) | (with_reducible refine Kd.C_alloc ?_ _) | (with_reducible refine Kd.C_drewN ?_ _) | (with_reducible refine Kd.C_drew ?_))); (case side2 => exact HC0.out); rintro e w37 ⟨v528, rfl, ho0, hb⟩; refine ⟨_, rfl, ?_⟩; have n0_ := Aside0.mk (Kd.R_below (by (with_reducible repeat (first | apply Kd.R_alloc | apply Kd.R_drewN | apply Kd.R_drew)); exact HO491.out) hb); have n1_ := Aside0.mk (Kd.R_below (by (with_reducible repeat (first | apply Kd.R_alloc | apply Kd.R_drewN | apply Kd.R_drew)); exact HO499.out) hb); have n2_ := Aside0.mk (Kd.R_below (by (with_reducible repeat (first | apply Kd.R_alloc | apply Kd.R_drewN | apply Kd.R_drew)); exact HO503.out) hb); have n3_ := Aside0.mk (Kd.R_below (by (with_reducible repeat (first | apply Kd.R_alloc | apply Kd.R_drewN | apply Kd.R_drew)); exact HO508.out) hb); have n4_ := Aside0.mk (Kd.R_below (by (with_reducible repeat (first | apply Kd.R_alloc | apply Kd.R_drewN | apply Kd.R_drew)); exact HO512.out) hb); have n5_ := Aside0.mk (Kd.R_below (by (with_reducible repeat (first | apply Kd.R_alloc | apply Kd.R_drewN | apply Kd.R_drew)); exact HO516.out) hb); have n6_ := Aside0.mk (Kd.R_below (by (with_reducible repeat (first | apply Kd.R_alloc | apply Kd.R_drewN | apply Kd.R_drew)); exact HO519.out) hb); have n7_ := Aside0.mk (Kd.S_lower (Kd.S_newB (Kd.S_new' (Kd.S_new' (Kd.S_new' (Kd.S_new' (Kd.S_new' (Kd.S_new' (Kd.S_new' ho0 (Kd.R_lt (by (with_reducible repeat (first | apply Kd.R_alloc | apply Kd.R_drewN | apply Kd.R_drew)); exact HO491.out))) (Kd.R_lt (by (with_reducible repeat (first | apply Kd.R_alloc | apply Kd.R_drewN | apply Kd.R_drew)); exact HO499.out))) (Kd.R_lt (by (with_reducible repeat (first | apply Kd.R_alloc | apply Kd.R_drewN | apply Kd.R_drew)); exact HO503.out))) (Kd.R_lt (by (with_reducible repeat (first | apply Kd.R_alloc | apply Kd.R_drewN | apply Kd.R_drew)); exact HO508.out))) (Kd.R_lt (by (with_reducible repeat (first | apply Kd.R_alloc | apply Kd.R_drewN | apply Kd.R_drew)); exact HO512.out))) (Kd.R_lt (by (with_reducible repeat (first | apply Kd.R_alloc | apply Kd.R_drewN | apply Kd.R_drew)); exact HO516.out))) (Kd.R_lt (by (with_reducible repeat (first | apply Kd.R_alloc | apply Kd.R_drewN | apply Kd.R_drew)); exact HO519.out))) (g := gb522) (o := .cells #[.int .i64 t520, .int .i64 t521] 44 (0, 0)) (by (with_reducible repeat (first | refine blk_drewN ?_ _ | refine blk_drew ?_ | refine blk_alloc ?_ _)); exact BK522.out)) (below_size (by repeat (first | (with_reducible first | exact HB.out | apply below_alloc | apply pw_below_drewN | apply below_drew1 | refine below_set ?_ GE522.out) | exact HB.out)))); have n8_ := Aside0.mk (blk_below (g := gb522) (o := .cells #[.int .i64 t520, .int .i64 t521] 44 (0, 0)) (by (with_reducible repeat (first | refine blk_drewN ?_ _ | refine blk_drew ?_ | refine blk_alloc ?_ _)); exact BK522.out) hb); have n9_ := Aside0.mk (below_step (by repeat (first | (with_reducible first | exact HB.out | apply below_alloc | apply pw_below_drewN | apply below_drew1 | refine below_set ?_ GE522.out) | exact HB.out)) hb); clear HO491; clear HO499; clear HO503; clear HO508; clear HO512; clear HO516; clear HO519; clear BK522; clear HB; have HO491 := n0_; have HO499 := n1_; have HO503 := n2_; have HO508 := n3_; have HO512 := n4_; have HO516 := n5_; have HO519 := n6_; have HO529 := n7_; have BK522 := n8_; have HB := n9_; clear n0_ n1_ n2_ n3_ n4_ n5_ n6_ n7_ n8_ n9_; (try clear hb); (try clear hb2); (try clear hk); (try clear hi); (try clear ho0); obtain ⟨Ao38, co38, eo38⟩ := Kd.S_slice HO529.out; subst eo38) | ((with_reducible refine gate_callee (f := 63) rfl ?_); refine goesL_ (some 110) rfl rfl Try.func63 (by kernel_rfl) rfl #[.slice Ao38 t527.length co38] rfl (by (try simp only [List.map_toArray, List.map_cons, List.map_nil]); first | done | rfl | (simp only [List.length_drop, List.length_take]; rfl)) ?_; (with_reducible refine (impl_GreatestOutline.calls k _ _ t527 t530 t531 _ ?side1 ?side2 A16.out).mono ?_); (case side1 => repeat (first | exact (Kd.S_reads' HO529.out).2.2 | (with_reducible refine Kd.C_alloc ?_ _) | (with_reducible refine Kd.C_drewN ?_ _) | (with_reducible refine Kd.C_drew ?_))); (case side2 => exact (Kd.S_reads' HO529.out).2.1); rintro e w39 ⟨rfl, hb⟩; refine ⟨_, rfl, ?_⟩; have n0_ := Aside0.mk (Kd.R_below (by (with_reducible repeat (first | apply Kd.R_alloc | apply Kd.R_drewN | apply Kd.R_drew)); exact HO491.out) hb); have n1_ := Aside0.mk (Kd.R_below (by (with_reducible repeat (first | apply Kd.R_alloc | apply Kd.R_drewN | apply Kd.R_drew)); exact HO499.out) hb); have n2_ := Aside0.mk (Kd.R_below (by (with_reducible repeat (first | apply Kd.R_alloc | apply Kd.R_drewN | apply Kd.R_drew)); exact HO503.out) hb); have n3_ := Aside0.mk (Kd.R_below (by (with_reducible repeat (first | apply Kd.R_alloc | apply Kd.R_drewN | apply Kd.R_drew)); exact HO508.out) hb); have n4_ := Aside0.mk (Kd.R_below (by (with_reducible repeat (first | apply Kd.R_alloc | apply Kd.R_drewN | apply Kd.R_drew)); exact HO512.out) hb); have n5_ := Aside0.mk (Kd.R_below (by (with_reducible repeat (first | apply Kd.R_alloc | apply Kd.R_drewN | apply Kd.R_drew)); exact HO516.out) hb); have n6_ := Aside0.mk (Kd.R_below (by (with_reducible repeat (first | apply Kd.R_alloc | apply Kd.R_drewN | apply Kd.R_drew)); exact HO519.out) hb); have n7_ := Aside0.mk (Kd.S_below (by (with_reducible repeat (first | apply Kd.S_alloc | apply Kd.S_drewN | apply Kd.S_drew)); exact HO529.out) hb); have n8_ := Aside0.mk (blk_below (g := gb522) (o := .cells #[.int .i64 t520, .int .i64 t521] 44 (0, 0)) (by (with_reducible repeat (first | refine blk_drewN ?_ _ | refine blk_drew ?_ | refine blk_alloc ?_ _)); exact BK522.out) hb); have n9_ := Aside0.mk (below_step (by repeat (first | (with_reducible first | exact HB.out | apply below_alloc | apply pw_below_drewN | apply below_drew1 | refine below_set ?_ GE522.out) | exact HB.out)) hb); clear HO491; clear HO499; clear HO503; clear HO508; clear HO512; clear HO516; clear HO519; clear HO529; clear BK522; clear HB; have HO491 := n0_; have HO499 := n1_; have HO503 := n2_; have HO508 := n3_; have HO512 := n4_; have HO516 := n5_; have HO519 := n6_; have HO529 := n7_; have BK522 := n8_; have HB := n9_; clear n0_ n1_ n2_ n3_ n4_ n5_ n6_ n7_ n8_ n9_; (try clear hb); (try clear hb2); (try clear hk); (try clear hi)) | ((with_reducible refine gate_callee (f := 64) rfl ?_); refine goesL_ (some 115) rfl rfl Try.func64 (by kernel_rfl) rfl #[.slice Ao38 t527.length co38] rfl (by (try simp only [List.map_toArray, List.map_cons, List.map_nil]); first | done | rfl | (simp only [List.length_drop, List.length_take]; rfl)) ?_; (with_reducible refine (spec_GreatestOutline.calls k _ _ t527 t532 t533 _ ?side1 ?side2 A17.out).mono ?_); (case side1 => repeat (first | exact (Kd.S_reads' HO529.out).2.2 | (with_reducible refine Kd.C_alloc ?_ _) | (with_reducible refine Kd.C_drewN ?_ _) | (with_reducible refine Kd.C_drew ?_))); (case side2 => exact (Kd.S_reads' HO529.out).2.1); rintro e w' ⟨rfl, ⟨nd, rfl⟩⟩; refine ⟨_, rfl, ?_⟩) | ((with_reducible refine gate_callee (f := 65) rfl ?_); refine goesL_ (some 120) rfl rfl Try.func65 (by kernel_rfl) rfl #[.slice Ao22 t489.length co22] rfl (by (try simp only [List.map_toArray, List.map_cons, List.map_nil]); first | done | rfl | (simp only [List.length_drop, List.length_take]; rfl)) ?_; (with_reducible refine (impl_IsClosed.calls k _ _ t489 t534 t535 _ ?side1 ?side2 A18.out).mono ?_); (case side1 => repeat (first | exact (Kd.R_reads' HO491.out).2.2 | (with_reducible refine Kd.C_alloc ?_ _) | (with_reducible refine Kd.C_drewN ?_ _) | (with_reducible refine Kd.C_drew ?_))); (case side2 => exact (Kd.R_reads' HO491.out).2.1); rintro e w40 ⟨rfl, hb⟩; refine ⟨_, rfl, ?_⟩; have n0_ := Aside0.mk (Kd.R_below (by (with_reducible repeat (first | apply Kd.R_alloc | apply Kd.R_drewN | apply Kd.R_drew)); exact HO491.out) hb); have n1_ := Aside0.mk (Kd.R_below (by (with_reducible repeat (first | apply Kd.R_alloc | apply Kd.R_drewN | apply Kd.R_drew)); exact HO499.out) hb); have n2_ := Aside0.mk (Kd.R_below (by (with_reducible repeat (first | apply Kd.R_alloc | apply Kd.R_drewN | apply Kd.R_drew)); exact HO503.out) hb); have n3_ := Aside0.mk (Kd.R_below (by (with_reducible repeat (first | apply Kd.R_alloc | apply Kd.R_drewN | apply Kd.R_drew)); exact HO508.out) hb); have n4_ := Aside0.mk (Kd.R_below (by (with_reducible repeat (first | apply Kd.R_alloc | apply Kd.R_drewN | apply Kd.R_drew)); exact HO512.out) hb); have n5_ := Aside0.mk (Kd.R_below (by (with_reducible repeat (first | apply Kd.R_alloc | apply Kd.R_drewN | apply Kd.R_drew)); exact HO516.out) hb); have n6_ := Aside0.mk (Kd.R_below (by (with_reducible repeat (first | apply Kd.R_alloc | apply Kd.R_drewN | apply Kd.R_drew)); exact HO519.out) hb); have n7_ := Aside0.mk (Kd.S_below (by (with_reducible repeat (first | apply Kd.S_alloc | apply Kd.S_drewN | apply Kd.S_drew)); exact HO529.out) hb); have n8_ := Aside0.mk (blk_below (g := gb522) (o := .cells #[.int .i64 t520, .int .i64 t521] 44 (0, 0)) (by (with_reducible repeat (first | refine blk_drewN ?_ _ | refine blk_drew ?_ | refine blk_alloc ?_ _)); exact BK522.out) hb); have n9_ := Aside0.mk (below_step (by repeat (first | (with_reducible first | exact HB.out | apply below_alloc | apply pw_below_drewN | apply below_drew1 | refine below_set ?_ GE522.out) | exact HB.out)) hb); clear HO491; clear HO499; clear HO503; clear HO508; clear HO512; clear HO516; clear HO519; clear HO529; clear BK522; clear HB; have HO491 := n0_; have HO499 := n1_; have HO503 := n2_; have HO508 := n3_; have HO512 := n4_; have HO516 := n5_; have HO519 := n6_; have HO529 := n7_; have BK522 := n8_; have HB := n9_; clear n0_ n1_ n2_ n3_ n4_ n5_ n6_ n7_ n8_ n9_; (try clear hb); (try clear hb2); (try clear hk); (try clear hi)) | ((with_reducible refine gate_callee (f := 66) rfl ?_); refine goesL_ (some 125) rfl rfl Try.func66 (by kernel_rfl) rfl #[.slice Ao22 t489.length co22] rfl (by (try simp only [List.map_toArray, List.map_cons, List.map_nil]); first | done | rfl | (simp only [List.length_drop, List.length_take]; rfl)) ?_; (with_reducible refine (spec_IsClosed.calls k _ _ t489 t536 t537 _ ?side1 ?side2 A19.out).mono ?_); (case side1 => repeat (first | exact (Kd.R_reads' HO491.out).2.2 | (with_reducible refine Kd.C_alloc ?_ _) | (with_reducible refine Kd.C_drewN ?_ _) | (with_reducible refine Kd.C_drew ?_))); (case side2 => exact (Kd.R_reads' HO491.out).2.1); rintro e w' ⟨rfl, ⟨nd, rfl⟩⟩; refine ⟨_, rfl, ?_⟩))
  (try simp only [Act.put, List.setIfInBounds_toArray, List.set_cons_zero, List.set_cons_succ])
  go_cut [187] (fun v187 wc => ∃ (kq : Nat) (x187_19 : Bool), v187 = .bool x187_19 ∧ Aside0 (laws_FnOutlines.j0 kq t493 t494 t496 t504 t509 t510 t527 t531 t532 t535 t536 x187_19 = some r) ∧ Aside0 (kq ≤ k) ∧ Aside0 (Kd.R k44 44 wc w.heap.size (fun k_ => some k_ ≠ ((.slice Ao27 t504.length co27) : Value).ownBlock ∧ some k_ ≠ (v511 : Value).ownBlock ∧ k_ ≠ gb522) v498 t496) ∧ Aside0 (Kd.R k44 44 wc w.heap.size (fun k_ => some k_ ≠ (v498 : Value).ownBlock ∧ some k_ ≠ (v511 : Value).ownBlock ∧ k_ ≠ gb522) (.slice Ao27 t504.length co27) t504) ∧ Aside0 (Kd.R k44 44 wc w.heap.size (fun k_ => some k_ ≠ (v498 : Value).ownBlock ∧ some k_ ≠ ((.slice Ao27 t504.length co27) : Value).ownBlock ∧ k_ ≠ gb522) v511 t509) ∧ Aside0 (Kd.S (Kd.slice 44 k44) 26 wc w.heap.size (fun k_ => some k_ ≠ (v498 : Value).ownBlock ∧ some k_ ≠ ((.slice Ao27 t504.length co27) : Value).ownBlock ∧ some k_ ≠ (v511 : Value).ownBlock ∧ k_ ≠ gb522) (.slice Ao38 t527.length co38) t527) ∧ Aside0 (wc.heap[gb522]? = some (.cells #[.int .i64 t520, .int .i64 t521] 44 (0, 0))) ∧ Aside0 (Below w.heap.size w wc))
  case first =>
   have H := HC20.out
   clear HC20
   by_cases c41 : t493 = t495
   ·as_aux_lemma =>
    rw [if_pos c41] at H
    have c41b0 : (t493 == t495) = true := beq_iff_eq.mpr c41
    have c41b1 : (t493 != t495) = false := bne_eq_false_iff_eq.mpr c41
    clear c41
    (first | rw [c41b0] | (simp only [i64_w, i32_w]; rw [c41b0]) | skip)
    by_cases c42 : t492 = t494
    ·as_aux_lemma =>
     rw [if_pos c42] at H
     have c42b0 : (t492 == t494) = true := beq_iff_eq.mpr c42
     have c42b1 : (t492 != t494) = false := bne_eq_false_iff_eq.mpr c42
     clear c42
     by_cases c43 : t497 = t501
     ·as_aux_lemma =>
      rw [if_pos c43] at H
      have c43b0 : (t497 == t501) = true := beq_iff_eq.mpr c43
      have c43b1 : (t497 != t501) = false := bne_eq_false_iff_eq.mpr c43
      clear c43
      replace H := Option.bind_eq_some_iff.mp H
      obtain ⟨t538, A440, H⟩ := H
      replace H : (if t538 = true then (if t510 = t514 then ((spec_SameChain.f k t509 t513).bind fun t539 => (if t539 = true then (if t524 = t526 then (if (t523 != t525) = true then (none) else (if t531 = t533 then (if t530 = t532 then (if t535 = t537 then (laws_FnOutlines.j0 k t493 t494 t496 t504 t509 t510 t527 t531 t532 t535 t536 (t534 != t536)) else (none)) else (none)) else (none))) else (none)) else (none))) else (none)) else (none)) = some r := H
      have A44 := Aside0.mk A440
      clear A440
      by_cases c45 : t538 = true
      ·as_aux_lemma =>
       subst c45
       have H1 : (if t510 = t514 then ((spec_SameChain.f k t509 t513).bind fun t539 => (if t539 = true then (if t524 = t526 then (if (t523 != t525) = true then (none) else (if t531 = t533 then (if t530 = t532 then (if t535 = t537 then (laws_FnOutlines.j0 k t493 t494 t496 t504 t509 t510 t527 t531 t532 t535 t536 (t534 != t536)) else (none)) else (none)) else (none))) else (none)) else (none))) else (none)) = some r := by rw [if_pos rfl] at H; exact H
       clear H
       have H := H1
       clear H1
       by_cases c46 : t510 = t514
       ·as_aux_lemma =>
        rw [if_pos c46] at H
        have c46b0 : (t510 == t514) = true := beq_iff_eq.mpr c46
        have c46b1 : (t510 != t514) = false := bne_eq_false_iff_eq.mpr c46
        clear c46
        replace H := Option.bind_eq_some_iff.mp H
        obtain ⟨t539, A470, H⟩ := H
        replace H : (if t539 = true then (if t524 = t526 then (if (t523 != t525) = true then (none) else (if t531 = t533 then (if t530 = t532 then (if t535 = t537 then (laws_FnOutlines.j0 k t493 t494 t496 t504 t509 t510 t527 t531 t532 t535 t536 (t534 != t536)) else (none)) else (none)) else (none))) else (none)) else (none)) = some r := H
        have A47 := Aside0.mk A470
        clear A470
        by_cases c48 : t539 = true
        ·as_aux_lemma =>
         subst c48
         have H1 : (if t524 = t526 then (if (t523 != t525) = true then (none) else (if t531 = t533 then (if t530 = t532 then (if t535 = t537 then (laws_FnOutlines.j0 k t493 t494 t496 t504 t509 t510 t527 t531 t532 t535 t536 (t534 != t536)) else (none)) else (none)) else (none))) else (none)) = some r := by rw [if_pos rfl] at H; exact H
         clear H
         have H := H1
         clear H1
         by_cases c49 : t524 = t526
         ·as_aux_lemma =>
          rw [if_pos c49] at H
          have c49b0 : (t524 == t526) = true := beq_iff_eq.mpr c49
          have c49b1 : (t524 != t526) = false := bne_eq_false_iff_eq.mpr c49
          clear c49
          by_cases c50 : (t523 != t525) = true
          ·as_aux_lemma =>
           rw [if_pos c50] at H
           exact absurd H (by simp)
          ·as_aux_lemma =>
           rw [if_neg c50] at H
           have c50b0 : (t523 != t525) = false := by simpa using c50
           (try (have c50b1 : decide (t523 = t525) = true := by simpa using c50))
           (try (have c50b2 : (t523 == t525) = true := by simpa using c50))
           clear c50
           by_cases c51 : t531 = t533
           ·as_aux_lemma =>
            rw [if_pos c51] at H
            have c51b0 : (t531 == t533) = true := beq_iff_eq.mpr c51
            have c51b1 : (t531 != t533) = false := bne_eq_false_iff_eq.mpr c51
            clear c51
            by_cases c52 : t530 = t532
            ·as_aux_lemma =>
             rw [if_pos c52] at H
             have c52b0 : (t530 == t532) = true := beq_iff_eq.mpr c52
             have c52b1 : (t530 != t532) = false := bne_eq_false_iff_eq.mpr c52
             clear c52
             by_cases c53 : t535 = t537
             ·as_aux_lemma =>
              rw [if_pos c53] at H
              have c53b0 : (t535 == t537) = true := beq_iff_eq.mpr c53
              have c53b1 : (t535 != t537) = false := bne_eq_false_iff_eq.mpr c53
              clear c53
              have H' := Aside0.mk H
              clear H
              obtain ⟨Ao54, co54, eo54⟩ := Kd.R_slice HO499.out
              subst eo54
              obtain ⟨Ao55, co55, eo55⟩ := Kd.R_slice HO503.out
              subst eo55
              go_wp2_with (first | (go_at_call 46; (with_reducible refine (spec_SameChain.calls k _ _ t496 _ _ t500 true _ ?side1 ?side2 ?side3 ?side4 A44.out).mono ?_); (case side1 => repeat (first | exact (Kd.R_reads' HO499.out).2.2 | (with_reducible refine Kd.C_alloc ?_ _) | (with_reducible refine Kd.C_drewN ?_ _) | (with_reducible refine Kd.C_drew ?_))); (case side2 => exact (Kd.R_reads' HO499.out).2.1); (case side3 => repeat (first | exact (Kd.R_reads' HO503.out).2.2 | (with_reducible refine Kd.C_alloc ?_ _) | (with_reducible refine Kd.C_drewN ?_ _) | (with_reducible refine Kd.C_drew ?_))); (case side4 => exact (Kd.R_reads' HO503.out).2.1); rintro e w' ⟨rfl, ⟨nd, rfl⟩⟩; obtain ⟨Ao56, co56, eo56⟩ := Kd.R_slice HO512.out; subst eo56; obtain ⟨Ao57, co57, eo57⟩ := Kd.R_slice HO516.out; subst eo57) | (go_at_call 46; (with_reducible refine (spec_SameChain.calls k _ _ t509 _ _ t513 true _ ?side1 ?side2 ?side3 ?side4 A47.out).mono ?_); (case side1 => repeat (first | exact (Kd.R_reads' HO512.out).2.2 | (with_reducible refine Kd.C_alloc ?_ _) | (with_reducible refine Kd.C_drewN ?_ _) | (with_reducible refine Kd.C_drew ?_))); (case side2 => exact (Kd.R_reads' HO512.out).2.1); (case side3 => repeat (first | exact (Kd.R_reads' HO516.out).2.2 | (with_reducible refine Kd.C_alloc ?_ _) | (with_reducible refine Kd.C_drewN ?_ _) | (with_reducible refine Kd.C_drew ?_))); (case side4 => exact (Kd.R_reads' HO516.out).2.1); rintro e w' ⟨rfl, ⟨nd, rfl⟩⟩))
              go_meet
              case rel => exact ⟨_, ((t534 != t536)), (by first | rfl | (simp; done) | (simp [*]; done)), H', ⟨by first | omega | exact Nat.le_refl _⟩, ⟨by (with_reducible repeat (first | apply Kd.R_alloc | apply Kd.R_drewN | apply Kd.R_drew)); exact Kd.R_mono HO499.out (fun _ hk => ⟨hk.1.1.1.1.2, ⟨hk.1.1.1.2, hk.2⟩⟩)⟩, ⟨by (with_reducible repeat (first | apply Kd.R_alloc | apply Kd.R_drewN | apply Kd.R_drew)); exact Kd.R_mono HO508.out (fun _ hk => ⟨hk.1.1.1.1.1.2, ⟨hk.1.1.1.2, hk.2⟩⟩)⟩, ⟨by (with_reducible repeat (first | apply Kd.R_alloc | apply Kd.R_drewN | apply Kd.R_drew)); exact Kd.R_mono HO512.out (fun _ hk => ⟨hk.1.1.1.1.1.2, ⟨hk.1.1.1.2, hk.2⟩⟩)⟩, ⟨by (with_reducible repeat (first | apply Kd.S_alloc | apply Kd.S_drewN | apply Kd.S_drew)); exact Kd.S_mono HO529.out (fun _ hk => ⟨hk.1.1.1.1.1.1.2, ⟨hk.1.1.1.1.2, ⟨hk.1.1.1.2, hk.2⟩⟩⟩)⟩, ⟨by (with_reducible repeat (first | refine blk_drewN ?_ _ | refine blk_drew ?_ | refine blk_alloc ?_ _)); exact BK522.out⟩, ⟨by repeat (first | (with_reducible first | exact HB.out | apply below_alloc | apply pw_below_drewN | apply below_drew1 | refine below_set ?_ GE522.out) | exact HB.out)⟩⟩
             ·as_aux_lemma =>
              rw [if_neg c53] at H
              exact absurd H (by simp)
            ·as_aux_lemma =>
             rw [if_neg c52] at H
             exact absurd H (by simp)
           ·as_aux_lemma =>
            rw [if_neg c51] at H
            exact absurd H (by simp)
         ·as_aux_lemma =>
          rw [if_neg c49] at H
          exact absurd H (by simp)
        ·as_aux_lemma =>
         replace c48 := Bool.eq_false_iff.mpr c48
         subst c48
         have H1 : (none) = some r := by rw [if_neg (show ¬ (false = true) by decide)] at H; exact H
         clear H
         have H := H1
         clear H1
         exact absurd H (by simp)
       ·as_aux_lemma =>
        rw [if_neg c46] at H
        exact absurd H (by simp)
      ·as_aux_lemma =>
       replace c45 := Bool.eq_false_iff.mpr c45
       subst c45
       have H1 : (none) = some r := by rw [if_neg (show ¬ (false = true) by decide)] at H; exact H
       clear H
       have H := H1
       clear H1
       exact absurd H (by simp)
     ·as_aux_lemma =>
      rw [if_neg c43] at H
      exact absurd H (by simp)
    ·as_aux_lemma =>
     rw [if_neg c42] at H
     exact absurd H (by simp)
   ·as_aux_lemma =>
    rw [if_neg c41] at H
    exact absurd H (by simp)
  case rest =>
   clear HC20
   try clear c1
   try clear p2
   try clear c3
   try clear c4
   try clear c5
   try clear c6
   try clear c12
   try clear c41
   try clear c41b0
   try clear c41b1
   try clear c42
   try clear c42b0
   try clear c42b1
   try clear c43
   try clear c43b0
   try clear c43b1
   try clear c45
   try clear c46
   try clear c46b0
   try clear c46b1
   try clear c48
   try clear c49
   try clear c49b0
   try clear c49b1
   try clear c50
   try clear c50b0
   try clear c50b1
   try clear c50b2
   try clear c51
   try clear c51b0
   try clear c51b1
   try clear c52
   try clear c52b0
   try clear c52b1
   try clear c53
   try clear c53b0
   try clear c53b1
   try clear c54
   try clear c55
   try clear c56
   try clear c57
   try clear hcz32_0
   try clear hcz32_1
   try clear hcz35_0
   try clear hcz35_1
   try clear hfz32_0
   try clear hfz32_1
   try clear hfz35_0
   try clear hfz35_1
   obtain ⟨kq, x187_19, rfl, HA, HJ19, HO_8, HO_12, HO_15, HO_25, BK522, HB⟩ := hcut
   cases kq with
   | zero => exact absurd HA.out (by simp [laws_FnOutlines.j0])
   | succ kj19 =>
    have H := HA.out
    clear HA
    simp only [laws_FnOutlines.j0] at H
    by_cases c58 : x187_19 = true
    ·as_aux_lemma =>
     subst c58
     have H1 : (none) = some r := by rw [if_pos rfl] at H; exact H
     clear H
     have H := H1
     clear H1
     exact absurd H (by simp)
    ·as_aux_lemma =>
     replace c58 := Bool.eq_false_iff.mpr c58
     subst c58
     have H1 : (if t535 = 0 then (laws_FnOutlines.j1 kj19 t493 t494 t496 t504 t509 t510 t527 t531 t532 (t536 != (t493 == 0))) else (laws_FnOutlines.j1 kj19 t493 t494 t496 t504 t509 t510 t527 t531 t532 false)) = some r := by rw [if_neg (show ¬ (false = true) by decide)] at H; exact H
     clear H
     have H := H1
     clear H1
     have HC59 := Aside0.mk H
     clear H
     go_upto_region 21 with (fail)
     go_cut [195] (fun v195 wc => ∃ (kq : Nat) (x195_58 : Bool), v195 = .bool x195_58 ∧ Aside0 (laws_FnOutlines.j1 kq t493 t494 t496 t504 t509 t510 t527 t531 t532 x195_58 = some r) ∧ Aside0 (kq ≤ kj19) ∧ Aside0 (Kd.R k44 44 wc w.heap.size (fun k_ => some k_ ≠ ((.slice Ao27 t504.length co27) : Value).ownBlock ∧ some k_ ≠ (v511 : Value).ownBlock ∧ k_ ≠ gb522) v498 t496) ∧ Aside0 (Kd.R k44 44 wc w.heap.size (fun k_ => some k_ ≠ (v498 : Value).ownBlock ∧ some k_ ≠ (v511 : Value).ownBlock ∧ k_ ≠ gb522) (.slice Ao27 t504.length co27) t504) ∧ Aside0 (Kd.R k44 44 wc w.heap.size (fun k_ => some k_ ≠ (v498 : Value).ownBlock ∧ some k_ ≠ ((.slice Ao27 t504.length co27) : Value).ownBlock ∧ k_ ≠ gb522) v511 t509) ∧ Aside0 (Kd.S (Kd.slice 44 k44) 26 wc w.heap.size (fun k_ => some k_ ≠ (v498 : Value).ownBlock ∧ some k_ ≠ ((.slice Ao27 t504.length co27) : Value).ownBlock ∧ some k_ ≠ (v511 : Value).ownBlock ∧ k_ ≠ gb522) (.slice Ao38 t527.length co38) t527) ∧ Aside0 (wc.heap[gb522]? = some (.cells #[.int .i64 t520, .int .i64 t521] 44 (0, 0))) ∧ Aside0 (Below w.heap.size w wc))
     case first =>
      have H := HC59.out
      clear HC59
      by_cases c60 : t535 = 0
      ·as_aux_lemma =>
       rw [if_pos c60] at H
       have c60b0 : (t535 == 0) = true := beq_iff_eq.mpr c60
       have c60b1 : (t535 != 0) = false := bne_eq_false_iff_eq.mpr c60
       clear c60
       (first | rw [c60b0] | (simp only [i64_w, i32_w]; rw [c60b0]) | skip)
       have H' := Aside0.mk H
       clear H
       go_wp2
       go_meet
       case rel => exact ⟨_, ((t536 != (t493 == 0))), (by first | rfl | (simp; done) | (simp [*]; done)), H', ⟨by have := HJ19.out; first | omega | exact Nat.le_refl _⟩, ⟨by (with_reducible repeat (first | apply Kd.R_alloc | apply Kd.R_drewN | apply Kd.R_drew)); exact HO_8.out⟩, ⟨by (with_reducible repeat (first | apply Kd.R_alloc | apply Kd.R_drewN | apply Kd.R_drew)); exact HO_12.out⟩, ⟨by (with_reducible repeat (first | apply Kd.R_alloc | apply Kd.R_drewN | apply Kd.R_drew)); exact HO_15.out⟩, ⟨by (with_reducible repeat (first | apply Kd.S_alloc | apply Kd.S_drewN | apply Kd.S_drew)); exact HO_25.out⟩, ⟨by (with_reducible repeat (first | refine blk_drewN ?_ _ | refine blk_drew ?_ | refine blk_alloc ?_ _)); exact BK522.out⟩, ⟨by repeat (first | (with_reducible first | exact HB.out | apply below_alloc | apply pw_below_drewN | apply below_drew1 | refine below_set ?_ GE522.out) | exact HB.out)⟩⟩
      ·as_aux_lemma =>
       rw [if_neg c60] at H
       have c60b0 : (t535 == 0) = false := beq_eq_false_iff_ne.mpr c60
       have c60b1 : (t535 != 0) = true := bne_iff_ne.mpr c60
       (first | rw [c60b0] | (simp only [i64_w, i32_w]; rw [c60b0]) | skip)
       have H' := Aside0.mk H
       clear H
       go_wp2
       go_meet
       case rel => exact ⟨_, (false), (by first | rfl | (simp; done) | (simp [*]; done)), H', ⟨by have := HJ19.out; first | omega | exact Nat.le_refl _⟩, ⟨by (with_reducible repeat (first | apply Kd.R_alloc | apply Kd.R_drewN | apply Kd.R_drew)); exact HO_8.out⟩, ⟨by (with_reducible repeat (first | apply Kd.R_alloc | apply Kd.R_drewN | apply Kd.R_drew)); exact HO_12.out⟩, ⟨by (with_reducible repeat (first | apply Kd.R_alloc | apply Kd.R_drewN | apply Kd.R_drew)); exact HO_15.out⟩, ⟨by (with_reducible repeat (first | apply Kd.S_alloc | apply Kd.S_drewN | apply Kd.S_drew)); exact HO_25.out⟩, ⟨by (with_reducible repeat (first | refine blk_drewN ?_ _ | refine blk_drew ?_ | refine blk_alloc ?_ _)); exact BK522.out⟩, ⟨by repeat (first | (with_reducible first | exact HB.out | apply below_alloc | apply pw_below_drewN | apply below_drew1 | refine below_set ?_ GE522.out) | exact HB.out)⟩⟩
     case rest =>
      clear HC59
      try clear c1
      try clear p2
      try clear c3
      try clear c4
      try clear c5
      try clear c6
      try clear c12
      try clear c41
      try clear c41b0
      try clear c41b1
      try clear c42
      try clear c42b0
      try clear c42b1
      try clear c43
      try clear c43b0
      try clear c43b1
      try clear c45
      try clear c46
      try clear c46b0
      try clear c46b1
      try clear c48
      try clear c49
      try clear c49b0
      try clear c49b1
      try clear c50
      try clear c50b0
      try clear c50b1
      try clear c50b2
      try clear c51
      try clear c51b0
      try clear c51b1
      try clear c52
      try clear c52b0
      try clear c52b1
      try clear c53
      try clear c53b0
      try clear c53b1
      try clear c54
      try clear c55
      try clear c56
      try clear c57
      try clear c58
      try clear c59
      try clear c60
      try clear c60b0
      try clear c60b1
      try clear hcz32_0
      try clear hcz32_1
      try clear hcz35_0
      try clear hcz35_1
      try clear hfz32_0
      try clear hfz32_1
      try clear hfz35_0
      try clear hfz35_1
      try clear p2
      obtain ⟨kq, x195_58, rfl, HA, HJ58, HO_8, HO_12, HO_15, HO_25, BK522, HB⟩ := hcut
      cases kq with
      | zero => exact absurd HA.out (by simp [laws_FnOutlines.j1])
      | succ kj58 =>
       have H := HA.out
       clear HA
       simp only [laws_FnOutlines.j1] at H
       by_cases c61 : x195_58 = true
       ·as_aux_lemma =>
        subst c61
        have H1 : (none) = some r := by rw [if_pos rfl] at H; exact H
        clear H
        have H := H1
        clear H1
        exact absurd H (by simp)
       ·as_aux_lemma =>
        replace c61 := Bool.eq_false_iff.mpr c61
        subst c61
        have H1 : (if t510 = 0 then ((spec_TwiceArea.f kj58 t504).bind fun bt540 => ((impl_TwiceArea.f kj58 t509).bind fun bt542 => (if bt540.2 = bt542.2 then (if bt540.1 = bt542.1 then (laws_FnOutlines.j2 kj58 t493 t494 t496 t527 t531 t532) else (none)) else (none)))) else (laws_FnOutlines.j2 kj58 t493 t494 t496 t527 t531 t532)) = some r := by rw [if_neg (show ¬ (false = true) by decide)] at H; exact H
        clear H
        have H := H1
        clear H1
        have HC62 := Aside0.mk H
        clear H
        go_upto_if 197 with (fail)
        go_cut [] (fun wc => ∃ (kq : Nat), Aside0 (laws_FnOutlines.j2 kq t493 t494 t496 t527 t531 t532 = some r) ∧ Aside0 (kq ≤ kj58) ∧ Aside0 (Kd.R k44 44 wc w.heap.size (fun k_ => k_ ≠ gb522) v498 t496) ∧ Aside0 (Kd.S (Kd.slice 44 k44) 26 wc w.heap.size (fun k_ => some k_ ≠ (v498 : Value).ownBlock ∧ k_ ≠ gb522) (.slice Ao38 t527.length co38) t527) ∧ Aside0 (wc.heap[gb522]? = some (.cells #[.int .i64 t520, .int .i64 t521] 44 (0, 0))) ∧ Aside0 (Below w.heap.size w wc))
        case first =>
         have H := HC62.out
         clear HC62
         by_cases c63 : t510 = 0
         ·as_aux_lemma =>
          rw [if_pos c63] at H
          have c63b0 : (t510 == 0) = true := beq_iff_eq.mpr c63
          have c63b1 : (t510 != 0) = false := bne_eq_false_iff_eq.mpr c63
          clear c63
          (first | rw [c63b0] | (simp only [i64_w, i32_w]; rw [c63b0]) | skip)
          replace H := Option.bind_eq_some_iff.mp H
          obtain ⟨⟨t540, t541⟩, A640, H⟩ := H
          replace H : ((impl_TwiceArea.f kj58 t509).bind fun bt542 => (if t541 = bt542.2 then (if t540 = bt542.1 then (laws_FnOutlines.j2 kj58 t493 t494 t496 t527 t531 t532) else (none)) else (none))) = some r := H
          have A64 := Aside0.mk A640
          clear A640
          replace H := Option.bind_eq_some_iff.mp H
          obtain ⟨⟨t542, t543⟩, A650, H⟩ := H
          replace H : (if t541 = t543 then (if t540 = t542 then (laws_FnOutlines.j2 kj58 t493 t494 t496 t527 t531 t532) else (none)) else (none)) = some r := H
          have A65 := Aside0.mk A650
          clear A650
          by_cases c66 : t541 = t543
          ·as_aux_lemma =>
           rw [if_pos c66] at H
           have c66b0 : (t541 == t543) = true := beq_iff_eq.mpr c66
           have c66b1 : (t541 != t543) = false := bne_eq_false_iff_eq.mpr c66
           clear c66
           by_cases c67 : t540 = t542
           ·as_aux_lemma =>
            rw [if_pos c67] at H
            have c67b0 : (t540 == t542) = true := beq_iff_eq.mpr c67
            have c67b1 : (t540 != t542) = false := bne_eq_false_iff_eq.mpr c67
            clear c67
            have H' := Aside0.mk H
            clear H
            go_wp2_with (first | ((with_reducible refine gate_callee (f := 53) rfl ?_); refine goesL_ (some 200) rfl rfl Try.func53 (by kernel_rfl) rfl #[.slice Ao27 t504.length co27] rfl (by (try simp only [List.map_toArray, List.map_cons, List.map_nil]); first | done | rfl | (simp only [List.length_drop, List.length_take]; rfl)) ?_; (with_reducible refine (spec_TwiceArea.calls kj58 _ _ t504 t540 t541 _ ?side1 ?side2 A64.out).mono ?_); (case side1 => repeat (first | exact (Kd.R_reads' HO_12.out).2.2 | (with_reducible refine Kd.C_alloc ?_ _) | (with_reducible refine Kd.C_drewN ?_ _) | (with_reducible refine Kd.C_drew ?_))); (case side2 => exact (Kd.R_reads' HO_12.out).2.1); rintro e w' ⟨rfl, ⟨nd, rfl⟩⟩; refine ⟨_, rfl, ?_⟩; obtain ⟨Ao68, co68, eo68⟩ := Kd.R_slice HO_15.out; subst eo68) | ((with_reducible refine gate_callee (f := 52) rfl ?_); refine goesL_ (some 205) rfl rfl Try.func52 (by kernel_rfl) rfl #[.slice Ao68 t509.length co68] rfl (by (try simp only [List.map_toArray, List.map_cons, List.map_nil]); first | done | rfl | (simp only [List.length_drop, List.length_take]; rfl)) ?_; (with_reducible refine (impl_TwiceArea.calls kj58 _ _ t509 t542 t543 _ ?side1 ?side2 A65.out).mono ?_); (case side1 => repeat (first | exact (Kd.R_reads' HO_15.out).2.2 | (with_reducible refine Kd.C_alloc ?_ _) | (with_reducible refine Kd.C_drewN ?_ _) | (with_reducible refine Kd.C_drew ?_))); (case side2 => exact (Kd.R_reads' HO_15.out).2.1); rintro e w69 ⟨rfl, hb⟩; refine ⟨_, rfl, ?_⟩; have n0_ := Aside0.mk (Kd.R_below (by (with_reducible repeat (first | apply Kd.R_alloc | apply Kd.R_drewN | apply Kd.R_drew)); exact HO_8.out) hb); have n1_ := Aside0.mk (Kd.R_below (by (with_reducible repeat (first | apply Kd.R_alloc | apply Kd.R_drewN | apply Kd.R_drew)); exact HO_12.out) hb); have n2_ := Aside0.mk (Kd.R_below (by (with_reducible repeat (first | apply Kd.R_alloc | apply Kd.R_drewN | apply Kd.R_drew)); exact HO_15.out) hb); have n3_ := Aside0.mk (Kd.S_below (by (with_reducible repeat (first | apply Kd.S_alloc | apply Kd.S_drewN | apply Kd.S_drew)); exact HO_25.out) hb); have n4_ := Aside0.mk (blk_below (g := gb522) (o := .cells #[.int .i64 t520, .int .i64 t521] 44 (0, 0)) (by (with_reducible repeat (first | refine blk_drewN ?_ _ | refine blk_drew ?_ | refine blk_alloc ?_ _)); exact BK522.out) hb); have n5_ := Aside0.mk (below_step (by repeat (first | (with_reducible first | exact HB.out | apply below_alloc | apply pw_below_drewN | apply below_drew1 | refine below_set ?_ GE522.out) | exact HB.out)) hb); clear HO_8; clear HO_12; clear HO_15; clear HO_25; clear BK522; clear HB; have HO_8 := n0_; have HO_12 := n1_; have HO_15 := n2_; have HO_25 := n3_; have BK522 := n4_; have HB := n5_; clear n0_ n1_ n2_ n3_ n4_ n5_; (try clear hb); (try clear hb2); (try clear hk); (try clear hi)))
            go_meet
            case rel => exact ⟨_, H', ⟨by have := HJ19.out; have := HJ58.out; first | omega | exact Nat.le_refl _⟩, ⟨by (with_reducible repeat (first | apply Kd.R_alloc | apply Kd.R_drewN | apply Kd.R_drew)); exact Kd.R_mono HO_8.out (fun _ hk => hk.2.2)⟩, ⟨by (with_reducible repeat (first | apply Kd.S_alloc | apply Kd.S_drewN | apply Kd.S_drew)); exact Kd.S_mono HO_25.out (fun _ hk => ⟨hk.1, hk.2.2.2⟩)⟩, ⟨by (with_reducible repeat (first | refine blk_drewN ?_ _ | refine blk_drew ?_ | refine blk_alloc ?_ _)); exact BK522.out⟩, ⟨by repeat (first | (with_reducible first | exact HB.out | apply below_alloc | apply pw_below_drewN | apply below_drew1 | refine below_set ?_ GE522.out) | exact HB.out)⟩⟩
           ·as_aux_lemma =>
            rw [if_neg c67] at H
            exact absurd H (by simp)
          ·as_aux_lemma =>
           rw [if_neg c66] at H
           exact absurd H (by simp)
         ·as_aux_lemma =>
          rw [if_neg c63] at H
          have c63b0 : (t510 == 0) = false := beq_eq_false_iff_ne.mpr c63
          have c63b1 : (t510 != 0) = true := bne_iff_ne.mpr c63
          (first | rw [c63b0] | (simp only [i64_w, i32_w]; rw [c63b0]) | skip)
          have H' := Aside0.mk H
          clear H
          go_wp2
          go_meet
          case rel => exact ⟨_, H', ⟨by have := HJ19.out; have := HJ58.out; first | omega | exact Nat.le_refl _⟩, ⟨by (with_reducible repeat (first | apply Kd.R_alloc | apply Kd.R_drewN | apply Kd.R_drew)); exact Kd.R_mono HO_8.out (fun _ hk => hk.2.2)⟩, ⟨by (with_reducible repeat (first | apply Kd.S_alloc | apply Kd.S_drewN | apply Kd.S_drew)); exact Kd.S_mono HO_25.out (fun _ hk => ⟨hk.1, hk.2.2.2⟩)⟩, ⟨by (with_reducible repeat (first | refine blk_drewN ?_ _ | refine blk_drew ?_ | refine blk_alloc ?_ _)); exact BK522.out⟩, ⟨by repeat (first | (with_reducible first | exact HB.out | apply below_alloc | apply pw_below_drewN | apply below_drew1 | refine below_set ?_ GE522.out) | exact HB.out)⟩⟩
        case rest =>
         clear HC62
         try clear c1
         try clear p2
         try clear c3
         try clear c4
         try clear c5
         try clear c6
         try clear c12
         try clear c41
         try clear c41b0
         try clear c41b1
         try clear c42
         try clear c42b0
         try clear c42b1
         try clear c43
         try clear c43b0
         try clear c43b1
         try clear c45
         try clear c46
         try clear c46b0
         try clear c46b1
         try clear c48
         try clear c49
         try clear c49b0
         try clear c49b1
         try clear c50
         try clear c50b0
         try clear c50b1
         try clear c50b2
         try clear c51
         try clear c51b0
         try clear c51b1
         try clear c52
         try clear c52b0
         try clear c52b1
         try clear c53
         try clear c53b0
         try clear c53b1
         try clear c54
         try clear c55
         try clear c56
         try clear c57
         try clear c58
         try clear c59
         try clear c60
         try clear c60b0
         try clear c60b1
         try clear c61
         try clear c62
         try clear c63
         try clear c63b0
         try clear c63b1
         try clear c64
         try clear c65
         try clear c66
         try clear c66b0
         try clear c66b1
         try clear c67
         try clear c67b0
         try clear c67b1
         try clear hcz32_0
         try clear hcz32_1
         try clear hcz35_0
         try clear hcz35_1
         try clear hfz32_0
         try clear hfz32_1
         try clear hfz35_0
         try clear hfz35_1
         try clear p2
         obtain ⟨kq, HA, HJ61, HO_8, HO_25, BK522, HB⟩ := hcut
         cases kq with
         | zero => exact absurd HA.out (by simp [laws_FnOutlines.j2])
         | succ kj61 =>
          have H := HA.out
          clear HA
          simp only [laws_FnOutlines.j2] at H
          have HC70 := Aside0.mk H
          clear H
          go_upto_if 217 with (fail)
          go_cut [] (fun wc => ∃ (kq : Nat), Aside0 (laws_FnOutlines.j4 kq t493 t494 t496 = some r) ∧ Aside0 (kq ≤ kj61) ∧ Aside0 (Kd.R k44 44 wc w.heap.size (fun k_ => k_ ≠ gb522) v498 t496) ∧ Aside0 (wc.heap[gb522]? = some (.cells #[.int .i64 t520, .int .i64 t521] 44 (0, 0))) ∧ Aside0 (Below w.heap.size w wc))
          case first =>
           have H := HC70.out
           clear HC70
           by_cases c71 : t531 = 0
           ·as_aux_lemma =>
            rw [if_pos c71] at H
            have c71b0 : (t531 == 0) = true := beq_iff_eq.mpr c71
            have c71b1 : (t531 != 0) = false := bne_eq_false_iff_eq.mpr c71
            clear c71
            (first | rw [c71b0] | (simp only [i64_w, i32_w]; rw [c71b0]) | skip)
            by_cases c72 : 0 ≤ t532
            ·as_aux_lemma =>
             rw [if_pos c72] at H
             have c72b0 : decide (0 ≤ t532) = true := decide_eq_true c72
             clear c72
             by_cases c73 : t532 < (t527.length : Int)
             ·as_aux_lemma =>
              rw [if_pos c73] at H
              have c73b0 : decide (t532 < (t527.length : Int)) = true := decide_eq_true c73
              clear c73
              replace H := Option.bind_eq_some_iff.mp H
              obtain ⟨⟨t545, t546⟩, A740, H⟩ := H
              replace H : (laws_FnOutlines.l0 kj61 t493 t494 t496 t527 t545 t546 0) = some r := H
              have A74 := Aside0.mk A740
              clear A740
              have H' := Aside0.mk H
              clear H
              have p544 : 0 ≤ (t532 : Int) := od_
              have q544 : t532 < (t527.length : Int) := od_
              obtain ⟨ad544, A544_0, c544_0, e544, hx544_0, hl544_0, hi544_0⟩ := at_L3 (Kd.S_reads' HO_25.out).2.2 t532 p544 q544
              cases e544
              obtain ⟨ce544, hce544, hMe544, hcc544⟩ := Kd.S_get HO_25.out [] t532 p544 (by first | exact q544 | exact od_ | (have e_ := (Kd.S_reads' HO_25.out).1; omega))
              obtain ⟨ve544_0, rfl, ge544_0⟩ := hMe544
              have hv544_0 := hcc544 0 _ rfl
              rw [Nat.add_zero, show ((Kd.slice 44 k44)).sz = 1 from rfl, Nat.mul_one] at hv544_0
              replace hv544_0 := Option.some.inj (hv544_0.symm.trans hx544_0)
              rw [hv544_0] at ge544_0
              have HL544_0 := Aside0.mk (show Kd.R k44 44 _ _ _ _ (rd_L3 t527 t532) from ge544_0)
              clear hv544_0 ge544_0
              clear hcc544 hce544
              have HR544_0 := Aside0.mk hi544_0
              have HC544_0 := Aside0.mk hl544_0
              clear hi544_0 hl544_0
              replace p544 := eq_true p544
              replace q544 := eq_true q544
              go_wp2_with (first | ((with_reducible refine gate_callee (f := 53) rfl ?_); refine goesL_ (some 223) rfl rfl Try.func53 (by kernel_rfl) rfl #[.slice A544_0 (rd_L3 t527 t532).length c544_0] rfl (by (try simp only [List.map_toArray, List.map_cons, List.map_nil]); first | done | rfl | (simp only [List.length_drop, List.length_take]; rfl)) ?_; (with_reducible refine (spec_TwiceArea.calls kj61 _ _ (rd_L3 t527 t532) t545 t546 _ ?side1 ?side2 A74.out).mono ?_); (case side1 => repeat (first | exact (by repeat (first | (with_reducible exact HR544_0.out) | (with_reducible refine Kd.C_alloc ?_ _) | (with_reducible refine Kd.C_drewN ?_ _) | (with_reducible refine Kd.C_drew ?_) | exact HR544_0.out)) | (with_reducible refine Kd.C_alloc ?_ _) | (with_reducible refine Kd.C_drewN ?_ _) | (with_reducible refine Kd.C_drew ?_))); (case side2 => exact HC544_0.out); rintro e w' ⟨rfl, ⟨nd, rfl⟩⟩; refine ⟨_, rfl, ?_⟩))
              go_loopg [40] kj61 (fun kq v40 w' => ∃ (x40_4 : Int), v40 = .int .i64 x40_4 ∧ Aside0 (laws_FnOutlines.l0 kq t493 t494 t496 t527 t545 t546 x40_4 = some r) ∧ Aside0 (kq ≤ kj61) ∧ Aside0 (Kd.R k44 44 w' w.heap.size (fun k_ => k_ ≠ gb522) v498 t496) ∧ Aside0 (Kd.S (Kd.slice 44 k44) 26 w' w.heap.size (fun k_ => some k_ ≠ (v498 : Value).ownBlock ∧ k_ ≠ gb522) (.slice (some ad544) t527.length co38) t527) ∧ Aside0 (w'.heap[gb522]? = some (.cells #[.int .i64 t520, .int .i64 t521] 44 (0, 0))) ∧ Aside0 (Kd.C k44 w' A544_0 (rd_L3 t527 t532).length (rd_L3 t527 t532)) ∧ Aside0 (Below w.heap.size w w'))
              case atStart => exact ⟨(0), (by first | rfl | (simp; done) | (simp [*]; done)), H', ⟨Nat.le_refl _⟩, ⟨by (with_reducible repeat (first | apply Kd.R_alloc | apply Kd.R_drewN | apply Kd.R_drew)); exact HO_8.out⟩, ⟨by (with_reducible repeat (first | apply Kd.S_alloc | apply Kd.S_drewN | apply Kd.S_drew)); exact HO_25.out⟩, ⟨by (with_reducible repeat (first | refine blk_drewN ?_ _ | refine blk_drew ?_ | refine blk_alloc ?_ _)); exact BK522.out⟩, ⟨by repeat (first | (with_reducible exact HR544_0.out) | (with_reducible refine Kd.C_alloc ?_ _) | (with_reducible refine Kd.C_drewN ?_ _) | (with_reducible refine Kd.C_drew ?_) | exact HR544_0.out)⟩, ⟨by repeat (first | (with_reducible first | exact HB.out | apply below_alloc | apply pw_below_drewN | apply below_drew1 | refine below_set ?_ GE522.out) | exact HB.out)⟩⟩
              case round =>
               clear H'
               try clear c1
               try clear p2
               try clear c3
               try clear c4
               try clear c5
               try clear p5
               try clear q5
               try clear hx5
               try clear c6
               try clear c7
               try clear c12
               try clear c41
               try clear c41b0
               try clear c41b1
               try clear c42
               try clear c42b0
               try clear c42b1
               try clear c43
               try clear c43b0
               try clear c43b1
               try clear c45
               try clear c46
               try clear c46b0
               try clear c46b1
               try clear c48
               try clear c49
               try clear c49b0
               try clear c49b1
               try clear c50
               try clear c50b0
               try clear c50b1
               try clear c50b2
               try clear c51
               try clear c51b0
               try clear c51b1
               try clear c52
               try clear c52b0
               try clear c52b1
               try clear c53
               try clear c53b0
               try clear c53b1
               try clear c54
               try clear p54
               try clear q54
               try clear hx54
               try clear c55
               try clear c56
               try clear c57
               try clear c58
               try clear c59
               try clear c60
               try clear c60b0
               try clear c60b1
               try clear c61
               try clear c62
               try clear c63
               try clear c63b0
               try clear c63b1
               try clear c64
               try clear c65
               try clear c66
               try clear c66b0
               try clear c66b1
               try clear c67
               try clear c67b0
               try clear c67b1
               try clear c71
               try clear c71b0
               try clear c71b1
               try clear c72
               try clear c72b0
               try clear c73
               try clear c73b0
               try clear hcz32_0
               try clear hcz32_1
               try clear hcz35_0
               try clear hcz35_1
               try clear hfz32_0
               try clear hfz32_1
               try clear hfz35_0
               try clear hfz35_1
               try clear hx544_0
               try clear p2
               try clear p544
               try clear q544
               obtain ⟨x40_4, rfl, HA, HK4, HO_8, HO_25, BK522, HR544_0, HB⟩ := hrel
               cases gk with
               | zero => exact absurd HA.out (by simp [laws_FnOutlines.l0])
               | succ k4 =>
                have H := HA.out
                clear HA
                simp only [laws_FnOutlines.l0] at H
                by_cases c75 : x40_4 < (t527.length : Int)
                ·rw [if_pos c75] at H
                 have c75b0 : decide (x40_4 < (t527.length : Int)) = true := decide_eq_true c75
                 clear c75
                 by_cases c76 : 0 ≤ x40_4
                 ·rw [if_pos c76] at H
                  have c76b0 : decide (0 ≤ x40_4) = true := decide_eq_true c76
                  clear c76
                  replace H := Option.bind_eq_some_iff.mp H
                  obtain ⟨⟨t548, t549⟩, A770, H⟩ := H
                  replace H : (if t546 = 0 then (if t549 = 0 then ((laws_f6abs.f t548).bind fun t550 => ((laws_f6abs.f t545).bind fun t551 => (if t550 > t551 then (none) else (laws_FnOutlines.l0 k4 t493 t494 t496 t527 t545 t546 (wrap64 (x40_4 + 1)))))) else (laws_FnOutlines.l0 k4 t493 t494 t496 t527 t545 t546 (wrap64 (x40_4 + 1)))) else (none)) = some r := H
                  have A77 := Aside0.mk A770
                  clear A770
                  by_cases c78 : t546 = 0
                  ·rw [if_pos c78] at H
                   have c78b0 : (t546 == 0) = true := beq_iff_eq.mpr c78
                   have c78b1 : (t546 != 0) = false := bne_eq_false_iff_eq.mpr c78
                   clear c78
                   by_cases c79 : t549 = 0
                   ·rw [if_pos c79] at H
                    have c79b0 : (t549 == 0) = true := beq_iff_eq.mpr c79
                    have c79b1 : (t549 != 0) = false := bne_eq_false_iff_eq.mpr c79
                    clear c79
                    replace H := Option.bind_eq_some_iff.mp H
                    obtain ⟨t550, A800, H⟩ := H
                    replace H : ((laws_f6abs.f t545).bind fun t551 => (if t550 > t551 then (none) else (laws_FnOutlines.l0 k4 t493 t494 t496 t527 t545 t546 (wrap64 (x40_4 + 1))))) = some r := H
                    have A80 := Aside0.mk A800
                    clear A800
                    replace H := Option.bind_eq_some_iff.mp H
                    obtain ⟨t551, A810, H⟩ := H
                    replace H : (if t550 > t551 then (none) else (laws_FnOutlines.l0 k4 t493 t494 t496 t527 t545 t546 (wrap64 (x40_4 + 1)))) = some r := H
                    have A81 := Aside0.mk A810
                    clear A810
                    by_cases c82 : t550 > t551
                    ·rw [if_pos c82] at H
                     exact absurd H (by simp)
                    ·rw [if_neg c82] at H
                     have c82b0 : decide (t551 < t550) = false := decide_eq_false c82
                     clear c82
                     have H' := Aside0.mk H
                     clear H
                     have p547 : 0 ≤ (x40_4 : Int) := od_
                     have q547 : x40_4 < (t527.length : Int) := od_
                     obtain ⟨ad547, A547_0, c547_0, e547, hx547_0, hl547_0, hi547_0⟩ := at_L3 (Kd.S_reads' HO_25.out).2.2 x40_4 p547 q547
                     obtain rfl : ad544 = ad547 := (by injection e547)
                     obtain ⟨ce547, hce547, hMe547, hcc547⟩ := Kd.S_get HO_25.out [] x40_4 p547 (by first | exact q547 | exact od_ | (have e_ := (Kd.S_reads' HO_25.out).1; omega))
                     obtain ⟨ve547_0, rfl, ge547_0⟩ := hMe547
                     have hv547_0 := hcc547 0 _ rfl
                     rw [Nat.add_zero, show ((Kd.slice 44 k44)).sz = 1 from rfl, Nat.mul_one] at hv547_0
                     replace hv547_0 := Option.some.inj (hv547_0.symm.trans hx547_0)
                     rw [hv547_0] at ge547_0
                     have HL547_0 := Aside0.mk (show Kd.R k44 44 _ _ _ _ (rd_L3 t527 x40_4) from ge547_0)
                     clear hv547_0 ge547_0
                     clear hcc547 hce547
                     have HR547_0 := Aside0.mk hi547_0
                     have HC547_0 := Aside0.mk hl547_0
                     clear hi547_0 hl547_0
                     replace p547 := eq_true p547
                     replace q547 := eq_true q547
                     go_wp2_with (first | ((with_reducible refine gate_callee (f := 52) rfl ?_); refine goesL_ (some 237) rfl rfl Try.func52 (by kernel_rfl) rfl #[.slice A547_0 (rd_L3 t527 x40_4).length c547_0] rfl (by (try simp only [List.map_toArray, List.map_cons, List.map_nil]); first | done | rfl | (simp only [List.length_drop, List.length_take]; rfl)) ?_; (with_reducible refine (impl_TwiceArea.calls k4 _ _ (rd_L3 t527 x40_4) t548 t549 _ ?side1 ?side2 A77.out).mono ?_); (case side1 => repeat (first | exact (by repeat (first | (with_reducible exact HR547_0.out) | (with_reducible refine Kd.C_alloc ?_ _) | (with_reducible refine Kd.C_drewN ?_ _) | (with_reducible refine Kd.C_drew ?_) | exact HR547_0.out)) | (with_reducible refine Kd.C_alloc ?_ _) | (with_reducible refine Kd.C_drewN ?_ _) | (with_reducible refine Kd.C_drew ?_))); (case side2 => exact HC547_0.out); rintro e w83 ⟨rfl, hb⟩; refine ⟨_, rfl, ?_⟩; have n0_ := Aside0.mk (Kd.R_below (by (with_reducible repeat (first | apply Kd.R_alloc | apply Kd.R_drewN | apply Kd.R_drew)); exact HO_8.out) hb); have n1_ := Aside0.mk (Kd.S_below (by (with_reducible repeat (first | apply Kd.S_alloc | apply Kd.S_drewN | apply Kd.S_drew)); exact HO_25.out) hb); have n2_ := Aside0.mk (Kd.R_below (by (with_reducible repeat (first | apply Kd.R_alloc | apply Kd.R_drewN | apply Kd.R_drew)); exact HL547_0.out) hb); have n3_ := Aside0.mk (blk_below (g := gb522) (o := .cells #[.int .i64 t520, .int .i64 t521] 44 (0, 0)) (by (with_reducible repeat (first | refine blk_drewN ?_ _ | refine blk_drew ?_ | refine blk_alloc ?_ _)); exact BK522.out) hb); have n4_ := Aside0.mk (Kd.C_below (by repeat (first | (with_reducible exact HR544_0.out) | (with_reducible refine Kd.C_alloc ?_ _) | (with_reducible refine Kd.C_drewN ?_ _) | (with_reducible refine Kd.C_drew ?_) | exact HR544_0.out)) hb); have n5_ := Aside0.mk (Kd.C_below (by repeat (first | (with_reducible exact HR547_0.out) | (with_reducible refine Kd.C_alloc ?_ _) | (with_reducible refine Kd.C_drewN ?_ _) | (with_reducible refine Kd.C_drew ?_) | exact HR547_0.out)) hb); have n6_ := Aside0.mk (below_step (by repeat (first | (with_reducible first | exact HB.out | apply below_alloc | apply pw_below_drewN | apply below_drew1 | refine below_set ?_ GE522.out) | exact HB.out)) hb); clear HO_8; clear HO_25; clear HL547_0; clear BK522; clear HR544_0; clear HR547_0; clear HB; have HO_8 := n0_; have HO_25 := n1_; have HL547_0 := n2_; have BK522 := n3_; have HR544_0 := n4_; have HR547_0 := n5_; have HB := n6_; clear n0_ n1_ n2_ n3_ n4_ n5_ n6_; (try clear hb); (try clear hb2); (try clear hk); (try clear hi)) | (go_at_call 67; (with_reducible refine (laws_f6abs.calls t548 t550 _ A80.out).mono ?_); rintro e w' ⟨rfl, ⟨nd, rfl⟩⟩) | (go_at_call 67; (with_reducible refine (laws_f6abs.calls t545 t551 _ A81.out).mono ?_); rintro e w' ⟨rfl, ⟨nd, rfl⟩⟩))
                     go_roundg k4
                     case measure => have := HJ19.out; have := HJ58.out; have := HJ61.out; have := HK4.out; omega
                     case rel => exact ⟨(wrap64 (x40_4 + 1)), (by first | rfl | (simp; done) | (simp [*]; done)), H', ⟨by have := HJ19.out; have := HJ58.out; have := HJ61.out; have := HK4.out; omega⟩, ⟨by (with_reducible repeat (first | apply Kd.R_alloc | apply Kd.R_drewN | apply Kd.R_drew)); exact HO_8.out⟩, ⟨by (with_reducible repeat (first | apply Kd.S_alloc | apply Kd.S_drewN | apply Kd.S_drew)); exact HO_25.out⟩, ⟨by (with_reducible repeat (first | refine blk_drewN ?_ _ | refine blk_drew ?_ | refine blk_alloc ?_ _)); exact BK522.out⟩, ⟨by repeat (first | (with_reducible exact HR544_0.out) | (with_reducible refine Kd.C_alloc ?_ _) | (with_reducible refine Kd.C_drewN ?_ _) | (with_reducible refine Kd.C_drew ?_) | exact HR544_0.out)⟩, ⟨by repeat (first | (with_reducible first | exact HB.out | apply below_alloc | apply pw_below_drewN | apply below_drew1 | refine below_set ?_ GE522.out) | exact HB.out)⟩⟩
                   ·rw [if_neg c79] at H
                    have c79b0 : (t549 == 0) = false := beq_eq_false_iff_ne.mpr c79
                    have c79b1 : (t549 != 0) = true := bne_iff_ne.mpr c79
                    have H' := Aside0.mk H
                    clear H
                    have p547 : 0 ≤ (x40_4 : Int) := od_
                    have q547 : x40_4 < (t527.length : Int) := od_
                    obtain ⟨ad547, A547_0, c547_0, e547, hx547_0, hl547_0, hi547_0⟩ := at_L3 (Kd.S_reads' HO_25.out).2.2 x40_4 p547 q547
                    obtain rfl : ad544 = ad547 := (by injection e547)
                    obtain ⟨ce547, hce547, hMe547, hcc547⟩ := Kd.S_get HO_25.out [] x40_4 p547 (by first | exact q547 | exact od_ | (have e_ := (Kd.S_reads' HO_25.out).1; omega))
                    obtain ⟨ve547_0, rfl, ge547_0⟩ := hMe547
                    have hv547_0 := hcc547 0 _ rfl
                    rw [Nat.add_zero, show ((Kd.slice 44 k44)).sz = 1 from rfl, Nat.mul_one] at hv547_0
                    replace hv547_0 := Option.some.inj (hv547_0.symm.trans hx547_0)
                    rw [hv547_0] at ge547_0
                    have HL547_0 := Aside0.mk (show Kd.R k44 44 _ _ _ _ (rd_L3 t527 x40_4) from ge547_0)
                    clear hv547_0 ge547_0
                    clear hcc547 hce547
                    have HR547_0 := Aside0.mk hi547_0
                    have HC547_0 := Aside0.mk hl547_0
                    clear hi547_0 hl547_0
                    replace p547 := eq_true p547
                    replace q547 := eq_true q547
                    go_wp2_with (first | ((with_reducible refine gate_callee (f := 52) rfl ?_); refine goesL_ (some 237) rfl rfl Try.func52 (by kernel_rfl) rfl #[.slice A547_0 (rd_L3 t527 x40_4).length c547_0] rfl (by (try simp only [List.map_toArray, List.map_cons, List.map_nil]); first | done | rfl | (simp only [List.length_drop, List.length_take]; rfl)) ?_; (with_reducible refine (impl_TwiceArea.calls k4 _ _ (rd_L3 t527 x40_4) t548 t549 _ ?side1 ?side2 A77.out).mono ?_); (case side1 => repeat (first | exact (by repeat (first | (with_reducible exact HR547_0.out) | (with_reducible refine Kd.C_alloc ?_ _) | (with_reducible refine Kd.C_drewN ?_ _) | (with_reducible refine Kd.C_drew ?_) | exact HR547_0.out)) | (with_reducible refine Kd.C_alloc ?_ _) | (with_reducible refine Kd.C_drewN ?_ _) | (with_reducible refine Kd.C_drew ?_))); (case side2 => exact HC547_0.out); rintro e w84 ⟨rfl, hb⟩; refine ⟨_, rfl, ?_⟩; have n0_ := Aside0.mk (Kd.R_below (by (with_reducible repeat (first | apply Kd.R_alloc | apply Kd.R_drewN | apply Kd.R_drew)); exact HO_8.out) hb); have n1_ := Aside0.mk (Kd.S_below (by (with_reducible repeat (first | apply Kd.S_alloc | apply Kd.S_drewN | apply Kd.S_drew)); exact HO_25.out) hb); have n2_ := Aside0.mk (Kd.R_below (by (with_reducible repeat (first | apply Kd.R_alloc | apply Kd.R_drewN | apply Kd.R_drew)); exact HL547_0.out) hb); have n3_ := Aside0.mk (blk_below (g := gb522) (o := .cells #[.int .i64 t520, .int .i64 t521] 44 (0, 0)) (by (with_reducible repeat (first | refine blk_drewN ?_ _ | refine blk_drew ?_ | refine blk_alloc ?_ _)); exact BK522.out) hb); have n4_ := Aside0.mk (Kd.C_below (by repeat (first | (with_reducible exact HR544_0.out) | (with_reducible refine Kd.C_alloc ?_ _) | (with_reducible refine Kd.C_drewN ?_ _) | (with_reducible refine Kd.C_drew ?_) | exact HR544_0.out)) hb); have n5_ := Aside0.mk (Kd.C_below (by repeat (first | (with_reducible exact HR547_0.out) | (with_reducible refine Kd.C_alloc ?_ _) | (with_reducible refine Kd.C_drewN ?_ _) | (with_reducible refine Kd.C_drew ?_) | exact HR547_0.out)) hb); have n6_ := Aside0.mk (below_step (by repeat (first | (with_reducible first | exact HB.out | apply below_alloc | apply pw_below_drewN | apply below_drew1 | refine below_set ?_ GE522.out) | exact HB.out)) hb); clear HO_8; clear HO_25; clear HL547_0; clear BK522; clear HR544_0; clear HR547_0; clear HB; have HO_8 := n0_; have HO_25 := n1_; have HL547_0 := n2_; have BK522 := n3_; have HR544_0 := n4_; have HR547_0 := n5_; have HB := n6_; clear n0_ n1_ n2_ n3_ n4_ n5_ n6_; (try clear hb); (try clear hb2); (try clear hk); (try clear hi)))
                    go_roundg k4
                    case measure => have := HJ19.out; have := HJ58.out; have := HJ61.out; have := HK4.out; omega
                    case rel => exact ⟨(wrap64 (x40_4 + 1)), (by first | rfl | (simp; done) | (simp [*]; done)), H', ⟨by have := HJ19.out; have := HJ58.out; have := HJ61.out; have := HK4.out; omega⟩, ⟨by (with_reducible repeat (first | apply Kd.R_alloc | apply Kd.R_drewN | apply Kd.R_drew)); exact HO_8.out⟩, ⟨by (with_reducible repeat (first | apply Kd.S_alloc | apply Kd.S_drewN | apply Kd.S_drew)); exact HO_25.out⟩, ⟨by (with_reducible repeat (first | refine blk_drewN ?_ _ | refine blk_drew ?_ | refine blk_alloc ?_ _)); exact BK522.out⟩, ⟨by repeat (first | (with_reducible exact HR544_0.out) | (with_reducible refine Kd.C_alloc ?_ _) | (with_reducible refine Kd.C_drewN ?_ _) | (with_reducible refine Kd.C_drew ?_) | exact HR544_0.out)⟩, ⟨by repeat (first | (with_reducible first | exact HB.out | apply below_alloc | apply pw_below_drewN | apply below_drew1 | refine below_set ?_ GE522.out) | exact HB.out)⟩⟩
                  ·rw [if_neg c78] at H
                   exact absurd H (by simp)
                 ·rw [if_neg c76] at H
                  exact absurd H (by simp)
                ·rw [if_neg c75] at H
                 have c75b0 : decide (x40_4 < (t527.length : Int)) = false := decide_eq_false c75
                 clear c75
                 have H' := Aside0.mk H
                 clear H
                 go_wp2
                 go_meet
                 case rel => exact ⟨_, H', ⟨by have := HJ19.out; have := HJ58.out; have := HJ61.out; have := HK4.out; first | omega | exact Nat.le_refl _⟩, ⟨by (with_reducible repeat (first | apply Kd.R_alloc | apply Kd.R_drewN | apply Kd.R_drew)); exact HO_8.out⟩, ⟨by (with_reducible repeat (first | refine blk_drewN ?_ _ | refine blk_drew ?_ | refine blk_alloc ?_ _)); exact BK522.out⟩, ⟨by repeat (first | (with_reducible first | exact HB.out | apply below_alloc | apply pw_below_drewN | apply below_drew1 | refine below_set ?_ GE522.out) | exact HB.out)⟩⟩
             ·as_aux_lemma =>
              rw [if_neg c73] at H
              exact absurd H (by simp)
            ·as_aux_lemma =>
             rw [if_neg c72] at H
             exact absurd H (by simp)
           ·as_aux_lemma =>
            rw [if_neg c71] at H
            have c71b0 : (t531 == 0) = false := beq_eq_false_iff_ne.mpr c71
            have c71b1 : (t531 != 0) = true := bne_iff_ne.mpr c71
            (first | rw [c71b0] | (simp only [i64_w, i32_w]; rw [c71b0]) | skip)
            have H' := Aside0.mk H
            clear H
            go_wp2
            go_meet
            case rel => exact ⟨_, H', ⟨by have := HJ19.out; have := HJ58.out; have := HJ61.out; first | omega | exact Nat.le_refl _⟩, ⟨by (with_reducible repeat (first | apply Kd.R_alloc | apply Kd.R_drewN | apply Kd.R_drew)); exact HO_8.out⟩, ⟨by (with_reducible repeat (first | refine blk_drewN ?_ _ | refine blk_drew ?_ | refine blk_alloc ?_ _)); exact BK522.out⟩, ⟨by repeat (first | (with_reducible first | exact HB.out | apply below_alloc | apply pw_below_drewN | apply below_drew1 | refine below_set ?_ GE522.out) | exact HB.out)⟩⟩
          case rest =>
           clear HC70
           try clear c1
           try clear p2
           try clear c3
           try clear c4
           try clear c5
           try clear p5
           try clear q5
           try clear hx5
           try clear c6
           try clear p6
           try clear c7
           try clear c8
           try clear c12
           try clear c41
           try clear c41b0
           try clear c41b1
           try clear c42
           try clear c42b0
           try clear c42b1
           try clear c43
           try clear c43b0
           try clear c43b1
           try clear c45
           try clear c46
           try clear c46b0
           try clear c46b1
           try clear c48
           try clear c49
           try clear c49b0
           try clear c49b1
           try clear c50
           try clear c50b0
           try clear c50b1
           try clear c50b2
           try clear c51
           try clear c51b0
           try clear c51b1
           try clear c52
           try clear c52b0
           try clear c52b1
           try clear c53
           try clear c53b0
           try clear c53b1
           try clear c54
           try clear p54
           try clear q54
           try clear hx54
           try clear c55
           try clear c56
           try clear c57
           try clear c58
           try clear c59
           try clear c60
           try clear c60b0
           try clear c60b1
           try clear c61
           try clear c62
           try clear c63
           try clear c63b0
           try clear c63b1
           try clear c64
           try clear p64
           try clear c65
           try clear c66
           try clear c66b0
           try clear c66b1
           try clear c67
           try clear c67b0
           try clear c67b1
           try clear c71
           try clear c71b0
           try clear c71b1
           try clear c72
           try clear c72b0
           try clear c73
           try clear c73b0
           try clear c75
           try clear c75b0
           try clear c76
           try clear c76b0
           try clear c78
           try clear c78b0
           try clear c78b1
           try clear c79
           try clear c79b0
           try clear c79b1
           try clear c82
           try clear c82b0
           try clear hcz32_0
           try clear hcz32_1
           try clear hcz35_0
           try clear hcz35_1
           try clear hfz32_0
           try clear hfz32_1
           try clear hfz35_0
           try clear hfz35_1
           try clear hx544_0
           try clear hx547_0
           try clear p2
           try clear p5
           try clear p54
           try clear p544
           try clear p547
           try clear q5
           try clear q54
           try clear q544
           try clear q547
           obtain ⟨kq, HA, HJ69, HO_8, BK522, HB⟩ := hcut
           cases kq with
           | zero => exact absurd HA.out (by simp [laws_FnOutlines.j4])
           | succ kj69 =>
            have H := HA.out
            clear HA
            simp only [laws_FnOutlines.j4] at H
            by_cases c85 : t493 = 0
            ·as_aux_lemma =>
             rw [if_pos c85] at H
             have c85b0 : (t493 == 0) = true := beq_iff_eq.mpr c85
             have c85b1 : (t493 != 0) = false := bne_eq_false_iff_eq.mpr c85
             clear c85
             replace H := Option.bind_eq_some_iff.mp H
             obtain ⟨⟨t552, t553⟩, A860, H⟩ := H
             replace H : (if t553 = 0 then ((laws_f6abs.f t494).bind fun t554 => (some (t552 == t554))) else (none)) = some r := H
             have A86 := Aside0.mk A860
             clear A860
             by_cases c87 : t553 = 0
             ·as_aux_lemma =>
              rw [if_pos c87] at H
              have c87b0 : (t553 == 0) = true := beq_iff_eq.mpr c87
              have c87b1 : (t553 != 0) = false := bne_eq_false_iff_eq.mpr c87
              clear c87
              replace H := Option.bind_eq_some_iff.mp H
              obtain ⟨t554, A880, H⟩ := H
              replace H : (some (t552 == t554)) = some r := H
              have A88 := Aside0.mk A880
              clear A880
              obtain rfl := Option.some.inj H
              obtain ⟨Ao89, co89, eo89⟩ := Kd.R_slice HO_8.out
              subst eo89
              go_wp2_with (first | ((with_reducible refine gate_callee (f := 52) rfl ?_); refine goesL_ (some 257) rfl rfl Try.func52 (by kernel_rfl) rfl #[.slice Ao89 t496.length co89] rfl (by (try simp only [List.map_toArray, List.map_cons, List.map_nil]); first | done | rfl | (simp only [List.length_drop, List.length_take]; rfl)) ?_; (with_reducible refine (impl_TwiceArea.calls kj69 _ _ t496 t552 t553 _ ?side1 ?side2 A86.out).mono ?_); (case side1 => repeat (first | exact (Kd.R_reads' HO_8.out).2.2 | (with_reducible refine Kd.C_alloc ?_ _) | (with_reducible refine Kd.C_drewN ?_ _) | (with_reducible refine Kd.C_drew ?_))); (case side2 => exact (Kd.R_reads' HO_8.out).2.1); rintro e w90 ⟨rfl, hb⟩; refine ⟨_, rfl, ?_⟩; have n0_ := Aside0.mk (Kd.R_below (by (with_reducible repeat (first | apply Kd.R_alloc | apply Kd.R_drewN | apply Kd.R_drew)); exact HO_8.out) hb); have n1_ := Aside0.mk (blk_below (g := gb522) (o := .cells #[.int .i64 t520, .int .i64 t521] 44 (0, 0)) (by (with_reducible repeat (first | refine blk_drewN ?_ _ | refine blk_drew ?_ | refine blk_alloc ?_ _)); exact BK522.out) hb); have n2_ := Aside0.mk (below_step (by repeat (first | (with_reducible first | exact HB.out | apply below_alloc | apply pw_below_drewN | apply below_drew1 | refine below_set ?_ GE522.out) | exact HB.out)) hb); clear HO_8; clear BK522; clear HB; have HO_8 := n0_; have BK522 := n1_; have HB := n2_; clear n0_ n1_ n2_; (try clear hb); (try clear hb2); (try clear hk); (try clear hi)) | (go_at_call 67; (with_reducible refine (laws_f6abs.calls t494 t554 _ A88.out).mono ?_); rintro e w' ⟨rfl, ⟨nd, rfl⟩⟩))
              go_ret
              exact ⟨by first | rfl | (simp [errW_none, errW_some] <;> rfl) | (simp [*, errW_none, errW_some] <;> rfl), by repeat (first | (with_reducible first | exact HB.out | apply below_alloc | apply pw_below_drewN | apply below_drew1 | refine below_set ?_ GE522.out) | exact HB.out)⟩
             ·as_aux_lemma =>
              rw [if_neg c87] at H
              exact absurd H (by simp)
            ·as_aux_lemma =>
             rw [if_neg c85] at H
             have c85b0 : (t493 == 0) = false := beq_eq_false_iff_ne.mpr c85
             have c85b1 : (t493 != 0) = true := bne_iff_ne.mpr c85
             obtain rfl := Option.some.inj H
             go_wp2
             go_ret
             exact ⟨by first | rfl | (simp [errW_none, errW_some] <;> rfl) | (simp [*, errW_none, errW_some] <;> rfl), by repeat (first | (with_reducible first | exact HB.out | apply below_alloc | apply pw_below_drewN | apply below_drew1 | refine below_set ?_ GE522.out) | exact HB.out)⟩

/-- THE ONE PURE STATEMENT of laws_FnOutlines. -/
def laws_FnOutlines.Pure : Prop := ∀ (l0 : List Int), wfS (wfI .u8) l0 → l0.length * 1 ≤ 140737488351232 → ∃ k, laws_FnOutlines.f k l0 = some true

end Go.Proofs.Ytgblbmbdadjicaa.Print
