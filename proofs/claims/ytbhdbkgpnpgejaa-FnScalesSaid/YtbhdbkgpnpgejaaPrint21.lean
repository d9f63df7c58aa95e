-- Printed by a program of this session out of the translation; not trusted: Lean checks it.
import Derived.Test.YtbhdbkgpnpgejaaPrint0
import Derived.Test.YtbhdbkgpnpgejaaPrint2
import Derived.Test.YtbhdbkgpnpgejaaPrint3
import Derived.Test.YtbhdbkgpnpgejaaPrint7
import Derived.Test.YtbhdbkgpnpgejaaPrint10
import Derived.Test.YtbhdbkgpnpgejaaPrint12
import Derived.Test.YtbhdbkgpnpgejaaPrint14
import Derived.Test.YtbhdbkgpnpgejaaPrint15
import Derived.Test.YtbhdbkgpnpgejaaPrint19
import Derived.Test.YtbhdbkgpnpgejaaPrint20
namespace Go.Proofs.Ytbhdbkgpnpgejaa.Print
open Go.RowKit Go.Proofs.YtbhdbkgpnpgejaaW.PrintWords Go.Proofs.YtbhdbkgpnpgejaaW.PrintLast Go.Proofs.YtbhdbkgpnpgejaaW.PrintMore
attribute [local go_sem] max2_int min2_int max_two min_two max_three min_three max_four min_four   -- for this text's walks alone
set_option linter.unusedVariables false
set_option linter.unusedSimpArgs false

/-! ### laws_FnScales: function 12 -/
mutual
def laws_FnScales.j0 : Nat → List (S28) → Int → Bool → Int → Int → Int → Bool → Int → Int → Int → Int → Int → Bool → Option (Bool)
  | 0, _, _, _, _, _, _, _, _, _, _, _, _, _ => none
  | k + 1, x3, x4, x5, x7, x8, x11, x12, x15, x16, x17, x21, x22, x116 => if x116 = true then (some false) else (if x21 = 0 then (laws_FnScales.j1 k x3 x4 x5 x7 x8 x11 x12 x15 x16 x17 (decide (x22 < 1000))) else (laws_FnScales.j1 k x3 x4 x5 x7 x8 x11 x12 x15 x16 x17 false))
def laws_FnScales.j1 : Nat → List (S28) → Int → Bool → Int → Int → Int → Bool → Int → Int → Int → Bool → Option (Bool)
  | 0, _, _, _, _, _, _, _, _, _, _, _ => none
  | k + 1, x3, x4, x5, x7, x8, x11, x12, x15, x16, x17, x122 => if x122 = true then (some false) else (if x15 = 0 then (if x12 = true then (laws_FnScales.j2 k x3 x4 x5 x7 x8 false) else ((laws_f6abs.f x16).bind fun t423 => (if (wrap64 (2 * t423)) > x11 then (laws_FnScales.j2 k x3 x4 x5 x7 x8 true) else ((laws_f6abs.f x17).bind fun t424 => (laws_FnScales.j2 k x3 x4 x5 x7 x8 (decide ((wrap64 (2 * t424)) > x11))))))) else (laws_FnScales.j2 k x3 x4 x5 x7 x8 false))
def laws_FnScales.j2 : Nat → List (S28) → Int → Bool → Int → Int → Bool → Option (Bool)
  | 0, _, _, _, _, _, _ => none
  | k + 1, x3, x4, x5, x7, x8, x142 => if x142 = true then (some false) else (if x7 = 0 then (laws_FnScales.l0 k x3 x4 x5 x8 0) else (some true))
def laws_FnScales.l0 : Nat → List (S28) → Int → Bool → Int → Int → Option (Bool)
  | 0, _, _, _, _, _ => none
  | k + 1, x3, x4, x5, x8, x24 => if x24 < (x3.length : Int) then (if 0 ≤ x24 then ((impl_LossOf.f k ((rd_T28 x3 x24).f0) ((rd_T28 x3 x24).f1) x8 x5).bind fun bt426 => (if bt426.2.2 = 0 then ((laws_f6abs.f bt426.1).bind fun t429 => (if t429 > x4 then (some false) else ((laws_f6abs.f bt426.2.1).bind fun t430 => (if t430 > x4 then (some false) else (laws_FnScales.l0 k x3 x4 x5 x8 (wrap64 (x24 + 1))))))) else (some false))) else (none)) else (if x8 ≥ 1 then (some (decide (x8 ≤ 1000))) else (some false))
end
def laws_FnScales.f (k : Nat) (l0 : List Int) : Option (Bool) := (laws_f6big.f l0).bind fun t397 => (if t397 = true then (some true) else ((spec_DrawBestScale.f k l0).bind fun bt398 => ((impl_BestScale.f k bt398.1 bt398.2.1 bt398.2.2).bind fun bt403 => ((spec_BestScale.f k bt398.1 bt398.2.1 bt398.2.2).bind fun bt405 => ((spec_DrawLossOf.f k l0).bind fun bt407 => ((impl_LossOf.f k bt407.1 bt407.2.1 bt407.2.2.1 bt407.2.2.2).bind fun bt412 => ((spec_LossOf.f k bt407.1 bt407.2.1 bt407.2.2.1 bt407.2.2.2).bind fun bt415 => ((spec_DrawStretchAt.f l0).bind fun t418 => ((impl_StretchAt.f k t418).bind fun bt419 => ((spec_StretchAt.f k t418).bind fun bt421 => (if bt403.2 = bt405.2 then (if bt403.1 = bt405.1 then (if bt412.2.2 = bt415.2.2 then (if bt412.1 = bt415.1 then (if bt412.2.1 = bt415.2.1 then (if bt419.2 = bt421.2 then (laws_FnScales.j0 k bt398.1 bt398.2.1 bt398.2.2 bt403.2 bt405.1 bt407.2.2.1 bt407.2.2.2 bt412.2.2 bt415.1 bt415.2.1 bt419.2 bt421.1 (bt419.1 != bt421.1)) else (laws_FnScales.j0 k bt398.1 bt398.2.1 bt398.2.2 bt403.2 bt405.1 bt407.2.2.1 bt407.2.2.2 bt412.2.2 bt415.1 bt415.2.1 bt419.2 bt421.1 true)) else (laws_FnScales.j0 k bt398.1 bt398.2.1 bt398.2.2 bt403.2 bt405.1 bt407.2.2.1 bt407.2.2.2 bt412.2.2 bt415.1 bt415.2.1 bt419.2 bt421.1 true)) else (laws_FnScales.j0 k bt398.1 bt398.2.1 bt398.2.2 bt403.2 bt405.1 bt407.2.2.1 bt407.2.2.2 bt412.2.2 bt415.1 bt415.2.1 bt419.2 bt421.1 true)) else (laws_FnScales.j0 k bt398.1 bt398.2.1 bt398.2.2 bt403.2 bt405.1 bt407.2.2.1 bt407.2.2.2 bt412.2.2 bt415.1 bt415.2.1 bt419.2 bt421.1 true)) else (laws_FnScales.j0 k bt398.1 bt398.2.1 bt398.2.2 bt403.2 bt405.1 bt407.2.2.1 bt407.2.2.2 bt412.2.2 bt415.1 bt415.2.1 bt419.2 bt421.1 true)) else (laws_FnScales.j0 k bt398.1 bt398.2.1 bt398.2.2 bt403.2 bt405.1 bt407.2.2.1 bt407.2.2.2 bt412.2.2 bt415.1 bt415.2.1 bt419.2 bt421.1 true))))))))))))
theorem laws_FnScales.mono_l : ∀ k, (∀ y0 y1 y2 y3 y4 y5 y6 y7 y8 y9 y10 y11 y12, LeO (laws_FnScales.j0 k y0 y1 y2 y3 y4 y5 y6 y7 y8 y9 y10 y11 y12) (laws_FnScales.j0 (k + 1) y0 y1 y2 y3 y4 y5 y6 y7 y8 y9 y10 y11 y12)) ∧ (∀ y0 y1 y2 y3 y4 y5 y6 y7 y8 y9 y10, LeO (laws_FnScales.j1 k y0 y1 y2 y3 y4 y5 y6 y7 y8 y9 y10) (laws_FnScales.j1 (k + 1) y0 y1 y2 y3 y4 y5 y6 y7 y8 y9 y10)) ∧ (∀ y0 y1 y2 y3 y4 y5, LeO (laws_FnScales.j2 k y0 y1 y2 y3 y4 y5) (laws_FnScales.j2 (k + 1) y0 y1 y2 y3 y4 y5)) ∧ (∀ y0 y1 y2 y3 y4, LeO (laws_FnScales.l0 k y0 y1 y2 y3 y4) (laws_FnScales.l0 (k + 1) y0 y1 y2 y3 y4))
  | 0 => ⟨fun _ _ _ _ _ _ _ _ _ _ _ _ _ r h => by simp [laws_FnScales.j0] at h, fun _ _ _ _ _ _ _ _ _ _ _ r h => by simp [laws_FnScales.j1] at h, fun _ _ _ _ _ _ r h => by simp [laws_FnScales.j2] at h, fun _ _ _ _ _ r h => by simp [laws_FnScales.l0] at h⟩
  | k + 1 => by
    obtain ⟨ih0, ih1, ih2, ih3⟩ := laws_FnScales.mono_l k
    refine ⟨?_, ?_, ?_, ?_⟩
    · intro y0 y1 y2 y3 y4 y5 y6 y7 y8 y9 y10 y11 y12
      unfold laws_FnScales.j0
      repeat' first
      | (with_reducible exact ih0 _ _ _ _ _ _ _ _ _ _ _ _ _)
      | (with_reducible exact ih1 _ _ _ _ _ _ _ _ _ _ _)
      | (with_reducible exact ih2 _ _ _ _ _ _)
      | (with_reducible exact ih3 _ _ _ _ _)
      | (with_reducible exact impl_BestScale.mono _ _ _ _)
      | (with_reducible exact impl_LossOf.mono _ _ _ _ _)
      | (with_reducible exact impl_StretchAt.mono _ _)
      | (with_reducible exact spec_BestScale.mono _ _ _ _)
      | (with_reducible exact spec_DrawBestScale.mono _ _)
      | (with_reducible exact spec_DrawLossOf.mono _ _)
      | (with_reducible exact spec_LossOf.mono _ _ _ _ _)
      | (with_reducible exact spec_StretchAt.mono _ _)
      | (with_reducible exact LeO.refl _)
      | (with_reducible exact LeO.none _)
      | (with_reducible refine LeO.ite ?_ ?_)
      | (with_reducible refine LeO.bind ?_ (fun _ => ?_))
      | exact ih0 _ _ _ _ _ _ _ _ _ _ _ _ _
      | exact ih1 _ _ _ _ _ _ _ _ _ _ _
      | exact ih2 _ _ _ _ _ _
      | exact ih3 _ _ _ _ _
      | exact impl_BestScale.mono _ _ _ _
      | exact impl_LossOf.mono _ _ _ _ _
      | exact impl_StretchAt.mono _ _
      | exact spec_BestScale.mono _ _ _ _
      | exact spec_DrawBestScale.mono _ _
      | exact spec_DrawLossOf.mono _ _
      | exact spec_LossOf.mono _ _ _ _ _
      | exact spec_StretchAt.mono _ _
      | exact LeO.none _
      | refine LeO.ite ?_ ?_
      | refine LeO.bind ?_ (fun _ => ?_)
    · intro y0 y1 y2 y3 y4 y5 y6 y7 y8 y9 y10
      unfold laws_FnScales.j1
      repeat' first
      | (with_reducible exact ih0 _ _ _ _ _ _ _ _ _ _ _ _ _)
      | (with_reducible exact ih1 _ _ _ _ _ _ _ _ _ _ _)
      | (with_reducible exact ih2 _ _ _ _ _ _)
      | (with_reducible exact ih3 _ _ _ _ _)
      | (with_reducible exact impl_BestScale.mono _ _ _ _)
      | (with_reducible exact impl_LossOf.mono _ _ _ _ _)
      | (with_reducible exact impl_StretchAt.mono _ _)
      | (with_reducible exact spec_BestScale.mono _ _ _ _)
      | (with_reducible exact spec_DrawBestScale.mono _ _)
      | (with_reducible exact spec_DrawLossOf.mono _ _)
      | (with_reducible exact spec_LossOf.mono _ _ _ _ _)
      | (with_reducible exact spec_StretchAt.mono _ _)
      | (with_reducible exact LeO.refl _)
      | (with_reducible exact LeO.none _)
      | (with_reducible refine LeO.ite ?_ ?_)
      | (with_reducible refine LeO.bind ?_ (fun _ => ?_))
      | exact ih0 _ _ _ _ _ _ _ _ _ _ _ _ _
      | exact ih1 _ _ _ _ _ _ _ _ _ _ _
      | exact ih2 _ _ _ _ _ _
      | exact ih3 _ _ _ _ _
      | exact impl_BestScale.mono _ _ _ _
      | exact impl_LossOf.mono _ _ _ _ _
      | exact impl_StretchAt.mono _ _
      | exact spec_BestScale.mono _ _ _ _
      | exact spec_DrawBestScale.mono _ _
      | exact spec_DrawLossOf.mono _ _
      | exact spec_LossOf.mono _ _ _ _ _
      | exact spec_StretchAt.mono _ _
      | exact LeO.none _
      | refine LeO.ite ?_ ?_
      | refine LeO.bind ?_ (fun _ => ?_)
    · intro y0 y1 y2 y3 y4 y5
      unfold laws_FnScales.j2
      repeat' first
      | (with_reducible exact ih0 _ _ _ _ _ _ _ _ _ _ _ _ _)
      | (with_reducible exact ih1 _ _ _ _ _ _ _ _ _ _ _)
      | (with_reducible exact ih2 _ _ _ _ _ _)
      | (with_reducible exact ih3 _ _ _ _ _)
      | (with_reducible exact impl_BestScale.mono _ _ _ _)
      | (with_reducible exact impl_LossOf.mono _ _ _ _ _)
      | (with_reducible exact impl_StretchAt.mono _ _)
      | (with_reducible exact spec_BestScale.mono _ _ _ _)
      | (with_reducible exact spec_DrawBestScale.mono _ _)
      | (with_reducible exact spec_DrawLossOf.mono _ _)
      | (with_reducible exact spec_LossOf.mono _ _ _ _ _)
      | (with_reducible exact spec_StretchAt.mono _ _)
      | (with_reducible exact LeO.refl _)
      | (with_reducible exact LeO.none _)
      | (with_reducible refine LeO.ite ?_ ?_)
      | (with_reducible refine LeO.bind ?_ (fun _ => ?_))
      | exact ih0 _ _ _ _ _ _ _ _ _ _ _ _ _
      | exact ih1 _ _ _ _ _ _ _ _ _ _ _
      | exact ih2 _ _ _ _ _ _
      | exact ih3 _ _ _ _ _
      | exact impl_BestScale.mono _ _ _ _
      | exact impl_LossOf.mono _ _ _ _ _
      | exact impl_StretchAt.mono _ _
      | exact spec_BestScale.mono _ _ _ _
      | exact spec_DrawBestScale.mono _ _
      | exact spec_DrawLossOf.mono _ _
      | exact spec_LossOf.mono _ _ _ _ _
      | exact spec_StretchAt.mono _ _
      | exact LeO.none _
      | refine LeO.ite ?_ ?_
      | refine LeO.bind ?_ (fun _ => ?_)
    · intro y0 y1 y2 y3 y4
      unfold laws_FnScales.l0
      repeat' first
      | (with_reducible exact ih0 _ _ _ _ _ _ _ _ _ _ _ _ _)
      | (with_reducible exact ih1 _ _ _ _ _ _ _ _ _ _ _)
      | (with_reducible exact ih2 _ _ _ _ _ _)
      | (with_reducible exact ih3 _ _ _ _ _)
      | (with_reducible exact impl_BestScale.mono _ _ _ _)
      | (with_reducible exact impl_LossOf.mono _ _ _ _ _)
      | (with_reducible exact impl_StretchAt.mono _ _)
      | (with_reducible exact spec_BestScale.mono _ _ _ _)
      | (with_reducible exact spec_DrawBestScale.mono _ _)
      | (with_reducible exact spec_DrawLossOf.mono _ _)
      | (with_reducible exact spec_LossOf.mono _ _ _ _ _)
      | (with_reducible exact spec_StretchAt.mono _ _)
      | (with_reducible exact LeO.refl _)
      | (with_reducible exact LeO.none _)
      | (with_reducible refine LeO.ite ?_ ?_)
      | (with_reducible refine LeO.bind ?_ (fun _ => ?_))
      | exact ih0 _ _ _ _ _ _ _ _ _ _ _ _ _
      | exact ih1 _ _ _ _ _ _ _ _ _ _ _
      | exact ih2 _ _ _ _ _ _
      | exact ih3 _ _ _ _ _
      | exact impl_BestScale.mono _ _ _ _
      | exact impl_LossOf.mono _ _ _ _ _
      | exact impl_StretchAt.mono _ _
      | exact spec_BestScale.mono _ _ _ _
      | exact spec_DrawBestScale.mono _ _
      | exact spec_DrawLossOf.mono _ _
      | exact spec_LossOf.mono _ _ _ _ _
      | exact spec_StretchAt.mono _ _
      | exact LeO.none _
      | refine LeO.ite ?_ ?_
      | refine LeO.bind ?_ (fun _ => ?_)
theorem laws_FnScales.mono : ∀ a0 k, LeO (laws_FnScales.f k a0) (laws_FnScales.f (k + 1) a0) := by
  intro a0 k
  obtain ⟨ih0, ih1, ih2, ih3⟩ := laws_FnScales.mono_l k
  unfold laws_FnScales.f
  repeat' first
      | (with_reducible exact ih0 _ _ _ _ _ _ _ _ _ _ _ _ _)
      | (with_reducible exact ih1 _ _ _ _ _ _ _ _ _ _ _)
      | (with_reducible exact ih2 _ _ _ _ _ _)
      | (with_reducible exact ih3 _ _ _ _ _)
      | (with_reducible exact impl_BestScale.mono _ _ _ _)
      | (with_reducible exact impl_LossOf.mono _ _ _ _ _)
      | (with_reducible exact impl_StretchAt.mono _ _)
      | (with_reducible exact spec_BestScale.mono _ _ _ _)
      | (with_reducible exact spec_DrawBestScale.mono _ _)
      | (with_reducible exact spec_DrawLossOf.mono _ _)
      | (with_reducible exact spec_LossOf.mono _ _ _ _ _)
      | (with_reducible exact spec_StretchAt.mono _ _)
      | (with_reducible exact LeO.refl _)
      | (with_reducible exact LeO.none _)
      | (with_reducible refine LeO.ite ?_ ?_)
      | (with_reducible refine LeO.bind ?_ (fun _ => ?_))
      | exact ih0 _ _ _ _ _ _ _ _ _ _ _ _ _
      | exact ih1 _ _ _ _ _ _ _ _ _ _ _
      | exact ih2 _ _ _ _ _ _
      | exact ih3 _ _ _ _ _
      | exact impl_BestScale.mono _ _ _ _
      | exact impl_LossOf.mono _ _ _ _ _
      | exact impl_StretchAt.mono _ _
      | exact spec_BestScale.mono _ _ _ _
      | exact spec_DrawBestScale.mono _ _
      | exact spec_DrawLossOf.mono _ _
      | exact spec_LossOf.mono _ _ _ _ _
      | exact spec_StretchAt.mono _ _
      | exact LeO.none _
      | refine LeO.ite ?_ ?_
      | refine LeO.bind ?_ (fun _ => ?_)
set_option maxHeartbeats 8000000 in
set_option maxRecDepth 100000 in
theorem laws_FnScales.calls (k : Nat) (A0 : Option Addr) (c0 : Nat) (l0 : List Int) (r : Bool) (w : World) (hr0 : Kd.C (Kd.int .u8) w A0 l0.length l0) (hc0 : l0.length ≤ c0) (h : laws_FnScales.f k l0 = some r) :
    Calls Try.prog 12 #[.slice A0 l0.length c0] w fun e w' => e = .returned (.bool r) ∧ Below w.heap.size w w' := by
  have hu28 := Try.underlying28
  have HR0 := Aside0.mk hr0
  have HC0 := Aside0.mk hc0
  clear hr0 hc0
  have HB := Aside0.mk (Below.refl w.heap.size w)
  have H : ((laws_f6big.f l0).bind fun t397 => (if t397 = true then (some true) else ((spec_DrawBestScale.f k l0).bind fun bt398 => ((impl_BestScale.f k bt398.1 bt398.2.1 bt398.2.2).bind fun bt403 => ((spec_BestScale.f k bt398.1 bt398.2.1 bt398.2.2).bind fun bt405 => ((spec_DrawLossOf.f k l0).bind fun bt407 => ((impl_LossOf.f k bt407.1 bt407.2.1 bt407.2.2.1 bt407.2.2.2).bind fun bt412 => ((spec_LossOf.f k bt407.1 bt407.2.1 bt407.2.2.1 bt407.2.2.2).bind fun bt415 => ((spec_DrawStretchAt.f l0).bind fun t418 => ((impl_StretchAt.f k t418).bind fun bt419 => ((spec_StretchAt.f k t418).bind fun bt421 => (if bt403.2 = bt405.2 then (if bt403.1 = bt405.1 then (if bt412.2.2 = bt415.2.2 then (if bt412.1 = bt415.1 then (if bt412.2.1 = bt415.2.1 then (if bt419.2 = bt421.2 then (laws_FnScales.j0 k bt398.1 bt398.2.1 bt398.2.2 bt403.2 bt405.1 bt407.2.2.1 bt407.2.2.2 bt412.2.2 bt415.1 bt415.2.1 bt419.2 bt421.1 (bt419.1 != bt421.1)) else (laws_FnScales.j0 k bt398.1 bt398.2.1 bt398.2.2 bt403.2 bt405.1 bt407.2.2.1 bt407.2.2.2 bt412.2.2 bt415.1 bt415.2.1 bt419.2 bt421.1 true)) else (laws_FnScales.j0 k bt398.1 bt398.2.1 bt398.2.2 bt403.2 bt405.1 bt407.2.2.1 bt407.2.2.2 bt412.2.2 bt415.1 bt415.2.1 bt419.2 bt421.1 true)) else (laws_FnScales.j0 k bt398.1 bt398.2.1 bt398.2.2 bt403.2 bt405.1 bt407.2.2.1 bt407.2.2.2 bt412.2.2 bt415.1 bt415.2.1 bt419.2 bt421.1 true)) else (laws_FnScales.j0 k bt398.1 bt398.2.1 bt398.2.2 bt403.2 bt405.1 bt407.2.2.1 bt407.2.2.2 bt412.2.2 bt415.1 bt415.2.1 bt419.2 bt421.1 true)) else (laws_FnScales.j0 k bt398.1 bt398.2.1 bt398.2.2 bt403.2 bt405.1 bt407.2.2.1 bt407.2.2.2 bt412.2.2 bt415.1 bt415.2.1 bt419.2 bt421.1 true)) else (laws_FnScales.j0 k bt398.1 bt398.2.1 bt398.2.2 bt403.2 bt405.1 bt407.2.2.1 bt407.2.2.2 bt412.2.2 bt415.1 bt415.2.1 bt419.2 bt421.1 true))))))))))))) = some r := h
  clear h
  replace H := Option.bind_eq_some_iff.mp H
  obtain ⟨t397, A20, H⟩ := H
  replace H : (if t397 = true then (some true) else ((spec_DrawBestScale.f k l0).bind fun bt398 => ((impl_BestScale.f k bt398.1 bt398.2.1 bt398.2.2).bind fun bt403 => ((spec_BestScale.f k bt398.1 bt398.2.1 bt398.2.2).bind fun bt405 => ((spec_DrawLossOf.f k l0).bind fun bt407 => ((impl_LossOf.f k bt407.1 bt407.2.1 bt407.2.2.1 bt407.2.2.2).bind fun bt412 => ((spec_LossOf.f k bt407.1 bt407.2.1 bt407.2.2.1 bt407.2.2.2).bind fun bt415 => ((spec_DrawStretchAt.f l0).bind fun t418 => ((impl_StretchAt.f k t418).bind fun bt419 => ((spec_StretchAt.f k t418).bind fun bt421 => (if bt403.2 = bt405.2 then (if bt403.1 = bt405.1 then (if bt412.2.2 = bt415.2.2 then (if bt412.1 = bt415.1 then (if bt412.2.1 = bt415.2.1 then (if bt419.2 = bt421.2 then (laws_FnScales.j0 k bt398.1 bt398.2.1 bt398.2.2 bt403.2 bt405.1 bt407.2.2.1 bt407.2.2.2 bt412.2.2 bt415.1 bt415.2.1 bt419.2 bt421.1 (bt419.1 != bt421.1)) else (laws_FnScales.j0 k bt398.1 bt398.2.1 bt398.2.2 bt403.2 bt405.1 bt407.2.2.1 bt407.2.2.2 bt412.2.2 bt415.1 bt415.2.1 bt419.2 bt421.1 true)) else (laws_FnScales.j0 k bt398.1 bt398.2.1 bt398.2.2 bt403.2 bt405.1 bt407.2.2.1 bt407.2.2.2 bt412.2.2 bt415.1 bt415.2.1 bt419.2 bt421.1 true)) else (laws_FnScales.j0 k bt398.1 bt398.2.1 bt398.2.2 bt403.2 bt405.1 bt407.2.2.1 bt407.2.2.2 bt412.2.2 bt415.1 bt415.2.1 bt419.2 bt421.1 true)) else (laws_FnScales.j0 k bt398.1 bt398.2.1 bt398.2.2 bt403.2 bt405.1 bt407.2.2.1 bt407.2.2.2 bt412.2.2 bt415.1 bt415.2.1 bt419.2 bt421.1 true)) else (laws_FnScales.j0 k bt398.1 bt398.2.1 bt398.2.2 bt403.2 bt405.1 bt407.2.2.1 bt407.2.2.2 bt412.2.2 bt415.1 bt415.2.1 bt419.2 bt421.1 true)) else (laws_FnScales.j0 k bt398.1 bt398.2.1 bt398.2.2 bt403.2 bt405.1 bt407.2.2.1 bt407.2.2.2 bt412.2.2 bt415.1 bt415.2.1 bt419.2 bt421.1 true)))))))))))) = some r := H
  have A2 := Aside0.mk A20
  clear A20
  by_cases c3 : t397 = true
  · subst c3
    have H1 : (some true) = some r := by rw [if_pos rfl] at H; exact H
    clear H
    have H := H1
    clear H1
    obtain rfl := Option.some.inj H
    go_enter Try.func12, Try.ntmps12
    go_wp2_with (first | ((with_reducible refine gate_callee (f := 39) rfl ?_); refine goesL_ (some 29) rfl rfl Try.func39 (by kernel_rfl) rfl #[.slice A0 l0.length c0] rfl (by (try simp only [List.map_toArray, List.map_cons, List.map_nil]); first | done | rfl | (simp only [List.length_drop, List.length_take]; rfl)) ?_; (with_reducible refine (laws_f6big.calls _ _ l0 true _ ?side1 ?side2 A2.out).mono ?_); (case side1 => repeat (first | exact HR0.out | (with_reducible refine Kd.C_alloc ?_ _) | (with_reducible refine Kd.C_drewN ?_ _) | (with_reducible refine Kd.C_drew ?_))); (case side2 => exact HC0.out); rintro e w' ⟨rfl, ⟨nd, rfl⟩⟩; refine ⟨_, rfl, ?_⟩))
    go_ret
    exact ⟨by first | rfl | (simp [errW_none, errW_some] <;> rfl) | (simp [*, errW_none, errW_some] <;> rfl), by repeat (first | (with_reducible first | exact HB.out | apply below_alloc | apply pw_below_drewN | apply below_drew1) | exact HB.out)⟩
  · replace c3 := Bool.eq_false_iff.mpr c3
    subst c3
    have H1 : ((spec_DrawBestScale.f k l0).bind fun bt398 => ((impl_BestScale.f k bt398.1 bt398.2.1 bt398.2.2).bind fun bt403 => ((spec_BestScale.f k bt398.1 bt398.2.1 bt398.2.2).bind fun bt405 => ((spec_DrawLossOf.f k l0).bind fun bt407 => ((impl_LossOf.f k bt407.1 bt407.2.1 bt407.2.2.1 bt407.2.2.2).bind fun bt412 => ((spec_LossOf.f k bt407.1 bt407.2.1 bt407.2.2.1 bt407.2.2.2).bind fun bt415 => ((spec_DrawStretchAt.f l0).bind fun t418 => ((impl_StretchAt.f k t418).bind fun bt419 => ((spec_StretchAt.f k t418).bind fun bt421 => (if bt403.2 = bt405.2 then (if bt403.1 = bt405.1 then (if bt412.2.2 = bt415.2.2 then (if bt412.1 = bt415.1 then (if bt412.2.1 = bt415.2.1 then (if bt419.2 = bt421.2 then (laws_FnScales.j0 k bt398.1 bt398.2.1 bt398.2.2 bt403.2 bt405.1 bt407.2.2.1 bt407.2.2.2 bt412.2.2 bt415.1 bt415.2.1 bt419.2 bt421.1 (bt419.1 != bt421.1)) else (laws_FnScales.j0 k bt398.1 bt398.2.1 bt398.2.2 bt403.2 bt405.1 bt407.2.2.1 bt407.2.2.2 bt412.2.2 bt415.1 bt415.2.1 bt419.2 bt421.1 true)) else (laws_FnScales.j0 k bt398.1 bt398.2.1 bt398.2.2 bt403.2 bt405.1 bt407.2.2.1 bt407.2.2.2 bt412.2.2 bt415.1 bt415.2.1 bt419.2 bt421.1 true)) else (laws_FnScales.j0 k bt398.1 bt398.2.1 bt398.2.2 bt403.2 bt405.1 bt407.2.2.1 bt407.2.2.2 bt412.2.2 bt415.1 bt415.2.1 bt419.2 bt421.1 true)) else (laws_FnScales.j0 k bt398.1 bt398.2.1 bt398.2.2 bt403.2 bt405.1 bt407.2.2.1 bt407.2.2.2 bt412.2.2 bt415.1 bt415.2.1 bt419.2 bt421.1 true)) else (laws_FnScales.j0 k bt398.1 bt398.2.1 bt398.2.2 bt403.2 bt405.1 bt407.2.2.1 bt407.2.2.2 bt412.2.2 bt415.1 bt415.2.1 bt419.2 bt421.1 true)) else (laws_FnScales.j0 k bt398.1 bt398.2.1 bt398.2.2 bt403.2 bt405.1 bt407.2.2.1 bt407.2.2.2 bt412.2.2 bt415.1 bt415.2.1 bt419.2 bt421.1 true))))))))))) = some r := by rw [if_neg (show ¬ (false = true) by decide)] at H; exact H
    clear H
    have H := H1
    clear H1
    replace H := Option.bind_eq_some_iff.mp H
    obtain ⟨⟨t398, t399, t400⟩, A40, H⟩ := H
    replace H : ((impl_BestScale.f k t398 t399 t400).bind fun bt403 => ((spec_BestScale.f k t398 t399 t400).bind fun bt405 => ((spec_DrawLossOf.f k l0).bind fun bt407 => ((impl_LossOf.f k bt407.1 bt407.2.1 bt407.2.2.1 bt407.2.2.2).bind fun bt412 => ((spec_LossOf.f k bt407.1 bt407.2.1 bt407.2.2.1 bt407.2.2.2).bind fun bt415 => ((spec_DrawStretchAt.f l0).bind fun t418 => ((impl_StretchAt.f k t418).bind fun bt419 => ((spec_StretchAt.f k t418).bind fun bt421 => (if bt403.2 = bt405.2 then (if bt403.1 = bt405.1 then (if bt412.2.2 = bt415.2.2 then (if bt412.1 = bt415.1 then (if bt412.2.1 = bt415.2.1 then (if bt419.2 = bt421.2 then (laws_FnScales.j0 k t398 t399 t400 bt403.2 bt405.1 bt407.2.2.1 bt407.2.2.2 bt412.2.2 bt415.1 bt415.2.1 bt419.2 bt421.1 (bt419.1 != bt421.1)) else (laws_FnScales.j0 k t398 t399 t400 bt403.2 bt405.1 bt407.2.2.1 bt407.2.2.2 bt412.2.2 bt415.1 bt415.2.1 bt419.2 bt421.1 true)) else (laws_FnScales.j0 k t398 t399 t400 bt403.2 bt405.1 bt407.2.2.1 bt407.2.2.2 bt412.2.2 bt415.1 bt415.2.1 bt419.2 bt421.1 true)) else (laws_FnScales.j0 k t398 t399 t400 bt403.2 bt405.1 bt407.2.2.1 bt407.2.2.2 bt412.2.2 bt415.1 bt415.2.1 bt419.2 bt421.1 true)) else (laws_FnScales.j0 k t398 t399 t400 bt403.2 bt405.1 bt407.2.2.1 bt407.2.2.2 bt412.2.2 bt415.1 bt415.2.1 bt419.2 bt421.1 true)) else (laws_FnScales.j0 k t398 t399 t400 bt403.2 bt405.1 bt407.2.2.1 bt407.2.2.2 bt412.2.2 bt415.1 bt415.2.1 bt419.2 bt421.1 true)) else (laws_FnScales.j0 k t398 t399 t400 bt403.2 bt405.1 bt407.2.2.1 bt407.2.2.2 bt412.2.2 bt415.1 bt415.2.1 bt419.2 bt421.1 true)))))))))) = some r := H
    have A4 := Aside0.mk A40
    clear A40
    replace H := Option.bind_eq_some_iff.mp H
    obtain ⟨⟨t403, t404⟩, A50, H⟩ := H
    replace H : ((spec_BestScale.f k t398 t399 t400).bind fun bt405 => ((spec_DrawLossOf.f k l0).bind fun bt407 => ((impl_LossOf.f k bt407.1 bt407.2.1 bt407.2.2.1 bt407.2.2.2).bind fun bt412 => ((spec_LossOf.f k bt407.1 bt407.2.1 bt407.2.2.1 bt407.2.2.2).bind fun bt415 => ((spec_DrawStretchAt.f l0).bind fun t418 => ((impl_StretchAt.f k t418).bind fun bt419 => ((spec_StretchAt.f k t418).bind fun bt421 => (if t404 = bt405.2 then (if t403 = bt405.1 then (if bt412.2.2 = bt415.2.2 then (if bt412.1 = bt415.1 then (if bt412.2.1 = bt415.2.1 then (if bt419.2 = bt421.2 then (laws_FnScales.j0 k t398 t399 t400 t404 bt405.1 bt407.2.2.1 bt407.2.2.2 bt412.2.2 bt415.1 bt415.2.1 bt419.2 bt421.1 (bt419.1 != bt421.1)) else (laws_FnScales.j0 k t398 t399 t400 t404 bt405.1 bt407.2.2.1 bt407.2.2.2 bt412.2.2 bt415.1 bt415.2.1 bt419.2 bt421.1 true)) else (laws_FnScales.j0 k t398 t399 t400 t404 bt405.1 bt407.2.2.1 bt407.2.2.2 bt412.2.2 bt415.1 bt415.2.1 bt419.2 bt421.1 true)) else (laws_FnScales.j0 k t398 t399 t400 t404 bt405.1 bt407.2.2.1 bt407.2.2.2 bt412.2.2 bt415.1 bt415.2.1 bt419.2 bt421.1 true)) else (laws_FnScales.j0 k t398 t399 t400 t404 bt405.1 bt407.2.2.1 bt407.2.2.2 bt412.2.2 bt415.1 bt415.2.1 bt419.2 bt421.1 true)) else (laws_FnScales.j0 k t398 t399 t400 t404 bt405.1 bt407.2.2.1 bt407.2.2.2 bt412.2.2 bt415.1 bt415.2.1 bt419.2 bt421.1 true)) else (laws_FnScales.j0 k t398 t399 t400 t404 bt405.1 bt407.2.2.1 bt407.2.2.2 bt412.2.2 bt415.1 bt415.2.1 bt419.2 bt421.1 true))))))))) = some r := H
    have A5 := Aside0.mk A50
    clear A50
    replace H := Option.bind_eq_some_iff.mp H
    obtain ⟨⟨t405, t406⟩, A60, H⟩ := H
    replace H : ((spec_DrawLossOf.f k l0).bind fun bt407 => ((impl_LossOf.f k bt407.1 bt407.2.1 bt407.2.2.1 bt407.2.2.2).bind fun bt412 => ((spec_LossOf.f k bt407.1 bt407.2.1 bt407.2.2.1 bt407.2.2.2).bind fun bt415 => ((spec_DrawStretchAt.f l0).bind fun t418 => ((impl_StretchAt.f k t418).bind fun bt419 => ((spec_StretchAt.f k t418).bind fun bt421 => (if t404 = t406 then (if t403 = t405 then (if bt412.2.2 = bt415.2.2 then (if bt412.1 = bt415.1 then (if bt412.2.1 = bt415.2.1 then (if bt419.2 = bt421.2 then (laws_FnScales.j0 k t398 t399 t400 t404 t405 bt407.2.2.1 bt407.2.2.2 bt412.2.2 bt415.1 bt415.2.1 bt419.2 bt421.1 (bt419.1 != bt421.1)) else (laws_FnScales.j0 k t398 t399 t400 t404 t405 bt407.2.2.1 bt407.2.2.2 bt412.2.2 bt415.1 bt415.2.1 bt419.2 bt421.1 true)) else (laws_FnScales.j0 k t398 t399 t400 t404 t405 bt407.2.2.1 bt407.2.2.2 bt412.2.2 bt415.1 bt415.2.1 bt419.2 bt421.1 true)) else (laws_FnScales.j0 k t398 t399 t400 t404 t405 bt407.2.2.1 bt407.2.2.2 bt412.2.2 bt415.1 bt415.2.1 bt419.2 bt421.1 true)) else (laws_FnScales.j0 k t398 t399 t400 t404 t405 bt407.2.2.1 bt407.2.2.2 bt412.2.2 bt415.1 bt415.2.1 bt419.2 bt421.1 true)) else (laws_FnScales.j0 k t398 t399 t400 t404 t405 bt407.2.2.1 bt407.2.2.2 bt412.2.2 bt415.1 bt415.2.1 bt419.2 bt421.1 true)) else (laws_FnScales.j0 k t398 t399 t400 t404 t405 bt407.2.2.1 bt407.2.2.2 bt412.2.2 bt415.1 bt415.2.1 bt419.2 bt421.1 true)))))))) = some r := H
    have A6 := Aside0.mk A60
    clear A60
    replace H := Option.bind_eq_some_iff.mp H
    obtain ⟨⟨t407, t408, t409, t410⟩, A70, H⟩ := H
    replace H : ((impl_LossOf.f k t407 t408 t409 t410).bind fun bt412 => ((spec_LossOf.f k t407 t408 t409 t410).bind fun bt415 => ((spec_DrawStretchAt.f l0).bind fun t418 => ((impl_StretchAt.f k t418).bind fun bt419 => ((spec_StretchAt.f k t418).bind fun bt421 => (if t404 = t406 then (if t403 = t405 then (if bt412.2.2 = bt415.2.2 then (if bt412.1 = bt415.1 then (if bt412.2.1 = bt415.2.1 then (if bt419.2 = bt421.2 then (laws_FnScales.j0 k t398 t399 t400 t404 t405 t409 t410 bt412.2.2 bt415.1 bt415.2.1 bt419.2 bt421.1 (bt419.1 != bt421.1)) else (laws_FnScales.j0 k t398 t399 t400 t404 t405 t409 t410 bt412.2.2 bt415.1 bt415.2.1 bt419.2 bt421.1 true)) else (laws_FnScales.j0 k t398 t399 t400 t404 t405 t409 t410 bt412.2.2 bt415.1 bt415.2.1 bt419.2 bt421.1 true)) else (laws_FnScales.j0 k t398 t399 t400 t404 t405 t409 t410 bt412.2.2 bt415.1 bt415.2.1 bt419.2 bt421.1 true)) else (laws_FnScales.j0 k t398 t399 t400 t404 t405 t409 t410 bt412.2.2 bt415.1 bt415.2.1 bt419.2 bt421.1 true)) else (laws_FnScales.j0 k t398 t399 t400 t404 t405 t409 t410 bt412.2.2 bt415.1 bt415.2.1 bt419.2 bt421.1 true)) else (laws_FnScales.j0 k t398 t399 t400 t404 t405 t409 t410 bt412.2.2 bt415.1 bt415.2.1 bt419.2 bt421.1 true))))))) = some r := H
    have A7 := Aside0.mk A70
    clear A70
    replace H := Option.bind_eq_some_iff.mp H
    obtain ⟨⟨t412, t413, t414⟩, A80, H⟩ := H
    replace H : ((spec_LossOf.f k t407 t408 t409 t410).bind fun bt415 => ((spec_DrawStretchAt.f l0).bind fun t418 => ((impl_StretchAt.f k t418).bind fun bt419 => ((spec_StretchAt.f k t418).bind fun bt421 => (if t404 = t406 then (if t403 = t405 then (if t414 = bt415.2.2 then (if t412 = bt415.1 then (if t413 = bt415.2.1 then (if bt419.2 = bt421.2 then (laws_FnScales.j0 k t398 t399 t400 t404 t405 t409 t410 t414 bt415.1 bt415.2.1 bt419.2 bt421.1 (bt419.1 != bt421.1)) else (laws_FnScales.j0 k t398 t399 t400 t404 t405 t409 t410 t414 bt415.1 bt415.2.1 bt419.2 bt421.1 true)) else (laws_FnScales.j0 k t398 t399 t400 t404 t405 t409 t410 t414 bt415.1 bt415.2.1 bt419.2 bt421.1 true)) else (laws_FnScales.j0 k t398 t399 t400 t404 t405 t409 t410 t414 bt415.1 bt415.2.1 bt419.2 bt421.1 true)) else (laws_FnScales.j0 k t398 t399 t400 t404 t405 t409 t410 t414 bt415.1 bt415.2.1 bt419.2 bt421.1 true)) else (laws_FnScales.j0 k t398 t399 t400 t404 t405 t409 t410 t414 bt415.1 bt415.2.1 bt419.2 bt421.1 true)) else (laws_FnScales.j0 k t398 t399 t400 t404 t405 t409 t410 t414 bt415.1 bt415.2.1 bt419.2 bt421.1 true)))))) = some r := H
    have A8 := Aside0.mk A80
    clear A80
    replace H := Option.bind_eq_some_iff.mp H
    obtain ⟨⟨t415, t416, t417⟩, A90, H⟩ := H
    replace H : ((spec_DrawStretchAt.f l0).bind fun t418 => ((impl_StretchAt.f k t418).bind fun bt419 => ((spec_StretchAt.f k t418).bind fun bt421 => (if t404 = t406 then (if t403 = t405 then (if t414 = t417 then (if t412 = t415 then (if t413 = t416 then (if bt419.2 = bt421.2 then (laws_FnScales.j0 k t398 t399 t400 t404 t405 t409 t410 t414 t415 t416 bt419.2 bt421.1 (bt419.1 != bt421.1)) else (laws_FnScales.j0 k t398 t399 t400 t404 t405 t409 t410 t414 t415 t416 bt419.2 bt421.1 true)) else (laws_FnScales.j0 k t398 t399 t400 t404 t405 t409 t410 t414 t415 t416 bt419.2 bt421.1 true)) else (laws_FnScales.j0 k t398 t399 t400 t404 t405 t409 t410 t414 t415 t416 bt419.2 bt421.1 true)) else (laws_FnScales.j0 k t398 t399 t400 t404 t405 t409 t410 t414 t415 t416 bt419.2 bt421.1 true)) else (laws_FnScales.j0 k t398 t399 t400 t404 t405 t409 t410 t414 t415 t416 bt419.2 bt421.1 true)) else (laws_FnScales.j0 k t398 t399 t400 t404 t405 t409 t410 t414 t415 t416 bt419.2 bt421.1 true))))) = some r := H
    have A9 := Aside0.mk A90
    clear A90
    replace H := Option.bind_eq_some_iff.mp H
    obtain ⟨t418, A100, H⟩ := H
    replace H : ((impl_StretchAt.f k t418).bind fun bt419 => ((spec_StretchAt.f k t418).bind fun bt421 => (if t404 = t406 then (if t403 = t405 then (if t414 = t417 then (if t412 = t415 then (if t413 = t416 then (if bt419.2 = bt421.2 then (laws_FnScales.j0 k t398 t399 t400 t404 t405 t409 t410 t414 t415 t416 bt419.2 bt421.1 (bt419.1 != bt421.1)) else (laws_FnScales.j0 k t398 t399 t400 t404 t405 t409 t410 t414 t415 t416 bt419.2 bt421.1 true)) else (laws_FnScales.j0 k t398 t399 t400 t404 t405 t409 t410 t414 t415 t416 bt419.2 bt421.1 true)) else (laws_FnScales.j0 k t398 t399 t400 t404 t405 t409 t410 t414 t415 t416 bt419.2 bt421.1 true)) else (laws_FnScales.j0 k t398 t399 t400 t404 t405 t409 t410 t414 t415 t416 bt419.2 bt421.1 true)) else (laws_FnScales.j0 k t398 t399 t400 t404 t405 t409 t410 t414 t415 t416 bt419.2 bt421.1 true)) else (laws_FnScales.j0 k t398 t399 t400 t404 t405 t409 t410 t414 t415 t416 bt419.2 bt421.1 true)))) = some r := H
    have A10 := Aside0.mk A100
    clear A100
    replace H := Option.bind_eq_some_iff.mp H
    obtain ⟨⟨t419, t420⟩, A110, H⟩ := H
    replace H : ((spec_StretchAt.f k t418).bind fun bt421 => (if t404 = t406 then (if t403 = t405 then (if t414 = t417 then (if t412 = t415 then (if t413 = t416 then (if t420 = bt421.2 then (laws_FnScales.j0 k t398 t399 t400 t404 t405 t409 t410 t414 t415 t416 t420 bt421.1 (t419 != bt421.1)) else (laws_FnScales.j0 k t398 t399 t400 t404 t405 t409 t410 t414 t415 t416 t420 bt421.1 true)) else (laws_FnScales.j0 k t398 t399 t400 t404 t405 t409 t410 t414 t415 t416 t420 bt421.1 true)) else (laws_FnScales.j0 k t398 t399 t400 t404 t405 t409 t410 t414 t415 t416 t420 bt421.1 true)) else (laws_FnScales.j0 k t398 t399 t400 t404 t405 t409 t410 t414 t415 t416 t420 bt421.1 true)) else (laws_FnScales.j0 k t398 t399 t400 t404 t405 t409 t410 t414 t415 t416 t420 bt421.1 true)) else (laws_FnScales.j0 k t398 t399 t400 t404 t405 t409 t410 t414 t415 t416 t420 bt421.1 true))) = some r := H
    have A11 := Aside0.mk A110
    clear A110
    replace H := Option.bind_eq_some_iff.mp H
    obtain ⟨⟨t421, t422⟩, A120, H⟩ := H
    replace H : (if t404 = t406 then (if t403 = t405 then (if t414 = t417 then (if t412 = t415 then (if t413 = t416 then (if t420 = t422 then (laws_FnScales.j0 k t398 t399 t400 t404 t405 t409 t410 t414 t415 t416 t420 t421 (t419 != t421)) else (laws_FnScales.j0 k t398 t399 t400 t404 t405 t409 t410 t414 t415 t416 t420 t421 true)) else (laws_FnScales.j0 k t398 t399 t400 t404 t405 t409 t410 t414 t415 t416 t420 t421 true)) else (laws_FnScales.j0 k t398 t399 t400 t404 t405 t409 t410 t414 t415 t416 t420 t421 true)) else (laws_FnScales.j0 k t398 t399 t400 t404 t405 t409 t410 t414 t415 t416 t420 t421 true)) else (laws_FnScales.j0 k t398 t399 t400 t404 t405 t409 t410 t414 t415 t416 t420 t421 true)) else (laws_FnScales.j0 k t398 t399 t400 t404 t405 t409 t410 t414 t415 t416 t420 t421 true)) = some r := H
    have A12 := Aside0.mk A120
    clear A120
    have HC13 := Aside0.mk H
    clear H
    go_enter Try.func12, Try.ntmps12
    go_upto_region 12 with (first | ((with_reducible refine gate_callee (f := 39) rfl ?_); refine goesL_ (some 29) rfl rfl Try.func39 (by kernel_rfl) rfl #[.slice A0 l0.length c0] rfl (by (try simp only [List.map_toArray, List.map_cons, List.map_nil]); first | done | rfl | (simp only [List.length_drop, List.length_take]; rfl)) ?_; (with_reducible refine (laws_f6big.calls _ _ l0 false _ ?side1 ?side2 A2.out).mono ?_); (case side1 => repeat (first | exact HR0.out | (with_reducible refine Kd.C_alloc ?_ _) | (with_reducible refine Kd.C_drewN ?_ _) | (with_reducible refine Kd.C_drew ?_))); (case side2 => exact HC0.out); rintro e w' ⟨rfl, ⟨nd, rfl⟩⟩; refine ⟨_, rfl, ?_⟩) | ((with_reducible refine gate_callee (f := 40) rfl ?_); refine goesL_ (some 32) rfl rfl Try.func40 (by kernel_rfl) rfl #[.slice A0 l0.length c0] rfl (by (try simp only [List.map_toArray, List.map_cons, List.map_nil]); first | done | rfl | (simp only [List.length_drop, List.length_take]; rfl)) ?_; (with_reducible refine (spec_DrawBestScale.calls k _ _ l0 t398 t399 t400 _ ?side1 ?side2 A4.out).mono ?_); (case side1 => repeat (first | exact HR0.out | (with_reducible refine Kd.C_alloc ?_ _) | (with_reducible refine Kd.C_drewN ?_ _) | (with_reducible refine Kd.C_drew ?_))); (case side2 => exact HC0.out); rintro e w14 ⟨v401, rfl, ho0, hb⟩; refine ⟨_, rfl, ?_⟩; have n0_ := Aside0.mk (Kd.R_lower ho0 (below_size (by repeat (first | (with_reducible first | exact HB.out | apply below_alloc | apply pw_below_drewN | apply below_drew1) | exact HB.out)))); have n1_ := Aside0.mk (below_step (by repeat (first | (with_reducible first | exact HB.out | apply below_alloc | apply pw_below_drewN | apply below_drew1) | exact HB.out)) hb); clear HB; have HO402 := n0_; have HB := n1_; clear n0_ n1_; (try clear hb); (try clear hb2); (try clear hk); (try clear hi); (try clear ho0); obtain ⟨Ao15, co15, eo15⟩ := Kd.R_slice HO402.out; subst eo15) | ((with_reducible refine gate_callee (f := 38) rfl ?_); refine goesL_ (some 40) rfl rfl Try.func38 (by kernel_rfl) rfl #[.slice Ao15 t398.length co15, .int .i64 t399, .bool t400] rfl (by (try simp only [List.map_toArray, List.map_cons, List.map_nil]); first | done | rfl | (simp only [List.length_drop, List.length_take]; rfl)) ?_; (with_reducible refine (impl_BestScale.calls k _ _ t398 t399 t400 t403 t404 _ ?side1 ?side2 A5.out).mono ?_); (case side1 => repeat (first | exact (Kd.R_reads' HO402.out).2.2 | (with_reducible refine Kd.C_alloc ?_ _) | (with_reducible refine Kd.C_drewN ?_ _) | (with_reducible refine Kd.C_drew ?_))); (case side2 => exact (Kd.R_reads' HO402.out).2.1); rintro e w16 ⟨rfl, hb⟩; refine ⟨_, rfl, ?_⟩; have n0_ := Aside0.mk (Kd.R_below (by (with_reducible repeat (first | apply Kd.R_alloc | apply Kd.R_drewN | apply Kd.R_drew)); exact HO402.out) hb); have n1_ := Aside0.mk (below_step (by repeat (first | (with_reducible first | exact HB.out | apply below_alloc | apply pw_below_drewN | apply below_drew1) | exact HB.out)) hb); clear HO402; clear HB; have HO402 := n0_; have HB := n1_; clear n0_ n1_; (try clear hb); (try clear hb2); (try clear hk); (try clear hi)) | ((with_reducible refine gate_callee (f := 37) rfl ?_); refine goesL_ (some 47) rfl rfl Try.func37 (by kernel_rfl) rfl #[.slice Ao15 t398.length co15, .int .i64 t399, .bool t400] rfl (by (try simp only [List.map_toArray, List.map_cons, List.map_nil]); first | done | rfl | (simp only [List.length_drop, List.length_take]; rfl)) ?_; (with_reducible refine (spec_BestScale.calls k _ _ t398 t399 t400 t405 t406 _ ?side1 ?side2 A6.out).mono ?_); (case side1 => repeat (first | exact (Kd.R_reads' HO402.out).2.2 | (with_reducible refine Kd.C_alloc ?_ _) | (with_reducible refine Kd.C_drewN ?_ _) | (with_reducible refine Kd.C_drew ?_))); (case side2 => exact (Kd.R_reads' HO402.out).2.1); rintro e w17 ⟨rfl, hb⟩; refine ⟨_, rfl, ?_⟩; have n0_ := Aside0.mk (Kd.R_below (by (with_reducible repeat (first | apply Kd.R_alloc | apply Kd.R_drewN | apply Kd.R_drew)); exact HO402.out) hb); have n1_ := Aside0.mk (below_step (by repeat (first | (with_reducible first | exact HB.out | apply below_alloc | apply pw_below_drewN | apply below_drew1) | exact HB.out)) hb); clear HO402; clear HB; have HO402 := n0_; have HB := n1_; clear n0_ n1_; (try clear hb); (try clear hb2); (try clear hk); (try clear hi)) | ((with_reducible refine gate_callee (f := 41) rfl ?_); refine goesL_ (some 52) rfl rfl Try.func41 (by kernel_rfl) rfl #[.slice A0 l0.length c0] rfl (by (try simp only [List.map_toArray, List.map_cons, List.map_nil]); first | done | rfl | (simp only [List.length_drop, List.length_take]; rfl)) ?_; (with_reducible refine (spec_DrawLossOf.calls k _ _ l0 t407 t408 t409 t410 _ ?side1 ?side2 A7.out).mono ?_); (case side1 => repeat (first | exact (Kd.C_below HR0.out HB.out) | (with_reducible refine Kd.C_alloc ?_ _) | (with_reducible refine Kd.C_drewN ?_ _) | (with_reducible refine Kd.C_drew ?_))); (case side2 => exact HC0.out); rintro e w18 ⟨rfl, hb⟩; refine ⟨_, rfl, ?_⟩; have n0_ := Aside0.mk (Kd.R_below (by (with_reducible repeat (first | apply Kd.R_alloc | apply Kd.R_drewN | apply Kd.R_drew)); exact HO402.out) hb); have n1_ := Aside0.mk (below_step (by repeat (first | (with_reducible first | exact HB.out | apply below_alloc | apply pw_below_drewN | apply below_drew1) | exact HB.out)) hb); clear HO402; clear HB; have HO402 := n0_; have HB := n1_; clear n0_ n1_; (try clear hb); (try clear hb2); (try clear hk); (try clear hi)) | ((with_reducible refine gate_dst (N := 10) rfl ?_); refine box_event ?hg (N := 10) ?hd (cs := #[.int .i64 0, .int .i64 0]) (t := 28) ?hr ?_; (case hd => rfl); (case hg => rfl); (case hr => first | (go_simp; done) | (go_simp; rfl)); intro gb411 hg w19 hbox hb; have n0_ := Aside0.mk (Kd.R_below (Kd.R_elderB (by (with_reducible repeat (first | apply Kd.R_alloc | apply Kd.R_drewN | apply Kd.R_drew)); exact HO402.out) gb411 (Nat.le_of_eq hg.symm)) hb); have n1_ := Aside0.mk (below_step (by repeat (first | (with_reducible first | exact HB.out | apply below_alloc | apply pw_below_drewN | apply below_drew1) | exact HB.out)) hb); have n2_ := Aside0.mk (hbox); have n3_ := Aside0.mk ((by rw [hg]; exact (below_size (by repeat (first | (with_reducible first | exact HB.out | apply below_alloc | apply pw_below_drewN | apply below_drew1) | exact HB.out))) : w.heap.size ≤ gb411)); have n4_ := Aside0.mk ((by rw [hg]; exact (below_size (by repeat (first | (with_reducible first | exact HB.out | apply below_alloc | apply pw_below_drewN | apply below_drew1) | exact HB.out))) : w.heap.size ≤ gb411)); clear HO402; clear HB; have HO402 := n0_; have HB := n1_; have BK411 := n2_; have GW411 := n3_; have GE411 := n4_; clear n0_ n1_ n2_ n3_ n4_; clear hb hbox hg; have hcz20_0 : w19.cell? ⟨gb411, 0, none⟩ = some (.int .i64 0) := (blk_cell BK411.out 0).trans rfl; have hcz20_1 : w19.cell? ⟨gb411, 1, none⟩ = some (.int .i64 0) := (blk_cell BK411.out 1).trans rfl; have hfz20_0 := blk_frozen BK411.out 0; have hfz20_1 := blk_frozen BK411.out 1) | ((with_reducible refine gate_callee (f := 31) rfl ?_); refine goesL_ (some 60) rfl rfl Try.func31 (by kernel_rfl) rfl #[.agg #[.int .i64 t407, .int .i64 t408], .int .i64 t409, .bool t410] rfl (by (try simp only [List.map_toArray, List.map_cons, List.map_nil]); first | done | rfl | (simp only [List.length_drop, List.length_take]; rfl)) ?_; (with_reducible refine (impl_LossOf.calls k t407 t408 t409 t410 t412 t413 t414 _ A8.out).mono ?_); rintro e w21 ⟨rfl, hb⟩; refine ⟨_, rfl, ?_⟩; have n0_ := Aside0.mk (Kd.R_below (by (with_reducible repeat (first | apply Kd.R_alloc | apply Kd.R_drewN | apply Kd.R_drew)); exact (Kd.R_mono (Kd.R_far (p := ⟨gb411, 1, none⟩) (Kd.R_far (p := ⟨gb411, 0, none⟩) (Kd.R_mono HO402.out (fun k_ hk => (⟨hk, hk.2⟩ : _ ∧ k_ ≠ gb411))) (fun _ hk => hk.2) (.int .i64 t407)) (fun _ hk => hk.2) (.int .i64 t408)) (fun _ h_ => h_.1))) hb); have n1_ := Aside0.mk (blk_below (g := gb411) (o := .cells #[.int .i64 t407, .int .i64 t408] 28 (0, 0)) (by (with_reducible repeat (first | refine blk_drewN ?_ _ | refine blk_drew ?_ | refine blk_alloc ?_ _)); refine blk_put (cs := #[.int .i64 t407, .int .i64 0]) ?_ 1 _ rfl; (with_reducible repeat (first | refine blk_drewN ?_ _ | refine blk_drew ?_ | refine blk_alloc ?_ _)); refine blk_put (cs := #[.int .i64 0, .int .i64 0]) ?_ 0 _ rfl; (with_reducible repeat (first | refine blk_drewN ?_ _ | refine blk_drew ?_ | refine blk_alloc ?_ _)); exact BK411.out) hb); have n2_ := Aside0.mk (below_step (by repeat (first | (with_reducible first | exact HB.out | apply below_alloc | apply pw_below_drewN | apply below_drew1 | refine below_set ?_ GE411.out) | exact HB.out)) hb); clear HO402; clear BK411; clear HB; have HO402 := n0_; have BK411 := n1_; have HB := n2_; clear n0_ n1_ n2_; (try clear hb); (try clear hb2); (try clear hk); (try clear hi); have hcz22_0 : w21.cell? ⟨gb411, 0, none⟩ = some (.int .i64 t407) := (blk_cell BK411.out 0).trans rfl; have hcz22_1 : w21.cell? ⟨gb411, 1, none⟩ = some (.int .i64 t408) := (blk_cell BK411.out 1).trans rfl; have hfz22_0 := blk_frozen BK411.out 0; have hfz22_1 := blk_frozen BK411.out 1) | ((with_reducible refine gate_callee (f := 30) rfl ?_); refine goesL_ (some 68) rfl rfl Try.func30 (by kernel_rfl) rfl #[.agg #[.int .i64 t407, .int .i64 t408], .int .i64 t409, .bool t410] rfl (by (try simp only [List.map_toArray, List.map_cons, List.map_nil]); first | done | rfl | (simp only [List.length_drop, List.length_take]; rfl)) ?_; (with_reducible refine (spec_LossOf.calls k t407 t408 t409 t410 t415 t416 t417 _ A9.out).mono ?_); rintro e w23 ⟨rfl, hb⟩; refine ⟨_, rfl, ?_⟩; have n0_ := Aside0.mk (Kd.R_below (by (with_reducible repeat (first | apply Kd.R_alloc | apply Kd.R_drewN | apply Kd.R_drew)); exact HO402.out) hb); have n1_ := Aside0.mk (blk_below (g := gb411) (o := .cells #[.int .i64 t407, .int .i64 t408] 28 (0, 0)) (by (with_reducible repeat (first | refine blk_drewN ?_ _ | refine blk_drew ?_ | refine blk_alloc ?_ _)); exact BK411.out) hb); have n2_ := Aside0.mk (below_step (by repeat (first | (with_reducible first | exact HB.out | apply below_alloc | apply pw_below_drewN | apply below_drew1 | refine below_set ?_ GE411.out) | exact HB.out)) hb); clear HO402; clear BK411; clear HB; have HO402 := n0_; have BK411 := n1_; have HB := n2_; clear n0_ n1_ n2_; (try clear hb); (try clear hb2); (try clear hk); (try clear hi)) | ((with_reducible refine gate_callee (f := 42) rfl ?_); refine goesL_ (some 73) rfl rfl Try.func42 (by kernel_rfl) rfl #[.slice A0 l0.length c0] rfl (by (try simp only [List.map_toArray, List.map_cons, List.map_nil]); first | done | rfl | (simp only [List.length_drop, List.length_take]; rfl)) ?_; (with_reducible refine (spec_DrawStretchAt.calls _ _ l0 t418 _ ?side1 ?side2 A10.out).mono ?_); (case side1 => repeat (first | exact (Kd.C_below HR0.out HB.out) | (with_reducible refine Kd.C_alloc ?_ _) | (with_reducible refine Kd.C_drewN ?_ _) | (with_reducible refine Kd.C_drew ?_))); (case side2 => exact HC0.out); rintro e w24 ⟨rfl, hb⟩; refine ⟨_, rfl, ?_⟩; have n0_ := Aside0.mk (Kd.R_below (by (with_reducible repeat (first | apply Kd.R_alloc | apply Kd.R_drewN | apply Kd.R_drew)); exact HO402.out) hb); have n1_ := Aside0.mk (blk_below (g := gb411) (o := .cells #[.int .i64 t407, .int .i64 t408] 28 (0, 0)) (by (with_reducible repeat (first | refine blk_drewN ?_ _ | refine blk_drew ?_ | refine blk_alloc ?_ _)); exact BK411.out) hb); have n2_ := Aside0.mk (below_step (by repeat (first | (with_reducible first | exact HB.out | apply below_alloc | apply pw_below_drewN | apply below_drew1 | refine below_set ?_ GE411.out) | exact HB.out)) hb); clear HO402; clear BK411; clear HB; have HO402 := n0_; have BK411 := n1_; have HB := n2_; clear n0_ n1_ n2_; (try clear hb); (try clear hb2); (try clear hk); (try clear hi)) | ((with_reducible refine gate_callee (f := 15) rfl ?_); refine goesL_ (some 76) rfl rfl Try.func15 (by kernel_rfl) rfl #[.int .i64 t418] rfl (by (try simp only [List.map_toArray, List.map_cons, List.map_nil]); first | done | rfl | (simp only [List.length_drop, List.length_take]; rfl)) ?_; (with_reducible refine (impl_StretchAt.calls k t418 t419 t420 _ A11.out).mono ?_); rintro e w' ⟨rfl, ⟨nd, rfl⟩⟩; refine ⟨_, rfl, ?_⟩) | ((with_reducible refine gate_callee (f := 14) rfl ?_); refine goesL_ (some 81) rfl rfl Try.func14 (by kernel_rfl) rfl #[.int .i64 t418] rfl (by (try simp only [List.map_toArray, List.map_cons, List.map_nil]); first | done | rfl | (simp only [List.length_drop, List.length_take]; rfl)) ?_; (with_reducible refine (spec_StretchAt.calls k t418 t421 t422 _ A12.out).mono ?_); rintro e w' ⟨rfl, ⟨nd, rfl⟩⟩; refine ⟨_, rfl, ?_⟩))
    (try simp only [Act.put, List.setIfInBounds_toArray, List.set_cons_zero, List.set_cons_succ])
    go_cut [116] (fun v116 wc => ∃ (kq : Nat) (x116_12 : Bool), v116 = .bool x116_12 ∧ Aside0 (laws_FnScales.j0 kq t398 t399 t400 t404 t405 t409 t410 t414 t415 t416 t420 t421 x116_12 = some r) ∧ Aside0 (kq ≤ k) ∧ Aside0 (Kd.R k28 28 wc w.heap.size (fun k_ => k_ ≠ gb411) (.slice Ao15 t398.length co15) t398) ∧ Aside0 (wc.heap[gb411]? = some (.cells #[.int .i64 t407, .int .i64 t408] 28 (0, 0))) ∧ Aside0 (Below w.heap.size w wc))
    case first =>
      have H := HC13.out
      clear HC13
      by_cases c25 : t404 = t406
      · rw [if_pos c25] at H
        have c25b0 : (t404 == t406) = true := beq_iff_eq.mpr c25
        have c25b1 : (t404 != t406) = false := bne_eq_false_iff_eq.mpr c25
        clear c25
        (first | rw [c25b0] | (simp only [i64_w, i32_w]; rw [c25b0]) | skip)
        by_cases c26 : t403 = t405
        · rw [if_pos c26] at H
          have c26b0 : (t403 == t405) = true := beq_iff_eq.mpr c26
          have c26b1 : (t403 != t405) = false := bne_eq_false_iff_eq.mpr c26
          clear c26
          by_cases c27 : t414 = t417
          · rw [if_pos c27] at H
            have c27b0 : (t414 == t417) = true := beq_iff_eq.mpr c27
            have c27b1 : (t414 != t417) = false := bne_eq_false_iff_eq.mpr c27
            clear c27
            by_cases c28 : t412 = t415
            · rw [if_pos c28] at H
              have c28b0 : (t412 == t415) = true := beq_iff_eq.mpr c28
              have c28b1 : (t412 != t415) = false := bne_eq_false_iff_eq.mpr c28
              clear c28
              by_cases c29 : t413 = t416
              · rw [if_pos c29] at H
                have c29b0 : (t413 == t416) = true := beq_iff_eq.mpr c29
                have c29b1 : (t413 != t416) = false := bne_eq_false_iff_eq.mpr c29
                clear c29
                by_cases c30 : t420 = t422
                · rw [if_pos c30] at H
                  have c30b0 : (t420 == t422) = true := beq_iff_eq.mpr c30
                  have c30b1 : (t420 != t422) = false := bne_eq_false_iff_eq.mpr c30
                  clear c30
                  have H' := Aside0.mk H
                  clear H
                  go_wp2
                  go_meet
                  case rel => exact ⟨_, ((t419 != t421)), (by first | rfl | (simp; done) | (simp [*]; done)), H', ⟨by first | omega | exact Nat.le_refl _⟩, ⟨by (with_reducible repeat (first | apply Kd.R_alloc | apply Kd.R_drewN | apply Kd.R_drew)); exact Kd.R_mono HO402.out (fun _ hk => hk.2)⟩, ⟨by (with_reducible repeat (first | refine blk_drewN ?_ _ | refine blk_drew ?_ | refine blk_alloc ?_ _)); exact BK411.out⟩, ⟨by repeat (first | (with_reducible first | exact HB.out | apply below_alloc | apply pw_below_drewN | apply below_drew1 | refine below_set ?_ GE411.out) | exact HB.out)⟩⟩
                · rw [if_neg c30] at H
                  have c30b0 : (t420 == t422) = false := beq_eq_false_iff_ne.mpr c30
                  have c30b1 : (t420 != t422) = true := bne_iff_ne.mpr c30
                  have H' := Aside0.mk H
                  clear H
                  go_wp2
                  go_meet
                  case rel => exact ⟨_, (true), (by first | rfl | (simp; done) | (simp [*]; done)), H', ⟨by first | omega | exact Nat.le_refl _⟩, ⟨by (with_reducible repeat (first | apply Kd.R_alloc | apply Kd.R_drewN | apply Kd.R_drew)); exact Kd.R_mono HO402.out (fun _ hk => hk.2)⟩, ⟨by (with_reducible repeat (first | refine blk_drewN ?_ _ | refine blk_drew ?_ | refine blk_alloc ?_ _)); exact BK411.out⟩, ⟨by repeat (first | (with_reducible first | exact HB.out | apply below_alloc | apply pw_below_drewN | apply below_drew1 | refine below_set ?_ GE411.out) | exact HB.out)⟩⟩
              · rw [if_neg c29] at H
                have c29b0 : (t413 == t416) = false := beq_eq_false_iff_ne.mpr c29
                have c29b1 : (t413 != t416) = true := bne_iff_ne.mpr c29
                have H' := Aside0.mk H
                clear H
                go_wp2
                go_meet
                case rel => exact ⟨_, (true), (by first | rfl | (simp; done) | (simp [*]; done)), H', ⟨by first | omega | exact Nat.le_refl _⟩, ⟨by (with_reducible repeat (first | apply Kd.R_alloc | apply Kd.R_drewN | apply Kd.R_drew)); exact Kd.R_mono HO402.out (fun _ hk => hk.2)⟩, ⟨by (with_reducible repeat (first | refine blk_drewN ?_ _ | refine blk_drew ?_ | refine blk_alloc ?_ _)); exact BK411.out⟩, ⟨by repeat (first | (with_reducible first | exact HB.out | apply below_alloc | apply pw_below_drewN | apply below_drew1 | refine below_set ?_ GE411.out) | exact HB.out)⟩⟩
            · rw [if_neg c28] at H
              have c28b0 : (t412 == t415) = false := beq_eq_false_iff_ne.mpr c28
              have c28b1 : (t412 != t415) = true := bne_iff_ne.mpr c28
              have H' := Aside0.mk H
              clear H
              go_wp2
              go_meet
              case rel => exact ⟨_, (true), (by first | rfl | (simp; done) | (simp [*]; done)), H', ⟨by first | omega | exact Nat.le_refl _⟩, ⟨by (with_reducible repeat (first | apply Kd.R_alloc | apply Kd.R_drewN | apply Kd.R_drew)); exact Kd.R_mono HO402.out (fun _ hk => hk.2)⟩, ⟨by (with_reducible repeat (first | refine blk_drewN ?_ _ | refine blk_drew ?_ | refine blk_alloc ?_ _)); exact BK411.out⟩, ⟨by repeat (first | (with_reducible first | exact HB.out | apply below_alloc | apply pw_below_drewN | apply below_drew1 | refine below_set ?_ GE411.out) | exact HB.out)⟩⟩
          · rw [if_neg c27] at H
            have c27b0 : (t414 == t417) = false := beq_eq_false_iff_ne.mpr c27
            have c27b1 : (t414 != t417) = true := bne_iff_ne.mpr c27
            have H' := Aside0.mk H
            clear H
            go_wp2
            go_meet
            case rel => exact ⟨_, (true), (by first | rfl | (simp; done) | (simp [*]; done)), H', ⟨by first | omega | exact Nat.le_refl _⟩, ⟨by (with_reducible repeat (first | apply Kd.R_alloc | apply Kd.R_drewN | apply Kd.R_drew)); exact Kd.R_mono HO402.out (fun _ hk => hk.2)⟩, ⟨by (with_reducible repeat (first | refine blk_drewN ?_ _ | refine blk_drew ?_ | refine blk_alloc ?_ _)); exact BK411.out⟩, ⟨by repeat (first | (with_reducible first | exact HB.out | apply below_alloc | apply pw_below_drewN | apply below_drew1 | refine below_set ?_ GE411.out) | exact HB.out)⟩⟩
        · rw [if_neg c26] at H
          have c26b0 : (t403 == t405) = false := beq_eq_false_iff_ne.mpr c26
          have c26b1 : (t403 != t405) = true := bne_iff_ne.mpr c26
          have H' := Aside0.mk H
          clear H
          go_wp2
          go_meet
          case rel => exact ⟨_, (true), (by first | rfl | (simp; done) | (simp [*]; done)), H', ⟨by first | omega | exact Nat.le_refl _⟩, ⟨by (with_reducible repeat (first | apply Kd.R_alloc | apply Kd.R_drewN | apply Kd.R_drew)); exact Kd.R_mono HO402.out (fun _ hk => hk.2)⟩, ⟨by (with_reducible repeat (first | refine blk_drewN ?_ _ | refine blk_drew ?_ | refine blk_alloc ?_ _)); exact BK411.out⟩, ⟨by repeat (first | (with_reducible first | exact HB.out | apply below_alloc | apply pw_below_drewN | apply below_drew1 | refine below_set ?_ GE411.out) | exact HB.out)⟩⟩
      · rw [if_neg c25] at H
        have c25b0 : (t404 == t406) = false := beq_eq_false_iff_ne.mpr c25
        have c25b1 : (t404 != t406) = true := bne_iff_ne.mpr c25
        (first | rw [c25b0] | (simp only [i64_w, i32_w]; rw [c25b0]) | skip)
        have H' := Aside0.mk H
        clear H
        go_wp2
        go_meet
        case rel => exact ⟨_, (true), (by first | rfl | (simp; done) | (simp [*]; done)), H', ⟨by first | omega | exact Nat.le_refl _⟩, ⟨by (with_reducible repeat (first | apply Kd.R_alloc | apply Kd.R_drewN | apply Kd.R_drew)); exact Kd.R_mono HO402.out (fun _ hk => hk.2)⟩, ⟨by (with_reducible repeat (first | refine blk_drewN ?_ _ | refine blk_drew ?_ | refine blk_alloc ?_ _)); exact BK411.out⟩, ⟨by repeat (first | (with_reducible first | exact HB.out | apply below_alloc | apply pw_below_drewN | apply below_drew1 | refine below_set ?_ GE411.out) | exact HB.out)⟩⟩
    case rest =>
      clear HC13
      try clear c1
      try clear c2
      try clear p2
      try clear c3
      try clear c4
      try clear c12
      try clear c14
      try clear c15
      try clear c25
      try clear c25b0
      try clear c25b1
      try clear c26
      try clear c26b0
      try clear c26b1
      try clear c27
      try clear c27b0
      try clear c27b1
      try clear c28
      try clear c28b0
      try clear c28b1
      try clear c29
      try clear c29b0
      try clear c29b1
      try clear c30
      try clear c30b0
      try clear c30b1
      try clear hcz20_0
      try clear hcz20_1
      try clear hcz22_0
      try clear hcz22_1
      try clear hfz20_0
      try clear hfz20_1
      try clear hfz22_0
      try clear hfz22_1
      obtain ⟨kq, x116_12, rfl, HA, HJ12, HO_3, BK411, HB⟩ := hcut
      cases kq with
      | zero => exact absurd HA.out (by simp [laws_FnScales.j0])
      | succ kj12 =>
        have H := HA.out
        clear HA
        simp only [laws_FnScales.j0] at H
        by_cases c31 : x116_12 = true
        · subst c31
          have H1 : (some false) = some r := by rw [if_pos rfl] at H; exact H
          clear H
          have H := H1
          clear H1
          obtain rfl := Option.some.inj H
          go_wp2
          go_ret
          exact ⟨by first | rfl | (simp [errW_none, errW_some] <;> rfl) | (simp [*, errW_none, errW_some] <;> rfl), by repeat (first | (with_reducible first | exact HB.out | apply below_alloc | apply pw_below_drewN | apply below_drew1 | refine below_set ?_ GE411.out) | exact HB.out)⟩
        · replace c31 := Bool.eq_false_iff.mpr c31
          subst c31
          have H1 : (if t420 = 0 then (laws_FnScales.j1 kj12 t398 t399 t400 t404 t405 t409 t410 t414 t415 t416 (decide (t421 < 1000))) else (laws_FnScales.j1 kj12 t398 t399 t400 t404 t405 t409 t410 t414 t415 t416 false)) = some r := by rw [if_neg (show ¬ (false = true) by decide)] at H; exact H
          clear H
          have H := H1
          clear H1
          have HC32 := Aside0.mk H
          clear H
          go_upto_region 14 with (fail)
          go_cut [122] (fun v122 wc => ∃ (kq : Nat) (x122_31 : Bool), v122 = .bool x122_31 ∧ Aside0 (laws_FnScales.j1 kq t398 t399 t400 t404 t405 t409 t410 t414 t415 t416 x122_31 = some r) ∧ Aside0 (kq ≤ kj12) ∧ Aside0 (Kd.R k28 28 wc w.heap.size (fun k_ => k_ ≠ gb411) (.slice Ao15 t398.length co15) t398) ∧ Aside0 (wc.heap[gb411]? = some (.cells #[.int .i64 t407, .int .i64 t408] 28 (0, 0))) ∧ Aside0 (Below w.heap.size w wc))
          case first =>
            have H := HC32.out
            clear HC32
            by_cases c33 : t420 = 0
            · rw [if_pos c33] at H
              have c33b0 : (t420 == 0) = true := beq_iff_eq.mpr c33
              have c33b1 : (t420 != 0) = false := bne_eq_false_iff_eq.mpr c33
              clear c33
              (first | rw [c33b0] | (simp only [i64_w, i32_w]; rw [c33b0]) | skip)
              have H' := Aside0.mk H
              clear H
              go_wp2
              go_meet
              case rel => exact ⟨_, (decide (t421 < 1000)), (by first | rfl | (simp; done) | (simp [*]; done)), H', ⟨by have := HJ12.out; first | omega | exact Nat.le_refl _⟩, ⟨by (with_reducible repeat (first | apply Kd.R_alloc | apply Kd.R_drewN | apply Kd.R_drew)); exact HO_3.out⟩, ⟨by (with_reducible repeat (first | refine blk_drewN ?_ _ | refine blk_drew ?_ | refine blk_alloc ?_ _)); exact BK411.out⟩, ⟨by repeat (first | (with_reducible first | exact HB.out | apply below_alloc | apply pw_below_drewN | apply below_drew1 | refine below_set ?_ GE411.out) | exact HB.out)⟩⟩
            · rw [if_neg c33] at H
              have c33b0 : (t420 == 0) = false := beq_eq_false_iff_ne.mpr c33
              have c33b1 : (t420 != 0) = true := bne_iff_ne.mpr c33
              (first | rw [c33b0] | (simp only [i64_w, i32_w]; rw [c33b0]) | skip)
              have H' := Aside0.mk H
              clear H
              go_wp2
              go_meet
              case rel => exact ⟨_, (false), (by first | rfl | (simp; done) | (simp [*]; done)), H', ⟨by have := HJ12.out; first | omega | exact Nat.le_refl _⟩, ⟨by (with_reducible repeat (first | apply Kd.R_alloc | apply Kd.R_drewN | apply Kd.R_drew)); exact HO_3.out⟩, ⟨by (with_reducible repeat (first | refine blk_drewN ?_ _ | refine blk_drew ?_ | refine blk_alloc ?_ _)); exact BK411.out⟩, ⟨by repeat (first | (with_reducible first | exact HB.out | apply below_alloc | apply pw_below_drewN | apply below_drew1 | refine below_set ?_ GE411.out) | exact HB.out)⟩⟩
          case rest =>
            clear HC32
            try clear c1
            try clear c2
            try clear p2
            try clear c3
            try clear c4
            try clear c12
            try clear c14
            try clear c15
            try clear c25
            try clear c25b0
            try clear c25b1
            try clear c26
            try clear c26b0
            try clear c26b1
            try clear c27
            try clear c27b0
            try clear c27b1
            try clear c28
            try clear c28b0
            try clear c28b1
            try clear c29
            try clear c29b0
            try clear c29b1
            try clear c30
            try clear c30b0
            try clear c30b1
            try clear c31
            try clear c33
            try clear c33b0
            try clear c33b1
            try clear hcz20_0
            try clear hcz20_1
            try clear hcz22_0
            try clear hcz22_1
            try clear hfz20_0
            try clear hfz20_1
            try clear hfz22_0
            try clear hfz22_1
            try clear p2
            obtain ⟨kq, x122_31, rfl, HA, HJ31, HO_3, BK411, HB⟩ := hcut
            cases kq with
            | zero => exact absurd HA.out (by simp [laws_FnScales.j1])
            | succ kj31 =>
              have H := HA.out
              clear HA
              simp only [laws_FnScales.j1] at H
              by_cases c34 : x122_31 = true
              · subst c34
                have H1 : (some false) = some r := by rw [if_pos rfl] at H; exact H
                clear H
                have H := H1
                clear H1
                obtain rfl := Option.some.inj H
                go_wp2
                go_ret
                exact ⟨by first | rfl | (simp [errW_none, errW_some] <;> rfl) | (simp [*, errW_none, errW_some] <;> rfl), by repeat (first | (with_reducible first | exact HB.out | apply below_alloc | apply pw_below_drewN | apply below_drew1 | refine below_set ?_ GE411.out) | exact HB.out)⟩
              · replace c34 := Bool.eq_false_iff.mpr c34
                subst c34
                have H1 : (if t414 = 0 then (if t410 = true then (laws_FnScales.j2 kj31 t398 t399 t400 t404 t405 false) else ((laws_f6abs.f t415).bind fun t423 => (if (wrap64 (2 * t423)) > t409 then (laws_FnScales.j2 kj31 t398 t399 t400 t404 t405 true) else ((laws_f6abs.f t416).bind fun t424 => (laws_FnScales.j2 kj31 t398 t399 t400 t404 t405 (decide ((wrap64 (2 * t424)) > t409))))))) else (laws_FnScales.j2 kj31 t398 t399 t400 t404 t405 false)) = some r := by rw [if_neg (show ¬ (false = true) by decide)] at H; exact H
                clear H
                have H := H1
                clear H1
                have HC35 := Aside0.mk H
                clear H
                go_upto_region 16 with (fail)
                go_cut [142] (fun v142 wc => ∃ (kq : Nat) (x142_34 : Bool), v142 = .bool x142_34 ∧ Aside0 (laws_FnScales.j2 kq t398 t399 t400 t404 t405 x142_34 = some r) ∧ Aside0 (kq ≤ kj31) ∧ Aside0 (Kd.R k28 28 wc w.heap.size (fun k_ => k_ ≠ gb411) (.slice Ao15 t398.length co15) t398) ∧ Aside0 (wc.heap[gb411]? = some (.cells #[.int .i64 t407, .int .i64 t408] 28 (0, 0))) ∧ Aside0 (Below w.heap.size w wc))
                case first =>
                  have H := HC35.out
                  clear HC35
                  by_cases c36 : t414 = 0
                  · rw [if_pos c36] at H
                    have c36b0 : (t414 == 0) = true := beq_iff_eq.mpr c36
                    have c36b1 : (t414 != 0) = false := bne_eq_false_iff_eq.mpr c36
                    clear c36
                    (first | rw [c36b0] | (simp only [i64_w, i32_w]; rw [c36b0]) | skip)
                    by_cases c37 : t410 = true
                    · subst c37
                      have H1 : (laws_FnScales.j2 kj31 t398 t399 t400 t404 t405 false) = some r := by rw [if_pos rfl] at H; exact H
                      clear H
                      have H := H1
                      clear H1
                      have H' := Aside0.mk H
                      clear H
                      go_wp2
                      go_meet
                      case rel => exact ⟨_, (false), (by first | rfl | (simp; done) | (simp [*]; done)), H', ⟨by have := HJ12.out; have := HJ31.out; first | omega | exact Nat.le_refl _⟩, ⟨by (with_reducible repeat (first | apply Kd.R_alloc | apply Kd.R_drewN | apply Kd.R_drew)); exact HO_3.out⟩, ⟨by (with_reducible repeat (first | refine blk_drewN ?_ _ | refine blk_drew ?_ | refine blk_alloc ?_ _)); exact BK411.out⟩, ⟨by repeat (first | (with_reducible first | exact HB.out | apply below_alloc | apply pw_below_drewN | apply below_drew1 | refine below_set ?_ GE411.out) | exact HB.out)⟩⟩
                    · replace c37 := Bool.eq_false_iff.mpr c37
                      subst c37
                      have H1 : ((laws_f6abs.f t415).bind fun t423 => (if (wrap64 (2 * t423)) > t409 then (laws_FnScales.j2 kj31 t398 t399 t400 t404 t405 true) else ((laws_f6abs.f t416).bind fun t424 => (laws_FnScales.j2 kj31 t398 t399 t400 t404 t405 (decide ((wrap64 (2 * t424)) > t409)))))) = some r := by rw [if_neg (show ¬ (false = true) by decide)] at H; exact H
                      clear H
                      have H := H1
                      clear H1
                      replace H := Option.bind_eq_some_iff.mp H
                      obtain ⟨t423, A380, H⟩ := H
                      replace H : (if (wrap64 (2 * t423)) > t409 then (laws_FnScales.j2 kj31 t398 t399 t400 t404 t405 true) else ((laws_f6abs.f t416).bind fun t424 => (laws_FnScales.j2 kj31 t398 t399 t400 t404 t405 (decide ((wrap64 (2 * t424)) > t409))))) = some r := H
                      have A38 := Aside0.mk A380
                      clear A380
                      by_cases c39 : (wrap64 (2 * t423)) > t409
                      · rw [if_pos c39] at H
                        have c39b0 : decide (t409 < (wrap64 (2 * t423))) = true := decide_eq_true c39
                        clear c39
                        have H' := Aside0.mk H
                        clear H
                        go_wp2_with (first | (go_at_call 43; (with_reducible refine (laws_f6abs.calls t415 t423 _ A38.out).mono ?_); rintro e w' ⟨rfl, ⟨nd, rfl⟩⟩))
                        go_meet
                        case rel => exact ⟨_, (true), (by first | rfl | (simp; done) | (simp [*]; done)), H', ⟨by have := HJ12.out; have := HJ31.out; first | omega | exact Nat.le_refl _⟩, ⟨by (with_reducible repeat (first | apply Kd.R_alloc | apply Kd.R_drewN | apply Kd.R_drew)); exact HO_3.out⟩, ⟨by (with_reducible repeat (first | refine blk_drewN ?_ _ | refine blk_drew ?_ | refine blk_alloc ?_ _)); exact BK411.out⟩, ⟨by repeat (first | (with_reducible first | exact HB.out | apply below_alloc | apply pw_below_drewN | apply below_drew1 | refine below_set ?_ GE411.out) | exact HB.out)⟩⟩
                      · rw [if_neg c39] at H
                        have c39b0 : decide (t409 < (wrap64 (2 * t423))) = false := decide_eq_false c39
                        clear c39
                        replace H := Option.bind_eq_some_iff.mp H
                        obtain ⟨t424, A400, H⟩ := H
                        replace H : (laws_FnScales.j2 kj31 t398 t399 t400 t404 t405 (decide ((wrap64 (2 * t424)) > t409))) = some r := H
                        have A40 := Aside0.mk A400
                        clear A400
                        have H' := Aside0.mk H
                        clear H
                        go_wp2_with (first | (go_at_call 43; (with_reducible refine (laws_f6abs.calls t415 t423 _ A38.out).mono ?_); rintro e w' ⟨rfl, ⟨nd, rfl⟩⟩) | (go_at_call 43; (with_reducible refine (laws_f6abs.calls t416 t424 _ A40.out).mono ?_); rintro e w' ⟨rfl, ⟨nd, rfl⟩⟩))
                        go_meet
                        case rel => exact ⟨_, (decide ((wrap64 (2 * t424)) > t409)), (by first | rfl | (simp; done) | (simp [*]; done)), H', ⟨by have := HJ12.out; have := HJ31.out; first | omega | exact Nat.le_refl _⟩, ⟨by (with_reducible repeat (first | apply Kd.R_alloc | apply Kd.R_drewN | apply Kd.R_drew)); exact HO_3.out⟩, ⟨by (with_reducible repeat (first | refine blk_drewN ?_ _ | refine blk_drew ?_ | refine blk_alloc ?_ _)); exact BK411.out⟩, ⟨by repeat (first | (with_reducible first | exact HB.out | apply below_alloc | apply pw_below_drewN | apply below_drew1 | refine below_set ?_ GE411.out) | exact HB.out)⟩⟩
                  · rw [if_neg c36] at H
                    have c36b0 : (t414 == 0) = false := beq_eq_false_iff_ne.mpr c36
                    have c36b1 : (t414 != 0) = true := bne_iff_ne.mpr c36
                    (first | rw [c36b0] | (simp only [i64_w, i32_w]; rw [c36b0]) | skip)
                    have H' := Aside0.mk H
                    clear H
                    go_wp2
                    go_meet
                    case rel => exact ⟨_, (false), (by first | rfl | (simp; done) | (simp [*]; done)), H', ⟨by have := HJ12.out; have := HJ31.out; first | omega | exact Nat.le_refl _⟩, ⟨by (with_reducible repeat (first | apply Kd.R_alloc | apply Kd.R_drewN | apply Kd.R_drew)); exact HO_3.out⟩, ⟨by (with_reducible repeat (first | refine blk_drewN ?_ _ | refine blk_drew ?_ | refine blk_alloc ?_ _)); exact BK411.out⟩, ⟨by repeat (first | (with_reducible first | exact HB.out | apply below_alloc | apply pw_below_drewN | apply below_drew1 | refine below_set ?_ GE411.out) | exact HB.out)⟩⟩
                case rest =>
                  clear HC35
                  try clear c1
                  try clear c2
                  try clear p2
                  try clear c3
                  try clear c4
                  try clear p6
                  try clear c12
                  try clear c14
                  try clear c15
                  try clear c25
                  try clear c25b0
                  try clear c25b1
                  try clear c26
                  try clear c26b0
                  try clear c26b1
                  try clear c27
                  try clear c27b0
                  try clear c27b1
                  try clear c28
                  try clear c28b0
                  try clear c28b1
                  try clear c29
                  try clear c29b0
                  try clear c29b1
                  try clear c30
                  try clear c30b0
                  try clear c30b1
                  try clear c31
                  try clear c33
                  try clear c33b0
                  try clear c33b1
                  try clear c34
                  try clear c36
                  try clear c36b0
                  try clear c36b1
                  try clear c37
                  try clear c38
                  try clear c39
                  try clear c39b0
                  try clear c40
                  try clear hcz20_0
                  try clear hcz20_1
                  try clear hcz22_0
                  try clear hcz22_1
                  try clear hfz20_0
                  try clear hfz20_1
                  try clear hfz22_0
                  try clear hfz22_1
                  try clear p2
                  obtain ⟨kq, x142_34, rfl, HA, HJ34, HO_3, BK411, HB⟩ := hcut
                  cases kq with
                  | zero => exact absurd HA.out (by simp [laws_FnScales.j2])
                  | succ kj34 =>
                    have H := HA.out
                    clear HA
                    simp only [laws_FnScales.j2] at H
                    by_cases c41 : x142_34 = true
                    · subst c41
                      have H1 : (some false) = some r := by rw [if_pos rfl] at H; exact H
                      clear H
                      have H := H1
                      clear H1
                      obtain rfl := Option.some.inj H
                      go_wp2
                      go_ret
                      exact ⟨by first | rfl | (simp [errW_none, errW_some] <;> rfl) | (simp [*, errW_none, errW_some] <;> rfl), by repeat (first | (with_reducible first | exact HB.out | apply below_alloc | apply pw_below_drewN | apply below_drew1 | refine below_set ?_ GE411.out) | exact HB.out)⟩
                    · replace c41 := Bool.eq_false_iff.mpr c41
                      subst c41
                      have H1 : (if t404 = 0 then (laws_FnScales.l0 kj34 t398 t399 t400 t405 0) else (some true)) = some r := by rw [if_neg (show ¬ (false = true) by decide)] at H; exact H
                      clear H
                      have H := H1
                      clear H1
                      by_cases c42 : t404 = 0
                      · rw [if_pos c42] at H
                        have c42b0 : (t404 == 0) = true := beq_iff_eq.mpr c42
                        have c42b1 : (t404 != 0) = false := bne_eq_false_iff_eq.mpr c42
                        clear c42
                        have H' := Aside0.mk H
                        clear H
                        go_wp2
                        go_loopg [24] kj34 (fun kq v24 w' => ∃ (x24_4 : Int), v24 = .int .i64 x24_4 ∧ Aside0 (laws_FnScales.l0 kq t398 t399 t400 t405 x24_4 = some r) ∧ Aside0 (kq ≤ kj34) ∧ Aside0 (Kd.R k28 28 w' w.heap.size (fun k_ => k_ ≠ gb411) (.slice Ao15 t398.length co15) t398) ∧ Aside0 (w'.heap[gb411]? = some (.cells #[.int .i64 t407, .int .i64 t408] 28 (0, 0))) ∧ Aside0 (Below w.heap.size w w'))
                        case atStart => exact ⟨(0), (by first | rfl | (simp; done) | (simp [*]; done)), H', ⟨Nat.le_refl _⟩, ⟨by (with_reducible repeat (first | apply Kd.R_alloc | apply Kd.R_drewN | apply Kd.R_drew)); exact HO_3.out⟩, ⟨by (with_reducible repeat (first | refine blk_drewN ?_ _ | refine blk_drew ?_ | refine blk_alloc ?_ _)); exact BK411.out⟩, ⟨by repeat (first | (with_reducible first | exact HB.out | apply below_alloc | apply pw_below_drewN | apply below_drew1 | refine below_set ?_ GE411.out) | exact HB.out)⟩⟩
                        case round =>
                          clear H'
                          try clear c1
                          try clear c2
                          try clear p2
                          try clear c3
                          try clear c4
                          try clear p6
                          try clear c12
                          try clear c14
                          try clear c15
                          try clear c25
                          try clear c25b0
                          try clear c25b1
                          try clear c26
                          try clear c26b0
                          try clear c26b1
                          try clear c27
                          try clear c27b0
                          try clear c27b1
                          try clear c28
                          try clear c28b0
                          try clear c28b1
                          try clear c29
                          try clear c29b0
                          try clear c29b1
                          try clear c30
                          try clear c30b0
                          try clear c30b1
                          try clear c31
                          try clear c33
                          try clear c33b0
                          try clear c33b1
                          try clear c34
                          try clear c36
                          try clear c36b0
                          try clear c36b1
                          try clear c37
                          try clear c38
                          try clear c39
                          try clear c39b0
                          try clear c40
                          try clear c41
                          try clear c42
                          try clear c42b0
                          try clear c42b1
                          try clear hcz20_0
                          try clear hcz20_1
                          try clear hcz22_0
                          try clear hcz22_1
                          try clear hfz20_0
                          try clear hfz20_1
                          try clear hfz22_0
                          try clear hfz22_1
                          try clear p2
                          try clear p6
                          obtain ⟨x24_4, rfl, HA, HK4, HO_3, BK411, HB⟩ := hrel
                          cases gk with
                          | zero => exact absurd HA.out (by simp [laws_FnScales.l0])
                          | succ k4 =>
                            have H := HA.out
                            clear HA
                            simp only [laws_FnScales.l0] at H
                            by_cases c43 : x24_4 < (t398.length : Int)
                            · rw [if_pos c43] at H
                              have c43b0 : decide (x24_4 < (t398.length : Int)) = true := decide_eq_true c43
                              clear c43
                              by_cases c44 : 0 ≤ x24_4
                              · rw [if_pos c44] at H
                                have c44b0 : decide (0 ≤ x24_4) = true := decide_eq_true c44
                                clear c44
                                replace H := Option.bind_eq_some_iff.mp H
                                obtain ⟨⟨t426, t427, t428⟩, A450, H⟩ := H
                                replace H : (if t428 = 0 then ((laws_f6abs.f t426).bind fun t429 => (if t429 > t399 then (some false) else ((laws_f6abs.f t427).bind fun t430 => (if t430 > t399 then (some false) else (laws_FnScales.l0 k4 t398 t399 t400 t405 (wrap64 (x24_4 + 1))))))) else (some false)) = some r := H
                                have A45 := Aside0.mk A450
                                clear A450
                                by_cases c46 : t428 = 0
                                · rw [if_pos c46] at H
                                  have c46b0 : (t428 == 0) = true := beq_iff_eq.mpr c46
                                  have c46b1 : (t428 != 0) = false := bne_eq_false_iff_eq.mpr c46
                                  clear c46
                                  replace H := Option.bind_eq_some_iff.mp H
                                  obtain ⟨t429, A470, H⟩ := H
                                  replace H : (if t429 > t399 then (some false) else ((laws_f6abs.f t427).bind fun t430 => (if t430 > t399 then (some false) else (laws_FnScales.l0 k4 t398 t399 t400 t405 (wrap64 (x24_4 + 1)))))) = some r := H
                                  have A47 := Aside0.mk A470
                                  clear A470
                                  by_cases c48 : t429 > t399
                                  · rw [if_pos c48] at H
                                    have c48b0 : decide (t399 < t429) = true := decide_eq_true c48
                                    clear c48
                                    obtain rfl := Option.some.inj H
                                    have p425 : 0 ≤ (x24_4 : Int) := of_decide_eq_true (by first | (with_reducible assumption) | assumption)
                                    have q425 : x24_4 < (t398.length : Int) := of_decide_eq_true (by first | (with_reducible assumption) | assumption)
                                    obtain ⟨ad425, e425, hx425_0, hx425_1⟩ := at_T28 (Kd.R_reads' HO_3.out).2.2 x24_4 p425 q425
                                    cases e425
                                    replace p425 := eq_true p425
                                    replace q425 := eq_true q425
                                    go_wp2_with (first | ((with_reducible refine gate_callee (f := 31) rfl ?_); refine goesL_ (some 158) rfl rfl Try.func31 (by kernel_rfl) rfl #[.agg #[.int .i64 ((rd_T28 t398 x24_4).f0), .int .i64 ((rd_T28 t398 x24_4).f1)], .int .i64 t405, .bool t400] rfl (by (try simp only [List.map_toArray, List.map_cons, List.map_nil]); first | done | rfl | (simp only [List.length_drop, List.length_take]; rfl)) ?_; (with_reducible refine (impl_LossOf.calls k4 ((rd_T28 t398 x24_4).f0) ((rd_T28 t398 x24_4).f1) t405 t400 t426 t427 t428 _ A45.out).mono ?_); rintro e w49 ⟨rfl, hb⟩; refine ⟨_, rfl, ?_⟩; have n0_ := Aside0.mk (Kd.R_below (by (with_reducible repeat (first | apply Kd.R_alloc | apply Kd.R_drewN | apply Kd.R_drew)); exact HO_3.out) hb); have n1_ := Aside0.mk (blk_below (g := gb411) (o := .cells #[.int .i64 t407, .int .i64 t408] 28 (0, 0)) (by (with_reducible repeat (first | refine blk_drewN ?_ _ | refine blk_drew ?_ | refine blk_alloc ?_ _)); exact BK411.out) hb); have n2_ := Aside0.mk (below_step (by repeat (first | (with_reducible first | exact HB.out | apply below_alloc | apply pw_below_drewN | apply below_drew1 | refine below_set ?_ GE411.out) | exact HB.out)) hb); clear HO_3; clear BK411; clear HB; have HO_3 := n0_; have BK411 := n1_; have HB := n2_; clear n0_ n1_ n2_; (try clear hb); (try clear hb2); (try clear hk); (try clear hi)) | (go_at_call 43; (with_reducible refine (laws_f6abs.calls t426 t429 _ A47.out).mono ?_); rintro e w' ⟨rfl, ⟨nd, rfl⟩⟩))
                                    go_ret
                                    exact ⟨by first | rfl | (simp [errW_none, errW_some] <;> rfl) | (simp [*, errW_none, errW_some] <;> rfl), by repeat (first | (with_reducible first | exact HB.out | apply below_alloc | apply pw_below_drewN | apply below_drew1 | refine below_set ?_ GE411.out) | exact HB.out)⟩
                                  · rw [if_neg c48] at H
                                    have c48b0 : decide (t399 < t429) = false := decide_eq_false c48
                                    clear c48
                                    replace H := Option.bind_eq_some_iff.mp H
                                    obtain ⟨t430, A500, H⟩ := H
                                    replace H : (if t430 > t399 then (some false) else (laws_FnScales.l0 k4 t398 t399 t400 t405 (wrap64 (x24_4 + 1)))) = some r := H
                                    have A50 := Aside0.mk A500
                                    clear A500
                                    by_cases c51 : t430 > t399
                                    · rw [if_pos c51] at H
                                      have c51b0 : decide (t399 < t430) = true := decide_eq_true c51
                                      clear c51
                                      obtain rfl := Option.some.inj H
                                      have p425 : 0 ≤ (x24_4 : Int) := of_decide_eq_true (by first | (with_reducible assumption) | assumption)
                                      have q425 : x24_4 < (t398.length : Int) := of_decide_eq_true (by first | (with_reducible assumption) | assumption)
                                      obtain ⟨ad425, e425, hx425_0, hx425_1⟩ := at_T28 (Kd.R_reads' HO_3.out).2.2 x24_4 p425 q425
                                      cases e425
                                      replace p425 := eq_true p425
                                      replace q425 := eq_true q425
                                      go_wp2_with (first | ((with_reducible refine gate_callee (f := 31) rfl ?_); refine goesL_ (some 158) rfl rfl Try.func31 (by kernel_rfl) rfl #[.agg #[.int .i64 ((rd_T28 t398 x24_4).f0), .int .i64 ((rd_T28 t398 x24_4).f1)], .int .i64 t405, .bool t400] rfl (by (try simp only [List.map_toArray, List.map_cons, List.map_nil]); first | done | rfl | (simp only [List.length_drop, List.length_take]; rfl)) ?_; (with_reducible refine (impl_LossOf.calls k4 ((rd_T28 t398 x24_4).f0) ((rd_T28 t398 x24_4).f1) t405 t400 t426 t427 t428 _ A45.out).mono ?_); rintro e w52 ⟨rfl, hb⟩; refine ⟨_, rfl, ?_⟩; have n0_ := Aside0.mk (Kd.R_below (by (with_reducible repeat (first | apply Kd.R_alloc | apply Kd.R_drewN | apply Kd.R_drew)); exact HO_3.out) hb); have n1_ := Aside0.mk (blk_below (g := gb411) (o := .cells #[.int .i64 t407, .int .i64 t408] 28 (0, 0)) (by (with_reducible repeat (first | refine blk_drewN ?_ _ | refine blk_drew ?_ | refine blk_alloc ?_ _)); exact BK411.out) hb); have n2_ := Aside0.mk (below_step (by repeat (first | (with_reducible first | exact HB.out | apply below_alloc | apply pw_below_drewN | apply below_drew1 | refine below_set ?_ GE411.out) | exact HB.out)) hb); clear HO_3; clear BK411; clear HB; have HO_3 := n0_; have BK411 := n1_; have HB := n2_; clear n0_ n1_ n2_; (try clear hb); (try clear hb2); (try clear hk); (try clear hi)) | (go_at_call 43; (with_reducible refine (laws_f6abs.calls t426 t429 _ A47.out).mono ?_); rintro e w' ⟨rfl, ⟨nd, rfl⟩⟩) | (go_at_call 43; (with_reducible refine (laws_f6abs.calls t427 t430 _ A50.out).mono ?_); rintro e w' ⟨rfl, ⟨nd, rfl⟩⟩))
                                      go_ret
                                      exact ⟨by first | rfl | (simp [errW_none, errW_some] <;> rfl) | (simp [*, errW_none, errW_some] <;> rfl), by repeat (first | (with_reducible first | exact HB.out | apply below_alloc | apply pw_below_drewN | apply below_drew1 | refine below_set ?_ GE411.out) | exact HB.out)⟩
                                    · rw [if_neg c51] at H
                                      have c51b0 : decide (t399 < t430) = false := decide_eq_false c51
                                      clear c51
                                      have H' := Aside0.mk H
                                      clear H
                                      have p425 : 0 ≤ (x24_4 : Int) := of_decide_eq_true (by first | (with_reducible assumption) | assumption)
                                      have q425 : x24_4 < (t398.length : Int) := of_decide_eq_true (by first | (with_reducible assumption) | assumption)
                                      obtain ⟨ad425, e425, hx425_0, hx425_1⟩ := at_T28 (Kd.R_reads' HO_3.out).2.2 x24_4 p425 q425
                                      cases e425
                                      replace p425 := eq_true p425
                                      replace q425 := eq_true q425
                                      go_wp2_with (first | ((with_reducible refine gate_callee (f := 31) rfl ?_); refine goesL_ (some 158) rfl rfl Try.func31 (by kernel_rfl) rfl #[.agg #[.int .i64 ((rd_T28 t398 x24_4).f0), .int .i64 ((rd_T28 t398 x24_4).f1)], .int .i64 t405, .bool t400] rfl (by (try simp only [List.map_toArray, List.map_cons, List.map_nil]); first | done | rfl | (simp only [List.length_drop, List.length_take]; rfl)) ?_; (with_reducible refine (impl_LossOf.calls k4 ((rd_T28 t398 x24_4).f0) ((rd_T28 t398 x24_4).f1) t405 t400 t426 t427 t428 _ A45.out).mono ?_); rintro e w53 ⟨rfl, hb⟩; refine ⟨_, rfl, ?_⟩; have n0_ := Aside0.mk (Kd.R_below (by (with_reducible repeat (first | apply Kd.R_alloc | apply Kd.R_drewN | apply Kd.R_drew)); exact HO_3.out) hb); have n1_ := Aside0.mk (blk_below (g := gb411) (o := .cells #[.int .i64 t407, .int .i64 t408] 28 (0, 0)) (by (with_reducible repeat (first | refine blk_drewN ?_ _ | refine blk_drew ?_ | refine blk_alloc ?_ _)); exact BK411.out) hb); have n2_ := Aside0.mk (below_step (by repeat (first | (with_reducible first | exact HB.out | apply below_alloc | apply pw_below_drewN | apply below_drew1 | refine below_set ?_ GE411.out) | exact HB.out)) hb); clear HO_3; clear BK411; clear HB; have HO_3 := n0_; have BK411 := n1_; have HB := n2_; clear n0_ n1_ n2_; (try clear hb); (try clear hb2); (try clear hk); (try clear hi)) | (go_at_call 43; (with_reducible refine (laws_f6abs.calls t426 t429 _ A47.out).mono ?_); rintro e w' ⟨rfl, ⟨nd, rfl⟩⟩) | (go_at_call 43; (with_reducible refine (laws_f6abs.calls t427 t430 _ A50.out).mono ?_); rintro e w' ⟨rfl, ⟨nd, rfl⟩⟩))
                                      go_roundg k4
                                      case measure => have := HJ12.out; have := HJ31.out; have := HJ34.out; have := HK4.out; omega
                                      case rel => exact ⟨(wrap64 (x24_4 + 1)), (by first | rfl | (simp; done) | (simp [*]; done)), H', ⟨by have := HJ12.out; have := HJ31.out; have := HJ34.out; have := HK4.out; omega⟩, ⟨by (with_reducible repeat (first | apply Kd.R_alloc | apply Kd.R_drewN | apply Kd.R_drew)); exact HO_3.out⟩, ⟨by (with_reducible repeat (first | refine blk_drewN ?_ _ | refine blk_drew ?_ | refine blk_alloc ?_ _)); exact BK411.out⟩, ⟨by repeat (first | (with_reducible first | exact HB.out | apply below_alloc | apply pw_below_drewN | apply below_drew1 | refine below_set ?_ GE411.out) | exact HB.out)⟩⟩
                                · rw [if_neg c46] at H
                                  have c46b0 : (t428 == 0) = false := beq_eq_false_iff_ne.mpr c46
                                  have c46b1 : (t428 != 0) = true := bne_iff_ne.mpr c46
                                  obtain rfl := Option.some.inj H
                                  have p425 : 0 ≤ (x24_4 : Int) := of_decide_eq_true (by first | (with_reducible assumption) | assumption)
                                  have q425 : x24_4 < (t398.length : Int) := of_decide_eq_true (by first | (with_reducible assumption) | assumption)
                                  obtain ⟨ad425, e425, hx425_0, hx425_1⟩ := at_T28 (Kd.R_reads' HO_3.out).2.2 x24_4 p425 q425
                                  cases e425
                                  replace p425 := eq_true p425
                                  replace q425 := eq_true q425
                                  go_wp2_with (first | ((with_reducible refine gate_callee (f := 31) rfl ?_); refine goesL_ (some 158) rfl rfl Try.func31 (by kernel_rfl) rfl #[.agg #[.int .i64 ((rd_T28 t398 x24_4).f0), .int .i64 ((rd_T28 t398 x24_4).f1)], .int .i64 t405, .bool t400] rfl (by (try simp only [List.map_toArray, List.map_cons, List.map_nil]); first | done | rfl | (simp only [List.length_drop, List.length_take]; rfl)) ?_; (with_reducible refine (impl_LossOf.calls k4 ((rd_T28 t398 x24_4).f0) ((rd_T28 t398 x24_4).f1) t405 t400 t426 t427 t428 _ A45.out).mono ?_); rintro e w54 ⟨rfl, hb⟩; refine ⟨_, rfl, ?_⟩; have n0_ := Aside0.mk (Kd.R_below (by (with_reducible repeat (first | apply Kd.R_alloc | apply Kd.R_drewN | apply Kd.R_drew)); exact HO_3.out) hb); have n1_ := Aside0.mk (blk_below (g := gb411) (o := .cells #[.int .i64 t407, .int .i64 t408] 28 (0, 0)) (by (with_reducible repeat (first | refine blk_drewN ?_ _ | refine blk_drew ?_ | refine blk_alloc ?_ _)); exact BK411.out) hb); have n2_ := Aside0.mk (below_step (by repeat (first | (with_reducible first | exact HB.out | apply below_alloc | apply pw_below_drewN | apply below_drew1 | refine below_set ?_ GE411.out) | exact HB.out)) hb); clear HO_3; clear BK411; clear HB; have HO_3 := n0_; have BK411 := n1_; have HB := n2_; clear n0_ n1_ n2_; (try clear hb); (try clear hb2); (try clear hk); (try clear hi)))
                                  go_ret
                                  exact ⟨by first | rfl | (simp [errW_none, errW_some] <;> rfl) | (simp [*, errW_none, errW_some] <;> rfl), by repeat (first | (with_reducible first | exact HB.out | apply below_alloc | apply pw_below_drewN | apply below_drew1 | refine below_set ?_ GE411.out) | exact HB.out)⟩
                              · rw [if_neg c44] at H
                                exact absurd H (by simp)
                            · rw [if_neg c43] at H
                              have c43b0 : decide (x24_4 < (t398.length : Int)) = false := decide_eq_false c43
                              clear c43
                              by_cases c55 : t405 ≥ 1
                              · rw [if_pos c55] at H
                                have c55b0 : decide (1 ≤ t405) = true := decide_eq_true c55
                                clear c55
                                obtain rfl := Option.some.inj H
                                go_wp2
                                go_ret
                                exact ⟨by first | rfl | (simp [errW_none, errW_some] <;> rfl) | (simp [*, errW_none, errW_some] <;> rfl), by repeat (first | (with_reducible first | exact HB.out | apply below_alloc | apply pw_below_drewN | apply below_drew1 | refine below_set ?_ GE411.out) | exact HB.out)⟩
                              · rw [if_neg c55] at H
                                have c55b0 : decide (1 ≤ t405) = false := decide_eq_false c55
                                clear c55
                                obtain rfl := Option.some.inj H
                                go_wp2
                                go_ret
                                exact ⟨by first | rfl | (simp [errW_none, errW_some] <;> rfl) | (simp [*, errW_none, errW_some] <;> rfl), by repeat (first | (with_reducible first | exact HB.out | apply below_alloc | apply pw_below_drewN | apply below_drew1 | refine below_set ?_ GE411.out) | exact HB.out)⟩
                      · rw [if_neg c42] at H
                        have c42b0 : (t404 == 0) = false := beq_eq_false_iff_ne.mpr c42
                        have c42b1 : (t404 != 0) = true := bne_iff_ne.mpr c42
                        obtain rfl := Option.some.inj H
                        go_wp2
                        go_ret
                        exact ⟨by first | rfl | (simp [errW_none, errW_some] <;> rfl) | (simp [*, errW_none, errW_some] <;> rfl), by repeat (first | (with_reducible first | exact HB.out | apply below_alloc | apply pw_below_drewN | apply below_drew1 | refine below_set ?_ GE411.out) | exact HB.out)⟩

/-- THE ONE PURE STATEMENT of laws_FnScales. -/
def laws_FnScales.Pure : Prop := ∀ (l0 : List Int), wfS (wfI .u8) l0 → l0.length * 1 ≤ 140737488351232 → ∃ k, laws_FnScales.f k l0 = some true

end Go.Proofs.Ytbhdbkgpnpgejaa.Print
