-- Printed by a program of this session out of the translation; not trusted: Lean checks it.
-- SQUEEZED
-- SHRUNK
import Derived.Test.YtfaciogcddpgdaaPrint0
import Derived.Test.YtfaciogcddpgdaaPrint1
import Derived.Test.YtfaciogcddpgdaaPrint2
import Derived.Test.YtfaciogcddpgdaaPrint3
import Derived.Test.YtfaciogcddpgdaaPrint6
import Derived.Test.YtfaciogcddpgdaaPrint9
import Derived.Test.YtfaciogcddpgdaaPrint10
import Derived.Test.YtfaciogcddpgdaaPrint12
import Derived.Test.YtfaciogcddpgdaaPrint14
import Derived.Test.YtfaciogcddpgdaaPrint16
import Derived.Test.YtfaciogcddpgdaaPrint17
import Derived.Test.YtfaciogcddpgdaaPrint19
import Derived.Test.YtfaciogcddpgdaaPrint21
import Derived.Test.YtfaciogcddpgdaaPrint22
import Derived.Test.YtfaciogcddpgdaaPrint24
import Derived.Test.YtfaciogcddpgdaaPrint25
import Derived.Test.YtfaciogcddpgdaaPrint26
namespace Go.Proofs.Ytfaciogcddpgdaa.Print
open Go.RowKit Go.Proofs.YtfaciogcddpgdaaW.PrintWords Go.Proofs.YtfaciogcddpgdaaW.PrintLast Go.Proofs.YtfaciogcddpgdaaW.PrintMore
attribute [local go_sem] max2_int min2_int max_two min_two max_three min_three max_four min_four   -- for this text's walks alone
set_option linter.unusedVariables false
set_option linter.unusedSimpArgs false

attribute [local go_sem high] eqA25 eqA29
/-! ### laws_FnMaps: function 3 -/
mutual
def laws_FnMaps.j0 : Nat → Int → Int → Int → Int → Int → Bool → Int → Int → Int → Int → Int → Int → Int → Int → Int → Int → Int → Int → Int → Int → Option (Bool)
 | 0, _, _, _, _, _, _, _, _, _, _, _, _, _, _, _, _, _, _, _, _ => none
 | k + 1, x4, x6, x14, x16, x28, x205, x491000, x491001, x499000, x499001, x507000, x507001, x511000, x511001, x515000, x515001, x545000, x545001, x546000, x546001 => if x205 = true then (none) else (if x16 = 0 then ((impl_PlateOf.f k x515000 x515001 x14).bind fun bt555 => (if bt555.2.2 = 0 then (if (!(bt555.1 == x511000) || (!(bt555.2.1 == x511001))) = true then (none) else (laws_FnMaps.j1 k x4 x6 x28 x491000 x491001 x499000 x499001 x507000 x507001 x545000 x545001 x546000 x546001)) else (none))) else (laws_FnMaps.j1 k x4 x6 x28 x491000 x491001 x499000 x499001 x507000 x507001 x545000 x545001 x546000 x546001))
def laws_FnMaps.j1 : Nat → Int → Int → Int → Int → Int → Int → Int → Int → Int → Int → Int → Int → Int → Option (Bool)
 | 0, _, _, _, _, _, _, _, _, _, _, _, _, _ => none
 | k + 1, x4, x6, x28, x491000, x491001, x499000, x499001, x507000, x507001, x545000, x545001, x546000, x546001 => if x28 = 0 then (if x545000 > x546000 then (none) else (laws_FnMaps.j2 k x4 x6 (decide (x545001 > x546001)) x491000 x491001 x499000 x499001 x507000 x507001)) else (laws_FnMaps.j2 k x4 x6 false x491000 x491001 x499000 x499001 x507000 x507001)
def laws_FnMaps.j2 : Nat → Int → Int → Bool → Int → Int → Int → Int → Int → Int → Option (Bool)
 | 0, _, _, _, _, _, _, _, _, _ => none
 | k + 1, x4, x6, x236, x491000, x491001, x499000, x499001, x507000, x507001 => if x236 = true then (none) else (if x6 = 0 then ((laws_f6abs.f (wrap64 ((wrap64 (x499001 * x4)) - x491000))).bind fun t559 => (if t559 ≤ x4 then ((laws_f6abs.f (wrap64 ((wrap64 (x499000 * x4)) - x491001))).bind fun t560 => (if t560 ≤ x4 then (if x507001 = x499001 then ((laws_f6abs.f x507000).bind fun t561 => ((laws_f6abs.f x499000).bind fun t562 => (some (decide (t561 ≤ (wrap64 (t562 + 1))))))) else (none)) else (none))) else (none))) else (some true))
end
def laws_FnMaps.f (k : Nat) (l0 : List Int) : Option (Bool) := (laws_f6big.f l0).bind fun t486 => (if t486 = true then (some true) else ((spec_DrawPlateOf.f k l0).bind fun bt487 => ((impl_PlateOf.f k bt487.1 bt487.2.1 bt487.2.2).bind fun bt491 => ((spec_PlateOf.f bt487.1 bt487.2.1 bt487.2.2).bind fun bt495 => ((impl_WaveOf.f k bt487.1 bt487.2.1 bt487.2.2).bind fun bt499 => ((spec_WaveOf.f k bt487.1 bt487.2.1 bt487.2.2).bind fun bt503 => ((spec_DrawPlateBack.f k l0).bind fun bt507 => ((impl_PlateBack.f k bt507.1 bt507.2.1 bt507.2.2).bind fun bt511 => ((spec_PlateBack.f bt507.1 bt507.2.1 bt507.2.2).bind fun bt515 => ((impl_WaveBack.f k bt507.1 bt507.2.1 bt507.2.2).bind fun bt519 => ((spec_WaveBack.f k bt507.1 bt507.2.1 bt507.2.2).bind fun bt523 => ((spec_DrawFlatBox.f k l0).bind fun bt527 => ((impl_FlatBox.f k bt527.1 bt527.2.1 bt527.2.2).bind fun bt532 => ((spec_FlatBox.f k bt527.1 bt527.2.1 bt527.2.2).bind fun bt539 => ((spec_DrawOnMap.f k l0).bind fun bt546 => ((impl_OnMap.f k bt546.1 bt546.2.1 bt546.2.2.1 bt546.2.2.2).bind fun bt551 => ((spec_OnMap.f k bt546.1 bt546.2.1 bt546.2.2.1 bt546.2.2.2).bind fun bt553 => (if bt491.2.2 = bt495.2.2 then (if (!(bt491.1 == bt495.1) || (!(bt491.2.1 == bt495.2.1))) = true then (none) else (if bt499.2.2 = bt503.2.2 then (if (!(bt499.1 == bt503.1) || (!(bt499.2.1 == bt503.2.1))) = true then (none) else (if bt511.2.2 = bt515.2.2 then (if (!(bt511.1 == bt515.1) || (!(bt511.2.1 == bt515.2.1))) = true then (none) else (if bt519.2.2 = bt523.2.2 then (if (!(bt519.1 == bt523.1) || (!(bt519.2.1 == bt523.2.1))) = true then (none) else (if bt532.2.2.2.2 = bt539.2.2.2.2 then (if (!(bt532.1 == bt539.1) || (!(bt532.2.1 == bt539.2.1))) = true then (none) else (if (!(bt532.2.2.1 == bt539.2.2.1) || (!(bt532.2.2.2.1 == bt539.2.2.2.1))) = true then (none) else (if bt551.2 = bt553.2 then (laws_FnMaps.j0 k bt487.2.2 bt491.2.2 bt507.2.2 bt511.2.2 bt532.2.2.2.2 (bt551.1 != bt553.1) bt487.1 bt487.2.1 bt495.1 bt495.2.1 bt503.1 bt503.2.1 bt507.1 bt507.2.1 bt511.1 bt511.2.1 bt539.1 bt539.2.1 bt539.2.2.1 bt539.2.2.2.1) else (none)))) else (none))) else (none))) else (none))) else (none))) else (none)))))))))))))))))))
theorem laws_FnMaps.mono_l : ∀ k, (∀ y0 y1 y2 y3 y4 y5 y6 y7 y8 y9 y10 y11 y12 y13 y14 y15 y16 y17 y18 y19, LeO (laws_FnMaps.j0 k y0 y1 y2 y3 y4 y5 y6 y7 y8 y9 y10 y11 y12 y13 y14 y15 y16 y17 y18 y19) (laws_FnMaps.j0 (k + 1) y0 y1 y2 y3 y4 y5 y6 y7 y8 y9 y10 y11 y12 y13 y14 y15 y16 y17 y18 y19)) ∧ (∀ y0 y1 y2 y3 y4 y5 y6 y7 y8 y9 y10 y11 y12, LeO (laws_FnMaps.j1 k y0 y1 y2 y3 y4 y5 y6 y7 y8 y9 y10 y11 y12) (laws_FnMaps.j1 (k + 1) y0 y1 y2 y3 y4 y5 y6 y7 y8 y9 y10 y11 y12)) ∧ (∀ y0 y1 y2 y3 y4 y5 y6 y7 y8, LeO (laws_FnMaps.j2 k y0 y1 y2 y3 y4 y5 y6 y7 y8) (laws_FnMaps.j2 (k + 1) y0 y1 y2 y3 y4 y5 y6 y7 y8))
 | 0 => ⟨fun _ _ _ _ _ _ _ _ _ _ _ _ _ _ _ _ _ _ _ _ r h => by simp [laws_FnMaps.j0] at h, fun _ _ _ _ _ _ _ _ _ _ _ _ _ r h => by simp [laws_FnMaps.j1] at h, fun _ _ _ _ _ _ _ _ _ r h => by simp [laws_FnMaps.j2] at h⟩
 | k + 1 => by
  obtain ⟨ih0, ih1, ih2⟩ := laws_FnMaps.mono_l k
  refine ⟨?_, ?_, ?_⟩
  ·intro y0 y1 y2 y3 y4 y5 y6 y7 y8 y9 y10 y11 y12 y13 y14 y15 y16 y17 y18 y19
   unfold laws_FnMaps.j0
   repeat' first
   | (with_reducible exact ih0 _ _ _ _ _ _ _ _ _ _ _ _ _ _ _ _ _ _ _ _)
   | (with_reducible exact ih1 _ _ _ _ _ _ _ _ _ _ _ _ _)
   | (with_reducible exact ih2 _ _ _ _ _ _ _ _ _)
   | (with_reducible exact impl_FlatBox.mono _ _ _ _)
   | (with_reducible exact impl_OnMap.mono _ _ _ _ _)
   | (with_reducible exact impl_PlateBack.mono _ _ _ _)
   | (with_reducible exact impl_PlateOf.mono _ _ _ _)
   | (with_reducible exact impl_WaveBack.mono _ _ _ _)
   | (with_reducible exact impl_WaveOf.mono _ _ _ _)
   | (with_reducible exact spec_DrawFlatBox.mono _ _)
   | (with_reducible exact spec_DrawOnMap.mono _ _)
   | (with_reducible exact spec_DrawPlateBack.mono _ _)
   | (with_reducible exact spec_DrawPlateOf.mono _ _)
   | (with_reducible exact spec_FlatBox.mono _ _ _ _)
   | (with_reducible exact spec_OnMap.mono _ _ _ _ _)
   | (with_reducible exact spec_WaveBack.mono _ _ _ _)
   | (with_reducible exact spec_WaveOf.mono _ _ _ _)
   | (with_reducible exact LeO.refl _)
   | (with_reducible exact LeO.none _)
   | (with_reducible refine LeO.ite ?_ ?_)
   | (with_reducible refine LeO.bind ?_ (fun _ => ?_))
   | exact ih0 _ _ _ _ _ _ _ _ _ _ _ _ _ _ _ _ _ _ _ _
   | exact ih1 _ _ _ _ _ _ _ _ _ _ _ _ _
   | exact ih2 _ _ _ _ _ _ _ _ _
   | exact impl_FlatBox.mono _ _ _ _
   | exact impl_OnMap.mono _ _ _ _ _
   | exact impl_PlateBack.mono _ _ _ _
   | exact impl_PlateOf.mono _ _ _ _
   | exact impl_WaveBack.mono _ _ _ _
   | exact impl_WaveOf.mono _ _ _ _
   | exact spec_DrawFlatBox.mono _ _
   | exact spec_DrawOnMap.mono _ _
   | exact spec_DrawPlateBack.mono _ _
   | exact spec_DrawPlateOf.mono _ _
   | exact spec_FlatBox.mono _ _ _ _
   | exact spec_OnMap.mono _ _ _ _ _
   | exact spec_WaveBack.mono _ _ _ _
   | exact spec_WaveOf.mono _ _ _ _
   | exact LeO.none _
   | refine LeO.ite ?_ ?_
   | refine LeO.bind ?_ (fun _ => ?_)
  ·intro y0 y1 y2 y3 y4 y5 y6 y7 y8 y9 y10 y11 y12
   unfold laws_FnMaps.j1
   repeat' first
   | (with_reducible exact ih0 _ _ _ _ _ _ _ _ _ _ _ _ _ _ _ _ _ _ _ _)
   | (with_reducible exact ih1 _ _ _ _ _ _ _ _ _ _ _ _ _)
   | (with_reducible exact ih2 _ _ _ _ _ _ _ _ _)
   | (with_reducible exact impl_FlatBox.mono _ _ _ _)
   | (with_reducible exact impl_OnMap.mono _ _ _ _ _)
   | (with_reducible exact impl_PlateBack.mono _ _ _ _)
   | (with_reducible exact impl_PlateOf.mono _ _ _ _)
   | (with_reducible exact impl_WaveBack.mono _ _ _ _)
   | (with_reducible exact impl_WaveOf.mono _ _ _ _)
   | (with_reducible exact spec_DrawFlatBox.mono _ _)
   | (with_reducible exact spec_DrawOnMap.mono _ _)
   | (with_reducible exact spec_DrawPlateBack.mono _ _)
   | (with_reducible exact spec_DrawPlateOf.mono _ _)
   | (with_reducible exact spec_FlatBox.mono _ _ _ _)
   | (with_reducible exact spec_OnMap.mono _ _ _ _ _)
   | (with_reducible exact spec_WaveBack.mono _ _ _ _)
   | (with_reducible exact spec_WaveOf.mono _ _ _ _)
   | (with_reducible exact LeO.refl _)
   | (with_reducible exact LeO.none _)
   | (with_reducible refine LeO.ite ?_ ?_)
   | (with_reducible refine LeO.bind ?_ (fun _ => ?_))
   | exact ih0 _ _ _ _ _ _ _ _ _ _ _ _ _ _ _ _ _ _ _ _
   | exact ih1 _ _ _ _ _ _ _ _ _ _ _ _ _
   | exact ih2 _ _ _ _ _ _ _ _ _
   | exact impl_FlatBox.mono _ _ _ _
   | exact impl_OnMap.mono _ _ _ _ _
   | exact impl_PlateBack.mono _ _ _ _
   | exact impl_PlateOf.mono _ _ _ _
   | exact impl_WaveBack.mono _ _ _ _
   | exact impl_WaveOf.mono _ _ _ _
   | exact spec_DrawFlatBox.mono _ _
   | exact spec_DrawOnMap.mono _ _
   | exact spec_DrawPlateBack.mono _ _
   | exact spec_DrawPlateOf.mono _ _
   | exact spec_FlatBox.mono _ _ _ _
   | exact spec_OnMap.mono _ _ _ _ _
   | exact spec_WaveBack.mono _ _ _ _
   | exact spec_WaveOf.mono _ _ _ _
   | exact LeO.none _
   | refine LeO.ite ?_ ?_
   | refine LeO.bind ?_ (fun _ => ?_)
  ·intro y0 y1 y2 y3 y4 y5 y6 y7 y8
   unfold laws_FnMaps.j2
   repeat' first
   | (with_reducible exact ih0 _ _ _ _ _ _ _ _ _ _ _ _ _ _ _ _ _ _ _ _)
   | (with_reducible exact ih1 _ _ _ _ _ _ _ _ _ _ _ _ _)
   | (with_reducible exact ih2 _ _ _ _ _ _ _ _ _)
   | (with_reducible exact impl_FlatBox.mono _ _ _ _)
   | (with_reducible exact impl_OnMap.mono _ _ _ _ _)
   | (with_reducible exact impl_PlateBack.mono _ _ _ _)
   | (with_reducible exact impl_PlateOf.mono _ _ _ _)
   | (with_reducible exact impl_WaveBack.mono _ _ _ _)
   | (with_reducible exact impl_WaveOf.mono _ _ _ _)
   | (with_reducible exact spec_DrawFlatBox.mono _ _)
   | (with_reducible exact spec_DrawOnMap.mono _ _)
   | (with_reducible exact spec_DrawPlateBack.mono _ _)
   | (with_reducible exact spec_DrawPlateOf.mono _ _)
   | (with_reducible exact spec_FlatBox.mono _ _ _ _)
   | (with_reducible exact spec_OnMap.mono _ _ _ _ _)
   | (with_reducible exact spec_WaveBack.mono _ _ _ _)
   | (with_reducible exact spec_WaveOf.mono _ _ _ _)
   | (with_reducible exact LeO.refl _)
   | (with_reducible exact LeO.none _)
   | (with_reducible refine LeO.ite ?_ ?_)
   | (with_reducible refine LeO.bind ?_ (fun _ => ?_))
   | exact ih0 _ _ _ _ _ _ _ _ _ _ _ _ _ _ _ _ _ _ _ _
   | exact ih1 _ _ _ _ _ _ _ _ _ _ _ _ _
   | exact ih2 _ _ _ _ _ _ _ _ _
   | exact impl_FlatBox.mono _ _ _ _
   | exact impl_OnMap.mono _ _ _ _ _
   | exact impl_PlateBack.mono _ _ _ _
   | exact impl_PlateOf.mono _ _ _ _
   | exact impl_WaveBack.mono _ _ _ _
   | exact impl_WaveOf.mono _ _ _ _
   | exact spec_DrawFlatBox.mono _ _
   | exact spec_DrawOnMap.mono _ _
   | exact spec_DrawPlateBack.mono _ _
   | exact spec_DrawPlateOf.mono _ _
   | exact spec_FlatBox.mono _ _ _ _
   | exact spec_OnMap.mono _ _ _ _ _
   | exact spec_WaveBack.mono _ _ _ _
   | exact spec_WaveOf.mono _ _ _ _
   | exact LeO.none _
   | refine LeO.ite ?_ ?_
   | refine LeO.bind ?_ (fun _ => ?_)
theorem laws_FnMaps.mono : ∀ a0 k, LeO (laws_FnMaps.f k a0) (laws_FnMaps.f (k + 1) a0) := by
 intro a0 k
 obtain ⟨ih0, ih1, ih2⟩ := laws_FnMaps.mono_l k
 unfold laws_FnMaps.f
 repeat' first
   | (with_reducible exact ih0 _ _ _ _ _ _ _ _ _ _ _ _ _ _ _ _ _ _ _ _)
   | (with_reducible exact ih1 _ _ _ _ _ _ _ _ _ _ _ _ _)
   | (with_reducible exact ih2 _ _ _ _ _ _ _ _ _)
   | (with_reducible exact impl_FlatBox.mono _ _ _ _)
   | (with_reducible exact impl_OnMap.mono _ _ _ _ _)
   | (with_reducible exact impl_PlateBack.mono _ _ _ _)
   | (with_reducible exact impl_PlateOf.mono _ _ _ _)
   | (with_reducible exact impl_WaveBack.mono _ _ _ _)
   | (with_reducible exact impl_WaveOf.mono _ _ _ _)
   | (with_reducible exact spec_DrawFlatBox.mono _ _)
   | (with_reducible exact spec_DrawOnMap.mono _ _)
   | (with_reducible exact spec_DrawPlateBack.mono _ _)
   | (with_reducible exact spec_DrawPlateOf.mono _ _)
   | (with_reducible exact spec_FlatBox.mono _ _ _ _)
   | (with_reducible exact spec_OnMap.mono _ _ _ _ _)
   | (with_reducible exact spec_WaveBack.mono _ _ _ _)
   | (with_reducible exact spec_WaveOf.mono _ _ _ _)
   | (with_reducible exact LeO.refl _)
   | (with_reducible exact LeO.none _)
   | (with_reducible refine LeO.ite ?_ ?_)
   | (with_reducible refine LeO.bind ?_ (fun _ => ?_))
   | exact ih0 _ _ _ _ _ _ _ _ _ _ _ _ _ _ _ _ _ _ _ _
   | exact ih1 _ _ _ _ _ _ _ _ _ _ _ _ _
   | exact ih2 _ _ _ _ _ _ _ _ _
   | exact impl_FlatBox.mono _ _ _ _
   | exact impl_OnMap.mono _ _ _ _ _
   | exact impl_PlateBack.mono _ _ _ _
   | exact impl_PlateOf.mono _ _ _ _
   | exact impl_WaveBack.mono _ _ _ _
   | exact impl_WaveOf.mono _ _ _ _
   | exact spec_DrawFlatBox.mono _ _
   | exact spec_DrawOnMap.mono _ _
   | exact spec_DrawPlateBack.mono _ _
   | exact spec_DrawPlateOf.mono _ _
   | exact spec_FlatBox.mono _ _ _ _
   | exact spec_OnMap.mono _ _ _ _ _
   | exact spec_WaveBack.mono _ _ _ _
   | exact spec_WaveOf.mono _ _ _ _
   | exact LeO.none _
   | refine LeO.ite ?_ ?_
   | refine LeO.bind ?_ (fun _ => ?_)
def laws_FnMaps.T29 : Bool × List (List Nat × List Nat) := (true, [([], []), ([0], [0]), ([], []), ([1, 2], [1, 2]), ([], []), ([4], [4]), ([3, 5], [3, 5]), ([6], [6]), ([], []), ([7, 8], [7, 8]), ([9, 7], [9]), ([10], [10]), ([11, 10], [10, 11]), ([10], [10]), ([12, 13, 10], [10, 12, 13]), ([10], [10]), ([15, 10], [10, 15]), ([14, 16, 10], [10, 14, 16]), ([17, 10, 10], [10, 17]), ([10], [10]), ([18, 19, 10], [10, 18, 19]), ([10, 20], [10, 20]), ([21, 18], [21]), ([22], [22]), ([23, 22], [22, 23]), ([22], [22]), ([25, 22], [22, 25]), ([24, 26, 22], [22, 24, 26]), ([22, 27], [22, 27]), ([28, 22], [28]), ([29], [29]), ([30, 29], [29, 30]), ([31, 29, 29], [29, 31]), ([29], [29]), ([33, 29], [29, 33]), ([34, 32, 29], [29, 34]), ([35, 29], [29, 35]), ([32, 36, 29], [29, 32, 36]), ([29, 37], [29, 37]), ([38, 35, 0, 1, 2, 3, 4, 5, 6, 7, 8, 9, 10, 11, 12, 13, 14, 15, 16, 17, 18, 19, 20, 21, 22, 23, 24, 25, 26, 27, 28, 29, 30, 31, 32, 33, 34, 35, 36, 37, 38], [38])])
def laws_FnMaps.B29 : List Nat := [0, 1, 0, 7, 0, 16, 63, 127, 0, 511, 1023, 2047, 4095, 2047, 16383, 2047, 34815, 131071, 262143, 2047, 1048575, 2097151, 4194303, 8388607, 16777215, 8388607, 41943039, 134217727, 268435455, 536870911, 1073741823, 2147483647, 4294967295, 1073741823, 9663676415, 34359738367, 68719476735, 137438953471, 274877906943, 549755813887]
theorem laws_FnMaps.tab29 : rtab .any (opsOf Try.f3 29) = laws_FnMaps.T29 := by kernel_rfl
theorem laws_FnMaps.bits29 : waitsOk laws_FnMaps.T29.2 laws_FnMaps.B29 = true := by kernel_rfl
set_option maxHeartbeats 8000000 in
set_option maxRecDepth 100000 in
theorem laws_FnMaps.calls (k : Nat) (A0 : Option Addr) (c0 : Nat) (l0 : List Int) (r : Bool) (w : World) (hr0 : Kd.C (Kd.int .u8) w A0 l0.length l0) (hc0 : l0.length ≤ c0) (h : laws_FnMaps.f k l0 = some r) :
  Calls Try.prog 3 #[.slice A0 l0.length c0] w fun e w' => e = .returned (.bool r) ∧ Below w.heap.size w w' := by
 have hu25 := Try.underlying25
 have hu29 := Try.underlying29
 have HR0 := Aside0.mk hr0
 have HC0 := Aside0.mk hc0
 clear hr0 hc0
 have HB := Aside0.mk (Below.refl w.heap.size w)
 have H : ((laws_f6big.f l0).bind fun t486 => (if t486 = true then (some true) else ((spec_DrawPlateOf.f k l0).bind fun bt487 => ((impl_PlateOf.f k bt487.1 bt487.2.1 bt487.2.2).bind fun bt491 => ((spec_PlateOf.f bt487.1 bt487.2.1 bt487.2.2).bind fun bt495 => ((impl_WaveOf.f k bt487.1 bt487.2.1 bt487.2.2).bind fun bt499 => ((spec_WaveOf.f k bt487.1 bt487.2.1 bt487.2.2).bind fun bt503 => ((spec_DrawPlateBack.f k l0).bind fun bt507 => ((impl_PlateBack.f k bt507.1 bt507.2.1 bt507.2.2).bind fun bt511 => ((spec_PlateBack.f bt507.1 bt507.2.1 bt507.2.2).bind fun bt515 => ((impl_WaveBack.f k bt507.1 bt507.2.1 bt507.2.2).bind fun bt519 => ((spec_WaveBack.f k bt507.1 bt507.2.1 bt507.2.2).bind fun bt523 => ((spec_DrawFlatBox.f k l0).bind fun bt527 => ((impl_FlatBox.f k bt527.1 bt527.2.1 bt527.2.2).bind fun bt532 => ((spec_FlatBox.f k bt527.1 bt527.2.1 bt527.2.2).bind fun bt539 => ((spec_DrawOnMap.f k l0).bind fun bt546 => ((impl_OnMap.f k bt546.1 bt546.2.1 bt546.2.2.1 bt546.2.2.2).bind fun bt551 => ((spec_OnMap.f k bt546.1 bt546.2.1 bt546.2.2.1 bt546.2.2.2).bind fun bt553 => (if bt491.2.2 = bt495.2.2 then (if (!(bt491.1 == bt495.1) || (!(bt491.2.1 == bt495.2.1))) = true then (none) else (if bt499.2.2 = bt503.2.2 then (if (!(bt499.1 == bt503.1) || (!(bt499.2.1 == bt503.2.1))) = true then (none) else (if bt511.2.2 = bt515.2.2 then (if (!(bt511.1 == bt515.1) || (!(bt511.2.1 == bt515.2.1))) = true then (none) else (if bt519.2.2 = bt523.2.2 then (if (!(bt519.1 == bt523.1) || (!(bt519.2.1 == bt523.2.1))) = true then (none) else (if bt532.2.2.2.2 = bt539.2.2.2.2 then (if (!(bt532.1 == bt539.1) || (!(bt532.2.1 == bt539.2.1))) = true then (none) else (if (!(bt532.2.2.1 == bt539.2.2.1) || (!(bt532.2.2.2.1 == bt539.2.2.2.1))) = true then (none) else (if bt551.2 = bt553.2 then (laws_FnMaps.j0 k bt487.2.2 bt491.2.2 bt507.2.2 bt511.2.2 bt532.2.2.2.2 (bt551.1 != bt553.1) bt487.1 bt487.2.1 bt495.1 bt495.2.1 bt503.1 bt503.2.1 bt507.1 bt507.2.1 bt511.1 bt511.2.1 bt539.1 bt539.2.1 bt539.2.2.1 bt539.2.2.2.1) else (none)))) else (none))) else (none))) else (none))) else (none))) else (none)))))))))))))))))))) = some r := h
 clear h
 replace H := Option.bind_eq_some_iff.mp H
 obtain ⟨t486, A20, H⟩ := H
 replace H : (if t486 = true then (some true) else ((spec_DrawPlateOf.f k l0).bind fun bt487 => ((impl_PlateOf.f k bt487.1 bt487.2.1 bt487.2.2).bind fun bt491 => ((spec_PlateOf.f bt487.1 bt487.2.1 bt487.2.2).bind fun bt495 => ((impl_WaveOf.f k bt487.1 bt487.2.1 bt487.2.2).bind fun bt499 => ((spec_WaveOf.f k bt487.1 bt487.2.1 bt487.2.2).bind fun bt503 => ((spec_DrawPlateBack.f k l0).bind fun bt507 => ((impl_PlateBack.f k bt507.1 bt507.2.1 bt507.2.2).bind fun bt511 => ((spec_PlateBack.f bt507.1 bt507.2.1 bt507.2.2).bind fun bt515 => ((impl_WaveBack.f k bt507.1 bt507.2.1 bt507.2.2).bind fun bt519 => ((spec_WaveBack.f k bt507.1 bt507.2.1 bt507.2.2).bind fun bt523 => ((spec_DrawFlatBox.f k l0).bind fun bt527 => ((impl_FlatBox.f k bt527.1 bt527.2.1 bt527.2.2).bind fun bt532 => ((spec_FlatBox.f k bt527.1 bt527.2.1 bt527.2.2).bind fun bt539 => ((spec_DrawOnMap.f k l0).bind fun bt546 => ((impl_OnMap.f k bt546.1 bt546.2.1 bt546.2.2.1 bt546.2.2.2).bind fun bt551 => ((spec_OnMap.f k bt546.1 bt546.2.1 bt546.2.2.1 bt546.2.2.2).bind fun bt553 => (if bt491.2.2 = bt495.2.2 then (if (!(bt491.1 == bt495.1) || (!(bt491.2.1 == bt495.2.1))) = true then (none) else (if bt499.2.2 = bt503.2.2 then (if (!(bt499.1 == bt503.1) || (!(bt499.2.1 == bt503.2.1))) = true then (none) else (if bt511.2.2 = bt515.2.2 then (if (!(bt511.1 == bt515.1) || (!(bt511.2.1 == bt515.2.1))) = true then (none) else (if bt519.2.2 = bt523.2.2 then (if (!(bt519.1 == bt523.1) || (!(bt519.2.1 == bt523.2.1))) = true then (none) else (if bt532.2.2.2.2 = bt539.2.2.2.2 then (if (!(bt532.1 == bt539.1) || (!(bt532.2.1 == bt539.2.1))) = true then (none) else (if (!(bt532.2.2.1 == bt539.2.2.1) || (!(bt532.2.2.2.1 == bt539.2.2.2.1))) = true then (none) else (if bt551.2 = bt553.2 then (laws_FnMaps.j0 k bt487.2.2 bt491.2.2 bt507.2.2 bt511.2.2 bt532.2.2.2.2 (bt551.1 != bt553.1) bt487.1 bt487.2.1 bt495.1 bt495.2.1 bt503.1 bt503.2.1 bt507.1 bt507.2.1 bt511.1 bt511.2.1 bt539.1 bt539.2.1 bt539.2.2.1 bt539.2.2.2.1) else (none)))) else (none))) else (none))) else (none))) else (none))) else (none))))))))))))))))))) = some r := H
 have A2 := Aside0.mk A20
 clear A20
 by_cases c3 : t486 = true
 ·as_aux_lemma =>
  subst c3
  have H1 : (some true) = some r := by rw [if_pos rfl] at H; exact H
  clear H
  have H := H1
  clear H1
  obtain rfl := Option.some.inj H
  go_enter Try.func3, Try.ntmps3
  go_wp2_with (first | ((with_reducible refine gate_callee (f := 4) rfl ?_); refine goesL_ (some 42) rfl rfl Try.func4 (by kernel_rfl) rfl #[.slice A0 l0.length c0] rfl gl_ ?_; (with_reducible refine (laws_f6big.calls _ _ l0 true _ ?side1 ?side2 A2.out).mono ?_); (case side1 => repeat (first | exact HR0.out | (with_reducible refine Kd.C_alloc ?_ _) | (with_reducible refine Kd.C_drewN ?_ _) | (with_reducible refine Kd.C_drew ?_))); (case side2 => exact HC0.out); rintro e w' ⟨rfl, ⟨nd, rfl⟩⟩; refine ⟨_, rfl, ?_⟩))
  go_ret
  exact ⟨by first | rfl | (simp [errW_none, errW_some] <;> rfl) | (simp [*, errW_none, errW_some] <;> rfl), by repeat (first | (with_reducible first | exact HB.out | apply below_alloc | apply pw_below_drewN | apply below_drew1) | exact HB.out)⟩
 ·as_aux_lemma =>
  replace c3 := Bool.eq_false_iff.mpr c3
  subst c3
  have H1 : ((spec_DrawPlateOf.f k l0).bind fun bt487 => ((impl_PlateOf.f k bt487.1 bt487.2.1 bt487.2.2).bind fun bt491 => ((spec_PlateOf.f bt487.1 bt487.2.1 bt487.2.2).bind fun bt495 => ((impl_WaveOf.f k bt487.1 bt487.2.1 bt487.2.2).bind fun bt499 => ((spec_WaveOf.f k bt487.1 bt487.2.1 bt487.2.2).bind fun bt503 => ((spec_DrawPlateBack.f k l0).bind fun bt507 => ((impl_PlateBack.f k bt507.1 bt507.2.1 bt507.2.2).bind fun bt511 => ((spec_PlateBack.f bt507.1 bt507.2.1 bt507.2.2).bind fun bt515 => ((impl_WaveBack.f k bt507.1 bt507.2.1 bt507.2.2).bind fun bt519 => ((spec_WaveBack.f k bt507.1 bt507.2.1 bt507.2.2).bind fun bt523 => ((spec_DrawFlatBox.f k l0).bind fun bt527 => ((impl_FlatBox.f k bt527.1 bt527.2.1 bt527.2.2).bind fun bt532 => ((spec_FlatBox.f k bt527.1 bt527.2.1 bt527.2.2).bind fun bt539 => ((spec_DrawOnMap.f k l0).bind fun bt546 => ((impl_OnMap.f k bt546.1 bt546.2.1 bt546.2.2.1 bt546.2.2.2).bind fun bt551 => ((spec_OnMap.f k bt546.1 bt546.2.1 bt546.2.2.1 bt546.2.2.2).bind fun bt553 => (if bt491.2.2 = bt495.2.2 then (if (!(bt491.1 == bt495.1) || (!(bt491.2.1 == bt495.2.1))) = true then (none) else (if bt499.2.2 = bt503.2.2 then (if (!(bt499.1 == bt503.1) || (!(bt499.2.1 == bt503.2.1))) = true then (none) else (if bt511.2.2 = bt515.2.2 then (if (!(bt511.1 == bt515.1) || (!(bt511.2.1 == bt515.2.1))) = true then (none) else (if bt519.2.2 = bt523.2.2 then (if (!(bt519.1 == bt523.1) || (!(bt519.2.1 == bt523.2.1))) = true then (none) else (if bt532.2.2.2.2 = bt539.2.2.2.2 then (if (!(bt532.1 == bt539.1) || (!(bt532.2.1 == bt539.2.1))) = true then (none) else (if (!(bt532.2.2.1 == bt539.2.2.1) || (!(bt532.2.2.2.1 == bt539.2.2.2.1))) = true then (none) else (if bt551.2 = bt553.2 then (laws_FnMaps.j0 k bt487.2.2 bt491.2.2 bt507.2.2 bt511.2.2 bt532.2.2.2.2 (bt551.1 != bt553.1) bt487.1 bt487.2.1 bt495.1 bt495.2.1 bt503.1 bt503.2.1 bt507.1 bt507.2.1 bt511.1 bt511.2.1 bt539.1 bt539.2.1 bt539.2.2.1 bt539.2.2.2.1) else (none)))) else (none))) else (none))) else (none))) else (none))) else (none)))))))))))))))))) = some r := by rw [if_neg (show ¬ (false = true) by decide)] at H; exact H
  clear H
  have H := H1
  clear H1
  replace H := Option.bind_eq_some_iff.mp H
  obtain ⟨⟨t487, t488, t489⟩, A40, H⟩ := H
  replace H : ((impl_PlateOf.f k t487 t488 t489).bind fun bt491 => ((spec_PlateOf.f t487 t488 t489).bind fun bt495 => ((impl_WaveOf.f k t487 t488 t489).bind fun bt499 => ((spec_WaveOf.f k t487 t488 t489).bind fun bt503 => ((spec_DrawPlateBack.f k l0).bind fun bt507 => ((impl_PlateBack.f k bt507.1 bt507.2.1 bt507.2.2).bind fun bt511 => ((spec_PlateBack.f bt507.1 bt507.2.1 bt507.2.2).bind fun bt515 => ((impl_WaveBack.f k bt507.1 bt507.2.1 bt507.2.2).bind fun bt519 => ((spec_WaveBack.f k bt507.1 bt507.2.1 bt507.2.2).bind fun bt523 => ((spec_DrawFlatBox.f k l0).bind fun bt527 => ((impl_FlatBox.f k bt527.1 bt527.2.1 bt527.2.2).bind fun bt532 => ((spec_FlatBox.f k bt527.1 bt527.2.1 bt527.2.2).bind fun bt539 => ((spec_DrawOnMap.f k l0).bind fun bt546 => ((impl_OnMap.f k bt546.1 bt546.2.1 bt546.2.2.1 bt546.2.2.2).bind fun bt551 => ((spec_OnMap.f k bt546.1 bt546.2.1 bt546.2.2.1 bt546.2.2.2).bind fun bt553 => (if bt491.2.2 = bt495.2.2 then (if (!(bt491.1 == bt495.1) || (!(bt491.2.1 == bt495.2.1))) = true then (none) else (if bt499.2.2 = bt503.2.2 then (if (!(bt499.1 == bt503.1) || (!(bt499.2.1 == bt503.2.1))) = true then (none) else (if bt511.2.2 = bt515.2.2 then (if (!(bt511.1 == bt515.1) || (!(bt511.2.1 == bt515.2.1))) = true then (none) else (if bt519.2.2 = bt523.2.2 then (if (!(bt519.1 == bt523.1) || (!(bt519.2.1 == bt523.2.1))) = true then (none) else (if bt532.2.2.2.2 = bt539.2.2.2.2 then (if (!(bt532.1 == bt539.1) || (!(bt532.2.1 == bt539.2.1))) = true then (none) else (if (!(bt532.2.2.1 == bt539.2.2.1) || (!(bt532.2.2.2.1 == bt539.2.2.2.1))) = true then (none) else (if bt551.2 = bt553.2 then (laws_FnMaps.j0 k t489 bt491.2.2 bt507.2.2 bt511.2.2 bt532.2.2.2.2 (bt551.1 != bt553.1) t487 t488 bt495.1 bt495.2.1 bt503.1 bt503.2.1 bt507.1 bt507.2.1 bt511.1 bt511.2.1 bt539.1 bt539.2.1 bt539.2.2.1 bt539.2.2.2.1) else (none)))) else (none))) else (none))) else (none))) else (none))) else (none))))))))))))))))) = some r := H
  have A4 := Aside0.mk A40
  clear A40
  replace H := Option.bind_eq_some_iff.mp H
  obtain ⟨⟨t491, t492, t493⟩, A50, H⟩ := H
  replace H : ((spec_PlateOf.f t487 t488 t489).bind fun bt495 => ((impl_WaveOf.f k t487 t488 t489).bind fun bt499 => ((spec_WaveOf.f k t487 t488 t489).bind fun bt503 => ((spec_DrawPlateBack.f k l0).bind fun bt507 => ((impl_PlateBack.f k bt507.1 bt507.2.1 bt507.2.2).bind fun bt511 => ((spec_PlateBack.f bt507.1 bt507.2.1 bt507.2.2).bind fun bt515 => ((impl_WaveBack.f k bt507.1 bt507.2.1 bt507.2.2).bind fun bt519 => ((spec_WaveBack.f k bt507.1 bt507.2.1 bt507.2.2).bind fun bt523 => ((spec_DrawFlatBox.f k l0).bind fun bt527 => ((impl_FlatBox.f k bt527.1 bt527.2.1 bt527.2.2).bind fun bt532 => ((spec_FlatBox.f k bt527.1 bt527.2.1 bt527.2.2).bind fun bt539 => ((spec_DrawOnMap.f k l0).bind fun bt546 => ((impl_OnMap.f k bt546.1 bt546.2.1 bt546.2.2.1 bt546.2.2.2).bind fun bt551 => ((spec_OnMap.f k bt546.1 bt546.2.1 bt546.2.2.1 bt546.2.2.2).bind fun bt553 => (if t493 = bt495.2.2 then (if (!(t491 == bt495.1) || (!(t492 == bt495.2.1))) = true then (none) else (if bt499.2.2 = bt503.2.2 then (if (!(bt499.1 == bt503.1) || (!(bt499.2.1 == bt503.2.1))) = true then (none) else (if bt511.2.2 = bt515.2.2 then (if (!(bt511.1 == bt515.1) || (!(bt511.2.1 == bt515.2.1))) = true then (none) else (if bt519.2.2 = bt523.2.2 then (if (!(bt519.1 == bt523.1) || (!(bt519.2.1 == bt523.2.1))) = true then (none) else (if bt532.2.2.2.2 = bt539.2.2.2.2 then (if (!(bt532.1 == bt539.1) || (!(bt532.2.1 == bt539.2.1))) = true then (none) else (if (!(bt532.2.2.1 == bt539.2.2.1) || (!(bt532.2.2.2.1 == bt539.2.2.2.1))) = true then (none) else (if bt551.2 = bt553.2 then (laws_FnMaps.j0 k t489 t493 bt507.2.2 bt511.2.2 bt532.2.2.2.2 (bt551.1 != bt553.1) t487 t488 bt495.1 bt495.2.1 bt503.1 bt503.2.1 bt507.1 bt507.2.1 bt511.1 bt511.2.1 bt539.1 bt539.2.1 bt539.2.2.1 bt539.2.2.2.1) else (none)))) else (none))) else (none))) else (none))) else (none))) else (none)))))))))))))))) = some r := H
  have A5 := Aside0.mk A50
  clear A50
  replace H := Option.bind_eq_some_iff.mp H
  obtain ⟨⟨t495, t496, t497⟩, A60, H⟩ := H
  replace H : ((impl_WaveOf.f k t487 t488 t489).bind fun bt499 => ((spec_WaveOf.f k t487 t488 t489).bind fun bt503 => ((spec_DrawPlateBack.f k l0).bind fun bt507 => ((impl_PlateBack.f k bt507.1 bt507.2.1 bt507.2.2).bind fun bt511 => ((spec_PlateBack.f bt507.1 bt507.2.1 bt507.2.2).bind fun bt515 => ((impl_WaveBack.f k bt507.1 bt507.2.1 bt507.2.2).bind fun bt519 => ((spec_WaveBack.f k bt507.1 bt507.2.1 bt507.2.2).bind fun bt523 => ((spec_DrawFlatBox.f k l0).bind fun bt527 => ((impl_FlatBox.f k bt527.1 bt527.2.1 bt527.2.2).bind fun bt532 => ((spec_FlatBox.f k bt527.1 bt527.2.1 bt527.2.2).bind fun bt539 => ((spec_DrawOnMap.f k l0).bind fun bt546 => ((impl_OnMap.f k bt546.1 bt546.2.1 bt546.2.2.1 bt546.2.2.2).bind fun bt551 => ((spec_OnMap.f k bt546.1 bt546.2.1 bt546.2.2.1 bt546.2.2.2).bind fun bt553 => (if t493 = t497 then (if (!(t491 == t495) || (!(t492 == t496))) = true then (none) else (if bt499.2.2 = bt503.2.2 then (if (!(bt499.1 == bt503.1) || (!(bt499.2.1 == bt503.2.1))) = true then (none) else (if bt511.2.2 = bt515.2.2 then (if (!(bt511.1 == bt515.1) || (!(bt511.2.1 == bt515.2.1))) = true then (none) else (if bt519.2.2 = bt523.2.2 then (if (!(bt519.1 == bt523.1) || (!(bt519.2.1 == bt523.2.1))) = true then (none) else (if bt532.2.2.2.2 = bt539.2.2.2.2 then (if (!(bt532.1 == bt539.1) || (!(bt532.2.1 == bt539.2.1))) = true then (none) else (if (!(bt532.2.2.1 == bt539.2.2.1) || (!(bt532.2.2.2.1 == bt539.2.2.2.1))) = true then (none) else (if bt551.2 = bt553.2 then (laws_FnMaps.j0 k t489 t493 bt507.2.2 bt511.2.2 bt532.2.2.2.2 (bt551.1 != bt553.1) t487 t488 t495 t496 bt503.1 bt503.2.1 bt507.1 bt507.2.1 bt511.1 bt511.2.1 bt539.1 bt539.2.1 bt539.2.2.1 bt539.2.2.2.1) else (none)))) else (none))) else (none))) else (none))) else (none))) else (none))))))))))))))) = some r := H
  have A6 := Aside0.mk A60
  clear A60
  replace H := Option.bind_eq_some_iff.mp H
  obtain ⟨⟨t499, t500, t501⟩, A70, H⟩ := H
  replace H : ((spec_WaveOf.f k t487 t488 t489).bind fun bt503 => ((spec_DrawPlateBack.f k l0).bind fun bt507 => ((impl_PlateBack.f k bt507.1 bt507.2.1 bt507.2.2).bind fun bt511 => ((spec_PlateBack.f bt507.1 bt507.2.1 bt507.2.2).bind fun bt515 => ((impl_WaveBack.f k bt507.1 bt507.2.1 bt507.2.2).bind fun bt519 => ((spec_WaveBack.f k bt507.1 bt507.2.1 bt507.2.2).bind fun bt523 => ((spec_DrawFlatBox.f k l0).bind fun bt527 => ((impl_FlatBox.f k bt527.1 bt527.2.1 bt527.2.2).bind fun bt532 => ((spec_FlatBox.f k bt527.1 bt527.2.1 bt527.2.2).bind fun bt539 => ((spec_DrawOnMap.f k l0).bind fun bt546 => ((impl_OnMap.f k bt546.1 bt546.2.1 bt546.2.2.1 bt546.2.2.2).bind fun bt551 => ((spec_OnMap.f k bt546.1 bt546.2.1 bt546.2.2.1 bt546.2.2.2).bind fun bt553 => (if t493 = t497 then (if (!(t491 == t495) || (!(t492 == t496))) = true then (none) else (if t501 = bt503.2.2 then (if (!(t499 == bt503.1) || (!(t500 == bt503.2.1))) = true then (none) else (if bt511.2.2 = bt515.2.2 then (if (!(bt511.1 == bt515.1) || (!(bt511.2.1 == bt515.2.1))) = true then (none) else (if bt519.2.2 = bt523.2.2 then (if (!(bt519.1 == bt523.1) || (!(bt519.2.1 == bt523.2.1))) = true then (none) else (if bt532.2.2.2.2 = bt539.2.2.2.2 then (if (!(bt532.1 == bt539.1) || (!(bt532.2.1 == bt539.2.1))) = true then (none) else (if (!(bt532.2.2.1 == bt539.2.2.1) || (!(bt532.2.2.2.1 == bt539.2.2.2.1))) = true then (none) else (if bt551.2 = bt553.2 then (laws_FnMaps.j0 k t489 t493 bt507.2.2 bt511.2.2 bt532.2.2.2.2 (bt551.1 != bt553.1) t487 t488 t495 t496 bt503.1 bt503.2.1 bt507.1 bt507.2.1 bt511.1 bt511.2.1 bt539.1 bt539.2.1 bt539.2.2.1 bt539.2.2.2.1) else (none)))) else (none))) else (none))) else (none))) else (none))) else (none)))))))))))))) = some r := H
  have A7 := Aside0.mk A70
  clear A70
  replace H := Option.bind_eq_some_iff.mp H
  obtain ⟨⟨t503, t504, t505⟩, A80, H⟩ := H
  replace H : ((spec_DrawPlateBack.f k l0).bind fun bt507 => ((impl_PlateBack.f k bt507.1 bt507.2.1 bt507.2.2).bind fun bt511 => ((spec_PlateBack.f bt507.1 bt507.2.1 bt507.2.2).bind fun bt515 => ((impl_WaveBack.f k bt507.1 bt507.2.1 bt507.2.2).bind fun bt519 => ((spec_WaveBack.f k bt507.1 bt507.2.1 bt507.2.2).bind fun bt523 => ((spec_DrawFlatBox.f k l0).bind fun bt527 => ((impl_FlatBox.f k bt527.1 bt527.2.1 bt527.2.2).bind fun bt532 => ((spec_FlatBox.f k bt527.1 bt527.2.1 bt527.2.2).bind fun bt539 => ((spec_DrawOnMap.f k l0).bind fun bt546 => ((impl_OnMap.f k bt546.1 bt546.2.1 bt546.2.2.1 bt546.2.2.2).bind fun bt551 => ((spec_OnMap.f k bt546.1 bt546.2.1 bt546.2.2.1 bt546.2.2.2).bind fun bt553 => (if t493 = t497 then (if (!(t491 == t495) || (!(t492 == t496))) = true then (none) else (if t501 = t505 then (if (!(t499 == t503) || (!(t500 == t504))) = true then (none) else (if bt511.2.2 = bt515.2.2 then (if (!(bt511.1 == bt515.1) || (!(bt511.2.1 == bt515.2.1))) = true then (none) else (if bt519.2.2 = bt523.2.2 then (if (!(bt519.1 == bt523.1) || (!(bt519.2.1 == bt523.2.1))) = true then (none) else (if bt532.2.2.2.2 = bt539.2.2.2.2 then (if (!(bt532.1 == bt539.1) || (!(bt532.2.1 == bt539.2.1))) = true then (none) else (if (!(bt532.2.2.1 == bt539.2.2.1) || (!(bt532.2.2.2.1 == bt539.2.2.2.1))) = true then (none) else (if bt551.2 = bt553.2 then (laws_FnMaps.j0 k t489 t493 bt507.2.2 bt511.2.2 bt532.2.2.2.2 (bt551.1 != bt553.1) t487 t488 t495 t496 t503 t504 bt507.1 bt507.2.1 bt511.1 bt511.2.1 bt539.1 bt539.2.1 bt539.2.2.1 bt539.2.2.2.1) else (none)))) else (none))) else (none))) else (none))) else (none))) else (none))))))))))))) = some r := H
  have A8 := Aside0.mk A80
  clear A80
  replace H := Option.bind_eq_some_iff.mp H
  obtain ⟨⟨t507, t508, t509⟩, A90, H⟩ := H
  replace H : ((impl_PlateBack.f k t507 t508 t509).bind fun bt511 => ((spec_PlateBack.f t507 t508 t509).bind fun bt515 => ((impl_WaveBack.f k t507 t508 t509).bind fun bt519 => ((spec_WaveBack.f k t507 t508 t509).bind fun bt523 => ((spec_DrawFlatBox.f k l0).bind fun bt527 => ((impl_FlatBox.f k bt527.1 bt527.2.1 bt527.2.2).bind fun bt532 => ((spec_FlatBox.f k bt527.1 bt527.2.1 bt527.2.2).bind fun bt539 => ((spec_DrawOnMap.f k l0).bind fun bt546 => ((impl_OnMap.f k bt546.1 bt546.2.1 bt546.2.2.1 bt546.2.2.2).bind fun bt551 => ((spec_OnMap.f k bt546.1 bt546.2.1 bt546.2.2.1 bt546.2.2.2).bind fun bt553 => (if t493 = t497 then (if (!(t491 == t495) || (!(t492 == t496))) = true then (none) else (if t501 = t505 then (if (!(t499 == t503) || (!(t500 == t504))) = true then (none) else (if bt511.2.2 = bt515.2.2 then (if (!(bt511.1 == bt515.1) || (!(bt511.2.1 == bt515.2.1))) = true then (none) else (if bt519.2.2 = bt523.2.2 then (if (!(bt519.1 == bt523.1) || (!(bt519.2.1 == bt523.2.1))) = true then (none) else (if bt532.2.2.2.2 = bt539.2.2.2.2 then (if (!(bt532.1 == bt539.1) || (!(bt532.2.1 == bt539.2.1))) = true then (none) else (if (!(bt532.2.2.1 == bt539.2.2.1) || (!(bt532.2.2.2.1 == bt539.2.2.2.1))) = true then (none) else (if bt551.2 = bt553.2 then (laws_FnMaps.j0 k t489 t493 t509 bt511.2.2 bt532.2.2.2.2 (bt551.1 != bt553.1) t487 t488 t495 t496 t503 t504 t507 t508 bt511.1 bt511.2.1 bt539.1 bt539.2.1 bt539.2.2.1 bt539.2.2.2.1) else (none)))) else (none))) else (none))) else (none))) else (none))) else (none)))))))))))) = some r := H
  have A9 := Aside0.mk A90
  clear A90
  replace H := Option.bind_eq_some_iff.mp H
  obtain ⟨⟨t511, t512, t513⟩, A100, H⟩ := H
  replace H : ((spec_PlateBack.f t507 t508 t509).bind fun bt515 => ((impl_WaveBack.f k t507 t508 t509).bind fun bt519 => ((spec_WaveBack.f k t507 t508 t509).bind fun bt523 => ((spec_DrawFlatBox.f k l0).bind fun bt527 => ((impl_FlatBox.f k bt527.1 bt527.2.1 bt527.2.2).bind fun bt532 => ((spec_FlatBox.f k bt527.1 bt527.2.1 bt527.2.2).bind fun bt539 => ((spec_DrawOnMap.f k l0).bind fun bt546 => ((impl_OnMap.f k bt546.1 bt546.2.1 bt546.2.2.1 bt546.2.2.2).bind fun bt551 => ((spec_OnMap.f k bt546.1 bt546.2.1 bt546.2.2.1 bt546.2.2.2).bind fun bt553 => (if t493 = t497 then (if (!(t491 == t495) || (!(t492 == t496))) = true then (none) else (if t501 = t505 then (if (!(t499 == t503) || (!(t500 == t504))) = true then (none) else (if t513 = bt515.2.2 then (if (!(t511 == bt515.1) || (!(t512 == bt515.2.1))) = true then (none) else (if bt519.2.2 = bt523.2.2 then (if (!(bt519.1 == bt523.1) || (!(bt519.2.1 == bt523.2.1))) = true then (none) else (if bt532.2.2.2.2 = bt539.2.2.2.2 then (if (!(bt532.1 == bt539.1) || (!(bt532.2.1 == bt539.2.1))) = true then (none) else (if (!(bt532.2.2.1 == bt539.2.2.1) || (!(bt532.2.2.2.1 == bt539.2.2.2.1))) = true then (none) else (if bt551.2 = bt553.2 then (laws_FnMaps.j0 k t489 t493 t509 t513 bt532.2.2.2.2 (bt551.1 != bt553.1) t487 t488 t495 t496 t503 t504 t507 t508 t511 t512 bt539.1 bt539.2.1 bt539.2.2.1 bt539.2.2.2.1) else (none)))) else (none))) else (none))) else (none))) else (none))) else (none))))))))))) = some r := H
  have A10 := Aside0.mk A100
  clear A100
  replace H := Option.bind_eq_some_iff.mp H
  obtain ⟨⟨t515, t516, t517⟩, A110, H⟩ := H
  replace H : ((impl_WaveBack.f k t507 t508 t509).bind fun bt519 => ((spec_WaveBack.f k t507 t508 t509).bind fun bt523 => ((spec_DrawFlatBox.f k l0).bind fun bt527 => ((impl_FlatBox.f k bt527.1 bt527.2.1 bt527.2.2).bind fun bt532 => ((spec_FlatBox.f k bt527.1 bt527.2.1 bt527.2.2).bind fun bt539 => ((spec_DrawOnMap.f k l0).bind fun bt546 => ((impl_OnMap.f k bt546.1 bt546.2.1 bt546.2.2.1 bt546.2.2.2).bind fun bt551 => ((spec_OnMap.f k bt546.1 bt546.2.1 bt546.2.2.1 bt546.2.2.2).bind fun bt553 => (if t493 = t497 then (if (!(t491 == t495) || (!(t492 == t496))) = true then (none) else (if t501 = t505 then (if (!(t499 == t503) || (!(t500 == t504))) = true then (none) else (if t513 = t517 then (if (!(t511 == t515) || (!(t512 == t516))) = true then (none) else (if bt519.2.2 = bt523.2.2 then (if (!(bt519.1 == bt523.1) || (!(bt519.2.1 == bt523.2.1))) = true then (none) else (if bt532.2.2.2.2 = bt539.2.2.2.2 then (if (!(bt532.1 == bt539.1) || (!(bt532.2.1 == bt539.2.1))) = true then (none) else (if (!(bt532.2.2.1 == bt539.2.2.1) || (!(bt532.2.2.2.1 == bt539.2.2.2.1))) = true then (none) else (if bt551.2 = bt553.2 then (laws_FnMaps.j0 k t489 t493 t509 t513 bt532.2.2.2.2 (bt551.1 != bt553.1) t487 t488 t495 t496 t503 t504 t507 t508 t511 t512 bt539.1 bt539.2.1 bt539.2.2.1 bt539.2.2.2.1) else (none)))) else (none))) else (none))) else (none))) else (none))) else (none)))))))))) = some r := H
  have A11 := Aside0.mk A110
  clear A110
  replace H := Option.bind_eq_some_iff.mp H
  obtain ⟨⟨t519, t520, t521⟩, A120, H⟩ := H
  replace H : ((spec_WaveBack.f k t507 t508 t509).bind fun bt523 => ((spec_DrawFlatBox.f k l0).bind fun bt527 => ((impl_FlatBox.f k bt527.1 bt527.2.1 bt527.2.2).bind fun bt532 => ((spec_FlatBox.f k bt527.1 bt527.2.1 bt527.2.2).bind fun bt539 => ((spec_DrawOnMap.f k l0).bind fun bt546 => ((impl_OnMap.f k bt546.1 bt546.2.1 bt546.2.2.1 bt546.2.2.2).bind fun bt551 => ((spec_OnMap.f k bt546.1 bt546.2.1 bt546.2.2.1 bt546.2.2.2).bind fun bt553 => (if t493 = t497 then (if (!(t491 == t495) || (!(t492 == t496))) = true then (none) else (if t501 = t505 then (if (!(t499 == t503) || (!(t500 == t504))) = true then (none) else (if t513 = t517 then (if (!(t511 == t515) || (!(t512 == t516))) = true then (none) else (if t521 = bt523.2.2 then (if (!(t519 == bt523.1) || (!(t520 == bt523.2.1))) = true then (none) else (if bt532.2.2.2.2 = bt539.2.2.2.2 then (if (!(bt532.1 == bt539.1) || (!(bt532.2.1 == bt539.2.1))) = true then (none) else (if (!(bt532.2.2.1 == bt539.2.2.1) || (!(bt532.2.2.2.1 == bt539.2.2.2.1))) = true then (none) else (if bt551.2 = bt553.2 then (laws_FnMaps.j0 k t489 t493 t509 t513 bt532.2.2.2.2 (bt551.1 != bt553.1) t487 t488 t495 t496 t503 t504 t507 t508 t511 t512 bt539.1 bt539.2.1 bt539.2.2.1 bt539.2.2.2.1) else (none)))) else (none))) else (none))) else (none))) else (none))) else (none))))))))) = some r := H
  have A12 := Aside0.mk A120
  clear A120
  replace H := Option.bind_eq_some_iff.mp H
  obtain ⟨⟨t523, t524, t525⟩, A130, H⟩ := H
  replace H : ((spec_DrawFlatBox.f k l0).bind fun bt527 => ((impl_FlatBox.f k bt527.1 bt527.2.1 bt527.2.2).bind fun bt532 => ((spec_FlatBox.f k bt527.1 bt527.2.1 bt527.2.2).bind fun bt539 => ((spec_DrawOnMap.f k l0).bind fun bt546 => ((impl_OnMap.f k bt546.1 bt546.2.1 bt546.2.2.1 bt546.2.2.2).bind fun bt551 => ((spec_OnMap.f k bt546.1 bt546.2.1 bt546.2.2.1 bt546.2.2.2).bind fun bt553 => (if t493 = t497 then (if (!(t491 == t495) || (!(t492 == t496))) = true then (none) else (if t501 = t505 then (if (!(t499 == t503) || (!(t500 == t504))) = true then (none) else (if t513 = t517 then (if (!(t511 == t515) || (!(t512 == t516))) = true then (none) else (if t521 = t525 then (if (!(t519 == t523) || (!(t520 == t524))) = true then (none) else (if bt532.2.2.2.2 = bt539.2.2.2.2 then (if (!(bt532.1 == bt539.1) || (!(bt532.2.1 == bt539.2.1))) = true then (none) else (if (!(bt532.2.2.1 == bt539.2.2.1) || (!(bt532.2.2.2.1 == bt539.2.2.2.1))) = true then (none) else (if bt551.2 = bt553.2 then (laws_FnMaps.j0 k t489 t493 t509 t513 bt532.2.2.2.2 (bt551.1 != bt553.1) t487 t488 t495 t496 t503 t504 t507 t508 t511 t512 bt539.1 bt539.2.1 bt539.2.2.1 bt539.2.2.2.1) else (none)))) else (none))) else (none))) else (none))) else (none))) else (none)))))))) = some r := H
  have A13 := Aside0.mk A130
  clear A130
  replace H := Option.bind_eq_some_iff.mp H
  obtain ⟨⟨t527, t528, t529⟩, A140, H⟩ := H
  replace H : ((impl_FlatBox.f k t527 t528 t529).bind fun bt532 => ((spec_FlatBox.f k t527 t528 t529).bind fun bt539 => ((spec_DrawOnMap.f k l0).bind fun bt546 => ((impl_OnMap.f k bt546.1 bt546.2.1 bt546.2.2.1 bt546.2.2.2).bind fun bt551 => ((spec_OnMap.f k bt546.1 bt546.2.1 bt546.2.2.1 bt546.2.2.2).bind fun bt553 => (if t493 = t497 then (if (!(t491 == t495) || (!(t492 == t496))) = true then (none) else (if t501 = t505 then (if (!(t499 == t503) || (!(t500 == t504))) = true then (none) else (if t513 = t517 then (if (!(t511 == t515) || (!(t512 == t516))) = true then (none) else (if t521 = t525 then (if (!(t519 == t523) || (!(t520 == t524))) = true then (none) else (if bt532.2.2.2.2 = bt539.2.2.2.2 then (if (!(bt532.1 == bt539.1) || (!(bt532.2.1 == bt539.2.1))) = true then (none) else (if (!(bt532.2.2.1 == bt539.2.2.1) || (!(bt532.2.2.2.1 == bt539.2.2.2.1))) = true then (none) else (if bt551.2 = bt553.2 then (laws_FnMaps.j0 k t489 t493 t509 t513 bt532.2.2.2.2 (bt551.1 != bt553.1) t487 t488 t495 t496 t503 t504 t507 t508 t511 t512 bt539.1 bt539.2.1 bt539.2.2.1 bt539.2.2.2.1) else (none)))) else (none))) else (none))) else (none))) else (none))) else (none))))))) = some r := H
  have A14 := Aside0.mk A140
  clear A140
  replace H := Option.bind_eq_some_iff.mp H
  obtain ⟨⟨t532, t533, t534, t535, t536⟩, A150, H⟩ := H
  replace H : ((spec_FlatBox.f k t527 t528 t529).bind fun bt539 => ((spec_DrawOnMap.f k l0).bind fun bt546 => ((impl_OnMap.f k bt546.1 bt546.2.1 bt546.2.2.1 bt546.2.2.2).bind fun bt551 => ((spec_OnMap.f k bt546.1 bt546.2.1 bt546.2.2.1 bt546.2.2.2).bind fun bt553 => (if t493 = t497 then (if (!(t491 == t495) || (!(t492 == t496))) = true then (none) else (if t501 = t505 then (if (!(t499 == t503) || (!(t500 == t504))) = true then (none) else (if t513 = t517 then (if (!(t511 == t515) || (!(t512 == t516))) = true then (none) else (if t521 = t525 then (if (!(t519 == t523) || (!(t520 == t524))) = true then (none) else (if t536 = bt539.2.2.2.2 then (if (!(t532 == bt539.1) || (!(t533 == bt539.2.1))) = true then (none) else (if (!(t534 == bt539.2.2.1) || (!(t535 == bt539.2.2.2.1))) = true then (none) else (if bt551.2 = bt553.2 then (laws_FnMaps.j0 k t489 t493 t509 t513 t536 (bt551.1 != bt553.1) t487 t488 t495 t496 t503 t504 t507 t508 t511 t512 bt539.1 bt539.2.1 bt539.2.2.1 bt539.2.2.2.1) else (none)))) else (none))) else (none))) else (none))) else (none))) else (none)))))) = some r := H
  have A15 := Aside0.mk A150
  clear A150
  replace H := Option.bind_eq_some_iff.mp H
  obtain ⟨⟨t539, t540, t541, t542, t543⟩, A160, H⟩ := H
  replace H : ((spec_DrawOnMap.f k l0).bind fun bt546 => ((impl_OnMap.f k bt546.1 bt546.2.1 bt546.2.2.1 bt546.2.2.2).bind fun bt551 => ((spec_OnMap.f k bt546.1 bt546.2.1 bt546.2.2.1 bt546.2.2.2).bind fun bt553 => (if t493 = t497 then (if (!(t491 == t495) || (!(t492 == t496))) = true then (none) else (if t501 = t505 then (if (!(t499 == t503) || (!(t500 == t504))) = true then (none) else (if t513 = t517 then (if (!(t511 == t515) || (!(t512 == t516))) = true then (none) else (if t521 = t525 then (if (!(t519 == t523) || (!(t520 == t524))) = true then (none) else (if t536 = t543 then (if (!(t532 == t539) || (!(t533 == t540))) = true then (none) else (if (!(t534 == t541) || (!(t535 == t542))) = true then (none) else (if bt551.2 = bt553.2 then (laws_FnMaps.j0 k t489 t493 t509 t513 t536 (bt551.1 != bt553.1) t487 t488 t495 t496 t503 t504 t507 t508 t511 t512 t539 t540 t541 t542) else (none)))) else (none))) else (none))) else (none))) else (none))) else (none))))) = some r := H
  have A16 := Aside0.mk A160
  clear A160
  replace H := Option.bind_eq_some_iff.mp H
  obtain ⟨⟨t546, t547, t548, t549⟩, A170, H⟩ := H
  replace H : ((impl_OnMap.f k t546 t547 t548 t549).bind fun bt551 => ((spec_OnMap.f k t546 t547 t548 t549).bind fun bt553 => (if t493 = t497 then (if (!(t491 == t495) || (!(t492 == t496))) = true then (none) else (if t501 = t505 then (if (!(t499 == t503) || (!(t500 == t504))) = true then (none) else (if t513 = t517 then (if (!(t511 == t515) || (!(t512 == t516))) = true then (none) else (if t521 = t525 then (if (!(t519 == t523) || (!(t520 == t524))) = true then (none) else (if t536 = t543 then (if (!(t532 == t539) || (!(t533 == t540))) = true then (none) else (if (!(t534 == t541) || (!(t535 == t542))) = true then (none) else (if bt551.2 = bt553.2 then (laws_FnMaps.j0 k t489 t493 t509 t513 t536 (bt551.1 != bt553.1) t487 t488 t495 t496 t503 t504 t507 t508 t511 t512 t539 t540 t541 t542) else (none)))) else (none))) else (none))) else (none))) else (none))) else (none)))) = some r := H
  have A17 := Aside0.mk A170
  clear A170
  replace H := Option.bind_eq_some_iff.mp H
  obtain ⟨⟨t551, t552⟩, A180, H⟩ := H
  replace H : ((spec_OnMap.f k t546 t547 t548 t549).bind fun bt553 => (if t493 = t497 then (if (!(t491 == t495) || (!(t492 == t496))) = true then (none) else (if t501 = t505 then (if (!(t499 == t503) || (!(t500 == t504))) = true then (none) else (if t513 = t517 then (if (!(t511 == t515) || (!(t512 == t516))) = true then (none) else (if t521 = t525 then (if (!(t519 == t523) || (!(t520 == t524))) = true then (none) else (if t536 = t543 then (if (!(t532 == t539) || (!(t533 == t540))) = true then (none) else (if (!(t534 == t541) || (!(t535 == t542))) = true then (none) else (if t552 = bt553.2 then (laws_FnMaps.j0 k t489 t493 t509 t513 t536 (t551 != bt553.1) t487 t488 t495 t496 t503 t504 t507 t508 t511 t512 t539 t540 t541 t542) else (none)))) else (none))) else (none))) else (none))) else (none))) else (none))) = some r := H
  have A18 := Aside0.mk A180
  clear A180
  replace H := Option.bind_eq_some_iff.mp H
  obtain ⟨⟨t553, t554⟩, A190, H⟩ := H
  replace H : (if t493 = t497 then (if (!(t491 == t495) || (!(t492 == t496))) = true then (none) else (if t501 = t505 then (if (!(t499 == t503) || (!(t500 == t504))) = true then (none) else (if t513 = t517 then (if (!(t511 == t515) || (!(t512 == t516))) = true then (none) else (if t521 = t525 then (if (!(t519 == t523) || (!(t520 == t524))) = true then (none) else (if t536 = t543 then (if (!(t532 == t539) || (!(t533 == t540))) = true then (none) else (if (!(t534 == t541) || (!(t535 == t542))) = true then (none) else (if t552 = t554 then (laws_FnMaps.j0 k t489 t493 t509 t513 t536 (t551 != t553) t487 t488 t495 t496 t503 t504 t507 t508 t511 t512 t539 t540 t541 t542) else (none)))) else (none))) else (none))) else (none))) else (none))) else (none)) = some r := H
  have A19 := Aside0.mk A190
  clear A190
  have HC20 := Aside0.mk H
  clear H
  go_enter Try.func3, Try.ntmps3
  go_upto_region 19 with (first | ((with_reducible refine gate_callee (f := 4) rfl ?_); refine goesL_ (some 42) rfl rfl Try.func4 (by kernel_rfl) rfl #[.slice A0 l0.length c0] rfl gl_ ?_; (with_reducible refine (laws_f6big.calls _ _ l0 false _ ?side1 ?side2 A2.out).mono ?_); (case side1 => repeat (first | exact HR0.out | (with_reducible refine Kd.C_alloc ?_ _) | (with_reducible refine Kd.C_drewN ?_ _) | (with_reducible refine Kd.C_drew ?_))); (case side2 => exact HC0.out); rintro e w' ⟨rfl, ⟨nd, rfl⟩⟩; refine ⟨_, rfl, ?_⟩) | ((with_reducible refine gate_callee (f := 5) rfl ?_); refine goesL_ (some 45) rfl rfl Try.func5 (by kernel_rfl) rfl #[.slice A0 l0.length c0] rfl gl_ ?_; (with_reducible refine (spec_DrawPlateOf.calls k _ _ l0 t487 t488 t489 _ ?side1 ?side2 A4.out).mono ?_); (case side1 => repeat (first | exact HR0.out | (with_reducible refine Kd.C_alloc ?_ _) | (with_reducible refine Kd.C_drewN ?_ _) | (with_reducible refine Kd.C_drew ?_))); (case side2 => exact HC0.out); rintro e w21 ⟨rfl, hb⟩; refine ⟨_, rfl, ?_⟩; have n0_ := Aside0.mk (below_step (bw_ HB.out) hb); clear HB; have HB := n0_; clear n0_; (try clear hb); (try clear hb2); (try clear hk); (try clear hi)) | ((with_reducible refine gate_dst (N := 3) rfl ?_); refine box_event ?hg (N := 3) ?hd (cs := #[.int .i64 0, .int .i64 0]) (t := 25) ?hr ?_; (case hd => rfl); (case hg => rfl); (case hr => first | (go_simp; done) | (go_simp; rfl)); intro gb490 hg w22 hbox hb; have n0_ := Aside0.mk (below_step (bw_ HB.out) hb); have n1_ := Aside0.mk (hbox); have n2_ := Aside0.mk ((ge_ hg (bw_ HB.out))); have n3_ := Aside0.mk ((ge_ hg (bw_ HB.out))); clear HB; have HB := n0_; have BK490 := n1_; have GW490 := n2_; have GE490 := n3_; clear n0_ n1_ n2_ n3_; clear hb hbox hg; have hcz23_0 : w22.cell? ⟨gb490, 0, none⟩ = some (.int .i64 0) := (blk_cell BK490.out 0).trans rfl; have hcz23_1 : w22.cell? ⟨gb490, 1, none⟩ = some (.int .i64 0) := (blk_cell BK490.out 1).trans rfl; have hfz23_0 := blk_frozen BK490.out 0; have hfz23_1 := blk_frozen BK490.out 1) | ((with_reducible refine gate_callee (f := 6) rfl ?_); refine goesL_ (some 51) rfl rfl Try.func6 (by kernel_rfl) rfl #[.agg #[.int .i64 t487, .int .i64 t488], .int .i64 t489] rfl gl_ ?_; (with_reducible refine (impl_PlateOf.calls k t487 t488 t489 t491 t492 t493 _ A5.out).mono ?_); rintro e w24 ⟨rfl, hb⟩; refine ⟨_, rfl, ?_⟩; have n0_ := Aside0.mk (blk_below (g := gb490) (o := .cells #[.int .i64 t487, .int .i64 t488] 25 (0, 0)) (by (with_reducible repeat (first | refine blk_drewN ?_ _ | refine blk_drew ?_ | refine blk_alloc ?_ _)); refine blk_put (cs := #[.int .i64 t487, .int .i64 0]) ?_ 1 _ rfl; (with_reducible repeat (first | refine blk_drewN ?_ _ | refine blk_drew ?_ | refine blk_alloc ?_ _)); refine blk_put (cs := #[.int .i64 0, .int .i64 0]) ?_ 0 _ rfl; (with_reducible repeat (first | refine blk_drewN ?_ _ | refine blk_drew ?_ | refine blk_alloc ?_ _)); exact BK490.out) hb); have n1_ := Aside0.mk (below_step (bwg_ GE490.out HB.out) hb); clear BK490; clear HB; have BK490 := n0_; have HB := n1_; clear n0_ n1_; (try clear hb); (try clear hb2); (try clear hk); (try clear hi)) | ((with_reducible refine gate_dst (N := 5) rfl ?_); refine box_event ?hg (N := 5) ?hd (cs := #[.int .i64 0, .int .i64 0]) (t := 29) ?hr ?_; (case hd => rfl); (case hg => rfl); (case hr => first | (go_simp; done) | (go_simp; rfl)); intro gb494 hg w25 hbox hb; have n0_ := Aside0.mk (blk_below (bk_ BK490.out) hb); have n1_ := Aside0.mk (below_step (bwg_ GE490.out HB.out) hb); have n2_ := Aside0.mk (hbox); have n3_ := Aside0.mk ((by rw [hg]; exact (below_size (bwg_ GE490.out HB.out)) : w.heap.size ≤ gb494)); have n4_ := Aside0.mk ((by rw [hg]; exact (below_size (bwg_ GE490.out HB.out)) : w.heap.size ≤ gb494)); have n5_ := Aside0.mk ((ne1_ hg (bk_ BK490.out))); have n6_ := Aside0.mk ((ne2_ hg (bk_ BK490.out))); clear BK490; clear HB; have BK490 := n0_; have HB := n1_; have BK494 := n2_; have GW494 := n3_; have GE494 := n4_; have NB490_494 := n5_; have NB494_490 := n6_; clear n0_ n1_ n2_ n3_ n4_ n5_ n6_; clear hb hbox hg; have hnb26 := NB494_490.out; have hnc26 := NB490_494.out; have hcz27_0 : w25.cell? ⟨gb494, 0, none⟩ = some (.int .i64 0) := (blk_cell BK494.out 0).trans rfl; have hcz27_1 : w25.cell? ⟨gb494, 1, none⟩ = some (.int .i64 0) := (blk_cell BK494.out 1).trans rfl; have hfz27_0 := blk_frozen BK494.out 0; have hfz27_1 := blk_frozen BK494.out 1; have hcz28_0 : w25.cell? ⟨gb490, 0, none⟩ = some (.int .i64 t487) := (blk_cell BK490.out 0).trans rfl; have hcz28_1 : w25.cell? ⟨gb490, 1, none⟩ = some (.int .i64 t488) := (blk_cell BK490.out 1).trans rfl; have hfz28_0 := blk_frozen BK490.out 0; have hfz28_1 := blk_frozen BK490.out 1) | ((with_reducible refine gate_callee (f := 7) rfl ?_); refine goesL_ (some 57) rfl rfl Try.func7 (by kernel_rfl) rfl #[.agg #[.int .i64 t487, .int .i64 t488], .int .i64 t489] rfl gl_ ?_; (with_reducible refine (spec_PlateOf.calls t487 t488 t489 t495 t496 t497 _ A6.out).mono ?_); rintro e w29 ⟨rfl, hb⟩; refine ⟨_, rfl, ?_⟩; have n0_ := Aside0.mk (blk_below (bf_ NB490_494.out BK490.out) hb); have n1_ := Aside0.mk (blk_below (g := gb494) (o := .cells #[.int .i64 t491, .int .i64 t492] 29 (0, 0)) (by (with_reducible repeat (first | refine blk_drewN ?_ _ | refine blk_drew ?_ | refine blk_alloc ?_ _)); refine blk_put (cs := #[.int .i64 t491, .int .i64 0]) ?_ 1 _ rfl; (with_reducible repeat (first | refine blk_drewN ?_ _ | refine blk_drew ?_ | refine blk_alloc ?_ _)); refine blk_put (cs := #[.int .i64 0, .int .i64 0]) ?_ 0 _ rfl; (with_reducible repeat (first | refine blk_drewN ?_ _ | refine blk_drew ?_ | refine blk_alloc ?_ _)); exact BK494.out) hb); have n2_ := Aside0.mk (below_step (bws_ HB.out) hb); clear BK490; clear BK494; clear HB; have BK490 := n0_; have BK494 := n1_; have HB := n2_; clear n0_ n1_ n2_; (try clear hb); (try clear hb2); (try clear hk); (try clear hi)) | ((with_reducible refine gate_dst (N := 7) rfl ?_); refine box_event ?hg (N := 7) ?hd (cs := #[.int .i64 0, .int .i64 0]) (t := 29) ?hr ?_; (case hd => rfl); (case hg => rfl); (case hr => first | (go_simp; done) | (go_simp; rfl)); intro gb498 hg w30 hbox hb; have n0_ := Aside0.mk (blk_below (bk_ BK490.out) hb); have n1_ := Aside0.mk (blk_below (bk_ BK494.out) hb); have n2_ := Aside0.mk (below_step (bws_ HB.out) hb); have n3_ := Aside0.mk (hbox); have n4_ := Aside0.mk ((ge_ hg (bws_ HB.out))); have n5_ := Aside0.mk ((ge_ hg (bws_ HB.out))); have n6_ := Aside0.mk ((ne1_ hg (bk_ BK490.out))); have n7_ := Aside0.mk ((ne2_ hg (bk_ BK490.out))); have n8_ := Aside0.mk ((ne1_ hg (bk_ BK494.out))); have n9_ := Aside0.mk ((ne2_ hg (bk_ BK494.out))); clear BK490; clear BK494; clear HB; have BK490 := n0_; have BK494 := n1_; have HB := n2_; have BK498 := n3_; have GW498 := n4_; have GE498 := n5_; have NB490_498 := n6_; have NB498_490 := n7_; have NB494_498 := n8_; have NB498_494 := n9_; clear n0_ n1_ n2_ n3_ n4_ n5_ n6_ n7_ n8_ n9_; clear hb hbox hg; have hnb31 := NB498_490.out; have hnc31 := NB490_498.out; have hnb32 := NB498_494.out; have hnc32 := NB494_498.out; have hcz33_0 : w30.cell? ⟨gb498, 0, none⟩ = some (.int .i64 0) := (blk_cell BK498.out 0).trans rfl; have hcz33_1 : w30.cell? ⟨gb498, 1, none⟩ = some (.int .i64 0) := (blk_cell BK498.out 1).trans rfl; have hfz33_0 := blk_frozen BK498.out 0; have hfz33_1 := blk_frozen BK498.out 1; have hcz34_0 : w30.cell? ⟨gb490, 0, none⟩ = some (.int .i64 t487) := (blk_cell BK490.out 0).trans rfl; have hcz34_1 : w30.cell? ⟨gb490, 1, none⟩ = some (.int .i64 t488) := (blk_cell BK490.out 1).trans rfl; have hfz34_0 := blk_frozen BK490.out 0; have hfz34_1 := blk_frozen BK490.out 1) | ((with_reducible refine gate_callee (f := 8) rfl ?_); refine goesL_ (some 63) rfl rfl Try.func8 (by kernel_rfl) rfl #[.agg #[.int .i64 t487, .int .i64 t488], .int .i64 t489] rfl gl_ ?_; (with_reducible refine (impl_WaveOf.calls k t487 t488 t489 t499 t500 t501 _ A7.out).mono ?_); rintro e w35 ⟨rfl, hb⟩; refine ⟨_, rfl, ?_⟩; have n0_ := Aside0.mk (blk_below (bf_ NB490_498.out BK490.out) hb); have n1_ := Aside0.mk (blk_below (bf_ NB494_498.out BK494.out) hb); have n2_ := Aside0.mk (blk_below (g := gb498) (o := .cells #[.int .i64 t495, .int .i64 t496] 29 (0, 0)) (by (with_reducible repeat (first | refine blk_drewN ?_ _ | refine blk_drew ?_ | refine blk_alloc ?_ _)); refine blk_put (cs := #[.int .i64 t495, .int .i64 0]) ?_ 1 _ rfl; (with_reducible repeat (first | refine blk_drewN ?_ _ | refine blk_drew ?_ | refine blk_alloc ?_ _)); refine blk_put (cs := #[.int .i64 0, .int .i64 0]) ?_ 0 _ rfl; (with_reducible repeat (first | refine blk_drewN ?_ _ | refine blk_drew ?_ | refine blk_alloc ?_ _)); exact BK498.out) hb); have n3_ := Aside0.mk (below_step (bws_ HB.out) hb); clear BK490; clear BK494; clear BK498; clear HB; have BK490 := n0_; have BK494 := n1_; have BK498 := n2_; have HB := n3_; clear n0_ n1_ n2_ n3_; (try clear hb); (try clear hb2); (try clear hk); (try clear hi)) | ((with_reducible refine gate_dst (N := 9) rfl ?_); refine box_event ?hg (N := 9) ?hd (cs := #[.int .i64 0, .int .i64 0]) (t := 29) ?hr ?_; (case hd => rfl); (case hg => rfl); (case hr => first | (go_simp; done) | (go_simp; rfl)); intro gb502 hg w36 hbox hb; have n0_ := Aside0.mk (blk_below (bk_ BK490.out) hb); have n1_ := Aside0.mk (blk_below (bk_ BK494.out) hb); have n2_ := Aside0.mk (blk_below (bk_ BK498.out) hb); have n3_ := Aside0.mk (below_step (bws_ HB.out) hb); have n4_ := Aside0.mk (hbox); have n5_ := Aside0.mk ((ge_ hg (bws_ HB.out))); have n6_ := Aside0.mk ((ge_ hg (bws_ HB.out))); have n7_ := Aside0.mk ((ne1_ hg (bk_ BK490.out))); have n8_ := Aside0.mk ((ne2_ hg (bk_ BK490.out))); have n9_ := Aside0.mk ((ne1_ hg (bk_ BK494.out))); have n10_ := Aside0.mk ((ne2_ hg (bk_ BK494.out))); have n11_ := Aside0.mk ((ne1_ hg (bk_ BK498.out))); have n12_ := Aside0.mk ((ne2_ hg (bk_ BK498.out))); clear BK490; clear BK494; clear BK498; clear HB; have BK490 := n0_; have BK494 := n1_; have BK498 := n2_; have HB := n3_; have BK502 := n4_; have GW502 := n5_; have GE502 := n6_; have NB490_502 := n7_; have NB502_490 := n8_; have NB494_502 := n9_; have NB502_494 := n10_; have NB498_502 := n11_; have NB502_498 := n12_; clear n0_ n1_ n2_ n3_ n4_ n5_ n6_ n7_ n8_ n9_ n10_ n11_ n12_; clear hb hbox hg; have hnb37 := NB502_490.out; have hnc37 := NB490_502.out; have hnb38 := NB502_494.out; have hnc38 := NB494_502.out; have hnb39 := NB502_498.out; have hnc39 := NB498_502.out; have hcz40_0 : w36.cell? ⟨gb502, 0, none⟩ = some (.int .i64 0) := (blk_cell BK502.out 0).trans rfl; have hcz40_1 : w36.cell? ⟨gb502, 1, none⟩ = some (.int .i64 0) := (blk_cell BK502.out 1).trans rfl; have hfz40_0 := blk_frozen BK502.out 0; have hfz40_1 := blk_frozen BK502.out 1; have hcz41_0 : w36.cell? ⟨gb490, 0, none⟩ = some (.int .i64 t487) := (blk_cell BK490.out 0).trans rfl; have hcz41_1 : w36.cell? ⟨gb490, 1, none⟩ = some (.int .i64 t488) := (blk_cell BK490.out 1).trans rfl; have hfz41_0 := blk_frozen BK490.out 0; have hfz41_1 := blk_frozen BK490.out 1) | ((with_reducible refine gate_callee (f := 9) rfl ?_); refine goesL_ (some 69) rfl rfl Try.func9 (by kernel_rfl) rfl #[.agg #[.int .i64 t487, .int .i64 t488], .int .i64 t489] rfl gl_ ?_; (with_reducible refine (spec_WaveOf.calls k t487 t488 t489 t503 t504 t505 _ A8.out).mono ?_); rintro e w42 ⟨rfl, hb⟩; refine ⟨_, rfl, ?_⟩; have n0_ := Aside0.mk (blk_below (bf_ NB490_502.out BK490.out) hb); have n1_ := Aside0.mk (blk_below (bf_ NB494_502.out BK494.out) hb); have n2_ := Aside0.mk (blk_below (bf_ NB498_502.out BK498.out) hb); have n3_ := Aside0.mk (blk_below (g := gb502) (o := .cells #[.int .i64 t499, .int .i64 t500] 29 (0, 0)) (by (with_reducible repeat (first | refine blk_drewN ?_ _ | refine blk_drew ?_ | refine blk_alloc ?_ _)); refine blk_put (cs := #[.int .i64 t499, .int .i64 0]) ?_ 1 _ rfl; (with_reducible repeat (first | refine blk_drewN ?_ _ | refine blk_drew ?_ | refine blk_alloc ?_ _)); refine blk_put (cs := #[.int .i64 0, .int .i64 0]) ?_ 0 _ rfl; (with_reducible repeat (first | refine blk_drewN ?_ _ | refine blk_drew ?_ | refine blk_alloc ?_ _)); exact BK502.out) hb); have n4_ := Aside0.mk (below_step (bws_ HB.out) hb); clear BK490; clear BK494; clear BK498; clear BK502; clear HB; have BK490 := n0_; have BK494 := n1_; have BK498 := n2_; have BK502 := n3_; have HB := n4_; clear n0_ n1_ n2_ n3_ n4_; (try clear hb); (try clear hb2); (try clear hk); (try clear hi)) | ((with_reducible refine gate_dst (N := 11) rfl ?_); refine box_event ?hg (N := 11) ?hd (cs := #[.int .i64 0, .int .i64 0]) (t := 29) ?hr ?_; (case hd => rfl); (case hg => rfl); (case hr => first | (go_simp; done) | (go_simp; rfl)); intro gb506 hg w43 hbox hb; have n0_ := Aside0.mk (blk_below (bk_ BK490.out) hb); have n1_ := Aside0.mk (blk_below (bk_ BK494.out) hb); have n2_ := Aside0.mk (blk_below (bk_ BK498.out) hb); have n3_ := Aside0.mk (blk_below (bk_ BK502.out) hb); have n4_ := Aside0.mk (below_step (bws_ HB.out) hb); have n5_ := Aside0.mk (hbox); have n6_ := Aside0.mk ((ge_ hg (bws_ HB.out))); have n7_ := Aside0.mk ((ge_ hg (bws_ HB.out))); have n8_ := Aside0.mk ((ne1_ hg (bk_ BK490.out))); have n9_ := Aside0.mk ((ne2_ hg (bk_ BK490.out))); have n10_ := Aside0.mk ((ne1_ hg (bk_ BK494.out))); have n11_ := Aside0.mk ((ne2_ hg (bk_ BK494.out))); have n12_ := Aside0.mk ((ne1_ hg (bk_ BK498.out))); have n13_ := Aside0.mk ((ne2_ hg (bk_ BK498.out))); have n14_ := Aside0.mk ((ne1_ hg (bk_ BK502.out))); have n15_ := Aside0.mk ((ne2_ hg (bk_ BK502.out))); clear BK490; clear BK494; clear BK498; clear BK502; clear HB; have BK490 := n0_; have BK494 := n1_; have BK498 := n2_; have BK502 := n3_; have HB := n4_; have BK506 := n5_; have GW506 := n6_; have GE506 := n7_; have NB490_506 := n8_; have NB506_490 := n9_; have NB494_506 := n10_; have NB506_494 := n11_; have NB498_506 := n12_; have NB506_498 := n13_; have NB502_506 := n14_; have NB506_502 := n15_; clear n0_ n1_ n2_ n3_ n4_ n5_ n6_ n7_ n8_ n9_ n10_ n11_ n12_ n13_ n14_ n15_; clear hb hbox hg; have hnb44 := NB506_490.out; have hnc44 := NB490_506.out; have hnb45 := NB506_494.out; have hnc45 := NB494_506.out; have hnb46 := NB506_498.out; have hnc46 := NB498_506.out; have hnb47 := NB506_502.out; have hnc47 := NB502_506.out; have hcz48_0 : w43.cell? ⟨gb506, 0, none⟩ = some (.int .i64 0) := (blk_cell BK506.out 0).trans rfl; have hcz48_1 : w43.cell? ⟨gb506, 1, none⟩ = some (.int .i64 0) := (blk_cell BK506.out 1).trans rfl; have hfz48_0 := blk_frozen BK506.out 0; have hfz48_1 := blk_frozen BK506.out 1) | ((with_reducible refine gate_callee (f := 10) rfl ?_); refine goesL_ (some 74) rfl rfl Try.func10 (by kernel_rfl) rfl #[.slice A0 l0.length c0] rfl gl_ ?_; (with_reducible refine (spec_DrawPlateBack.calls k _ _ l0 t507 t508 t509 _ ?side1 ?side2 A9.out).mono ?_); (case side1 => exact Kd.C_below HR0.out (bws_ HB.out)); (case side2 => exact HC0.out); rintro e w49 ⟨rfl, hb⟩; refine ⟨_, rfl, ?_⟩; have n0_ := Aside0.mk (blk_below (bf_ NB490_506.out BK490.out) hb); have n1_ := Aside0.mk (blk_below (bf_ NB494_506.out BK494.out) hb); have n2_ := Aside0.mk (blk_below (bf_ NB498_506.out BK498.out) hb); have n3_ := Aside0.mk (blk_below (bf_ NB502_506.out BK502.out) hb); have n4_ := Aside0.mk (blk_below (g := gb506) (o := .cells #[.int .i64 t503, .int .i64 t504] 29 (0, 0)) (by (with_reducible repeat (first | refine blk_drewN ?_ _ | refine blk_drew ?_ | refine blk_alloc ?_ _)); refine blk_put (cs := #[.int .i64 t503, .int .i64 0]) ?_ 1 _ rfl; (with_reducible repeat (first | refine blk_drewN ?_ _ | refine blk_drew ?_ | refine blk_alloc ?_ _)); refine blk_put (cs := #[.int .i64 0, .int .i64 0]) ?_ 0 _ rfl; (with_reducible repeat (first | refine blk_drewN ?_ _ | refine blk_drew ?_ | refine blk_alloc ?_ _)); exact BK506.out) hb); have n5_ := Aside0.mk (below_step (bws_ HB.out) hb); clear BK490; clear BK494; clear BK498; clear BK502; clear BK506; clear HB; have BK490 := n0_; have BK494 := n1_; have BK498 := n2_; have BK502 := n3_; have BK506 := n4_; have HB := n5_; clear n0_ n1_ n2_ n3_ n4_ n5_; (try clear hb); (try clear hb2); (try clear hk); (try clear hi)) | ((with_reducible refine gate_dst (N := 13) rfl ?_); refine box_event ?hg (N := 13) ?hd (cs := #[.int .i64 0, .int .i64 0]) (t := 29) ?hr ?_; (case hd => rfl); (case hg => rfl); (case hr => first | (go_simp; done) | (go_simp; rfl)); intro gb510 hg w50 hbox hb; have n0_ := Aside0.mk (blk_below (bk_ BK490.out) hb); have n1_ := Aside0.mk (blk_below (bk_ BK494.out) hb); have n2_ := Aside0.mk (blk_below (bk_ BK498.out) hb); have n3_ := Aside0.mk (blk_below (bk_ BK502.out) hb); have n4_ := Aside0.mk (blk_below (bk_ BK506.out) hb); have n5_ := Aside0.mk (below_step (bws_ HB.out) hb); have n6_ := Aside0.mk (hbox); have n7_ := Aside0.mk ((ge_ hg (bws_ HB.out))); have n8_ := Aside0.mk ((ge_ hg (bws_ HB.out))); have n9_ := Aside0.mk ((ne1_ hg (bk_ BK490.out))); have n10_ := Aside0.mk ((ne2_ hg (bk_ BK490.out))); have n11_ := Aside0.mk ((ne1_ hg (bk_ BK494.out))); have n12_ := Aside0.mk ((ne2_ hg (bk_ BK494.out))); have n13_ := Aside0.mk ((ne1_ hg (bk_ BK498.out))); have n14_ := Aside0.mk ((ne2_ hg (bk_ BK498.out))); have n15_ := Aside0.mk ((ne1_ hg (bk_ BK502.out))); have n16_ := Aside0.mk ((ne2_ hg (bk_ BK502.out))); have n17_ := Aside0.mk ((ne1_ hg (bk_ BK506.out))); have n18_ := Aside0.mk ((ne2_ hg (bk_ BK506.out))); clear BK490; clear BK494; clear BK498; clear BK502; clear BK506; clear HB; have BK490 := n0_; have BK494 := n1_; have BK498 := n2_; have BK502 := n3_; have BK506 := n4_; have HB := n5_; have BK510 := n6_; have GW510 := n7_; have GE510 := n8_; have NB490_510 := n9_; have NB510_490 := n10_; have NB494_510 := n11_; have NB510_494 := n12_; have NB498_510 := n13_; have NB510_498 := n14_; have NB502_510 := n15_; have NB510_502 := n16_; have NB506_510 := n17_; have NB510_506 := n18_; clear n0_ n1_ n2_ n3_ n4_ n5_ n6_ n7_ n8_ n9_ n10_ n11_ n12_ n13_ n14_ n15_ n16_ n17_ n18_; clear hb hbox hg; have hnb51 := NB510_490.out; have hnc51 := NB490_510.out; have hnb52 := NB510_494.out; have hnc52 := NB494_510.out; have hnb53 := NB510_498.out; have hnc53 := NB498_510.out; have hnb54 := NB510_502.out; have hnc54 := NB502_510.out; have hnb55 := NB510_506.out; have hnc55 := NB506_510.out; have hcz56_0 : w50.cell? ⟨gb510, 0, none⟩ = some (.int .i64 0) := (blk_cell BK510.out 0).trans rfl; have hcz56_1 : w50.cell? ⟨gb510, 1, none⟩ = some (.int .i64 0) := (blk_cell BK510.out 1).trans rfl; have hfz56_0 := blk_frozen BK510.out 0; have hfz56_1 := blk_frozen BK510.out 1) | ((with_reducible refine gate_callee (f := 11) rfl ?_); refine goesL_ (some 80) rfl rfl Try.func11 (by kernel_rfl) rfl #[.agg #[.int .i64 t507, .int .i64 t508], .int .i64 t509] rfl gl_ ?_; (with_reducible refine (impl_PlateBack.calls k t507 t508 t509 t511 t512 t513 _ A10.out).mono ?_); rintro e w57 ⟨rfl, hb⟩; refine ⟨_, rfl, ?_⟩; have n0_ := Aside0.mk (blk_below (bf_ NB490_510.out BK490.out) hb); have n1_ := Aside0.mk (blk_below (bf_ NB494_510.out BK494.out) hb); have n2_ := Aside0.mk (blk_below (bf_ NB498_510.out BK498.out) hb); have n3_ := Aside0.mk (blk_below (bf_ NB502_510.out BK502.out) hb); have n4_ := Aside0.mk (blk_below (bf_ NB506_510.out BK506.out) hb); have n5_ := Aside0.mk (blk_below (g := gb510) (o := .cells #[.int .i64 t507, .int .i64 t508] 29 (0, 0)) (by (with_reducible repeat (first | refine blk_drewN ?_ _ | refine blk_drew ?_ | refine blk_alloc ?_ _)); refine blk_put (cs := #[.int .i64 t507, .int .i64 0]) ?_ 1 _ rfl; (with_reducible repeat (first | refine blk_drewN ?_ _ | refine blk_drew ?_ | refine blk_alloc ?_ _)); refine blk_put (cs := #[.int .i64 0, .int .i64 0]) ?_ 0 _ rfl; (with_reducible repeat (first | refine blk_drewN ?_ _ | refine blk_drew ?_ | refine blk_alloc ?_ _)); exact BK510.out) hb); have n6_ := Aside0.mk (below_step (bws_ HB.out) hb); clear BK490; clear BK494; clear BK498; clear BK502; clear BK506; clear BK510; clear HB; have BK490 := n0_; have BK494 := n1_; have BK498 := n2_; have BK502 := n3_; have BK506 := n4_; have BK510 := n5_; have HB := n6_; clear n0_ n1_ n2_ n3_ n4_ n5_ n6_; (try clear hb); (try clear hb2); (try clear hk); (try clear hi)) | ((with_reducible refine gate_dst (N := 15) rfl ?_); refine box_event ?hg (N := 15) ?hd (cs := #[.int .i64 0, .int .i64 0]) (t := 25) ?hr ?_; (case hd => rfl); (case hg => rfl); (case hr => first | (go_simp; done) | (go_simp; rfl)); intro gb514 hg w58 hbox hb; have n0_ := Aside0.mk (blk_below (bk_ BK490.out) hb); have n1_ := Aside0.mk (blk_below (bk_ BK494.out) hb); have n2_ := Aside0.mk (blk_below (bk_ BK498.out) hb); have n3_ := Aside0.mk (blk_below (bk_ BK502.out) hb); have n4_ := Aside0.mk (blk_below (bk_ BK506.out) hb); have n5_ := Aside0.mk (blk_below (bk_ BK510.out) hb); have n6_ := Aside0.mk (below_step (bws_ HB.out) hb); have n7_ := Aside0.mk (hbox); have n8_ := Aside0.mk ((ge_ hg (bws_ HB.out))); have n9_ := Aside0.mk ((ge_ hg (bws_ HB.out))); have n10_ := Aside0.mk ((ne1_ hg (bk_ BK490.out))); have n11_ := Aside0.mk ((ne2_ hg (bk_ BK490.out))); have n12_ := Aside0.mk ((ne1_ hg (bk_ BK494.out))); have n13_ := Aside0.mk ((ne2_ hg (bk_ BK494.out))); have n14_ := Aside0.mk ((ne1_ hg (bk_ BK498.out))); have n15_ := Aside0.mk ((ne2_ hg (bk_ BK498.out))); have n16_ := Aside0.mk ((ne1_ hg (bk_ BK502.out))); have n17_ := Aside0.mk ((ne2_ hg (bk_ BK502.out))); have n18_ := Aside0.mk ((ne1_ hg (bk_ BK506.out))); have n19_ := Aside0.mk ((ne2_ hg (bk_ BK506.out))); have n20_ := Aside0.mk ((ne1_ hg (bk_ BK510.out))); have n21_ := Aside0.mk ((ne2_ hg (bk_ BK510.out))); clear BK490; clear BK494; clear BK498; clear BK502; clear BK506; clear BK510; clear HB; have BK490 := n0_; have BK494 := n1_; have BK498 := n2_; have BK502 := n3_; have BK506 := n4_; have BK510 := n5_; have HB := n6_; have BK514 := n7_; have GW514 := n8_; have GE514 := n9_; have NB490_514 := n10_; have NB514_490 := n11_; have NB494_514 := n12_; have NB514_494 := n13_; have NB498_514 := n14_; have NB514_498 := n15_; have NB502_514 := n16_; have NB514_502 := n17_; have NB506_514 := n18_; have NB514_506 := n19_; have NB510_514 := n20_; have NB514_510 := n21_; clear n0_ n1_ n2_ n3_ n4_ n5_ n6_ n7_ n8_ n9_ n10_ n11_ n12_ n13_ n14_ n15_ n16_ n17_ n18_ n19_ n20_ n21_; clear hb hbox hg; have hnb59 := NB514_490.out; have hnc59 := NB490_514.out; have hnb60 := NB514_494.out; have hnc60 := NB494_514.out; have hnb61 := NB514_498.out; have hnc61 := NB498_514.out; have hnb62 := NB514_502.out; have hnc62 := NB502_514.out; have hnb63 := NB514_506.out; have hnc63 := NB506_514.out; have hnb64 := NB514_510.out; have hnc64 := NB510_514.out; have hcz65_0 : w58.cell? ⟨gb514, 0, none⟩ = some (.int .i64 0) := (blk_cell BK514.out 0).trans rfl; have hcz65_1 : w58.cell? ⟨gb514, 1, none⟩ = some (.int .i64 0) := (blk_cell BK514.out 1).trans rfl; have hfz65_0 := blk_frozen BK514.out 0; have hfz65_1 := blk_frozen BK514.out 1; have hcz66_0 : w58.cell? ⟨gb510, 0, none⟩ = some (.int .i64 t507) := (blk_cell BK510.out 0).trans rfl; have hcz66_1 : w58.cell? ⟨gb510, 1, none⟩ = some (.int .i64 t508) := (blk_cell BK510.out 1).trans rfl; have hfz66_0 := blk_frozen BK510.out 0; have hfz66_1 := blk_frozen BK510.out 1) | ((with_reducible refine gate_callee (f := 12) rfl ?_); refine goesL_ (some 86) rfl rfl Try.func12 (by kernel_rfl) rfl #[.agg #[.int .i64 t507, .int .i64 t508], .int .i64 t509] rfl gl_ ?_; (with_reducible refine (spec_PlateBack.calls t507 t508 t509 t515 t516 t517 _ A11.out).mono ?_); rintro e w67 ⟨rfl, hb⟩; refine ⟨_, rfl, ?_⟩; have n0_ := Aside0.mk (blk_below (bf_ NB490_514.out BK490.out) hb); have n1_ := Aside0.mk (blk_below (bf_ NB494_514.out BK494.out) hb); have n2_ := Aside0.mk (blk_below (bf_ NB498_514.out BK498.out) hb); have n3_ := Aside0.mk (blk_below (bf_ NB502_514.out BK502.out) hb); have n4_ := Aside0.mk (blk_below (bf_ NB506_514.out BK506.out) hb); have n5_ := Aside0.mk (blk_below (bf_ NB510_514.out BK510.out) hb); have n6_ := Aside0.mk (blk_below (g := gb514) (o := .cells #[.int .i64 t511, .int .i64 t512] 25 (0, 0)) (by (with_reducible repeat (first | refine blk_drewN ?_ _ | refine blk_drew ?_ | refine blk_alloc ?_ _)); refine blk_put (cs := #[.int .i64 t511, .int .i64 0]) ?_ 1 _ rfl; (with_reducible repeat (first | refine blk_drewN ?_ _ | refine blk_drew ?_ | refine blk_alloc ?_ _)); refine blk_put (cs := #[.int .i64 0, .int .i64 0]) ?_ 0 _ rfl; (with_reducible repeat (first | refine blk_drewN ?_ _ | refine blk_drew ?_ | refine blk_alloc ?_ _)); exact BK514.out) hb); have n7_ := Aside0.mk (below_step (bws_ HB.out) hb); clear BK490; clear BK494; clear BK498; clear BK502; clear BK506; clear BK510; clear BK514; clear HB; have BK490 := n0_; have BK494 := n1_; have BK498 := n2_; have BK502 := n3_; have BK506 := n4_; have BK510 := n5_; have BK514 := n6_; have HB := n7_; clear n0_ n1_ n2_ n3_ n4_ n5_ n6_ n7_; (try clear hb); (try clear hb2); (try clear hk); (try clear hi)) | ((with_reducible refine gate_dst (N := 17) rfl ?_); refine box_event ?hg (N := 17) ?hd (cs := #[.int .i64 0, .int .i64 0]) (t := 25) ?hr ?_; (case hd => rfl); (case hg => rfl); (case hr => first | (go_simp; done) | (go_simp; rfl)); intro gb518 hg w68 hbox hb; have n0_ := Aside0.mk (blk_below (bk_ BK490.out) hb); have n1_ := Aside0.mk (blk_below (bk_ BK494.out) hb); have n2_ := Aside0.mk (blk_below (bk_ BK498.out) hb); have n3_ := Aside0.mk (blk_below (bk_ BK502.out) hb); have n4_ := Aside0.mk (blk_below (bk_ BK506.out) hb); have n5_ := Aside0.mk (blk_below (bk_ BK510.out) hb); have n6_ := Aside0.mk (blk_below (bk_ BK514.out) hb); have n7_ := Aside0.mk (below_step (bws_ HB.out) hb); have n8_ := Aside0.mk (hbox); have n9_ := Aside0.mk ((ge_ hg (bws_ HB.out))); have n10_ := Aside0.mk ((ge_ hg (bws_ HB.out))); have n11_ := Aside0.mk ((ne1_ hg (bk_ BK490.out))); have n12_ := Aside0.mk ((ne2_ hg (bk_ BK490.out))); have n13_ := Aside0.mk ((ne1_ hg (bk_ BK494.out))); have n14_ := Aside0.mk ((ne2_ hg (bk_ BK494.out))); have n15_ := Aside0.mk ((ne1_ hg (bk_ BK498.out))); have n16_ := Aside0.mk ((ne2_ hg (bk_ BK498.out))); have n17_ := Aside0.mk ((ne1_ hg (bk_ BK502.out))); have n18_ := Aside0.mk ((ne2_ hg (bk_ BK502.out))); have n19_ := Aside0.mk ((ne1_ hg (bk_ BK506.out))); have n20_ := Aside0.mk ((ne2_ hg (bk_ BK506.out))); have n21_ := Aside0.mk ((ne1_ hg (bk_ BK510.out))); have n22_ := Aside0.mk ((ne2_ hg (bk_ BK510.out))); have n23_ := Aside0.mk ((ne1_ hg (bk_ BK514.out))); have n24_ := Aside0.mk ((ne2_ hg (bk_ BK514.out))); clear BK490; clear BK494; clear BK498; clear BK502; clear BK506; clear BK510; clear BK514; clear HB; have BK490 := n0_; have BK494 := n1_; have BK498 := n2_; have BK502 := n3_; have BK506 := n4_; have BK510 := n5_; have BK514 := n6_; have HB := n7_; have BK518 := n8_; have GW518 := n9_; have GE518 := n10_; have NB490_518 := n11_; have NB518_490 := n12_; have NB494_518 := n13_; have NB518_494 := n14_; have NB498_518 := n15_; have NB518_498 := n16_; have NB502_518 := n17_; have NB518_502 := n18_; have NB506_518 := n19_; have NB518_506 := n20_; have NB510_518 := n21_; have NB518_510 := n22_; have NB514_518 := n23_; have NB518_514 := n24_; clear n0_ n1_ n2_ n3_ n4_ n5_ n6_ n7_ n8_ n9_ n10_ n11_ n12_ n13_ n14_ n15_ n16_ n17_ n18_ n19_ n20_ n21_ n22_ n23_ n24_; clear hb hbox hg; have hnb69 := NB518_490.out; have hnc69 := NB490_518.out; have hnb70 := NB518_494.out; have hnc70 := NB494_518.out; have hnb71 := NB518_498.out; have hnc71 := NB498_518.out; have hnb72 := NB518_502.out; have hnc72 := NB502_518.out; have hnb73 := NB518_506.out; have hnc73 := NB506_518.out; have hnb74 := NB518_510.out; have hnc74 := NB510_518.out; have hnb75 := NB518_514.out; have hnc75 := NB514_518.out; have hcz76_0 : w68.cell? ⟨gb518, 0, none⟩ = some (.int .i64 0) := (blk_cell BK518.out 0).trans rfl; have hcz76_1 : w68.cell? ⟨gb518, 1, none⟩ = some (.int .i64 0) := (blk_cell BK518.out 1).trans rfl; have hfz76_0 := blk_frozen BK518.out 0; have hfz76_1 := blk_frozen BK518.out 1; have hcz77_0 : w68.cell? ⟨gb510, 0, none⟩ = some (.int .i64 t507) := (blk_cell BK510.out 0).trans rfl; have hcz77_1 : w68.cell? ⟨gb510, 1, none⟩ = some (.int .i64 t508) := (blk_cell BK510.out 1).trans rfl; have hfz77_0 := blk_frozen BK510.out 0; have hfz77_1 := blk_frozen BK510.out 1) | ((with_reducible refine gate_callee (f := 13) rfl ?_); refine goesL_ (some 92) rfl rfl Try.func13 (by kernel_rfl) rfl #[.agg #[.int .i64 t507, .int .i64 t508], .int .i64 t509] rfl gl_ ?_; (with_reducible refine (impl_WaveBack.calls k t507 t508 t509 t519 t520 t521 _ A12.out).mono ?_); rintro e w78 ⟨rfl, hb⟩; refine ⟨_, rfl, ?_⟩; have n0_ := Aside0.mk (blk_below (bf_ NB490_518.out BK490.out) hb); have n1_ := Aside0.mk (blk_below (bf_ NB494_518.out BK494.out) hb); have n2_ := Aside0.mk (blk_below (bf_ NB498_518.out BK498.out) hb); have n3_ := Aside0.mk (blk_below (bf_ NB502_518.out BK502.out) hb); have n4_ := Aside0.mk (blk_below (bf_ NB506_518.out BK506.out) hb); have n5_ := Aside0.mk (blk_below (bf_ NB510_518.out BK510.out) hb); have n6_ := Aside0.mk (blk_below (bf_ NB514_518.out BK514.out) hb); have n7_ := Aside0.mk (blk_below (g := gb518) (o := .cells #[.int .i64 t515, .int .i64 t516] 25 (0, 0)) (by (with_reducible repeat (first | refine blk_drewN ?_ _ | refine blk_drew ?_ | refine blk_alloc ?_ _)); refine blk_put (cs := #[.int .i64 t515, .int .i64 0]) ?_ 1 _ rfl; (with_reducible repeat (first | refine blk_drewN ?_ _ | refine blk_drew ?_ | refine blk_alloc ?_ _)); refine blk_put (cs := #[.int .i64 0, .int .i64 0]) ?_ 0 _ rfl; (with_reducible repeat (first | refine blk_drewN ?_ _ | refine blk_drew ?_ | refine blk_alloc ?_ _)); exact BK518.out) hb); have n8_ := Aside0.mk (below_step (bws_ HB.out) hb); clear BK490; clear BK494; clear BK498; clear BK502; clear BK506; clear BK510; clear BK514; clear BK518; clear HB; have BK490 := n0_; have BK494 := n1_; have BK498 := n2_; have BK502 := n3_; have BK506 := n4_; have BK510 := n5_; have BK514 := n6_; have BK518 := n7_; have HB := n8_; clear n0_ n1_ n2_ n3_ n4_ n5_ n6_ n7_ n8_; (try clear hb); (try clear hb2); (try clear hk); (try clear hi)) | ((with_reducible refine gate_dst (N := 19) rfl ?_); refine box_event ?hg (N := 19) ?hd (cs := #[.int .i64 0, .int .i64 0]) (t := 25) ?hr ?_; (case hd => rfl); (case hg => rfl); (case hr => first | (go_simp; done) | (go_simp; rfl)); intro gb522 hg w79 hbox hb; have n0_ := Aside0.mk (blk_below (bk_ BK490.out) hb); have n1_ := Aside0.mk (blk_below (bk_ BK494.out) hb); have n2_ := Aside0.mk (blk_below (bk_ BK498.out) hb); have n3_ := Aside0.mk (blk_below (bk_ BK502.out) hb); have n4_ := Aside0.mk (blk_below (bk_ BK506.out) hb); have n5_ := Aside0.mk (blk_below (bk_ BK510.out) hb); have n6_ := Aside0.mk (blk_below (bk_ BK514.out) hb); have n7_ := Aside0.mk (blk_below (bk_ BK518.out) hb); have n8_ := Aside0.mk (below_step (bws_ HB.out) hb); have n9_ := Aside0.mk (hbox); have n10_ := Aside0.mk ((ge_ hg (bws_ HB.out))); have n11_ := Aside0.mk ((ge_ hg (bws_ HB.out))); have n12_ := Aside0.mk ((ne1_ hg (bk_ BK490.out))); have n13_ := Aside0.mk ((ne2_ hg (bk_ BK490.out))); have n14_ := Aside0.mk ((ne1_ hg (bk_ BK494.out))); have n15_ := Aside0.mk ((ne2_ hg (bk_ BK494.out))); have n16_ := Aside0.mk ((ne1_ hg (bk_ BK498.out))); have n17_ := Aside0.mk ((ne2_ hg (bk_ BK498.out))); have n18_ := Aside0.mk ((ne1_ hg (bk_ BK502.out))); have n19_ := Aside0.mk ((ne2_ hg (bk_ BK502.out))); have n20_ := Aside0.mk ((ne1_ hg (bk_ BK506.out))); have n21_ := Aside0.mk ((ne2_ hg (bk_ BK506.out))); have n22_ := Aside0.mk ((ne1_ hg (bk_ BK510.out))); have n23_ := Aside0.mk ((ne2_ hg (bk_ BK510.out))); have n24_ := Aside0.mk ((ne1_ hg (bk_ BK514.out))); have n25_ := Aside0.mk ((ne2_ hg (bk_ BK514.out))); have n26_ := Aside0.mk ((ne1_ hg (bk_ BK518.out))); have n27_ := Aside0.mk ((ne2_ hg (bk_ BK518.out))); clear BK490; clear BK494; clear BK498; clear BK502; clear BK506; clear BK510; clear BK514; clear BK518; clear HB; have BK490 := n0_; have BK494 := n1_; have BK498 := n2_; have BK502 := n3_; have BK506 := n4_; have BK510 := n5_; have BK514 := n6_; have BK518 := n7_; have HB := n8_; have BK522 := n9_; have GW522 := n10_; have GE522 := n11_; have NB490_522 := n12_; have NB522_490 := n13_; have NB494_522 := n14_; have NB522_494 := n15_; have NB498_522 := n16_; have NB522_498 := n17_; have NB502_522 := n18_; have NB522_502 := n19_; have NB506_522 := n20_; have NB522_506 := n21_; have NB510_522 := n22_; have NB522_510 := n23_; have NB514_522 := n24_; have NB522_514 := n25_; have NB518_522 := n26_; have NB522_518 := n27_; clear n0_ n1_ n2_ n3_ n4_ n5_ n6_ n7_ n8_ n9_ n10_ n11_ n12_ n13_ n14_ n15_ n16_ n17_ n18_ n19_ n20_ n21_ n22_ n23_ n24_ n25_ n26_ n27_; clear hb hbox hg; have hnb80 := NB522_490.out; have hnc80 := NB490_522.out; have hnb81 := NB522_494.out; have hnc81 := NB494_522.out; have hnb82 := NB522_498.out; have hnc82 := NB498_522.out; have hnb83 := NB522_502.out; have hnc83 := NB502_522.out; have hnb84 := NB522_506.out; have hnc84 := NB506_522.out; have hnb85 := NB522_510.out; have hnc85 := NB510_522.out; have hnb86 := NB522_514.out; have hnc86 := NB514_522.out; have hnb87 := NB522_518.out; have hnc87 := NB518_522.out; have hcz88_0 : w79.cell? ⟨gb522, 0, none⟩ = some (.int .i64 0) := (blk_cell BK522.out 0).trans rfl; have hcz88_1 : w79.cell? ⟨gb522, 1, none⟩ = some (.int .i64 0) := (blk_cell BK522.out 1).trans rfl; have hfz88_0 := blk_frozen BK522.out 0; have hfz88_1 := blk_frozen BK522.out 1; have hcz89_0 : w79.cell? ⟨gb510, 0, none⟩ = some (.int .i64 t507) := (blk_cell BK510.out 0).trans rfl; have hcz89_1 : w79.cell? ⟨gb510, 1, none⟩ = some (.int .i64 t508) := (blk_cell BK510.out 1).trans rfl; have hfz89_0 := blk_frozen BK510.out 0; have hfz89_1 := blk_frozen BK510.out 1) | ((with_reducible refine gate_callee (f := 14) rfl ?_); refine goesL_ (some 98) rfl rfl Try.func14 (by kernel_rfl) rfl #[.agg #[.int .i64 t507, .int .i64 t508], .int .i64 t509] rfl gl_ ?_; (with_reducible refine (spec_WaveBack.calls k t507 t508 t509 t523 t524 t525 _ A13.out).mono ?_); rintro e w90 ⟨rfl, hb⟩; refine ⟨_, rfl, ?_⟩; have n0_ := Aside0.mk (blk_below (bf_ NB490_522.out BK490.out) hb); have n1_ := Aside0.mk (blk_below (bf_ NB494_522.out BK494.out) hb); have n2_ := Aside0.mk (blk_below (bf_ NB498_522.out BK498.out) hb); have n3_ := Aside0.mk (blk_below (bf_ NB502_522.out BK502.out) hb); have n4_ := Aside0.mk (blk_below (bf_ NB506_522.out BK506.out) hb); have n5_ := Aside0.mk (blk_below (bf_ NB510_522.out BK510.out) hb); have n6_ := Aside0.mk (blk_below (bf_ NB514_522.out BK514.out) hb); have n7_ := Aside0.mk (blk_below (bf_ NB518_522.out BK518.out) hb); have n8_ := Aside0.mk (blk_below (g := gb522) (o := .cells #[.int .i64 t519, .int .i64 t520] 25 (0, 0)) (by (with_reducible repeat (first | refine blk_drewN ?_ _ | refine blk_drew ?_ | refine blk_alloc ?_ _)); refine blk_put (cs := #[.int .i64 t519, .int .i64 0]) ?_ 1 _ rfl; (with_reducible repeat (first | refine blk_drewN ?_ _ | refine blk_drew ?_ | refine blk_alloc ?_ _)); refine blk_put (cs := #[.int .i64 0, .int .i64 0]) ?_ 0 _ rfl; (with_reducible repeat (first | refine blk_drewN ?_ _ | refine blk_drew ?_ | refine blk_alloc ?_ _)); exact BK522.out) hb); have n9_ := Aside0.mk (below_step (bws_ HB.out) hb); clear BK490; clear BK494; clear BK498; clear BK502; clear BK506; clear BK510; clear BK514; clear BK518; clear BK522; clear HB; have BK490 := n0_; have BK494 := n1_; have BK498 := n2_; have BK502 := n3_; have BK506 := n4_; have BK510 := n5_; have BK514 := n6_; have BK518 := n7_; have BK522 := n8_; have HB := n9_; clear n0_ n1_ n2_ n3_ n4_ n5_ n6_ n7_ n8_ n9_; (try clear hb); (try clear hb2); (try clear hk); (try clear hi)) | ((with_reducible refine gate_dst (N := 21) rfl ?_); refine box_event ?hg (N := 21) ?hd (cs := #[.int .i64 0, .int .i64 0]) (t := 25) ?hr ?_; (case hd => rfl); (case hg => rfl); (case hr => first | (go_simp; done) | (go_simp; rfl)); intro gb526 hg w91 hbox hb; have n0_ := Aside0.mk (blk_below (bk_ BK490.out) hb); have n1_ := Aside0.mk (blk_below (bk_ BK494.out) hb); have n2_ := Aside0.mk (blk_below (bk_ BK498.out) hb); have n3_ := Aside0.mk (blk_below (bk_ BK502.out) hb); have n4_ := Aside0.mk (blk_below (bk_ BK506.out) hb); have n5_ := Aside0.mk (blk_below (bk_ BK510.out) hb); have n6_ := Aside0.mk (blk_below (bk_ BK514.out) hb); have n7_ := Aside0.mk (blk_below (bk_ BK518.out) hb); have n8_ := Aside0.mk (blk_below (bk_ BK522.out) hb); have n9_ := Aside0.mk (below_step (bws_ HB.out) hb); have n10_ := Aside0.mk (hbox); have n11_ := Aside0.mk ((ge_ hg (bws_ HB.out))); have n12_ := Aside0.mk ((ge_ hg (bws_ HB.out))); have n13_ := Aside0.mk ((ne1_ hg (bk_ BK490.out))); have n14_ := Aside0.mk ((ne2_ hg (bk_ BK490.out))); have n15_ := Aside0.mk ((ne1_ hg (bk_ BK494.out))); have n16_ := Aside0.mk ((ne2_ hg (bk_ BK494.out))); have n17_ := Aside0.mk ((ne1_ hg (bk_ BK498.out))); have n18_ := Aside0.mk ((ne2_ hg (bk_ BK498.out))); have n19_ := Aside0.mk ((ne1_ hg (bk_ BK502.out))); have n20_ := Aside0.mk ((ne2_ hg (bk_ BK502.out))); have n21_ := Aside0.mk ((ne1_ hg (bk_ BK506.out))); have n22_ := Aside0.mk ((ne2_ hg (bk_ BK506.out))); have n23_ := Aside0.mk ((ne1_ hg (bk_ BK510.out))); have n24_ := Aside0.mk ((ne2_ hg (bk_ BK510.out))); have n25_ := Aside0.mk ((ne1_ hg (bk_ BK514.out))); have n26_ := Aside0.mk ((ne2_ hg (bk_ BK514.out))); have n27_ := Aside0.mk ((ne1_ hg (bk_ BK518.out))); have n28_ := Aside0.mk ((ne2_ hg (bk_ BK518.out))); have n29_ := Aside0.mk ((ne1_ hg (bk_ BK522.out))); have n30_ := Aside0.mk ((ne2_ hg (bk_ BK522.out))); clear BK490; clear BK494; clear BK498; clear BK502; clear BK506; clear BK510; clear BK514; clear BK518; clear BK522; clear HB; have BK490 := n0_; have BK494 := n1_; have BK498 := n2_; have BK502 := n3_; have BK506 := n4_; have BK510 := n5_; have BK514 := n6_; have BK518 := n7_; have BK522 := n8_; have HB := n9_; have BK526 := n10_; have GW526 := n11_; have GE526 := n12_; have NB490_526 := n13_; have NB526_490 := n14_; have NB494_526 := n15_; have NB526_494 := n16_; have NB498_526 := n17_; have NB526_498 := n18_; have NB502_526 := n19_; have NB526_502 := n20_; have NB506_526 := n21_; have NB526_506 := n22_; have NB510_526 := n23_; have NB526_510 := n24_; have NB514_526 := n25_; have NB526_514 := n26_; have NB518_526 := n27_; have NB526_518 := n28_; have NB522_526 := n29_; have NB526_522 := n30_; clear n0_ n1_ n2_ n3_ n4_ n5_ n6_ n7_ n8_ n9_ n10_ n11_ n12_ n13_ n14_ n15_ n16_ n17_ n18_ n19_ n20_ n21_ n22_ n23_ n24_ n25_ n26_ n27_ n28_ n29_ n30_; clear hb hbox hg; have hnb92 := NB526_490.out; have hnc92 := NB490_526.out; have hnb93 := NB526_494.out; have hnc93 := NB494_526.out; have hnb94 := NB526_498.out; have hnc94 := NB498_526.out; have hnb95 := NB526_502.out; have hnc95 := NB502_526.out; have hnb96 := NB526_506.out; have hnc96 := NB506_526.out; have hnb97 := NB526_510.out; have hnc97 := NB510_526.out; have hnb98 := NB526_514.out; have hnc98 := NB514_526.out; have hnb99 := NB526_518.out; have hnc99 := NB518_526.out; have hnb100 := NB526_522.out; have hnc100 := NB522_526.out; have hcz101_0 : w91.cell? ⟨gb526, 0, none⟩ = some (.int .i64 0) := (blk_cell BK526.out 0).trans rfl; have hcz101_1 : w91.cell? ⟨gb526, 1, none⟩ = some (.int .i64 0) := (blk_cell BK526.out 1).trans rfl; have hfz101_0 := blk_frozen BK526.out 0; have hfz101_1 := blk_frozen BK526.out 1) | ((with_reducible refine gate_callee (f := 15) rfl ?_); refine goesL_ (some 103) rfl rfl Try.func15 (by kernel_rfl) rfl #[.slice A0 l0.length c0] rfl gl_ ?_; (with_reducible refine (spec_DrawFlatBox.calls k _ _ l0 t527 t528 t529 _ ?side1 ?side2 A14.out).mono ?_); (case side1 => exact Kd.C_below HR0.out (bws_ HB.out)); (case side2 => exact HC0.out); rintro e w102 ⟨v530, rfl, ho0, hb⟩; refine ⟨_, rfl, ?_⟩; have n0_ := Aside0.mk (Kd.R_lower (Kd.R_newB (Kd.R_newB (Kd.R_newB (Kd.R_newB (Kd.R_newB ho0 (g := gb490) (o := .cells #[.int .i64 t487, .int .i64 t488] 25 (0, 0)) (bf_ NB490_526.out BK490.out)) (g := gb514) (o := .cells #[.int .i64 t511, .int .i64 t512] 25 (0, 0)) (bf_ NB514_526.out BK514.out)) (g := gb518) (o := .cells #[.int .i64 t515, .int .i64 t516] 25 (0, 0)) (bf_ NB518_526.out BK518.out)) (g := gb522) (o := .cells #[.int .i64 t519, .int .i64 t520] 25 (0, 0)) (bf_ NB522_526.out BK522.out)) (g := gb526) (o := .cells #[.int .i64 t523, .int .i64 t524] 25 (0, 0)) (by (with_reducible repeat (first | refine blk_drewN ?_ _ | refine blk_drew ?_ | refine blk_alloc ?_ _)); refine blk_put (cs := #[.int .i64 t523, .int .i64 0]) ?_ 1 _ rfl; (with_reducible repeat (first | refine blk_drewN ?_ _ | refine blk_drew ?_ | refine blk_alloc ?_ _)); refine blk_put (cs := #[.int .i64 0, .int .i64 0]) ?_ 0 _ rfl; (with_reducible repeat (first | refine blk_drewN ?_ _ | refine blk_drew ?_ | refine blk_alloc ?_ _)); exact BK526.out)) (below_size (bws_ HB.out))); have n1_ := Aside0.mk (blk_below (bf_ NB490_526.out BK490.out) hb); have n2_ := Aside0.mk (blk_below (bf_ NB494_526.out BK494.out) hb); have n3_ := Aside0.mk (blk_below (bf_ NB498_526.out BK498.out) hb); have n4_ := Aside0.mk (blk_below (bf_ NB502_526.out BK502.out) hb); have n5_ := Aside0.mk (blk_below (bf_ NB506_526.out BK506.out) hb); have n6_ := Aside0.mk (blk_below (bf_ NB510_526.out BK510.out) hb); have n7_ := Aside0.mk (blk_below (bf_ NB514_526.out BK514.out) hb); have n8_ := Aside0.mk (blk_below (bf_ NB518_526.out BK518.out) hb); have n9_ := Aside0.mk (blk_below (bf_ NB522_526.out BK522.out) hb); have n10_ := Aside0.mk (blk_below (g := gb526) (o := .cells #[.int .i64 t523, .int .i64 t524] 25 (0, 0)) (by (with_reducible repeat (first | refine blk_drewN ?_ _ | refine blk_drew ?_ | refine blk_alloc ?_ _)); refine blk_put (cs := #[.int .i64 t523, .int .i64 0]) ?_ 1 _ rfl; (with_reducible repeat (first | refine blk_drewN ?_ _ | refine blk_drew ?_ | refine blk_alloc ?_ _)); refine blk_put (cs := #[.int .i64 0, .int .i64 0]) ?_ 0 _ rfl; (with_reducible repeat (first | refine blk_drewN ?_ _ | refine blk_drew ?_ | refine blk_alloc ?_ _)); exact BK526.out) hb); have n11_ := Aside0.mk (below_step (bws_ HB.out) hb); clear BK490; clear BK494; clear BK498; clear BK502; clear BK506; clear BK510; clear BK514; clear BK518; clear BK522; clear BK526; clear HB; have HO531 := n0_; have BK490 := n1_; have BK494 := n2_; have BK498 := n3_; have BK502 := n4_; have BK506 := n5_; have BK510 := n6_; have BK514 := n7_; have BK518 := n8_; have BK522 := n9_; have BK526 := n10_; have HB := n11_; clear n0_ n1_ n2_ n3_ n4_ n5_ n6_ n7_ n8_ n9_ n10_ n11_; (try clear hb); (try clear hb2); (try clear hk); (try clear hi); (try clear ho0); obtain ⟨Ao103, co103, eo103⟩ := Kd.R_slice HO531.out; subst eo103) | ((with_reducible refine gate_callee (f := 16) rfl ?_); refine goesL_ (some 111) rfl rfl Try.func16 (by kernel_rfl) rfl #[.slice Ao103 t527.length co103, .int .i64 t528, .bool t529] rfl gl_ ?_; (with_reducible refine (impl_FlatBox.calls k _ _ t527 t528 t529 t532 t533 t534 t535 t536 _ ?side1 ?side2 A15.out).mono ?_); (case side1 => repeat (first | exact (Kd.R_reads' HO531.out).2.2 | (with_reducible refine Kd.C_alloc ?_ _) | (with_reducible refine Kd.C_drewN ?_ _) | (with_reducible refine Kd.C_drew ?_))); (case side2 => exact (Kd.R_reads' HO531.out).2.1); rintro e w104 ⟨rfl, hb⟩; refine ⟨_, rfl, ?_⟩; have n0_ := Aside0.mk (Kd.R_below (by (with_reducible repeat (first | apply Kd.R_alloc | apply Kd.R_drewN | apply Kd.R_drew)); exact HO531.out) hb); have n1_ := Aside0.mk (blk_below (bk_ BK490.out) hb); have n2_ := Aside0.mk (blk_below (bk_ BK494.out) hb); have n3_ := Aside0.mk (blk_below (bk_ BK498.out) hb); have n4_ := Aside0.mk (blk_below (bk_ BK502.out) hb); have n5_ := Aside0.mk (blk_below (bk_ BK506.out) hb); have n6_ := Aside0.mk (blk_below (bk_ BK510.out) hb); have n7_ := Aside0.mk (blk_below (bk_ BK514.out) hb); have n8_ := Aside0.mk (blk_below (bk_ BK518.out) hb); have n9_ := Aside0.mk (blk_below (bk_ BK522.out) hb); have n10_ := Aside0.mk (blk_below (bk_ BK526.out) hb); have n11_ := Aside0.mk (below_step (bws_ HB.out) hb); clear HO531; clear BK490; clear BK494; clear BK498; clear BK502; clear BK506; clear BK510; clear BK514; clear BK518; clear BK522; clear BK526; clear HB; have HO531 := n0_; have BK490 := n1_; have BK494 := n2_; have BK498 := n3_; have BK502 := n4_; have BK506 := n5_; have BK510 := n6_; have BK514 := n7_; have BK518 := n8_; have BK522 := n9_; have BK526 := n10_; have HB := n11_; clear n0_ n1_ n2_ n3_ n4_ n5_ n6_ n7_ n8_ n9_ n10_ n11_; (try clear hb); (try clear hb2); (try clear hk); (try clear hi)) | ((with_reducible refine gate_dst (N := 26) rfl ?_); refine box_event ?hg (N := 26) ?hd (cs := #[.int .i64 0, .int .i64 0]) (t := 29) ?hr ?_; (case hd => rfl); (case hg => rfl); (case hr => first | (go_simp; done) | (go_simp; rfl)); intro gb537 hg w105 hbox hb; have n0_ := Aside0.mk (Kd.R_below (by (with_reducible repeat (first | apply Kd.R_alloc | apply Kd.R_drewN | apply Kd.R_drew)); exact HO531.out) hb); have n1_ := Aside0.mk (blk_below (bk_ BK490.out) hb); have n2_ := Aside0.mk (blk_below (bk_ BK494.out) hb); have n3_ := Aside0.mk (blk_below (bk_ BK498.out) hb); have n4_ := Aside0.mk (blk_below (bk_ BK502.out) hb); have n5_ := Aside0.mk (blk_below (bk_ BK506.out) hb); have n6_ := Aside0.mk (blk_below (bk_ BK510.out) hb); have n7_ := Aside0.mk (blk_below (bk_ BK514.out) hb); have n8_ := Aside0.mk (blk_below (bk_ BK518.out) hb); have n9_ := Aside0.mk (blk_below (bk_ BK522.out) hb); have n10_ := Aside0.mk (blk_below (bk_ BK526.out) hb); have n11_ := Aside0.mk (below_step (bws_ HB.out) hb); have n12_ := Aside0.mk (hbox); have n13_ := Aside0.mk ((ge_ hg (bws_ HB.out))); have n14_ := Aside0.mk ((ge_ hg (bws_ HB.out))); have n15_ := Aside0.mk ((ne1_ hg (bk_ BK490.out))); have n16_ := Aside0.mk ((ne2_ hg (bk_ BK490.out))); have n17_ := Aside0.mk ((ne1_ hg (bk_ BK494.out))); have n18_ := Aside0.mk ((ne2_ hg (bk_ BK494.out))); have n19_ := Aside0.mk ((ne1_ hg (bk_ BK498.out))); have n20_ := Aside0.mk ((ne2_ hg (bk_ BK498.out))); have n21_ := Aside0.mk ((ne1_ hg (bk_ BK502.out))); have n22_ := Aside0.mk ((ne2_ hg (bk_ BK502.out))); have n23_ := Aside0.mk ((ne1_ hg (bk_ BK506.out))); have n24_ := Aside0.mk ((ne2_ hg (bk_ BK506.out))); have n25_ := Aside0.mk ((ne1_ hg (bk_ BK510.out))); have n26_ := Aside0.mk ((ne2_ hg (bk_ BK510.out))); have n27_ := Aside0.mk ((ne1_ hg (bk_ BK514.out))); have n28_ := Aside0.mk ((ne2_ hg (bk_ BK514.out))); have n29_ := Aside0.mk ((ne1_ hg (bk_ BK518.out))); have n30_ := Aside0.mk ((ne2_ hg (bk_ BK518.out))); have n31_ := Aside0.mk ((ne1_ hg (bk_ BK522.out))); have n32_ := Aside0.mk ((ne2_ hg (bk_ BK522.out))); have n33_ := Aside0.mk ((ne1_ hg (bk_ BK526.out))); have n34_ := Aside0.mk ((ne2_ hg (bk_ BK526.out))); clear HO531; clear BK490; clear BK494; clear BK498; clear BK502; clear BK506; clear BK510; clear BK514; clear BK518; clear BK522; clear BK526; clear HB; have HO531 := n0_; have BK490 := n1_; have BK494 := n2_; have BK498 := n3_; have BK502 := n4_; have BK506 := n5_; have BK510 := n6_; have BK514 := n7_; have BK518 := n8_; have BK522 := n9_; have BK526 := n10_; have HB := n11_; have BK537 := n12_; have GW537 := n13_; have GE537 := n14_; have NB490_537 := n15_; have NB537_490 := n16_; have NB494_537 := n17_; have NB537_494 := n18_; have NB498_537 := n19_; have NB537_498 := n20_; have NB502_537 := n21_; have NB537_502 := n22_; have NB506_537 := n23_; have NB537_506 := n24_; have NB510_537 := n25_; have NB537_510 := n26_; have NB514_537 := n27_; have NB537_514 := n28_; have NB518_537 := n29_; have NB537_518 := n30_; have NB522_537 := n31_; have NB537_522 := n32_; have NB526_537 := n33_; have NB537_526 := n34_; clear n0_ n1_ n2_ n3_ n4_ n5_ n6_ n7_ n8_ n9_ n10_ n11_ n12_ n13_ n14_ n15_ n16_ n17_ n18_ n19_ n20_ n21_ n22_ n23_ n24_ n25_ n26_ n27_ n28_ n29_ n30_ n31_ n32_ n33_ n34_; clear hb hbox hg) | ((with_reducible refine gate_dst (N := 27) rfl ?_); refine box_event ?hg (N := 27) ?hd (cs := #[.int .i64 0, .int .i64 0]) (t := 29) ?hr ?_; (case hd => rfl); (case hg => rfl); (case hr => first | (go_simp; done) | (go_simp; rfl)); intro gb538 hg w106 hbox hb; have n0_ := Aside0.mk (Kd.R_below (by (with_reducible repeat (first | apply Kd.R_alloc | apply Kd.R_drewN | apply Kd.R_drew)); exact HO531.out) hb); have n1_ := Aside0.mk (blk_below (bk_ BK490.out) hb); have n2_ := Aside0.mk (blk_below (bk_ BK494.out) hb); have n3_ := Aside0.mk (blk_below (bk_ BK498.out) hb); have n4_ := Aside0.mk (blk_below (bk_ BK502.out) hb); have n5_ := Aside0.mk (blk_below (bk_ BK506.out) hb); have n6_ := Aside0.mk (blk_below (bk_ BK510.out) hb); have n7_ := Aside0.mk (blk_below (bk_ BK514.out) hb); have n8_ := Aside0.mk (blk_below (bk_ BK518.out) hb); have n9_ := Aside0.mk (blk_below (bk_ BK522.out) hb); have n10_ := Aside0.mk (blk_below (bk_ BK526.out) hb); have n11_ := Aside0.mk (blk_below (bk_ BK537.out) hb); have n12_ := Aside0.mk (below_step (bws_ HB.out) hb); have n13_ := Aside0.mk (hbox); have n14_ := Aside0.mk ((ge_ hg (bws_ HB.out))); have n15_ := Aside0.mk ((ge_ hg (bws_ HB.out))); have n16_ := Aside0.mk ((ne1_ hg (bk_ BK490.out))); have n17_ := Aside0.mk ((ne2_ hg (bk_ BK490.out))); have n18_ := Aside0.mk ((ne1_ hg (bk_ BK494.out))); have n19_ := Aside0.mk ((ne2_ hg (bk_ BK494.out))); have n20_ := Aside0.mk ((ne1_ hg (bk_ BK498.out))); have n21_ := Aside0.mk ((ne2_ hg (bk_ BK498.out))); have n22_ := Aside0.mk ((ne1_ hg (bk_ BK502.out))); have n23_ := Aside0.mk ((ne2_ hg (bk_ BK502.out))); have n24_ := Aside0.mk ((ne1_ hg (bk_ BK506.out))); have n25_ := Aside0.mk ((ne2_ hg (bk_ BK506.out))); have n26_ := Aside0.mk ((ne1_ hg (bk_ BK510.out))); have n27_ := Aside0.mk ((ne2_ hg (bk_ BK510.out))); have n28_ := Aside0.mk ((ne1_ hg (bk_ BK514.out))); have n29_ := Aside0.mk ((ne2_ hg (bk_ BK514.out))); have n30_ := Aside0.mk ((ne1_ hg (bk_ BK518.out))); have n31_ := Aside0.mk ((ne2_ hg (bk_ BK518.out))); have n32_ := Aside0.mk ((ne1_ hg (bk_ BK522.out))); have n33_ := Aside0.mk ((ne2_ hg (bk_ BK522.out))); have n34_ := Aside0.mk ((ne1_ hg (bk_ BK526.out))); have n35_ := Aside0.mk ((ne2_ hg (bk_ BK526.out))); have n36_ := Aside0.mk ((ne1_ hg (bk_ BK537.out))); have n37_ := Aside0.mk ((ne2_ hg (bk_ BK537.out))); clear HO531; clear BK490; clear BK494; clear BK498; clear BK502; clear BK506; clear BK510; clear BK514; clear BK518; clear BK522; clear BK526; clear BK537; clear HB; have HO531 := n0_; have BK490 := n1_; have BK494 := n2_; have BK498 := n3_; have BK502 := n4_; have BK506 := n5_; have BK510 := n6_; have BK514 := n7_; have BK518 := n8_; have BK522 := n9_; have BK526 := n10_; have BK537 := n11_; have HB := n12_; have BK538 := n13_; have GW538 := n14_; have GE538 := n15_; have NB490_538 := n16_; have NB538_490 := n17_; have NB494_538 := n18_; have NB538_494 := n19_; have NB498_538 := n20_; have NB538_498 := n21_; have NB502_538 := n22_; have NB538_502 := n23_; have NB506_538 := n24_; have NB538_506 := n25_; have NB510_538 := n26_; have NB538_510 := n27_; have NB514_538 := n28_; have NB538_514 := n29_; have NB518_538 := n30_; have NB538_518 := n31_; have NB522_538 := n32_; have NB538_522 := n33_; have NB526_538 := n34_; have NB538_526 := n35_; have NB537_538 := n36_; have NB538_537 := n37_; clear n0_ n1_ n2_ n3_ n4_ n5_ n6_ n7_ n8_ n9_ n10_ n11_ n12_ n13_ n14_ n15_ n16_ n17_ n18_ n19_ n20_ n21_ n22_ n23_ n24_ n25_ n26_ n27_ n28_ n29_ n30_ n31_ n32_ n33_ n34_ n35_ n36_ n37_; clear hb hbox hg; have hnb107 := NB537_490.out; have hnc107 := NB490_537.out; have hnb108 := NB537_494.out; have hnc108 := NB494_537.out; have hnb109 := NB537_498.out; have hnc109 := NB498_537.out; have hnb110 := NB537_502.out; have hnc110 := NB502_537.out; have hnb111 := NB537_506.out; have hnc111 := NB506_537.out; have hnb112 := NB537_510.out; have hnc112 := NB510_537.out; have hnb113 := NB537_514.out; have hnc113 := NB514_537.out; have hnb114 := NB537_518.out; have hnc114 := NB518_537.out; have hnb115 := NB537_522.out; have hnc115 := NB522_537.out; have hnb116 := NB537_526.out; have hnc116 := NB526_537.out; have hnb117 := NB537_538.out; have hnc117 := NB538_537.out; have hcz118_0 : w106.cell? ⟨gb537, 0, none⟩ = some (.int .i64 0) := (blk_cell BK537.out 0).trans rfl; have hcz118_1 : w106.cell? ⟨gb537, 1, none⟩ = some (.int .i64 0) := (blk_cell BK537.out 1).trans rfl; have hfz118_0 := blk_frozen BK537.out 0; have hfz118_1 := blk_frozen BK537.out 1; have hnb119 := NB538_490.out; have hnc119 := NB490_538.out; have hnb120 := NB538_494.out; have hnc120 := NB494_538.out; have hnb121 := NB538_498.out; have hnc121 := NB498_538.out; have hnb122 := NB538_502.out; have hnc122 := NB502_538.out; have hnb123 := NB538_506.out; have hnc123 := NB506_538.out; have hnb124 := NB538_510.out; have hnc124 := NB510_538.out; have hnb125 := NB538_514.out; have hnc125 := NB514_538.out; have hnb126 := NB538_518.out; have hnc126 := NB518_538.out; have hnb127 := NB538_522.out; have hnc127 := NB522_538.out; have hnb128 := NB538_526.out; have hnc128 := NB526_538.out; have hcz129_0 : w106.cell? ⟨gb538, 0, none⟩ = some (.int .i64 0) := (blk_cell BK538.out 0).trans rfl; have hcz129_1 : w106.cell? ⟨gb538, 1, none⟩ = some (.int .i64 0) := (blk_cell BK538.out 1).trans rfl; have hfz129_0 := blk_frozen BK538.out 0; have hfz129_1 := blk_frozen BK538.out 1) | ((with_reducible refine gate_callee (f := 17) rfl ?_); refine goesL_ (some 119) rfl rfl Try.func17 (by kernel_rfl) rfl #[.slice Ao103 t527.length co103, .int .i64 t528, .bool t529] rfl gl_ ?_; (with_reducible refine (spec_FlatBox.calls k _ _ t527 t528 t529 t539 t540 t541 t542 t543 _ ?side1 ?side2 A16.out).mono ?_); (case side1 => refine (Kd.R_reads' (e := 25) (base := w.heap.size) (ok := fun k_ => (((((True ∧ k_ ≠ gb490) ∧ k_ ≠ gb514) ∧ k_ ≠ gb518) ∧ k_ ≠ gb522) ∧ k_ ≠ gb526)) (n := t527.length) (c := co103) ?_).2.2; exact (by (with_reducible repeat (first | apply Kd.R_alloc | apply Kd.R_drewN | apply Kd.R_drew)); exact (Kd.R_mono (Kd.R_mono (Kd.R_far (p := ⟨gb538, 1, none⟩) (Kd.R_far (p := ⟨gb538, 0, none⟩) (Kd.R_far (p := ⟨gb537, 1, none⟩) (Kd.R_far (p := ⟨gb537, 0, none⟩) (Kd.R_types (Kd.R_types HO531.out BK537.out (by decide)) BK538.out (by decide)) (fun _ hk => hk.1.2) (.int .i64 t532)) (fun _ hk => hk.1.2) (.int .i64 t533)) (fun _ hk => hk.2) (.int .i64 t534)) (fun _ hk => hk.2) (.int .i64 t535)) (fun _ h_ => h_.1)) (fun _ h_ => h_.1)))); (case side2 => exact (Kd.R_reads' HO531.out).2.1); rintro e w130 ⟨rfl, hb⟩; refine ⟨_, rfl, ?_⟩; have n0_ := Aside0.mk (Kd.R_below (by (with_reducible repeat (first | apply Kd.R_alloc | apply Kd.R_drewN | apply Kd.R_drew)); exact (Kd.R_mono (Kd.R_mono (Kd.R_far (p := ⟨gb538, 1, none⟩) (Kd.R_far (p := ⟨gb538, 0, none⟩) (Kd.R_far (p := ⟨gb537, 1, none⟩) (Kd.R_far (p := ⟨gb537, 0, none⟩) (Kd.R_types (Kd.R_types HO531.out BK537.out (by decide)) BK538.out (by decide)) (fun _ hk => hk.1.2) (.int .i64 t532)) (fun _ hk => hk.1.2) (.int .i64 t533)) (fun _ hk => hk.2) (.int .i64 t534)) (fun _ hk => hk.2) (.int .i64 t535)) (fun _ h_ => h_.1)) (fun _ h_ => h_.1))) hb); have n1_ := Aside0.mk (blk_below (g := gb490) (o := .cells #[.int .i64 t487, .int .i64 t488] 25 (0, 0)) (by (with_reducible repeat (first | refine blk_drewN ?_ _ | refine blk_drew ?_ | refine blk_alloc ?_ _)); refine blk_far ?_ NB490_538.out _; (with_reducible repeat (first | refine blk_drewN ?_ _ | refine blk_drew ?_ | refine blk_alloc ?_ _)); refine blk_far ?_ NB490_538.out _; (with_reducible repeat (first | refine blk_drewN ?_ _ | refine blk_drew ?_ | refine blk_alloc ?_ _)); refine blk_far ?_ NB490_537.out _; (with_reducible repeat (first | refine blk_drewN ?_ _ | refine blk_drew ?_ | refine blk_alloc ?_ _)); refine blk_far ?_ NB490_537.out _; (with_reducible repeat (first | refine blk_drewN ?_ _ | refine blk_drew ?_ | refine blk_alloc ?_ _)); exact BK490.out) hb); have n2_ := Aside0.mk (blk_below (g := gb494) (o := .cells #[.int .i64 t491, .int .i64 t492] 29 (0, 0)) (by (with_reducible repeat (first | refine blk_drewN ?_ _ | refine blk_drew ?_ | refine blk_alloc ?_ _)); refine blk_far ?_ NB494_538.out _; (with_reducible repeat (first | refine blk_drewN ?_ _ | refine blk_drew ?_ | refine blk_alloc ?_ _)); refine blk_far ?_ NB494_538.out _; (with_reducible repeat (first | refine blk_drewN ?_ _ | refine blk_drew ?_ | refine blk_alloc ?_ _)); refine blk_far ?_ NB494_537.out _; (with_reducible repeat (first | refine blk_drewN ?_ _ | refine blk_drew ?_ | refine blk_alloc ?_ _)); refine blk_far ?_ NB494_537.out _; (with_reducible repeat (first | refine blk_drewN ?_ _ | refine blk_drew ?_ | refine blk_alloc ?_ _)); exact BK494.out) hb); have n3_ := Aside0.mk (blk_below (g := gb498) (o := .cells #[.int .i64 t495, .int .i64 t496] 29 (0, 0)) (by (with_reducible repeat (first | refine blk_drewN ?_ _ | refine blk_drew ?_ | refine blk_alloc ?_ _)); refine blk_far ?_ NB498_538.out _; (with_reducible repeat (first | refine blk_drewN ?_ _ | refine blk_drew ?_ | refine blk_alloc ?_ _)); refine blk_far ?_ NB498_538.out _; (with_reducible repeat (first | refine blk_drewN ?_ _ | refine blk_drew ?_ | refine blk_alloc ?_ _)); refine blk_far ?_ NB498_537.out _; (with_reducible repeat (first | refine blk_drewN ?_ _ | refine blk_drew ?_ | refine blk_alloc ?_ _)); refine blk_far ?_ NB498_537.out _; (with_reducible repeat (first | refine blk_drewN ?_ _ | refine blk_drew ?_ | refine blk_alloc ?_ _)); exact BK498.out) hb); have n4_ := Aside0.mk (blk_below (g := gb502) (o := .cells #[.int .i64 t499, .int .i64 t500] 29 (0, 0)) (by (with_reducible repeat (first | refine blk_drewN ?_ _ | refine blk_drew ?_ | refine blk_alloc ?_ _)); refine blk_far ?_ NB502_538.out _; (with_reducible repeat (first | refine blk_drewN ?_ _ | refine blk_drew ?_ | refine blk_alloc ?_ _)); refine blk_far ?_ NB502_538.out _; (with_reducible repeat (first | refine blk_drewN ?_ _ | refine blk_drew ?_ | refine blk_alloc ?_ _)); refine blk_far ?_ NB502_537.out _; (with_reducible repeat (first | refine blk_drewN ?_ _ | refine blk_drew ?_ | refine blk_alloc ?_ _)); refine blk_far ?_ NB502_537.out _; (with_reducible repeat (first | refine blk_drewN ?_ _ | refine blk_drew ?_ | refine blk_alloc ?_ _)); exact BK502.out) hb); have n5_ := Aside0.mk (blk_below (g := gb506) (o := .cells #[.int .i64 t503, .int .i64 t504] 29 (0, 0)) (by (with_reducible repeat (first | refine blk_drewN ?_ _ | refine blk_drew ?_ | refine blk_alloc ?_ _)); refine blk_far ?_ NB506_538.out _; (with_reducible repeat (first | refine blk_drewN ?_ _ | refine blk_drew ?_ | refine blk_alloc ?_ _)); refine blk_far ?_ NB506_538.out _; (with_reducible repeat (first | refine blk_drewN ?_ _ | refine blk_drew ?_ | refine blk_alloc ?_ _)); refine blk_far ?_ NB506_537.out _; (with_reducible repeat (first | refine blk_drewN ?_ _ | refine blk_drew ?_ | refine blk_alloc ?_ _)); refine blk_far ?_ NB506_537.out _; (with_reducible repeat (first | refine blk_drewN ?_ _ | refine blk_drew ?_ | refine blk_alloc ?_ _)); exact BK506.out) hb); have n6_ := Aside0.mk (blk_below (g := gb510) (o := .cells #[.int .i64 t507, .int .i64 t508] 29 (0, 0)) (by (with_reducible repeat (first | refine blk_drewN ?_ _ | refine blk_drew ?_ | refine blk_alloc ?_ _)); refine blk_far ?_ NB510_538.out _; (with_reducible repeat (first | refine blk_drewN ?_ _ | refine blk_drew ?_ | refine blk_alloc ?_ _)); refine blk_far ?_ NB510_538.out _; (with_reducible repeat (first | refine blk_drewN ?_ _ | refine blk_drew ?_ | refine blk_alloc ?_ _)); refine blk_far ?_ NB510_537.out _; (with_reducible repeat (first | refine blk_drewN ?_ _ | refine blk_drew ?_ | refine blk_alloc ?_ _)); refine blk_far ?_ NB510_537.out _; (with_reducible repeat (first | refine blk_drewN ?_ _ | refine blk_drew ?_ | refine blk_alloc ?_ _)); exact BK510.out) hb); have n7_ := Aside0.mk (blk_below (g := gb514) (o := .cells #[.int .i64 t511, .int .i64 t512] 25 (0, 0)) (by (with_reducible repeat (first | refine blk_drewN ?_ _ | refine blk_drew ?_ | refine blk_alloc ?_ _)); refine blk_far ?_ NB514_538.out _; (with_reducible repeat (first | refine blk_drewN ?_ _ | refine blk_drew ?_ | refine blk_alloc ?_ _)); refine blk_far ?_ NB514_538.out _; (with_reducible repeat (first | refine blk_drewN ?_ _ | refine blk_drew ?_ | refine blk_alloc ?_ _)); refine blk_far ?_ NB514_537.out _; (with_reducible repeat (first | refine blk_drewN ?_ _ | refine blk_drew ?_ | refine blk_alloc ?_ _)); refine blk_far ?_ NB514_537.out _; (with_reducible repeat (first | refine blk_drewN ?_ _ | refine blk_drew ?_ | refine blk_alloc ?_ _)); exact BK514.out) hb); have n8_ := Aside0.mk (blk_below (g := gb518) (o := .cells #[.int .i64 t515, .int .i64 t516] 25 (0, 0)) (by (with_reducible repeat (first | refine blk_drewN ?_ _ | refine blk_drew ?_ | refine blk_alloc ?_ _)); refine blk_far ?_ NB518_538.out _; (with_reducible repeat (first | refine blk_drewN ?_ _ | refine blk_drew ?_ | refine blk_alloc ?_ _)); refine blk_far ?_ NB518_538.out _; (with_reducible repeat (first | refine blk_drewN ?_ _ | refine blk_drew ?_ | refine blk_alloc ?_ _)); refine blk_far ?_ NB518_537.out _; (with_reducible repeat (first | refine blk_drewN ?_ _ | refine blk_drew ?_ | refine blk_alloc ?_ _)); refine blk_far ?_ NB518_537.out _; (with_reducible repeat (first | refine blk_drewN ?_ _ | refine blk_drew ?_ | refine blk_alloc ?_ _)); exact BK518.out) hb); have n9_ := Aside0.mk (blk_below (g := gb522) (o := .cells #[.int .i64 t519, .int .i64 t520] 25 (0, 0)) (by (with_reducible repeat (first | refine blk_drewN ?_ _ | refine blk_drew ?_ | refine blk_alloc ?_ _)); refine blk_far ?_ NB522_538.out _; (with_reducible repeat (first | refine blk_drewN ?_ _ | refine blk_drew ?_ | refine blk_alloc ?_ _)); refine blk_far ?_ NB522_538.out _; (with_reducible repeat (first | refine blk_drewN ?_ _ | refine blk_drew ?_ | refine blk_alloc ?_ _)); refine blk_far ?_ NB522_537.out _; (with_reducible repeat (first | refine blk_drewN ?_ _ | refine blk_drew ?_ | refine blk_alloc ?_ _)); refine blk_far ?_ NB522_537.out _; (with_reducible repeat (first | refine blk_drewN ?_ _ | refine blk_drew ?_ | refine blk_alloc ?_ _)); exact BK522.out) hb); have n10_ := Aside0.mk (blk_below (g := gb526) (o := .cells #[.int .i64 t523, .int .i64 t524] 25 (0, 0)) (by (with_reducible repeat (first | refine blk_drewN ?_ _ | refine blk_drew ?_ | refine blk_alloc ?_ _)); refine blk_far ?_ NB526_538.out _; (with_reducible repeat (first | refine blk_drewN ?_ _ | refine blk_drew ?_ | refine blk_alloc ?_ _)); refine blk_far ?_ NB526_538.out _; (with_reducible repeat (first | refine blk_drewN ?_ _ | refine blk_drew ?_ | refine blk_alloc ?_ _)); refine blk_far ?_ NB526_537.out _; (with_reducible repeat (first | refine blk_drewN ?_ _ | refine blk_drew ?_ | refine blk_alloc ?_ _)); refine blk_far ?_ NB526_537.out _; (with_reducible repeat (first | refine blk_drewN ?_ _ | refine blk_drew ?_ | refine blk_alloc ?_ _)); exact BK526.out) hb); have n11_ := Aside0.mk (blk_below (g := gb537) (o := .cells #[.int .i64 t532, .int .i64 t533] 29 (0, 0)) (by (with_reducible repeat (first | refine blk_drewN ?_ _ | refine blk_drew ?_ | refine blk_alloc ?_ _)); refine blk_far ?_ NB537_538.out _; (with_reducible repeat (first | refine blk_drewN ?_ _ | refine blk_drew ?_ | refine blk_alloc ?_ _)); refine blk_far ?_ NB537_538.out _; (with_reducible repeat (first | refine blk_drewN ?_ _ | refine blk_drew ?_ | refine blk_alloc ?_ _)); refine blk_put (cs := #[.int .i64 t532, .int .i64 0]) ?_ 1 _ rfl; (with_reducible repeat (first | refine blk_drewN ?_ _ | refine blk_drew ?_ | refine blk_alloc ?_ _)); refine blk_put (cs := #[.int .i64 0, .int .i64 0]) ?_ 0 _ rfl; (with_reducible repeat (first | refine blk_drewN ?_ _ | refine blk_drew ?_ | refine blk_alloc ?_ _)); exact BK537.out) hb); have n12_ := Aside0.mk (blk_below (g := gb538) (o := .cells #[.int .i64 t534, .int .i64 t535] 29 (0, 0)) (by (with_reducible repeat (first | refine blk_drewN ?_ _ | refine blk_drew ?_ | refine blk_alloc ?_ _)); refine blk_put (cs := #[.int .i64 t534, .int .i64 0]) ?_ 1 _ rfl; (with_reducible repeat (first | refine blk_drewN ?_ _ | refine blk_drew ?_ | refine blk_alloc ?_ _)); refine blk_put (cs := #[.int .i64 0, .int .i64 0]) ?_ 0 _ rfl; (with_reducible repeat (first | refine blk_drewN ?_ _ | refine blk_drew ?_ | refine blk_alloc ?_ _)); refine blk_far ?_ NB538_537.out _; (with_reducible repeat (first | refine blk_drewN ?_ _ | refine blk_drew ?_ | refine blk_alloc ?_ _)); refine blk_far ?_ NB538_537.out _; (with_reducible repeat (first | refine blk_drewN ?_ _ | refine blk_drew ?_ | refine blk_alloc ?_ _)); exact BK538.out) hb); have n13_ := Aside0.mk (below_step (bws_ HB.out) hb); clear HO531; clear BK490; clear BK494; clear BK498; clear BK502; clear BK506; clear BK510; clear BK514; clear BK518; clear BK522; clear BK526; clear BK537; clear BK538; clear HB; have HO531 := n0_; have BK490 := n1_; have BK494 := n2_; have BK498 := n3_; have BK502 := n4_; have BK506 := n5_; have BK510 := n6_; have BK514 := n7_; have BK518 := n8_; have BK522 := n9_; have BK526 := n10_; have BK537 := n11_; have BK538 := n12_; have HB := n13_; clear n0_ n1_ n2_ n3_ n4_ n5_ n6_ n7_ n8_ n9_ n10_ n11_ n12_ n13_; (try clear hb); (try clear hb2); (try clear hk); (try clear hi)) | ((with_reducible refine gate_dst (N := 29) rfl ?_); refine box_event ?hg (N := 29) ?hd (cs := #[.int .i64 0, .int .i64 0]) (t := 29) ?hr ?_; (case hd => rfl); (case hg => rfl); (case hr => first | (go_simp; done) | (go_simp; rfl)); intro gb544 hg w131 hbox hb; have n0_ := Aside0.mk (Kd.R_below (by (with_reducible repeat (first | apply Kd.R_alloc | apply Kd.R_drewN | apply Kd.R_drew)); exact HO531.out) hb); have n1_ := Aside0.mk (blk_below (bk_ BK490.out) hb); have n2_ := Aside0.mk (blk_below (bk_ BK494.out) hb); have n3_ := Aside0.mk (blk_below (bk_ BK498.out) hb); have n4_ := Aside0.mk (blk_below (bk_ BK502.out) hb); have n5_ := Aside0.mk (blk_below (bk_ BK506.out) hb); have n6_ := Aside0.mk (blk_below (bk_ BK510.out) hb); have n7_ := Aside0.mk (blk_below (bk_ BK514.out) hb); have n8_ := Aside0.mk (blk_below (bk_ BK518.out) hb); have n9_ := Aside0.mk (blk_below (bk_ BK522.out) hb); have n10_ := Aside0.mk (blk_below (bk_ BK526.out) hb); have n11_ := Aside0.mk (blk_below (bk_ BK537.out) hb); have n12_ := Aside0.mk (blk_below (bk_ BK538.out) hb); have n13_ := Aside0.mk (below_step (bws_ HB.out) hb); have n14_ := Aside0.mk (hbox); have n15_ := Aside0.mk ((ge_ hg (bws_ HB.out))); have n16_ := Aside0.mk ((ge_ hg (bws_ HB.out))); have n17_ := Aside0.mk ((ne1_ hg (bk_ BK490.out))); have n18_ := Aside0.mk ((ne2_ hg (bk_ BK490.out))); have n19_ := Aside0.mk ((ne1_ hg (bk_ BK494.out))); have n20_ := Aside0.mk ((ne2_ hg (bk_ BK494.out))); have n21_ := Aside0.mk ((ne1_ hg (bk_ BK498.out))); have n22_ := Aside0.mk ((ne2_ hg (bk_ BK498.out))); have n23_ := Aside0.mk ((ne1_ hg (bk_ BK502.out))); have n24_ := Aside0.mk ((ne2_ hg (bk_ BK502.out))); have n25_ := Aside0.mk ((ne1_ hg (bk_ BK506.out))); have n26_ := Aside0.mk ((ne2_ hg (bk_ BK506.out))); have n27_ := Aside0.mk ((ne1_ hg (bk_ BK510.out))); have n28_ := Aside0.mk ((ne2_ hg (bk_ BK510.out))); have n29_ := Aside0.mk ((ne1_ hg (bk_ BK514.out))); have n30_ := Aside0.mk ((ne2_ hg (bk_ BK514.out))); have n31_ := Aside0.mk ((ne1_ hg (bk_ BK518.out))); have n32_ := Aside0.mk ((ne2_ hg (bk_ BK518.out))); have n33_ := Aside0.mk ((ne1_ hg (bk_ BK522.out))); have n34_ := Aside0.mk ((ne2_ hg (bk_ BK522.out))); have n35_ := Aside0.mk ((ne1_ hg (bk_ BK526.out))); have n36_ := Aside0.mk ((ne2_ hg (bk_ BK526.out))); have n37_ := Aside0.mk ((ne1_ hg (bk_ BK537.out))); have n38_ := Aside0.mk ((ne2_ hg (bk_ BK537.out))); have n39_ := Aside0.mk ((ne1_ hg (bk_ BK538.out))); have n40_ := Aside0.mk ((ne2_ hg (bk_ BK538.out))); clear HO531; clear BK490; clear BK494; clear BK498; clear BK502; clear BK506; clear BK510; clear BK514; clear BK518; clear BK522; clear BK526; clear BK537; clear BK538; clear HB; have HO531 := n0_; have BK490 := n1_; have BK494 := n2_; have BK498 := n3_; have BK502 := n4_; have BK506 := n5_; have BK510 := n6_; have BK514 := n7_; have BK518 := n8_; have BK522 := n9_; have BK526 := n10_; have BK537 := n11_; have BK538 := n12_; have HB := n13_; have BK544 := n14_; have GW544 := n15_; have GE544 := n16_; have NB490_544 := n17_; have NB544_490 := n18_; have NB494_544 := n19_; have NB544_494 := n20_; have NB498_544 := n21_; have NB544_498 := n22_; have NB502_544 := n23_; have NB544_502 := n24_; have NB506_544 := n25_; have NB544_506 := n26_; have NB510_544 := n27_; have NB544_510 := n28_; have NB514_544 := n29_; have NB544_514 := n30_; have NB518_544 := n31_; have NB544_518 := n32_; have NB522_544 := n33_; have NB544_522 := n34_; have NB526_544 := n35_; have NB544_526 := n36_; have NB537_544 := n37_; have NB544_537 := n38_; have NB538_544 := n39_; have NB544_538 := n40_; clear n0_ n1_ n2_ n3_ n4_ n5_ n6_ n7_ n8_ n9_ n10_ n11_ n12_ n13_ n14_ n15_ n16_ n17_ n18_ n19_ n20_ n21_ n22_ n23_ n24_ n25_ n26_ n27_ n28_ n29_ n30_ n31_ n32_ n33_ n34_ n35_ n36_ n37_ n38_ n39_ n40_; clear hb hbox hg) | ((with_reducible refine gate_dst (N := 30) rfl ?_); refine box_event ?hg (N := 30) ?hd (cs := #[.int .i64 0, .int .i64 0]) (t := 29) ?hr ?_; (case hd => rfl); (case hg => rfl); (case hr => first | (go_simp; done) | (go_simp; rfl)); intro gb545 hg w132 hbox hb; have n0_ := Aside0.mk (Kd.R_below (by (with_reducible repeat (first | apply Kd.R_alloc | apply Kd.R_drewN | apply Kd.R_drew)); exact HO531.out) hb); have n1_ := Aside0.mk (blk_below (bk_ BK490.out) hb); have n2_ := Aside0.mk (blk_below (bk_ BK494.out) hb); have n3_ := Aside0.mk (blk_below (bk_ BK498.out) hb); have n4_ := Aside0.mk (blk_below (bk_ BK502.out) hb); have n5_ := Aside0.mk (blk_below (bk_ BK506.out) hb); have n6_ := Aside0.mk (blk_below (bk_ BK510.out) hb); have n7_ := Aside0.mk (blk_below (bk_ BK514.out) hb); have n8_ := Aside0.mk (blk_below (bk_ BK518.out) hb); have n9_ := Aside0.mk (blk_below (bk_ BK522.out) hb); have n10_ := Aside0.mk (blk_below (bk_ BK526.out) hb); have n11_ := Aside0.mk (blk_below (bk_ BK537.out) hb); have n12_ := Aside0.mk (blk_below (bk_ BK538.out) hb); have n13_ := Aside0.mk (blk_below (bk_ BK544.out) hb); have n14_ := Aside0.mk (below_step (bws_ HB.out) hb); have n15_ := Aside0.mk (hbox); have n16_ := Aside0.mk ((ge_ hg (bws_ HB.out))); have n17_ := Aside0.mk ((ge_ hg (bws_ HB.out))); have n18_ := Aside0.mk ((ne1_ hg (bk_ BK490.out))); have n19_ := Aside0.mk ((ne2_ hg (bk_ BK490.out))); have n20_ := Aside0.mk ((ne1_ hg (bk_ BK494.out))); have n21_ := Aside0.mk ((ne2_ hg (bk_ BK494.out))); have n22_ := Aside0.mk ((ne1_ hg (bk_ BK498.out))); have n23_ := Aside0.mk ((ne2_ hg (bk_ BK498.out))); have n24_ := Aside0.mk ((ne1_ hg (bk_ BK502.out))); have n25_ := Aside0.mk ((ne2_ hg (bk_ BK502.out))); have n26_ := Aside0.mk ((ne1_ hg (bk_ BK506.out))); have n27_ := Aside0.mk ((ne2_ hg (bk_ BK506.out))); have n28_ := Aside0.mk ((ne1_ hg (bk_ BK510.out))); have n29_ := Aside0.mk ((ne2_ hg (bk_ BK510.out))); have n30_ := Aside0.mk ((ne1_ hg (bk_ BK514.out))); have n31_ := Aside0.mk ((ne2_ hg (bk_ BK514.out))); have n32_ := Aside0.mk ((ne1_ hg (bk_ BK518.out))); have n33_ := Aside0.mk ((ne2_ hg (bk_ BK518.out))); have n34_ := Aside0.mk ((ne1_ hg (bk_ BK522.out))); have n35_ := Aside0.mk ((ne2_ hg (bk_ BK522.out))); have n36_ := Aside0.mk ((ne1_ hg (bk_ BK526.out))); have n37_ := Aside0.mk ((ne2_ hg (bk_ BK526.out))); have n38_ := Aside0.mk ((ne1_ hg (bk_ BK537.out))); have n39_ := Aside0.mk ((ne2_ hg (bk_ BK537.out))); have n40_ := Aside0.mk ((ne1_ hg (bk_ BK538.out))); have n41_ := Aside0.mk ((ne2_ hg (bk_ BK538.out))); have n42_ := Aside0.mk ((ne1_ hg (bk_ BK544.out))); have n43_ := Aside0.mk ((ne2_ hg (bk_ BK544.out))); clear HO531; clear BK490; clear BK494; clear BK498; clear BK502; clear BK506; clear BK510; clear BK514; clear BK518; clear BK522; clear BK526; clear BK537; clear BK538; clear BK544; clear HB; have HO531 := n0_; have BK490 := n1_; have BK494 := n2_; have BK498 := n3_; have BK502 := n4_; have BK506 := n5_; have BK510 := n6_; have BK514 := n7_; have BK518 := n8_; have BK522 := n9_; have BK526 := n10_; have BK537 := n11_; have BK538 := n12_; have BK544 := n13_; have HB := n14_; have BK545 := n15_; have GW545 := n16_; have GE545 := n17_; have NB490_545 := n18_; have NB545_490 := n19_; have NB494_545 := n20_; have NB545_494 := n21_; have NB498_545 := n22_; have NB545_498 := n23_; have NB502_545 := n24_; have NB545_502 := n25_; have NB506_545 := n26_; have NB545_506 := n27_; have NB510_545 := n28_; have NB545_510 := n29_; have NB514_545 := n30_; have NB545_514 := n31_; have NB518_545 := n32_; have NB545_518 := n33_; have NB522_545 := n34_; have NB545_522 := n35_; have NB526_545 := n36_; have NB545_526 := n37_; have NB537_545 := n38_; have NB545_537 := n39_; have NB538_545 := n40_; have NB545_538 := n41_; have NB544_545 := n42_; have NB545_544 := n43_; clear n0_ n1_ n2_ n3_ n4_ n5_ n6_ n7_ n8_ n9_ n10_ n11_ n12_ n13_ n14_ n15_ n16_ n17_ n18_ n19_ n20_ n21_ n22_ n23_ n24_ n25_ n26_ n27_ n28_ n29_ n30_ n31_ n32_ n33_ n34_ n35_ n36_ n37_ n38_ n39_ n40_ n41_ n42_ n43_; clear hb hbox hg; have hnb133 := NB544_490.out; have hnc133 := NB490_544.out; have hnb134 := NB544_494.out; have hnc134 := NB494_544.out; have hnb135 := NB544_498.out; have hnc135 := NB498_544.out; have hnb136 := NB544_502.out; have hnc136 := NB502_544.out; have hnb137 := NB544_506.out; have hnc137 := NB506_544.out; have hnb138 := NB544_510.out; have hnc138 := NB510_544.out; have hnb139 := NB544_514.out; have hnc139 := NB514_544.out; have hnb140 := NB544_518.out; have hnc140 := NB518_544.out; have hnb141 := NB544_522.out; have hnc141 := NB522_544.out; have hnb142 := NB544_526.out; have hnc142 := NB526_544.out; have hnb143 := NB544_537.out; have hnc143 := NB537_544.out; have hnb144 := NB544_538.out; have hnc144 := NB538_544.out; have hnb145 := NB544_545.out; have hnc145 := NB545_544.out; have hcz146_0 : w132.cell? ⟨gb544, 0, none⟩ = some (.int .i64 0) := (blk_cell BK544.out 0).trans rfl; have hcz146_1 : w132.cell? ⟨gb544, 1, none⟩ = some (.int .i64 0) := (blk_cell BK544.out 1).trans rfl; have hfz146_0 := blk_frozen BK544.out 0; have hfz146_1 := blk_frozen BK544.out 1; have hnb147 := NB545_490.out; have hnc147 := NB490_545.out; have hnb148 := NB545_494.out; have hnc148 := NB494_545.out; have hnb149 := NB545_498.out; have hnc149 := NB498_545.out; have hnb150 := NB545_502.out; have hnc150 := NB502_545.out; have hnb151 := NB545_506.out; have hnc151 := NB506_545.out; have hnb152 := NB545_510.out; have hnc152 := NB510_545.out; have hnb153 := NB545_514.out; have hnc153 := NB514_545.out; have hnb154 := NB545_518.out; have hnc154 := NB518_545.out; have hnb155 := NB545_522.out; have hnc155 := NB522_545.out; have hnb156 := NB545_526.out; have hnc156 := NB526_545.out; have hnb157 := NB545_537.out; have hnc157 := NB537_545.out; have hnb158 := NB545_538.out; have hnc158 := NB538_545.out; have hcz159_0 : w132.cell? ⟨gb545, 0, none⟩ = some (.int .i64 0) := (blk_cell BK545.out 0).trans rfl; have hcz159_1 : w132.cell? ⟨gb545, 1, none⟩ = some (.int .i64 0) := (blk_cell BK545.out 1).trans rfl; have hfz159_0 := blk_frozen BK545.out 0; have hfz159_1 := blk_frozen BK545.out 1) | ((with_reducible refine gate_callee (f := 18) rfl ?_); refine goesL_ (some 125) rfl rfl Try.func18 (by kernel_rfl) rfl #[.slice A0 l0.length c0] rfl gl_ ?_; (with_reducible refine (spec_DrawOnMap.calls k _ _ l0 t546 t547 t548 t549 _ ?side1 ?side2 A17.out).mono ?_); (case side1 => exact Kd.C_below HR0.out (bws_ HB.out)); (case side2 => exact HC0.out); rintro e w160 ⟨rfl, hb⟩; refine ⟨_, rfl, ?_⟩; have n0_ := Aside0.mk (Kd.R_below (by (with_reducible repeat (first | apply Kd.R_alloc | apply Kd.R_drewN | apply Kd.R_drew)); exact (Kd.R_mono (Kd.R_mono (Kd.R_far (p := ⟨gb545, 1, none⟩) (Kd.R_far (p := ⟨gb545, 0, none⟩) (Kd.R_far (p := ⟨gb544, 1, none⟩) (Kd.R_far (p := ⟨gb544, 0, none⟩) (Kd.R_types (Kd.R_types HO531.out BK544.out (by decide)) BK545.out (by decide)) (fun _ hk => hk.1.2) (.int .i64 t539)) (fun _ hk => hk.1.2) (.int .i64 t540)) (fun _ hk => hk.2) (.int .i64 t541)) (fun _ hk => hk.2) (.int .i64 t542)) (fun _ h_ => h_.1)) (fun _ h_ => h_.1))) hb); have n1_ := Aside0.mk (blk_below (g := gb490) (o := .cells #[.int .i64 t487, .int .i64 t488] 25 (0, 0)) (by (with_reducible repeat (first | refine blk_drewN ?_ _ | refine blk_drew ?_ | refine blk_alloc ?_ _)); refine blk_far ?_ NB490_545.out _; (with_reducible repeat (first | refine blk_drewN ?_ _ | refine blk_drew ?_ | refine blk_alloc ?_ _)); refine blk_far ?_ NB490_545.out _; (with_reducible repeat (first | refine blk_drewN ?_ _ | refine blk_drew ?_ | refine blk_alloc ?_ _)); refine blk_far ?_ NB490_544.out _; (with_reducible repeat (first | refine blk_drewN ?_ _ | refine blk_drew ?_ | refine blk_alloc ?_ _)); refine blk_far ?_ NB490_544.out _; (with_reducible repeat (first | refine blk_drewN ?_ _ | refine blk_drew ?_ | refine blk_alloc ?_ _)); exact BK490.out) hb); have n2_ := Aside0.mk (blk_below (g := gb494) (o := .cells #[.int .i64 t491, .int .i64 t492] 29 (0, 0)) (by (with_reducible repeat (first | refine blk_drewN ?_ _ | refine blk_drew ?_ | refine blk_alloc ?_ _)); refine blk_far ?_ NB494_545.out _; (with_reducible repeat (first | refine blk_drewN ?_ _ | refine blk_drew ?_ | refine blk_alloc ?_ _)); refine blk_far ?_ NB494_545.out _; (with_reducible repeat (first | refine blk_drewN ?_ _ | refine blk_drew ?_ | refine blk_alloc ?_ _)); refine blk_far ?_ NB494_544.out _; (with_reducible repeat (first | refine blk_drewN ?_ _ | refine blk_drew ?_ | refine blk_alloc ?_ _)); refine blk_far ?_ NB494_544.out _; (with_reducible repeat (first | refine blk_drewN ?_ _ | refine blk_drew ?_ | refine blk_alloc ?_ _)); exact BK494.out) hb); have n3_ := Aside0.mk (blk_below (g := gb498) (o := .cells #[.int .i64 t495, .int .i64 t496] 29 (0, 0)) (by (with_reducible repeat (first | refine blk_drewN ?_ _ | refine blk_drew ?_ | refine blk_alloc ?_ _)); refine blk_far ?_ NB498_545.out _; (with_reducible repeat (first | refine blk_drewN ?_ _ | refine blk_drew ?_ | refine blk_alloc ?_ _)); refine blk_far ?_ NB498_545.out _; (with_reducible repeat (first | refine blk_drewN ?_ _ | refine blk_drew ?_ | refine blk_alloc ?_ _)); refine blk_far ?_ NB498_544.out _; (with_reducible repeat (first | refine blk_drewN ?_ _ | refine blk_drew ?_ | refine blk_alloc ?_ _)); refine blk_far ?_ NB498_544.out _; (with_reducible repeat (first | refine blk_drewN ?_ _ | refine blk_drew ?_ | refine blk_alloc ?_ _)); exact BK498.out) hb); have n4_ := Aside0.mk (blk_below (g := gb502) (o := .cells #[.int .i64 t499, .int .i64 t500] 29 (0, 0)) (by (with_reducible repeat (first | refine blk_drewN ?_ _ | refine blk_drew ?_ | refine blk_alloc ?_ _)); refine blk_far ?_ NB502_545.out _; (with_reducible repeat (first | refine blk_drewN ?_ _ | refine blk_drew ?_ | refine blk_alloc ?_ _)); refine blk_far ?_ NB502_545.out _; (with_reducible repeat (first | refine blk_drewN ?_ _ | refine blk_drew ?_ | refine blk_alloc ?_ _)); refine blk_far ?_ NB502_544.out _; (with_reducible repeat (first | refine blk_drewN ?_ _ | refine blk_drew ?_ | refine blk_alloc ?_ _)); refine blk_far ?_ NB502_544.out _; (with_reducible repeat (first | refine blk_drewN ?_ _ | refine blk_drew ?_ | refine blk_alloc ?_ _)); exact BK502.out) hb); have n5_ := Aside0.mk (blk_below (g := gb506) (o := .cells #[.int .i64 t503, .int .i64 t504] 29 (0, 0)) (by (with_reducible repeat (first | refine blk_drewN ?_ _ | refine blk_drew ?_ | refine blk_alloc ?_ _)); refine blk_far ?_ NB506_545.out _; (with_reducible repeat (first | refine blk_drewN ?_ _ | refine blk_drew ?_ | refine blk_alloc ?_ _)); refine blk_far ?_ NB506_545.out _; (with_reducible repeat (first | refine blk_drewN ?_ _ | refine blk_drew ?_ | refine blk_alloc ?_ _)); refine blk_far ?_ NB506_544.out _; (with_reducible repeat (first | refine blk_drewN ?_ _ | refine blk_drew ?_ | refine blk_alloc ?_ _)); refine blk_far ?_ NB506_544.out _; (with_reducible repeat (first | refine blk_drewN ?_ _ | refine blk_drew ?_ | refine blk_alloc ?_ _)); exact BK506.out) hb); have n6_ := Aside0.mk (blk_below (g := gb510) (o := .cells #[.int .i64 t507, .int .i64 t508] 29 (0, 0)) (by (with_reducible repeat (first | refine blk_drewN ?_ _ | refine blk_drew ?_ | refine blk_alloc ?_ _)); refine blk_far ?_ NB510_545.out _; (with_reducible repeat (first | refine blk_drewN ?_ _ | refine blk_drew ?_ | refine blk_alloc ?_ _)); refine blk_far ?_ NB510_545.out _; (with_reducible repeat (first | refine blk_drewN ?_ _ | refine blk_drew ?_ | refine blk_alloc ?_ _)); refine blk_far ?_ NB510_544.out _; (with_reducible repeat (first | refine blk_drewN ?_ _ | refine blk_drew ?_ | refine blk_alloc ?_ _)); refine blk_far ?_ NB510_544.out _; (with_reducible repeat (first | refine blk_drewN ?_ _ | refine blk_drew ?_ | refine blk_alloc ?_ _)); exact BK510.out) hb); have n7_ := Aside0.mk (blk_below (g := gb514) (o := .cells #[.int .i64 t511, .int .i64 t512] 25 (0, 0)) (by (with_reducible repeat (first | refine blk_drewN ?_ _ | refine blk_drew ?_ | refine blk_alloc ?_ _)); refine blk_far ?_ NB514_545.out _; (with_reducible repeat (first | refine blk_drewN ?_ _ | refine blk_drew ?_ | refine blk_alloc ?_ _)); refine blk_far ?_ NB514_545.out _; (with_reducible repeat (first | refine blk_drewN ?_ _ | refine blk_drew ?_ | refine blk_alloc ?_ _)); refine blk_far ?_ NB514_544.out _; (with_reducible repeat (first | refine blk_drewN ?_ _ | refine blk_drew ?_ | refine blk_alloc ?_ _)); refine blk_far ?_ NB514_544.out _; (with_reducible repeat (first | refine blk_drewN ?_ _ | refine blk_drew ?_ | refine blk_alloc ?_ _)); exact BK514.out) hb); have n8_ := Aside0.mk (blk_below (g := gb518) (o := .cells #[.int .i64 t515, .int .i64 t516] 25 (0, 0)) (by (with_reducible repeat (first | refine blk_drewN ?_ _ | refine blk_drew ?_ | refine blk_alloc ?_ _)); refine blk_far ?_ NB518_545.out _; (with_reducible repeat (first | refine blk_drewN ?_ _ | refine blk_drew ?_ | refine blk_alloc ?_ _)); refine blk_far ?_ NB518_545.out _; (with_reducible repeat (first | refine blk_drewN ?_ _ | refine blk_drew ?_ | refine blk_alloc ?_ _)); refine blk_far ?_ NB518_544.out _; (with_reducible repeat (first | refine blk_drewN ?_ _ | refine blk_drew ?_ | refine blk_alloc ?_ _)); refine blk_far ?_ NB518_544.out _; (with_reducible repeat (first | refine blk_drewN ?_ _ | refine blk_drew ?_ | refine blk_alloc ?_ _)); exact BK518.out) hb); have n9_ := Aside0.mk (blk_below (g := gb522) (o := .cells #[.int .i64 t519, .int .i64 t520] 25 (0, 0)) (by (with_reducible repeat (first | refine blk_drewN ?_ _ | refine blk_drew ?_ | refine blk_alloc ?_ _)); refine blk_far ?_ NB522_545.out _; (with_reducible repeat (first | refine blk_drewN ?_ _ | refine blk_drew ?_ | refine blk_alloc ?_ _)); refine blk_far ?_ NB522_545.out _; (with_reducible repeat (first | refine blk_drewN ?_ _ | refine blk_drew ?_ | refine blk_alloc ?_ _)); refine blk_far ?_ NB522_544.out _; (with_reducible repeat (first | refine blk_drewN ?_ _ | refine blk_drew ?_ | refine blk_alloc ?_ _)); refine blk_far ?_ NB522_544.out _; (with_reducible repeat (first | refine blk_drewN ?_ _ | refine blk_drew ?_ | refine blk_alloc ?_ _)); exact BK522.out) hb); have n10_ := Aside0.mk (blk_below (g := gb526) (o := .cells #[.int .i64 t523, .int .i64 t524] 25 (0, 0)) (by (with_reducible repeat (first | refine blk_drewN ?_ _ | refine blk_drew ?_ | refine blk_alloc ?_ _)); refine blk_far ?_ NB526_545.out _; (with_reducible repeat (first | refine blk_drewN ?_ _ | refine blk_drew ?_ | refine blk_alloc ?_ _)); refine blk_far ?_ NB526_545.out _; (with_reducible repeat (first | refine blk_drewN ?_ _ | refine blk_drew ?_ | refine blk_alloc ?_ _)); refine blk_far ?_ NB526_544.out _; (with_reducible repeat (first | refine blk_drewN ?_ _ | refine blk_drew ?_ | refine blk_alloc ?_ _)); refine blk_far ?_ NB526_544.out _; (with_reducible repeat (first | refine blk_drewN ?_ _ | refine blk_drew ?_ | refine blk_alloc ?_ _)); exact BK526.out) hb); have n11_ := Aside0.mk (blk_below (g := gb537) (o := .cells #[.int .i64 t532, .int .i64 t533] 29 (0, 0)) (by (with_reducible repeat (first | refine blk_drewN ?_ _ | refine blk_drew ?_ | refine blk_alloc ?_ _)); refine blk_far ?_ NB537_545.out _; (with_reducible repeat (first | refine blk_drewN ?_ _ | refine blk_drew ?_ | refine blk_alloc ?_ _)); refine blk_far ?_ NB537_545.out _; (with_reducible repeat (first | refine blk_drewN ?_ _ | refine blk_drew ?_ | refine blk_alloc ?_ _)); refine blk_far ?_ NB537_544.out _; (with_reducible repeat (first | refine blk_drewN ?_ _ | refine blk_drew ?_ | refine blk_alloc ?_ _)); refine blk_far ?_ NB537_544.out _; (with_reducible repeat (first | refine blk_drewN ?_ _ | refine blk_drew ?_ | refine blk_alloc ?_ _)); exact BK537.out) hb); have n12_ := Aside0.mk (blk_below (g := gb538) (o := .cells #[.int .i64 t534, .int .i64 t535] 29 (0, 0)) (by (with_reducible repeat (first | refine blk_drewN ?_ _ | refine blk_drew ?_ | refine blk_alloc ?_ _)); refine blk_far ?_ NB538_545.out _; (with_reducible repeat (first | refine blk_drewN ?_ _ | refine blk_drew ?_ | refine blk_alloc ?_ _)); refine blk_far ?_ NB538_545.out _; (with_reducible repeat (first | refine blk_drewN ?_ _ | refine blk_drew ?_ | refine blk_alloc ?_ _)); refine blk_far ?_ NB538_544.out _; (with_reducible repeat (first | refine blk_drewN ?_ _ | refine blk_drew ?_ | refine blk_alloc ?_ _)); refine blk_far ?_ NB538_544.out _; (with_reducible repeat (first | refine blk_drewN ?_ _ | refine blk_drew ?_ | refine blk_alloc ?_ _)); exact BK538.out) hb); have n13_ := Aside0.mk (blk_below (g := gb544) (o := .cells #[.int .i64 t539, .int .i64 t540] 29 (0, 0)) (by (with_reducible repeat (first | refine blk_drewN ?_ _ | refine blk_drew ?_ | refine blk_alloc ?_ _)); refine blk_far ?_ NB544_545.out _; (with_reducible repeat (first | refine blk_drewN ?_ _ | refine blk_drew ?_ | refine blk_alloc ?_ _)); refine blk_far ?_ NB544_545.out _; (with_reducible repeat (first | refine blk_drewN ?_ _ | refine blk_drew ?_ | refine blk_alloc ?_ _)); refine blk_put (cs := #[.int .i64 t539, .int .i64 0]) ?_ 1 _ rfl; (with_reducible repeat (first | refine blk_drewN ?_ _ | refine blk_drew ?_ | refine blk_alloc ?_ _)); refine blk_put (cs := #[.int .i64 0, .int .i64 0]) ?_ 0 _ rfl; (with_reducible repeat (first | refine blk_drewN ?_ _ | refine blk_drew ?_ | refine blk_alloc ?_ _)); exact BK544.out) hb); have n14_ := Aside0.mk (blk_below (g := gb545) (o := .cells #[.int .i64 t541, .int .i64 t542] 29 (0, 0)) (by (with_reducible repeat (first | refine blk_drewN ?_ _ | refine blk_drew ?_ | refine blk_alloc ?_ _)); refine blk_put (cs := #[.int .i64 t541, .int .i64 0]) ?_ 1 _ rfl; (with_reducible repeat (first | refine blk_drewN ?_ _ | refine blk_drew ?_ | refine blk_alloc ?_ _)); refine blk_put (cs := #[.int .i64 0, .int .i64 0]) ?_ 0 _ rfl; (with_reducible repeat (first | refine blk_drewN ?_ _ | refine blk_drew ?_ | refine blk_alloc ?_ _)); refine blk_far ?_ NB545_544.out _; (with_reducible repeat (first | refine blk_drewN ?_ _ | refine blk_drew ?_ | refine blk_alloc ?_ _)); refine blk_far ?_ NB545_544.out _; (with_reducible repeat (first | refine blk_drewN ?_ _ | refine blk_drew ?_ | refine blk_alloc ?_ _)); exact BK545.out) hb); have n15_ := Aside0.mk (below_step (bws_ HB.out) hb); clear HO531; clear BK490; clear BK494; clear BK498; clear BK502; clear BK506; clear BK510; clear BK514; clear BK518; clear BK522; clear BK526; clear BK537; clear BK538; clear BK544; clear BK545; clear HB; have HO531 := n0_; have BK490 := n1_; have BK494 := n2_; have BK498 := n3_; have BK502 := n4_; have BK506 := n5_; have BK510 := n6_; have BK514 := n7_; have BK518 := n8_; have BK522 := n9_; have BK526 := n10_; have BK537 := n11_; have BK538 := n12_; have BK544 := n13_; have BK545 := n14_; have HB := n15_; clear n0_ n1_ n2_ n3_ n4_ n5_ n6_ n7_ n8_ n9_ n10_ n11_ n12_ n13_ n14_ n15_; (try clear hb); (try clear hb2); (try clear hk); (try clear hi)) | ((with_reducible refine gate_dst (N := 32) rfl ?_); refine box_event ?hg (N := 32) ?hd (cs := #[.int .i64 0, .int .i64 0]) (t := 29) ?hr ?_; (case hd => rfl); (case hg => rfl); (case hr => first | (go_simp; done) | (go_simp; rfl)); intro gb550 hg w161 hbox hb; have n0_ := Aside0.mk (Kd.R_below (by (with_reducible repeat (first | apply Kd.R_alloc | apply Kd.R_drewN | apply Kd.R_drew)); exact HO531.out) hb); have n1_ := Aside0.mk (blk_below (bk_ BK490.out) hb); have n2_ := Aside0.mk (blk_below (bk_ BK494.out) hb); have n3_ := Aside0.mk (blk_below (bk_ BK498.out) hb); have n4_ := Aside0.mk (blk_below (bk_ BK502.out) hb); have n5_ := Aside0.mk (blk_below (bk_ BK506.out) hb); have n6_ := Aside0.mk (blk_below (bk_ BK510.out) hb); have n7_ := Aside0.mk (blk_below (bk_ BK514.out) hb); have n8_ := Aside0.mk (blk_below (bk_ BK518.out) hb); have n9_ := Aside0.mk (blk_below (bk_ BK522.out) hb); have n10_ := Aside0.mk (blk_below (bk_ BK526.out) hb); have n11_ := Aside0.mk (blk_below (bk_ BK537.out) hb); have n12_ := Aside0.mk (blk_below (bk_ BK538.out) hb); have n13_ := Aside0.mk (blk_below (bk_ BK544.out) hb); have n14_ := Aside0.mk (blk_below (bk_ BK545.out) hb); have n15_ := Aside0.mk (below_step (bws_ HB.out) hb); have n16_ := Aside0.mk (hbox); have n17_ := Aside0.mk ((ge_ hg (bws_ HB.out))); have n18_ := Aside0.mk ((ge_ hg (bws_ HB.out))); have n19_ := Aside0.mk ((ne1_ hg (bk_ BK490.out))); have n20_ := Aside0.mk ((ne2_ hg (bk_ BK490.out))); have n21_ := Aside0.mk ((ne1_ hg (bk_ BK494.out))); have n22_ := Aside0.mk ((ne2_ hg (bk_ BK494.out))); have n23_ := Aside0.mk ((ne1_ hg (bk_ BK498.out))); have n24_ := Aside0.mk ((ne2_ hg (bk_ BK498.out))); have n25_ := Aside0.mk ((ne1_ hg (bk_ BK502.out))); have n26_ := Aside0.mk ((ne2_ hg (bk_ BK502.out))); have n27_ := Aside0.mk ((ne1_ hg (bk_ BK506.out))); have n28_ := Aside0.mk ((ne2_ hg (bk_ BK506.out))); have n29_ := Aside0.mk ((ne1_ hg (bk_ BK510.out))); have n30_ := Aside0.mk ((ne2_ hg (bk_ BK510.out))); have n31_ := Aside0.mk ((ne1_ hg (bk_ BK514.out))); have n32_ := Aside0.mk ((ne2_ hg (bk_ BK514.out))); have n33_ := Aside0.mk ((ne1_ hg (bk_ BK518.out))); have n34_ := Aside0.mk ((ne2_ hg (bk_ BK518.out))); have n35_ := Aside0.mk ((ne1_ hg (bk_ BK522.out))); have n36_ := Aside0.mk ((ne2_ hg (bk_ BK522.out))); have n37_ := Aside0.mk ((ne1_ hg (bk_ BK526.out))); have n38_ := Aside0.mk ((ne2_ hg (bk_ BK526.out))); have n39_ := Aside0.mk ((ne1_ hg (bk_ BK537.out))); have n40_ := Aside0.mk ((ne2_ hg (bk_ BK537.out))); have n41_ := Aside0.mk ((ne1_ hg (bk_ BK538.out))); have n42_ := Aside0.mk ((ne2_ hg (bk_ BK538.out))); have n43_ := Aside0.mk ((ne1_ hg (bk_ BK544.out))); have n44_ := Aside0.mk ((ne2_ hg (bk_ BK544.out))); have n45_ := Aside0.mk ((ne1_ hg (bk_ BK545.out))); have n46_ := Aside0.mk ((ne2_ hg (bk_ BK545.out))); clear HO531; clear BK490; clear BK494; clear BK498; clear BK502; clear BK506; clear BK510; clear BK514; clear BK518; clear BK522; clear BK526; clear BK537; clear BK538; clear BK544; clear BK545; clear HB; have HO531 := n0_; have BK490 := n1_; have BK494 := n2_; have BK498 := n3_; have BK502 := n4_; have BK506 := n5_; have BK510 := n6_; have BK514 := n7_; have BK518 := n8_; have BK522 := n9_; have BK526 := n10_; have BK537 := n11_; have BK538 := n12_; have BK544 := n13_; have BK545 := n14_; have HB := n15_; have BK550 := n16_; have GW550 := n17_; have GE550 := n18_; have NB490_550 := n19_; have NB550_490 := n20_; have NB494_550 := n21_; have NB550_494 := n22_; have NB498_550 := n23_; have NB550_498 := n24_; have NB502_550 := n25_; have NB550_502 := n26_; have NB506_550 := n27_; have NB550_506 := n28_; have NB510_550 := n29_; have NB550_510 := n30_; have NB514_550 := n31_; have NB550_514 := n32_; have NB518_550 := n33_; have NB550_518 := n34_; have NB522_550 := n35_; have NB550_522 := n36_; have NB526_550 := n37_; have NB550_526 := n38_; have NB537_550 := n39_; have NB550_537 := n40_; have NB538_550 := n41_; have NB550_538 := n42_; have NB544_550 := n43_; have NB550_544 := n44_; have NB545_550 := n45_; have NB550_545 := n46_; clear n0_ n1_ n2_ n3_ n4_ n5_ n6_ n7_ n8_ n9_ n10_ n11_ n12_ n13_ n14_ n15_ n16_ n17_ n18_ n19_ n20_ n21_ n22_ n23_ n24_ n25_ n26_ n27_ n28_ n29_ n30_ n31_ n32_ n33_ n34_ n35_ n36_ n37_ n38_ n39_ n40_ n41_ n42_ n43_ n44_ n45_ n46_; clear hb hbox hg; have hnb162 := NB550_490.out; have hnc162 := NB490_550.out; have hnb163 := NB550_494.out; have hnc163 := NB494_550.out; have hnb164 := NB550_498.out; have hnc164 := NB498_550.out; have hnb165 := NB550_502.out; have hnc165 := NB502_550.out; have hnb166 := NB550_506.out; have hnc166 := NB506_550.out; have hnb167 := NB550_510.out; have hnc167 := NB510_550.out; have hnb168 := NB550_514.out; have hnc168 := NB514_550.out; have hnb169 := NB550_518.out; have hnc169 := NB518_550.out; have hnb170 := NB550_522.out; have hnc170 := NB522_550.out; have hnb171 := NB550_526.out; have hnc171 := NB526_550.out; have hnb172 := NB550_537.out; have hnc172 := NB537_550.out; have hnb173 := NB550_538.out; have hnc173 := NB538_550.out; have hnb174 := NB550_544.out; have hnc174 := NB544_550.out; have hnb175 := NB550_545.out; have hnc175 := NB545_550.out; have hcz176_0 : w161.cell? ⟨gb550, 0, none⟩ = some (.int .i64 0) := (blk_cell BK550.out 0).trans rfl; have hcz176_1 : w161.cell? ⟨gb550, 1, none⟩ = some (.int .i64 0) := (blk_cell BK550.out 1).trans rfl; have hfz176_0 := blk_frozen BK550.out 0; have hfz176_1 := blk_frozen BK550.out 1) | ((with_reducible refine gate_callee (f := 19) rfl ?_); refine goesL_ (some 133) rfl rfl Try.func19 (by kernel_rfl) rfl #[.agg #[.int .i64 t546, .int .i64 t547], .int .i64 t548, .bool t549] rfl gl_ ?_; (with_reducible refine (impl_OnMap.calls k t546 t547 t548 t549 t551 t552 _ A18.out).mono ?_); rintro e w177 ⟨rfl, hb⟩; refine ⟨_, rfl, ?_⟩; have n0_ := Aside0.mk (Kd.R_below (by (with_reducible repeat (first | apply Kd.R_alloc | apply Kd.R_drewN | apply Kd.R_drew)); exact (Kd.R_mono (Kd.R_far (p := ⟨gb550, 1, none⟩) (Kd.R_far (p := ⟨gb550, 0, none⟩) (Kd.R_types HO531.out BK550.out (by decide)) (fun _ hk => hk.2) (.int .i64 t546)) (fun _ hk => hk.2) (.int .i64 t547)) (fun _ h_ => h_.1))) hb); have n1_ := Aside0.mk (blk_below (bf_ NB490_550.out BK490.out) hb); have n2_ := Aside0.mk (blk_below (bf_ NB494_550.out BK494.out) hb); have n3_ := Aside0.mk (blk_below (bf_ NB498_550.out BK498.out) hb); have n4_ := Aside0.mk (blk_below (bf_ NB502_550.out BK502.out) hb); have n5_ := Aside0.mk (blk_below (bf_ NB506_550.out BK506.out) hb); have n6_ := Aside0.mk (blk_below (bf_ NB510_550.out BK510.out) hb); have n7_ := Aside0.mk (blk_below (bf_ NB514_550.out BK514.out) hb); have n8_ := Aside0.mk (blk_below (bf_ NB518_550.out BK518.out) hb); have n9_ := Aside0.mk (blk_below (bf_ NB522_550.out BK522.out) hb); have n10_ := Aside0.mk (blk_below (bf_ NB526_550.out BK526.out) hb); have n11_ := Aside0.mk (blk_below (bf_ NB537_550.out BK537.out) hb); have n12_ := Aside0.mk (blk_below (bf_ NB538_550.out BK538.out) hb); have n13_ := Aside0.mk (blk_below (bf_ NB544_550.out BK544.out) hb); have n14_ := Aside0.mk (blk_below (bf_ NB545_550.out BK545.out) hb); have n15_ := Aside0.mk (blk_below (g := gb550) (o := .cells #[.int .i64 t546, .int .i64 t547] 29 (0, 0)) (by (with_reducible repeat (first | refine blk_drewN ?_ _ | refine blk_drew ?_ | refine blk_alloc ?_ _)); refine blk_put (cs := #[.int .i64 t546, .int .i64 0]) ?_ 1 _ rfl; (with_reducible repeat (first | refine blk_drewN ?_ _ | refine blk_drew ?_ | refine blk_alloc ?_ _)); refine blk_put (cs := #[.int .i64 0, .int .i64 0]) ?_ 0 _ rfl; (with_reducible repeat (first | refine blk_drewN ?_ _ | refine blk_drew ?_ | refine blk_alloc ?_ _)); exact BK550.out) hb); have n16_ := Aside0.mk (below_step (bws_ HB.out) hb); clear HO531; clear BK490; clear BK494; clear BK498; clear BK502; clear BK506; clear BK510; clear BK514; clear BK518; clear BK522; clear BK526; clear BK537; clear BK538; clear BK544; clear BK545; clear BK550; clear HB; have HO531 := n0_; have BK490 := n1_; have BK494 := n2_; have BK498 := n3_; have BK502 := n4_; have BK506 := n5_; have BK510 := n6_; have BK514 := n7_; have BK518 := n8_; have BK522 := n9_; have BK526 := n10_; have BK537 := n11_; have BK538 := n12_; have BK544 := n13_; have BK545 := n14_; have BK550 := n15_; have HB := n16_; clear n0_ n1_ n2_ n3_ n4_ n5_ n6_ n7_ n8_ n9_ n10_ n11_ n12_ n13_ n14_ n15_ n16_; (try clear hb); (try clear hb2); (try clear hk); (try clear hi); have hcz178_0 : w177.cell? ⟨gb550, 0, none⟩ = some (.int .i64 t546) := (blk_cell BK550.out 0).trans rfl; have hcz178_1 : w177.cell? ⟨gb550, 1, none⟩ = some (.int .i64 t547) := (blk_cell BK550.out 1).trans rfl; have hfz178_0 := blk_frozen BK550.out 0; have hfz178_1 := blk_frozen BK550.out 1) | ((with_reducible refine gate_callee (f := 20) rfl ?_); refine goesL_ (some 140) rfl rfl Try.func20 (by kernel_rfl) rfl #[.agg #[.int .i64 t546, .int .i64 t547], .int .i64 t548, .bool t549] rfl gl_ ?_; (with_reducible refine (spec_OnMap.calls k t546 t547 t548 t549 t553 t554 _ A19.out).mono ?_); rintro e w179 ⟨rfl, hb⟩; refine ⟨_, rfl, ?_⟩; have n0_ := Aside0.mk (Kd.R_below (by (with_reducible repeat (first | apply Kd.R_alloc | apply Kd.R_drewN | apply Kd.R_drew)); exact HO531.out) hb); have n1_ := Aside0.mk (blk_below (bk_ BK490.out) hb); have n2_ := Aside0.mk (blk_below (bk_ BK494.out) hb); have n3_ := Aside0.mk (blk_below (bk_ BK498.out) hb); have n4_ := Aside0.mk (blk_below (bk_ BK502.out) hb); have n5_ := Aside0.mk (blk_below (bk_ BK506.out) hb); have n6_ := Aside0.mk (blk_below (bk_ BK510.out) hb); have n7_ := Aside0.mk (blk_below (bk_ BK514.out) hb); have n8_ := Aside0.mk (blk_below (bk_ BK518.out) hb); have n9_ := Aside0.mk (blk_below (bk_ BK522.out) hb); have n10_ := Aside0.mk (blk_below (bk_ BK526.out) hb); have n11_ := Aside0.mk (blk_below (bk_ BK537.out) hb); have n12_ := Aside0.mk (blk_below (bk_ BK538.out) hb); have n13_ := Aside0.mk (blk_below (bk_ BK544.out) hb); have n14_ := Aside0.mk (blk_below (bk_ BK545.out) hb); have n15_ := Aside0.mk (blk_below (bk_ BK550.out) hb); have n16_ := Aside0.mk (below_step (bws_ HB.out) hb); clear HO531; clear BK490; clear BK494; clear BK498; clear BK502; clear BK506; clear BK510; clear BK514; clear BK518; clear BK522; clear BK526; clear BK537; clear BK538; clear BK544; clear BK545; clear BK550; clear HB; have HO531 := n0_; have BK490 := n1_; have BK494 := n2_; have BK498 := n3_; have BK502 := n4_; have BK506 := n5_; have BK510 := n6_; have BK514 := n7_; have BK518 := n8_; have BK522 := n9_; have BK526 := n10_; have BK537 := n11_; have BK538 := n12_; have BK544 := n13_; have BK545 := n14_; have BK550 := n15_; have HB := n16_; clear n0_ n1_ n2_ n3_ n4_ n5_ n6_ n7_ n8_ n9_ n10_ n11_ n12_ n13_ n14_ n15_ n16_; (try clear hb); (try clear hb2); (try clear hk); (try clear hi)))
  (try simp only [Act.put, List.setIfInBounds_toArray, List.set_cons_zero, List.set_cons_succ])
  go_cut [205] (fun v205 wc => ∃ (kq : Nat) (x205_19 : Bool), v205 = .bool x205_19 ∧ Aside0 (laws_FnMaps.j0 kq t489 t493 t509 t513 t536 x205_19 t487 t488 t495 t496 t503 t504 t507 t508 t511 t512 t539 t540 t541 t542 = some r) ∧ Aside0 (kq ≤ k) ∧ Aside0 (wc.heap[gb490]? = some (.cells #[.int .i64 t487, .int .i64 t488] 25 (0, 0))) ∧ Aside0 (wc.heap[gb494]? = some (.cells #[.int .i64 t491, .int .i64 t492] 29 (0, 0))) ∧ Aside0 (wc.heap[gb498]? = some (.cells #[.int .i64 t495, .int .i64 t496] 29 (0, 0))) ∧ Aside0 (wc.heap[gb502]? = some (.cells #[.int .i64 t499, .int .i64 t500] 29 (0, 0))) ∧ Aside0 (wc.heap[gb506]? = some (.cells #[.int .i64 t503, .int .i64 t504] 29 (0, 0))) ∧ Aside0 (wc.heap[gb510]? = some (.cells #[.int .i64 t507, .int .i64 t508] 29 (0, 0))) ∧ Aside0 (wc.heap[gb514]? = some (.cells #[.int .i64 t511, .int .i64 t512] 25 (0, 0))) ∧ Aside0 (wc.heap[gb518]? = some (.cells #[.int .i64 t515, .int .i64 t516] 25 (0, 0))) ∧ Aside0 (wc.heap[gb522]? = some (.cells #[.int .i64 t519, .int .i64 t520] 25 (0, 0))) ∧ Aside0 (wc.heap[gb526]? = some (.cells #[.int .i64 t523, .int .i64 t524] 25 (0, 0))) ∧ Aside0 (wc.heap[gb537]? = some (.cells #[.int .i64 t532, .int .i64 t533] 29 (0, 0))) ∧ Aside0 (wc.heap[gb538]? = some (.cells #[.int .i64 t534, .int .i64 t535] 29 (0, 0))) ∧ Aside0 (wc.heap[gb544]? = some (.cells #[.int .i64 t539, .int .i64 t540] 29 (0, 0))) ∧ Aside0 (wc.heap[gb545]? = some (.cells #[.int .i64 t541, .int .i64 t542] 29 (0, 0))) ∧ Aside0 (wc.heap[gb550]? = some (.cells #[.int .i64 t546, .int .i64 t547] 29 (0, 0))) ∧ Aside0 (Below w.heap.size w wc))
  case first =>
   have H := HC20.out
   clear HC20
   by_cases c180 : t493 = t497
   ·as_aux_lemma =>
    rw [if_pos c180] at H
    have c180b0 : (t493 == t497) = true := beq_iff_eq.mpr c180
    have c180b1 : (t493 != t497) = false := bne_eq_false_iff_eq.mpr c180
    clear c180
    (first | rw [c180b0] | (simp only [i64_w, i32_w]; rw [c180b0]) | skip)
    by_cases c181 : (!(t491 == t495) || (!(t492 == t496))) = true
    ·as_aux_lemma =>
     rw [if_pos c181] at H
     exact absurd H (by simp)
    ·as_aux_lemma =>
     rw [if_neg c181] at H
     have c181b0 : (!(t491 == t495) || (!(t492 == t496))) = false := by simpa using c181
     clear c181
     by_cases c182 : t501 = t505
     ·as_aux_lemma =>
      rw [if_pos c182] at H
      have c182b0 : (t501 == t505) = true := beq_iff_eq.mpr c182
      have c182b1 : (t501 != t505) = false := bne_eq_false_iff_eq.mpr c182
      clear c182
      by_cases c183 : (!(t499 == t503) || (!(t500 == t504))) = true
      ·as_aux_lemma =>
       rw [if_pos c183] at H
       exact absurd H (by simp)
      ·as_aux_lemma =>
       rw [if_neg c183] at H
       have c183b0 : (!(t499 == t503) || (!(t500 == t504))) = false := by simpa using c183
       clear c183
       by_cases c184 : t513 = t517
       ·as_aux_lemma =>
        rw [if_pos c184] at H
        have c184b0 : (t513 == t517) = true := beq_iff_eq.mpr c184
        have c184b1 : (t513 != t517) = false := bne_eq_false_iff_eq.mpr c184
        clear c184
        by_cases c185 : (!(t511 == t515) || (!(t512 == t516))) = true
        ·as_aux_lemma =>
         rw [if_pos c185] at H
         exact absurd H (by simp)
        ·as_aux_lemma =>
         rw [if_neg c185] at H
         have c185b0 : (!(t511 == t515) || (!(t512 == t516))) = false := by simpa using c185
         clear c185
         by_cases c186 : t521 = t525
         ·as_aux_lemma =>
          rw [if_pos c186] at H
          have c186b0 : (t521 == t525) = true := beq_iff_eq.mpr c186
          have c186b1 : (t521 != t525) = false := bne_eq_false_iff_eq.mpr c186
          clear c186
          by_cases c187 : (!(t519 == t523) || (!(t520 == t524))) = true
          ·as_aux_lemma =>
           rw [if_pos c187] at H
           exact absurd H (by simp)
          ·as_aux_lemma =>
           rw [if_neg c187] at H
           have c187b0 : (!(t519 == t523) || (!(t520 == t524))) = false := by simpa using c187
           clear c187
           by_cases c188 : t536 = t543
           ·as_aux_lemma =>
            rw [if_pos c188] at H
            have c188b0 : (t536 == t543) = true := beq_iff_eq.mpr c188
            have c188b1 : (t536 != t543) = false := bne_eq_false_iff_eq.mpr c188
            clear c188
            by_cases c189 : (!(t532 == t539) || (!(t533 == t540))) = true
            ·as_aux_lemma =>
             rw [if_pos c189] at H
             exact absurd H (by simp)
            ·as_aux_lemma =>
             rw [if_neg c189] at H
             have c189b0 : (!(t532 == t539) || (!(t533 == t540))) = false := by simpa using c189
             clear c189
             by_cases c190 : (!(t534 == t541) || (!(t535 == t542))) = true
             ·as_aux_lemma =>
              rw [if_pos c190] at H
              exact absurd H (by simp)
             ·as_aux_lemma =>
              rw [if_neg c190] at H
              have c190b0 : (!(t534 == t541) || (!(t535 == t542))) = false := by simpa using c190
              clear c190
              by_cases c191 : t552 = t554
              ·as_aux_lemma =>
               rw [if_pos c191] at H
               have c191b0 : (t552 == t554) = true := beq_iff_eq.mpr c191
               have c191b1 : (t552 != t554) = false := bne_eq_false_iff_eq.mpr c191
               clear c191
               have H' := Aside0.mk H
               clear H
               have hcz206_0 : w179.cell? ⟨gb494, 0, none⟩ = some (.int .i64 t491) := (blk_cell BK494.out 0).trans rfl
               have hcz206_1 : w179.cell? ⟨gb494, 1, none⟩ = some (.int .i64 t492) := (blk_cell BK494.out 1).trans rfl
               have hfz206_0 := blk_frozen BK494.out 0
               have hfz206_1 := blk_frozen BK494.out 1
               have hcz220_0 : w179.cell? ⟨gb498, 0, none⟩ = some (.int .i64 t495) := (blk_cell BK498.out 0).trans rfl
               have hcz220_1 : w179.cell? ⟨gb498, 1, none⟩ = some (.int .i64 t496) := (blk_cell BK498.out 1).trans rfl
               have hfz220_0 := blk_frozen BK498.out 0
               have hfz220_1 := blk_frozen BK498.out 1
               have hcz233_0 : w179.cell? ⟨gb502, 0, none⟩ = some (.int .i64 t499) := (blk_cell BK502.out 0).trans rfl
               have hcz233_1 : w179.cell? ⟨gb502, 1, none⟩ = some (.int .i64 t500) := (blk_cell BK502.out 1).trans rfl
               have hfz233_0 := blk_frozen BK502.out 0
               have hfz233_1 := blk_frozen BK502.out 1
               have hcz245_0 : w179.cell? ⟨gb506, 0, none⟩ = some (.int .i64 t503) := (blk_cell BK506.out 0).trans rfl
               have hcz245_1 : w179.cell? ⟨gb506, 1, none⟩ = some (.int .i64 t504) := (blk_cell BK506.out 1).trans rfl
               have hfz245_0 := blk_frozen BK506.out 0
               have hfz245_1 := blk_frozen BK506.out 1
               have hcz256_0 : w179.cell? ⟨gb514, 0, none⟩ = some (.int .i64 t511) := (blk_cell BK514.out 0).trans rfl
               have hcz256_1 : w179.cell? ⟨gb514, 1, none⟩ = some (.int .i64 t512) := (blk_cell BK514.out 1).trans rfl
               have hfz256_0 := blk_frozen BK514.out 0
               have hfz256_1 := blk_frozen BK514.out 1
               have hcz266_0 : w179.cell? ⟨gb518, 0, none⟩ = some (.int .i64 t515) := (blk_cell BK518.out 0).trans rfl
               have hcz266_1 : w179.cell? ⟨gb518, 1, none⟩ = some (.int .i64 t516) := (blk_cell BK518.out 1).trans rfl
               have hfz266_0 := blk_frozen BK518.out 0
               have hfz266_1 := blk_frozen BK518.out 1
               have hcz275_0 : w179.cell? ⟨gb522, 0, none⟩ = some (.int .i64 t519) := (blk_cell BK522.out 0).trans rfl
               have hcz275_1 : w179.cell? ⟨gb522, 1, none⟩ = some (.int .i64 t520) := (blk_cell BK522.out 1).trans rfl
               have hfz275_0 := blk_frozen BK522.out 0
               have hfz275_1 := blk_frozen BK522.out 1
               have hcz283_0 : w179.cell? ⟨gb526, 0, none⟩ = some (.int .i64 t523) := (blk_cell BK526.out 0).trans rfl
               have hcz283_1 : w179.cell? ⟨gb526, 1, none⟩ = some (.int .i64 t524) := (blk_cell BK526.out 1).trans rfl
               have hfz283_0 := blk_frozen BK526.out 0
               have hfz283_1 := blk_frozen BK526.out 1
               have hcz290_0 : w179.cell? ⟨gb537, 0, none⟩ = some (.int .i64 t532) := (blk_cell BK537.out 0).trans rfl
               have hcz290_1 : w179.cell? ⟨gb537, 1, none⟩ = some (.int .i64 t533) := (blk_cell BK537.out 1).trans rfl
               have hfz290_0 := blk_frozen BK537.out 0
               have hfz290_1 := blk_frozen BK537.out 1
               have hcz296_0 : w179.cell? ⟨gb544, 0, none⟩ = some (.int .i64 t539) := (blk_cell BK544.out 0).trans rfl
               have hcz296_1 : w179.cell? ⟨gb544, 1, none⟩ = some (.int .i64 t540) := (blk_cell BK544.out 1).trans rfl
               have hfz296_0 := blk_frozen BK544.out 0
               have hfz296_1 := blk_frozen BK544.out 1
               have hcz301_0 : w179.cell? ⟨gb538, 0, none⟩ = some (.int .i64 t534) := (blk_cell BK538.out 0).trans rfl
               have hcz301_1 : w179.cell? ⟨gb538, 1, none⟩ = some (.int .i64 t535) := (blk_cell BK538.out 1).trans rfl
               have hfz301_0 := blk_frozen BK538.out 0
               have hfz301_1 := blk_frozen BK538.out 1
               have hcz305_0 : w179.cell? ⟨gb545, 0, none⟩ = some (.int .i64 t541) := (blk_cell BK545.out 0).trans rfl
               have hcz305_1 : w179.cell? ⟨gb545, 1, none⟩ = some (.int .i64 t542) := (blk_cell BK545.out 1).trans rfl
               have hfz305_0 := blk_frozen BK545.out 0
               have hfz305_1 := blk_frozen BK545.out 1
               go_wp2
               go_meet
               case rel => exact ⟨_, ((t551 != t553)), (by first | rfl | (simp; done) | (simp [*]; done)), H', ⟨by first | omega | exact Nat.le_refl _⟩, ⟨bk_ BK490.out⟩, ⟨bk_ BK494.out⟩, ⟨bk_ BK498.out⟩, ⟨bk_ BK502.out⟩, ⟨bk_ BK506.out⟩, ⟨bk_ BK510.out⟩, ⟨bk_ BK514.out⟩, ⟨bk_ BK518.out⟩, ⟨bk_ BK522.out⟩, ⟨bk_ BK526.out⟩, ⟨bk_ BK537.out⟩, ⟨bk_ BK538.out⟩, ⟨bk_ BK544.out⟩, ⟨bk_ BK545.out⟩, ⟨bk_ BK550.out⟩, ⟨bws_ HB.out⟩⟩
              ·as_aux_lemma =>
               rw [if_neg c191] at H
               exact absurd H (by simp)
           ·as_aux_lemma =>
            rw [if_neg c188] at H
            exact absurd H (by simp)
         ·as_aux_lemma =>
          rw [if_neg c186] at H
          exact absurd H (by simp)
       ·as_aux_lemma =>
        rw [if_neg c184] at H
        exact absurd H (by simp)
     ·as_aux_lemma =>
      rw [if_neg c182] at H
      exact absurd H (by simp)
   ·as_aux_lemma =>
    rw [if_neg c180] at H
    exact absurd H (by simp)
  case rest => as_aux_lemma =>
   clear HC20
   try clear c1
   try clear c2
   try clear p2
   try clear c3
   try clear c4
   try clear c5
   try clear c6
   try clear c7
   try clear c8
   try clear c9
   try clear c10
   try clear c11
   try clear c12
   try clear c13
   try clear c14
   try clear c15
   try clear c16
   try clear c17
   try clear c18
   try clear c19
   try clear c20
   try clear c21
   try clear c22
   try clear c23
   try clear c24
   try clear c25
   try clear c26
   try clear c27
   try clear c28
   try clear c29
   try clear c30
   try clear c31
   try clear c32
   try clear c37
   try clear c38
   try clear c39
   try clear c44
   try clear c45
   try clear c46
   try clear c47
   try clear c51
   try clear c52
   try clear c53
   try clear c54
   try clear c55
   try clear c59
   try clear c60
   try clear c61
   try clear c62
   try clear c63
   try clear c64
   try clear c69
   try clear c70
   try clear c71
   try clear c72
   try clear c73
   try clear c74
   try clear c75
   try clear c80
   try clear c81
   try clear c82
   try clear c83
   try clear c84
   try clear c85
   try clear c86
   try clear c87
   try clear c92
   try clear c93
   try clear c94
   try clear c95
   try clear c96
   try clear c97
   try clear c98
   try clear c99
   try clear c100
   try clear c107
   try clear c108
   try clear c109
   try clear c110
   try clear c111
   try clear c112
   try clear c113
   try clear c114
   try clear c115
   try clear c116
   try clear c117
   try clear c119
   try clear c120
   try clear c121
   try clear c122
   try clear c123
   try clear c124
   try clear c125
   try clear c126
   try clear c127
   try clear c128
   try clear c133
   try clear c134
   try clear c135
   try clear c136
   try clear c137
   try clear c138
   try clear c139
   try clear c140
   try clear c141
   try clear c142
   try clear c143
   try clear c144
   try clear c145
   try clear c147
   try clear c148
   try clear c149
   try clear c150
   try clear c151
   try clear c152
   try clear c153
   try clear c154
   try clear c155
   try clear c156
   try clear c157
   try clear c158
   try clear c162
   try clear c163
   try clear c164
   try clear c165
   try clear c166
   try clear c167
   try clear c168
   try clear c169
   try clear c170
   try clear c171
   try clear c172
   try clear c173
   try clear c174
   try clear c175
   try clear c180
   try clear c180b0
   try clear c180b1
   try clear c181
   try clear c181b0
   try clear c182
   try clear c182b0
   try clear c182b1
   try clear c183
   try clear c183b0
   try clear c184
   try clear c184b0
   try clear c184b1
   try clear c185
   try clear c185b0
   try clear c186
   try clear c186b0
   try clear c186b1
   try clear c187
   try clear c187b0
   try clear c188
   try clear c188b0
   try clear c188b1
   try clear c189
   try clear c189b0
   try clear c190
   try clear c190b0
   try clear c191
   try clear c191b0
   try clear c191b1
   try clear c192
   try clear c193
   try clear c194
   try clear c195
   try clear c196
   try clear c197
   try clear c198
   try clear c199
   try clear c200
   try clear c201
   try clear c202
   try clear c203
   try clear c204
   try clear c205
   try clear c207
   try clear c208
   try clear c209
   try clear c210
   try clear c211
   try clear c212
   try clear c213
   try clear c214
   try clear c215
   try clear c216
   try clear c217
   try clear c218
   try clear c219
   try clear c221
   try clear c222
   try clear c223
   try clear c224
   try clear c225
   try clear c226
   try clear c227
   try clear c228
   try clear c229
   try clear c230
   try clear c231
   try clear c232
   try clear c234
   try clear c235
   try clear c236
   try clear c237
   try clear c238
   try clear c239
   try clear c240
   try clear c241
   try clear c242
   try clear c243
   try clear c244
   try clear c246
   try clear c247
   try clear c248
   try clear c249
   try clear c250
   try clear c251
   try clear c252
   try clear c253
   try clear c254
   try clear c255
   try clear c257
   try clear c258
   try clear c259
   try clear c260
   try clear c261
   try clear c262
   try clear c263
   try clear c264
   try clear c265
   try clear c267
   try clear c268
   try clear c269
   try clear c270
   try clear c271
   try clear c272
   try clear c273
   try clear c274
   try clear c276
   try clear c277
   try clear c278
   try clear c279
   try clear c280
   try clear c281
   try clear c282
   try clear c284
   try clear c285
   try clear c286
   try clear c287
   try clear c288
   try clear c289
   try clear c291
   try clear c292
   try clear c293
   try clear c294
   try clear c295
   try clear c297
   try clear c298
   try clear c299
   try clear c300
   try clear c302
   try clear c303
   try clear c304
   try clear hcz101_0
   try clear hcz101_1
   try clear hcz118_0
   try clear hcz118_1
   try clear hcz129_0
   try clear hcz129_1
   try clear hcz146_0
   try clear hcz146_1
   try clear hcz159_0
   try clear hcz159_1
   try clear hcz176_0
   try clear hcz176_1
   try clear hcz178_0
   try clear hcz178_1
   try clear hcz206_0
   try clear hcz206_1
   try clear hcz220_0
   try clear hcz220_1
   try clear hcz233_0
   try clear hcz233_1
   try clear hcz23_0
   try clear hcz23_1
   try clear hcz245_0
   try clear hcz245_1
   try clear hcz256_0
   try clear hcz256_1
   try clear hcz266_0
   try clear hcz266_1
   try clear hcz275_0
   try clear hcz275_1
   try clear hcz27_0
   try clear hcz27_1
   try clear hcz283_0
   try clear hcz283_1
   try clear hcz28_0
   try clear hcz28_1
   try clear hcz290_0
   try clear hcz290_1
   try clear hcz296_0
   try clear hcz296_1
   try clear hcz301_0
   try clear hcz301_1
   try clear hcz305_0
   try clear hcz305_1
   try clear hcz33_0
   try clear hcz33_1
   try clear hcz34_0
   try clear hcz34_1
   try clear hcz40_0
   try clear hcz40_1
   try clear hcz41_0
   try clear hcz41_1
   try clear hcz48_0
   try clear hcz48_1
   try clear hcz56_0
   try clear hcz56_1
   try clear hcz65_0
   try clear hcz65_1
   try clear hcz66_0
   try clear hcz66_1
   try clear hcz76_0
   try clear hcz76_1
   try clear hcz77_0
   try clear hcz77_1
   try clear hcz88_0
   try clear hcz88_1
   try clear hcz89_0
   try clear hcz89_1
   try clear hfz101_0
   try clear hfz101_1
   try clear hfz118_0
   try clear hfz118_1
   try clear hfz129_0
   try clear hfz129_1
   try clear hfz146_0
   try clear hfz146_1
   try clear hfz159_0
   try clear hfz159_1
   try clear hfz176_0
   try clear hfz176_1
   try clear hfz178_0
   try clear hfz178_1
   try clear hfz206_0
   try clear hfz206_1
   try clear hfz220_0
   try clear hfz220_1
   try clear hfz233_0
   try clear hfz233_1
   try clear hfz23_0
   try clear hfz23_1
   try clear hfz245_0
   try clear hfz245_1
   try clear hfz256_0
   try clear hfz256_1
   try clear hfz266_0
   try clear hfz266_1
   try clear hfz275_0
   try clear hfz275_1
   try clear hfz27_0
   try clear hfz27_1
   try clear hfz283_0
   try clear hfz283_1
   try clear hfz28_0
   try clear hfz28_1
   try clear hfz290_0
   try clear hfz290_1
   try clear hfz296_0
   try clear hfz296_1
   try clear hfz301_0
   try clear hfz301_1
   try clear hfz305_0
   try clear hfz305_1
   try clear hfz33_0
   try clear hfz33_1
   try clear hfz34_0
   try clear hfz34_1
   try clear hfz40_0
   try clear hfz40_1
   try clear hfz41_0
   try clear hfz41_1
   try clear hfz48_0
   try clear hfz48_1
   try clear hfz56_0
   try clear hfz56_1
   try clear hfz65_0
   try clear hfz65_1
   try clear hfz66_0
   try clear hfz66_1
   try clear hfz76_0
   try clear hfz76_1
   try clear hfz77_0
   try clear hfz77_1
   try clear hfz88_0
   try clear hfz88_1
   try clear hfz89_0
   try clear hfz89_1
   obtain ⟨kq, x205_19, rfl, HA, HJ19, BK490, BK494, BK498, BK502, BK506, BK510, BK514, BK518, BK522, BK526, BK537, BK538, BK544, BK545, BK550, HB⟩ := hcut
   cases kq with
   | zero => exact absurd HA.out (by simp [laws_FnMaps.j0])
   | succ kj19 =>
    have H := HA.out
    clear HA
    simp only [laws_FnMaps.j0] at H
    by_cases c306 : x205_19 = true
    ·as_aux_lemma =>
     subst c306
     have H1 : (none) = some r := by rw [if_pos rfl] at H; exact H
     clear H
     have H := H1
     clear H1
     exact absurd H (by simp)
    ·as_aux_lemma =>
     replace c306 := Bool.eq_false_iff.mpr c306
     subst c306
     have H1 : (if t513 = 0 then ((impl_PlateOf.f kj19 t511 t512 t509).bind fun bt555 => (if bt555.2.2 = 0 then (if (!(bt555.1 == t507) || (!(bt555.2.1 == t508))) = true then (none) else (laws_FnMaps.j1 kj19 t489 t493 t536 t487 t488 t495 t496 t503 t504 t539 t540 t541 t542)) else (none))) else (laws_FnMaps.j1 kj19 t489 t493 t536 t487 t488 t495 t496 t503 t504 t539 t540 t541 t542)) = some r := by rw [if_neg (show ¬ (false = true) by decide)] at H; exact H
     clear H
     have H := H1
     clear H1
     have HC307 := Aside0.mk H
     clear H
     go_upto_if 207 with (fail)
     go_cut [] (fun wc => ∃ (kq : Nat), Aside0 (laws_FnMaps.j1 kq t489 t493 t536 t487 t488 t495 t496 t503 t504 t539 t540 t541 t542 = some r) ∧ Aside0 (kq ≤ kj19) ∧ Aside0 (wc.heap[gb490]? = some (.cells #[.int .i64 t487, .int .i64 t488] 25 (0, 0))) ∧ Aside0 (wc.heap[gb494]? = some (.cells #[.int .i64 t491, .int .i64 t492] 29 (0, 0))) ∧ Aside0 (wc.heap[gb498]? = some (.cells #[.int .i64 t495, .int .i64 t496] 29 (0, 0))) ∧ Aside0 (wc.heap[gb502]? = some (.cells #[.int .i64 t499, .int .i64 t500] 29 (0, 0))) ∧ Aside0 (wc.heap[gb506]? = some (.cells #[.int .i64 t503, .int .i64 t504] 29 (0, 0))) ∧ Aside0 (wc.heap[gb510]? = some (.cells #[.int .i64 t507, .int .i64 t508] 29 (0, 0))) ∧ Aside0 (wc.heap[gb514]? = some (.cells #[.int .i64 t511, .int .i64 t512] 25 (0, 0))) ∧ Aside0 (wc.heap[gb518]? = some (.cells #[.int .i64 t515, .int .i64 t516] 25 (0, 0))) ∧ Aside0 (wc.heap[gb522]? = some (.cells #[.int .i64 t519, .int .i64 t520] 25 (0, 0))) ∧ Aside0 (wc.heap[gb526]? = some (.cells #[.int .i64 t523, .int .i64 t524] 25 (0, 0))) ∧ Aside0 (wc.heap[gb537]? = some (.cells #[.int .i64 t532, .int .i64 t533] 29 (0, 0))) ∧ Aside0 (wc.heap[gb538]? = some (.cells #[.int .i64 t534, .int .i64 t535] 29 (0, 0))) ∧ Aside0 (wc.heap[gb544]? = some (.cells #[.int .i64 t539, .int .i64 t540] 29 (0, 0))) ∧ Aside0 (wc.heap[gb545]? = some (.cells #[.int .i64 t541, .int .i64 t542] 29 (0, 0))) ∧ Aside0 (wc.heap[gb550]? = some (.cells #[.int .i64 t546, .int .i64 t547] 29 (0, 0))) ∧ Aside0 (Below w.heap.size w wc))
     case first =>
      have H := HC307.out
      clear HC307
      by_cases c308 : t513 = 0
      ·as_aux_lemma =>
       rw [if_pos c308] at H
       have c308b0 : (t513 == 0) = true := beq_iff_eq.mpr c308
       have c308b1 : (t513 != 0) = false := bne_eq_false_iff_eq.mpr c308
       clear c308
       (first | rw [c308b0] | (simp only [i64_w, i32_w]; rw [c308b0]) | skip)
       replace H := Option.bind_eq_some_iff.mp H
       obtain ⟨⟨t555, t556, t557⟩, A3090, H⟩ := H
       replace H : (if t557 = 0 then (if (!(t555 == t507) || (!(t556 == t508))) = true then (none) else (laws_FnMaps.j1 kj19 t489 t493 t536 t487 t488 t495 t496 t503 t504 t539 t540 t541 t542)) else (none)) = some r := H
       have A309 := Aside0.mk A3090
       clear A3090
       by_cases c310 : t557 = 0
       ·as_aux_lemma =>
        rw [if_pos c310] at H
        have c310b0 : (t557 == 0) = true := beq_iff_eq.mpr c310
        have c310b1 : (t557 != 0) = false := bne_eq_false_iff_eq.mpr c310
        clear c310
        by_cases c311 : (!(t555 == t507) || (!(t556 == t508))) = true
        ·as_aux_lemma =>
         rw [if_pos c311] at H
         exact absurd H (by simp)
        ·as_aux_lemma =>
         rw [if_neg c311] at H
         have c311b0 : (!(t555 == t507) || (!(t556 == t508))) = false := by simpa using c311
         clear c311
         have H' := Aside0.mk H
         clear H
         have hcz326_0 : wc.cell? ⟨gb514, 0, none⟩ = some (.int .i64 t511) := (blk_cell BK514.out 0).trans rfl
         have hcz326_1 : wc.cell? ⟨gb514, 1, none⟩ = some (.int .i64 t512) := (blk_cell BK514.out 1).trans rfl
         have hfz326_0 := blk_frozen BK514.out 0
         have hfz326_1 := blk_frozen BK514.out 1
         go_wp2_with (first | ((with_reducible refine gate_callee (f := 6) rfl ?_); refine goesL_ (some 211) rfl rfl Try.func6 (by kernel_rfl) rfl #[.agg #[.int .i64 t511, .int .i64 t512], .int .i64 t509] rfl gl_ ?_; (with_reducible refine (impl_PlateOf.calls kj19 t511 t512 t509 t555 t556 t557 _ A309.out).mono ?_); rintro e w327 ⟨rfl, hb⟩; refine ⟨_, rfl, ?_⟩; have n0_ := Aside0.mk (blk_below (bk_ BK490.out) hb); have n1_ := Aside0.mk (blk_below (bk_ BK494.out) hb); have n2_ := Aside0.mk (blk_below (bk_ BK498.out) hb); have n3_ := Aside0.mk (blk_below (bk_ BK502.out) hb); have n4_ := Aside0.mk (blk_below (bk_ BK506.out) hb); have n5_ := Aside0.mk (blk_below (bk_ BK510.out) hb); have n6_ := Aside0.mk (blk_below (bk_ BK514.out) hb); have n7_ := Aside0.mk (blk_below (bk_ BK518.out) hb); have n8_ := Aside0.mk (blk_below (bk_ BK522.out) hb); have n9_ := Aside0.mk (blk_below (bk_ BK526.out) hb); have n10_ := Aside0.mk (blk_below (bk_ BK537.out) hb); have n11_ := Aside0.mk (blk_below (bk_ BK538.out) hb); have n12_ := Aside0.mk (blk_below (bk_ BK544.out) hb); have n13_ := Aside0.mk (blk_below (bk_ BK545.out) hb); have n14_ := Aside0.mk (blk_below (bk_ BK550.out) hb); have n15_ := Aside0.mk (below_step (bws_ HB.out) hb); clear BK490; clear BK494; clear BK498; clear BK502; clear BK506; clear BK510; clear BK514; clear BK518; clear BK522; clear BK526; clear BK537; clear BK538; clear BK544; clear BK545; clear BK550; clear HB; have BK490 := n0_; have BK494 := n1_; have BK498 := n2_; have BK502 := n3_; have BK506 := n4_; have BK510 := n5_; have BK514 := n6_; have BK518 := n7_; have BK522 := n8_; have BK526 := n9_; have BK537 := n10_; have BK538 := n11_; have BK544 := n12_; have BK545 := n13_; have BK550 := n14_; have HB := n15_; clear n0_ n1_ n2_ n3_ n4_ n5_ n6_ n7_ n8_ n9_ n10_ n11_ n12_ n13_ n14_ n15_; (try clear hb); (try clear hb2); (try clear hk); (try clear hi)) | ((with_reducible refine gate_dst (N := 39) rfl ?_); refine box_event ?hg (N := 39) ?hd (cs := #[.int .i64 0, .int .i64 0]) (t := 29) ?hr ?_; (case hd => rfl); (case hg => rfl); (case hr => first | (go_simp; done) | (go_simp; rfl)); intro gb558 hg w328 hbox hb; have n0_ := Aside0.mk (blk_below (bk_ BK490.out) hb); have n1_ := Aside0.mk (blk_below (bk_ BK494.out) hb); have n2_ := Aside0.mk (blk_below (bk_ BK498.out) hb); have n3_ := Aside0.mk (blk_below (bk_ BK502.out) hb); have n4_ := Aside0.mk (blk_below (bk_ BK506.out) hb); have n5_ := Aside0.mk (blk_below (bk_ BK510.out) hb); have n6_ := Aside0.mk (blk_below (bk_ BK514.out) hb); have n7_ := Aside0.mk (blk_below (bk_ BK518.out) hb); have n8_ := Aside0.mk (blk_below (bk_ BK522.out) hb); have n9_ := Aside0.mk (blk_below (bk_ BK526.out) hb); have n10_ := Aside0.mk (blk_below (bk_ BK537.out) hb); have n11_ := Aside0.mk (blk_below (bk_ BK538.out) hb); have n12_ := Aside0.mk (blk_below (bk_ BK544.out) hb); have n13_ := Aside0.mk (blk_below (bk_ BK545.out) hb); have n14_ := Aside0.mk (blk_below (bk_ BK550.out) hb); have n15_ := Aside0.mk (below_step (bws_ HB.out) hb); have n16_ := Aside0.mk (hbox); have n17_ := Aside0.mk ((ge_ hg (bws_ HB.out))); have n18_ := Aside0.mk ((ge_ hg (bws_ HB.out))); have n19_ := Aside0.mk ((ne1_ hg (bk_ BK490.out))); have n20_ := Aside0.mk ((ne2_ hg (bk_ BK490.out))); have n21_ := Aside0.mk ((ne1_ hg (bk_ BK494.out))); have n22_ := Aside0.mk ((ne2_ hg (bk_ BK494.out))); have n23_ := Aside0.mk ((ne1_ hg (bk_ BK498.out))); have n24_ := Aside0.mk ((ne2_ hg (bk_ BK498.out))); have n25_ := Aside0.mk ((ne1_ hg (bk_ BK502.out))); have n26_ := Aside0.mk ((ne2_ hg (bk_ BK502.out))); have n27_ := Aside0.mk ((ne1_ hg (bk_ BK506.out))); have n28_ := Aside0.mk ((ne2_ hg (bk_ BK506.out))); have n29_ := Aside0.mk ((ne1_ hg (bk_ BK510.out))); have n30_ := Aside0.mk ((ne2_ hg (bk_ BK510.out))); have n31_ := Aside0.mk ((ne1_ hg (bk_ BK514.out))); have n32_ := Aside0.mk ((ne2_ hg (bk_ BK514.out))); have n33_ := Aside0.mk ((ne1_ hg (bk_ BK518.out))); have n34_ := Aside0.mk ((ne2_ hg (bk_ BK518.out))); have n35_ := Aside0.mk ((ne1_ hg (bk_ BK522.out))); have n36_ := Aside0.mk ((ne2_ hg (bk_ BK522.out))); have n37_ := Aside0.mk ((ne1_ hg (bk_ BK526.out))); have n38_ := Aside0.mk ((ne2_ hg (bk_ BK526.out))); have n39_ := Aside0.mk ((ne1_ hg (bk_ BK537.out))); have n40_ := Aside0.mk ((ne2_ hg (bk_ BK537.out))); have n41_ := Aside0.mk ((ne1_ hg (bk_ BK538.out))); have n42_ := Aside0.mk ((ne2_ hg (bk_ BK538.out))); have n43_ := Aside0.mk ((ne1_ hg (bk_ BK544.out))); have n44_ := Aside0.mk ((ne2_ hg (bk_ BK544.out))); have n45_ := Aside0.mk ((ne1_ hg (bk_ BK545.out))); have n46_ := Aside0.mk ((ne2_ hg (bk_ BK545.out))); have n47_ := Aside0.mk ((ne1_ hg (bk_ BK550.out))); have n48_ := Aside0.mk ((ne2_ hg (bk_ BK550.out))); clear BK490; clear BK494; clear BK498; clear BK502; clear BK506; clear BK510; clear BK514; clear BK518; clear BK522; clear BK526; clear BK537; clear BK538; clear BK544; clear BK545; clear BK550; clear HB; have BK490 := n0_; have BK494 := n1_; have BK498 := n2_; have BK502 := n3_; have BK506 := n4_; have BK510 := n5_; have BK514 := n6_; have BK518 := n7_; have BK522 := n8_; have BK526 := n9_; have BK537 := n10_; have BK538 := n11_; have BK544 := n12_; have BK545 := n13_; have BK550 := n14_; have HB := n15_; have BK558 := n16_; have GW558 := n17_; have GE558 := n18_; have NB490_558 := n19_; have NB558_490 := n20_; have NB494_558 := n21_; have NB558_494 := n22_; have NB498_558 := n23_; have NB558_498 := n24_; have NB502_558 := n25_; have NB558_502 := n26_; have NB506_558 := n27_; have NB558_506 := n28_; have NB510_558 := n29_; have NB558_510 := n30_; have NB514_558 := n31_; have NB558_514 := n32_; have NB518_558 := n33_; have NB558_518 := n34_; have NB522_558 := n35_; have NB558_522 := n36_; have NB526_558 := n37_; have NB558_526 := n38_; have NB537_558 := n39_; have NB558_537 := n40_; have NB538_558 := n41_; have NB558_538 := n42_; have NB544_558 := n43_; have NB558_544 := n44_; have NB545_558 := n45_; have NB558_545 := n46_; have NB550_558 := n47_; have NB558_550 := n48_; clear n0_ n1_ n2_ n3_ n4_ n5_ n6_ n7_ n8_ n9_ n10_ n11_ n12_ n13_ n14_ n15_ n16_ n17_ n18_ n19_ n20_ n21_ n22_ n23_ n24_ n25_ n26_ n27_ n28_ n29_ n30_ n31_ n32_ n33_ n34_ n35_ n36_ n37_ n38_ n39_ n40_ n41_ n42_ n43_ n44_ n45_ n46_ n47_ n48_; clear hb hbox hg; have hnb334 := NB558_510.out; have hnc334 := NB510_558.out; have hcz344_0 : w328.cell? ⟨gb558, 0, none⟩ = some (.int .i64 0) := (blk_cell BK558.out 0).trans rfl; have hcz344_1 : w328.cell? ⟨gb558, 1, none⟩ = some (.int .i64 0) := (blk_cell BK558.out 1).trans rfl; have hfz344_0 := blk_frozen BK558.out 0; have hfz344_1 := blk_frozen BK558.out 1; have hcz358_0 : w328.cell? ⟨gb510, 0, none⟩ = some (.int .i64 t507) := (blk_cell BK510.out 0).trans rfl; have hcz358_1 : w328.cell? ⟨gb510, 1, none⟩ = some (.int .i64 t508) := (blk_cell BK510.out 1).trans rfl; have hfz358_0 := blk_frozen BK510.out 0; have hfz358_1 := blk_frozen BK510.out 1))
         go_meet
         case rel => exact ⟨_, H', ⟨by have := HJ19.out; first | omega | exact Nat.le_refl _⟩, ⟨bf2_ NB490_558.out BK490.out⟩, ⟨bf2_ NB494_558.out BK494.out⟩, ⟨bf2_ NB498_558.out BK498.out⟩, ⟨bf2_ NB502_558.out BK502.out⟩, ⟨bf2_ NB506_558.out BK506.out⟩, ⟨bf2_ NB510_558.out BK510.out⟩, ⟨bf2_ NB514_558.out BK514.out⟩, ⟨bf2_ NB518_558.out BK518.out⟩, ⟨bf2_ NB522_558.out BK522.out⟩, ⟨bf2_ NB526_558.out BK526.out⟩, ⟨bf2_ NB537_558.out BK537.out⟩, ⟨bf2_ NB538_558.out BK538.out⟩, ⟨bf2_ NB544_558.out BK544.out⟩, ⟨bf2_ NB545_558.out BK545.out⟩, ⟨bf2_ NB550_558.out BK550.out⟩, ⟨bws_ HB.out⟩⟩
       ·as_aux_lemma =>
        rw [if_neg c310] at H
        exact absurd H (by simp)
      ·as_aux_lemma =>
       rw [if_neg c308] at H
       have c308b0 : (t513 == 0) = false := beq_eq_false_iff_ne.mpr c308
       have c308b1 : (t513 != 0) = true := bne_iff_ne.mpr c308
       (first | rw [c308b0] | (simp only [i64_w, i32_w]; rw [c308b0]) | skip)
       have H' := Aside0.mk H
       clear H
       go_wp2
       go_meet
       case rel => exact ⟨_, H', ⟨by have := HJ19.out; first | omega | exact Nat.le_refl _⟩, ⟨bk_ BK490.out⟩, ⟨bk_ BK494.out⟩, ⟨bk_ BK498.out⟩, ⟨bk_ BK502.out⟩, ⟨bk_ BK506.out⟩, ⟨bk_ BK510.out⟩, ⟨bk_ BK514.out⟩, ⟨bk_ BK518.out⟩, ⟨bk_ BK522.out⟩, ⟨bk_ BK526.out⟩, ⟨bk_ BK537.out⟩, ⟨bk_ BK538.out⟩, ⟨bk_ BK544.out⟩, ⟨bk_ BK545.out⟩, ⟨bk_ BK550.out⟩, ⟨bws_ HB.out⟩⟩
     case rest => as_aux_lemma =>
      clear HC307
      try clear c1
      try clear c2
      try clear p2
      try clear c3
      try clear c4
      try clear c5
      try clear c6
      try clear c7
      try clear c8
      try clear c9
      try clear c10
      try clear c11
      try clear c12
      try clear c13
      try clear c14
      try clear c15
      try clear c16
      try clear c17
      try clear c18
      try clear c19
      try clear c20
      try clear c21
      try clear c22
      try clear c23
      try clear c24
      try clear c25
      try clear c26
      try clear c27
      try clear c28
      try clear c29
      try clear c30
      try clear c31
      try clear c32
      try clear c33
      try clear c34
      try clear c35
      try clear c37
      try clear c38
      try clear c39
      try clear c44
      try clear c45
      try clear c46
      try clear c47
      try clear c51
      try clear c52
      try clear c53
      try clear c54
      try clear c55
      try clear c59
      try clear c60
      try clear c61
      try clear c62
      try clear c63
      try clear c64
      try clear c69
      try clear c70
      try clear c71
      try clear c72
      try clear c73
      try clear c74
      try clear c75
      try clear c80
      try clear c81
      try clear c82
      try clear c83
      try clear c84
      try clear c85
      try clear c86
      try clear c87
      try clear c92
      try clear c93
      try clear c94
      try clear c95
      try clear c96
      try clear c97
      try clear c98
      try clear c99
      try clear c100
      try clear c107
      try clear c108
      try clear c109
      try clear c110
      try clear c111
      try clear c112
      try clear c113
      try clear c114
      try clear c115
      try clear c116
      try clear c117
      try clear c119
      try clear c120
      try clear c121
      try clear c122
      try clear c123
      try clear c124
      try clear c125
      try clear c126
      try clear c127
      try clear c128
      try clear c133
      try clear c134
      try clear c135
      try clear c136
      try clear c137
      try clear c138
      try clear c139
      try clear c140
      try clear c141
      try clear c142
      try clear c143
      try clear c144
      try clear c145
      try clear c147
      try clear c148
      try clear c149
      try clear c150
      try clear c151
      try clear c152
      try clear c153
      try clear c154
      try clear c155
      try clear c156
      try clear c157
      try clear c158
      try clear c162
      try clear c163
      try clear c164
      try clear c165
      try clear c166
      try clear c167
      try clear c168
      try clear c169
      try clear c170
      try clear c171
      try clear c172
      try clear c173
      try clear c174
      try clear c175
      try clear c180
      try clear c180b0
      try clear c180b1
      try clear c181
      try clear c181b0
      try clear c182
      try clear c182b0
      try clear c182b1
      try clear c183
      try clear c183b0
      try clear c184
      try clear c184b0
      try clear c184b1
      try clear c185
      try clear c185b0
      try clear c186
      try clear c186b0
      try clear c186b1
      try clear c187
      try clear c187b0
      try clear c188
      try clear c188b0
      try clear c188b1
      try clear c189
      try clear c189b0
      try clear c190
      try clear c190b0
      try clear c191
      try clear c191b0
      try clear c191b1
      try clear c192
      try clear c193
      try clear c194
      try clear c195
      try clear c196
      try clear c197
      try clear c198
      try clear c199
      try clear c200
      try clear c201
      try clear c202
      try clear c203
      try clear c204
      try clear c205
      try clear c207
      try clear c208
      try clear c209
      try clear c210
      try clear c211
      try clear c212
      try clear c213
      try clear c214
      try clear c215
      try clear c216
      try clear c217
      try clear c218
      try clear c219
      try clear c221
      try clear c222
      try clear c223
      try clear c224
      try clear c225
      try clear c226
      try clear c227
      try clear c228
      try clear c229
      try clear c230
      try clear c231
      try clear c232
      try clear c234
      try clear c235
      try clear c236
      try clear c237
      try clear c238
      try clear c239
      try clear c240
      try clear c241
      try clear c242
      try clear c243
      try clear c244
      try clear c246
      try clear c247
      try clear c248
      try clear c249
      try clear c250
      try clear c251
      try clear c252
      try clear c253
      try clear c254
      try clear c255
      try clear c257
      try clear c258
      try clear c259
      try clear c260
      try clear c261
      try clear c262
      try clear c263
      try clear c264
      try clear c265
      try clear c267
      try clear c268
      try clear c269
      try clear c270
      try clear c271
      try clear c272
      try clear c273
      try clear c274
      try clear c276
      try clear c277
      try clear c278
      try clear c279
      try clear c280
      try clear c281
      try clear c282
      try clear c284
      try clear c285
      try clear c286
      try clear c287
      try clear c288
      try clear c289
      try clear c291
      try clear c292
      try clear c293
      try clear c294
      try clear c295
      try clear c297
      try clear c298
      try clear c299
      try clear c300
      try clear c302
      try clear c303
      try clear c304
      try clear c306
      try clear c308
      try clear c308b0
      try clear c308b1
      try clear c310
      try clear c310b0
      try clear c310b1
      try clear c311
      try clear c311b0
      try clear c312
      try clear c313
      try clear c314
      try clear c315
      try clear c316
      try clear c317
      try clear c318
      try clear c319
      try clear c320
      try clear c321
      try clear c322
      try clear c323
      try clear c324
      try clear c325
      try clear c329
      try clear c330
      try clear c331
      try clear c332
      try clear c333
      try clear c334
      try clear c335
      try clear c336
      try clear c337
      try clear c338
      try clear c339
      try clear c340
      try clear c341
      try clear c342
      try clear c343
      try clear c345
      try clear c346
      try clear c347
      try clear c348
      try clear c349
      try clear c350
      try clear c351
      try clear c352
      try clear c353
      try clear c354
      try clear c355
      try clear c356
      try clear c357
      try clear hcz101_0
      try clear hcz101_1
      try clear hcz118_0
      try clear hcz118_1
      try clear hcz129_0
      try clear hcz129_1
      try clear hcz146_0
      try clear hcz146_1
      try clear hcz159_0
      try clear hcz159_1
      try clear hcz176_0
      try clear hcz176_1
      try clear hcz178_0
      try clear hcz178_1
      try clear hcz206_0
      try clear hcz206_1
      try clear hcz220_0
      try clear hcz220_1
      try clear hcz233_0
      try clear hcz233_1
      try clear hcz23_0
      try clear hcz23_1
      try clear hcz245_0
      try clear hcz245_1
      try clear hcz256_0
      try clear hcz256_1
      try clear hcz266_0
      try clear hcz266_1
      try clear hcz275_0
      try clear hcz275_1
      try clear hcz27_0
      try clear hcz27_1
      try clear hcz283_0
      try clear hcz283_1
      try clear hcz28_0
      try clear hcz28_1
      try clear hcz290_0
      try clear hcz290_1
      try clear hcz296_0
      try clear hcz296_1
      try clear hcz301_0
      try clear hcz301_1
      try clear hcz305_0
      try clear hcz305_1
      try clear hcz326_0
      try clear hcz326_1
      try clear hcz33_0
      try clear hcz33_1
      try clear hcz344_0
      try clear hcz344_1
      try clear hcz34_0
      try clear hcz34_1
      try clear hcz358_0
      try clear hcz358_1
      try clear hcz40_0
      try clear hcz40_1
      try clear hcz41_0
      try clear hcz41_1
      try clear hcz48_0
      try clear hcz48_1
      try clear hcz56_0
      try clear hcz56_1
      try clear hcz65_0
      try clear hcz65_1
      try clear hcz66_0
      try clear hcz66_1
      try clear hcz76_0
      try clear hcz76_1
      try clear hcz77_0
      try clear hcz77_1
      try clear hcz88_0
      try clear hcz88_1
      try clear hcz89_0
      try clear hcz89_1
      try clear hfz101_0
      try clear hfz101_1
      try clear hfz118_0
      try clear hfz118_1
      try clear hfz129_0
      try clear hfz129_1
      try clear hfz146_0
      try clear hfz146_1
      try clear hfz159_0
      try clear hfz159_1
      try clear hfz176_0
      try clear hfz176_1
      try clear hfz178_0
      try clear hfz178_1
      try clear hfz206_0
      try clear hfz206_1
      try clear hfz220_0
      try clear hfz220_1
      try clear hfz233_0
      try clear hfz233_1
      try clear hfz23_0
      try clear hfz23_1
      try clear hfz245_0
      try clear hfz245_1
      try clear hfz256_0
      try clear hfz256_1
      try clear hfz266_0
      try clear hfz266_1
      try clear hfz275_0
      try clear hfz275_1
      try clear hfz27_0
      try clear hfz27_1
      try clear hfz283_0
      try clear hfz283_1
      try clear hfz28_0
      try clear hfz28_1
      try clear hfz290_0
      try clear hfz290_1
      try clear hfz296_0
      try clear hfz296_1
      try clear hfz301_0
      try clear hfz301_1
      try clear hfz305_0
      try clear hfz305_1
      try clear hfz326_0
      try clear hfz326_1
      try clear hfz33_0
      try clear hfz33_1
      try clear hfz344_0
      try clear hfz344_1
      try clear hfz34_0
      try clear hfz34_1
      try clear hfz358_0
      try clear hfz358_1
      try clear hfz40_0
      try clear hfz40_1
      try clear hfz41_0
      try clear hfz41_1
      try clear hfz48_0
      try clear hfz48_1
      try clear hfz56_0
      try clear hfz56_1
      try clear hfz65_0
      try clear hfz65_1
      try clear hfz66_0
      try clear hfz66_1
      try clear hfz76_0
      try clear hfz76_1
      try clear hfz77_0
      try clear hfz77_1
      try clear hfz88_0
      try clear hfz88_1
      try clear hfz89_0
      try clear hfz89_1
      try clear p2
      obtain ⟨kq, HA, HJ306, BK490, BK494, BK498, BK502, BK506, BK510, BK514, BK518, BK522, BK526, BK537, BK538, BK544, BK545, BK550, HB⟩ := hcut
      cases kq with
      | zero => exact absurd HA.out (by simp [laws_FnMaps.j1])
      | succ kj306 =>
       have H := HA.out
       clear HA
       simp only [laws_FnMaps.j1] at H
       have HC359 := Aside0.mk H
       clear H
       go_upto_region 25 with (fail)
       go_cut [236] (fun v236 wc => ∃ (kq : Nat) (x236_358 : Bool), v236 = .bool x236_358 ∧ Aside0 (laws_FnMaps.j2 kq t489 t493 x236_358 t487 t488 t495 t496 t503 t504 = some r) ∧ Aside0 (kq ≤ kj306) ∧ Aside0 (wc.heap[gb490]? = some (.cells #[.int .i64 t487, .int .i64 t488] 25 (0, 0))) ∧ Aside0 (wc.heap[gb494]? = some (.cells #[.int .i64 t491, .int .i64 t492] 29 (0, 0))) ∧ Aside0 (wc.heap[gb498]? = some (.cells #[.int .i64 t495, .int .i64 t496] 29 (0, 0))) ∧ Aside0 (wc.heap[gb502]? = some (.cells #[.int .i64 t499, .int .i64 t500] 29 (0, 0))) ∧ Aside0 (wc.heap[gb506]? = some (.cells #[.int .i64 t503, .int .i64 t504] 29 (0, 0))) ∧ Aside0 (wc.heap[gb510]? = some (.cells #[.int .i64 t507, .int .i64 t508] 29 (0, 0))) ∧ Aside0 (wc.heap[gb514]? = some (.cells #[.int .i64 t511, .int .i64 t512] 25 (0, 0))) ∧ Aside0 (wc.heap[gb518]? = some (.cells #[.int .i64 t515, .int .i64 t516] 25 (0, 0))) ∧ Aside0 (wc.heap[gb522]? = some (.cells #[.int .i64 t519, .int .i64 t520] 25 (0, 0))) ∧ Aside0 (wc.heap[gb526]? = some (.cells #[.int .i64 t523, .int .i64 t524] 25 (0, 0))) ∧ Aside0 (wc.heap[gb537]? = some (.cells #[.int .i64 t532, .int .i64 t533] 29 (0, 0))) ∧ Aside0 (wc.heap[gb538]? = some (.cells #[.int .i64 t534, .int .i64 t535] 29 (0, 0))) ∧ Aside0 (wc.heap[gb544]? = some (.cells #[.int .i64 t539, .int .i64 t540] 29 (0, 0))) ∧ Aside0 (wc.heap[gb545]? = some (.cells #[.int .i64 t541, .int .i64 t542] 29 (0, 0))) ∧ Aside0 (wc.heap[gb550]? = some (.cells #[.int .i64 t546, .int .i64 t547] 29 (0, 0))) ∧ Aside0 (Below w.heap.size w wc))
       case first =>
        have H := HC359.out
        clear HC359
        by_cases c360 : t536 = 0
        ·as_aux_lemma =>
         rw [if_pos c360] at H
         have c360b0 : (t536 == 0) = true := beq_iff_eq.mpr c360
         have c360b1 : (t536 != 0) = false := bne_eq_false_iff_eq.mpr c360
         clear c360
         (first | rw [c360b0] | (simp only [i64_w, i32_w]; rw [c360b0]) | skip)
         by_cases c361 : t539 > t541
         ·as_aux_lemma =>
          rw [if_pos c361] at H
          exact absurd H (by simp)
         ·as_aux_lemma =>
          rw [if_neg c361] at H
          have c361b0 : decide (t541 < t539) = false := decide_eq_false c361
          clear c361
          have H' := Aside0.mk H
          clear H
          have hcz376_0 : wc.cell? ⟨gb544, 0, none⟩ = some (.int .i64 t539) := (blk_cell BK544.out 0).trans rfl
          have hcz376_1 : wc.cell? ⟨gb544, 1, none⟩ = some (.int .i64 t540) := (blk_cell BK544.out 1).trans rfl
          have hfz376_0 := blk_frozen BK544.out 0
          have hfz376_1 := blk_frozen BK544.out 1
          have hcz390_0 : wc.cell? ⟨gb545, 0, none⟩ = some (.int .i64 t541) := (blk_cell BK545.out 0).trans rfl
          have hcz390_1 : wc.cell? ⟨gb545, 1, none⟩ = some (.int .i64 t542) := (blk_cell BK545.out 1).trans rfl
          have hfz390_0 := blk_frozen BK545.out 0
          have hfz390_1 := blk_frozen BK545.out 1
          go_wp2
          go_meet
          case rel => exact ⟨_, (decide (t540 > t542)), (by first | rfl | (simp; done) | (simp [*]; done)), H', ⟨by have := HJ19.out; have := HJ306.out; first | omega | exact Nat.le_refl _⟩, ⟨bk_ BK490.out⟩, ⟨bk_ BK494.out⟩, ⟨bk_ BK498.out⟩, ⟨bk_ BK502.out⟩, ⟨bk_ BK506.out⟩, ⟨bk_ BK510.out⟩, ⟨bk_ BK514.out⟩, ⟨bk_ BK518.out⟩, ⟨bk_ BK522.out⟩, ⟨bk_ BK526.out⟩, ⟨bk_ BK537.out⟩, ⟨bk_ BK538.out⟩, ⟨bk_ BK544.out⟩, ⟨bk_ BK545.out⟩, ⟨bk_ BK550.out⟩, ⟨bws_ HB.out⟩⟩
        ·as_aux_lemma =>
         rw [if_neg c360] at H
         have c360b0 : (t536 == 0) = false := beq_eq_false_iff_ne.mpr c360
         have c360b1 : (t536 != 0) = true := bne_iff_ne.mpr c360
         (first | rw [c360b0] | (simp only [i64_w, i32_w]; rw [c360b0]) | skip)
         have H' := Aside0.mk H
         clear H
         go_wp2
         go_meet
         case rel => exact ⟨_, (false), (by first | rfl | (simp; done) | (simp [*]; done)), H', ⟨by have := HJ19.out; have := HJ306.out; first | omega | exact Nat.le_refl _⟩, ⟨bk_ BK490.out⟩, ⟨bk_ BK494.out⟩, ⟨bk_ BK498.out⟩, ⟨bk_ BK502.out⟩, ⟨bk_ BK506.out⟩, ⟨bk_ BK510.out⟩, ⟨bk_ BK514.out⟩, ⟨bk_ BK518.out⟩, ⟨bk_ BK522.out⟩, ⟨bk_ BK526.out⟩, ⟨bk_ BK537.out⟩, ⟨bk_ BK538.out⟩, ⟨bk_ BK544.out⟩, ⟨bk_ BK545.out⟩, ⟨bk_ BK550.out⟩, ⟨bws_ HB.out⟩⟩
       case rest => as_aux_lemma =>
        clear HC359
        try clear c1
        try clear c2
        try clear p2
        try clear c3
        try clear c4
        try clear c5
        try clear c6
        try clear c7
        try clear c8
        try clear c9
        try clear c10
        try clear c11
        try clear c12
        try clear c13
        try clear c14
        try clear c15
        try clear c16
        try clear c17
        try clear c18
        try clear c19
        try clear c20
        try clear c21
        try clear c22
        try clear c23
        try clear c24
        try clear c25
        try clear c26
        try clear c27
        try clear c28
        try clear c29
        try clear c30
        try clear c31
        try clear c32
        try clear c33
        try clear c34
        try clear c35
        try clear c36
        try clear c37
        try clear c38
        try clear c39
        try clear c44
        try clear c45
        try clear c46
        try clear c47
        try clear c51
        try clear c52
        try clear c53
        try clear c54
        try clear c55
        try clear c59
        try clear c60
        try clear c61
        try clear c62
        try clear c63
        try clear c64
        try clear c69
        try clear c70
        try clear c71
        try clear c72
        try clear c73
        try clear c74
        try clear c75
        try clear c80
        try clear c81
        try clear c82
        try clear c83
        try clear c84
        try clear c85
        try clear c86
        try clear c87
        try clear c92
        try clear c93
        try clear c94
        try clear c95
        try clear c96
        try clear c97
        try clear c98
        try clear c99
        try clear c100
        try clear c107
        try clear c108
        try clear c109
        try clear c110
        try clear c111
        try clear c112
        try clear c113
        try clear c114
        try clear c115
        try clear c116
        try clear c117
        try clear c119
        try clear c120
        try clear c121
        try clear c122
        try clear c123
        try clear c124
        try clear c125
        try clear c126
        try clear c127
        try clear c128
        try clear c133
        try clear c134
        try clear c135
        try clear c136
        try clear c137
        try clear c138
        try clear c139
        try clear c140
        try clear c141
        try clear c142
        try clear c143
        try clear c144
        try clear c145
        try clear c147
        try clear c148
        try clear c149
        try clear c150
        try clear c151
        try clear c152
        try clear c153
        try clear c154
        try clear c155
        try clear c156
        try clear c157
        try clear c158
        try clear c162
        try clear c163
        try clear c164
        try clear c165
        try clear c166
        try clear c167
        try clear c168
        try clear c169
        try clear c170
        try clear c171
        try clear c172
        try clear c173
        try clear c174
        try clear c175
        try clear c180
        try clear c180b0
        try clear c180b1
        try clear c181
        try clear c181b0
        try clear c182
        try clear c182b0
        try clear c182b1
        try clear c183
        try clear c183b0
        try clear c184
        try clear c184b0
        try clear c184b1
        try clear c185
        try clear c185b0
        try clear c186
        try clear c186b0
        try clear c186b1
        try clear c187
        try clear c187b0
        try clear c188
        try clear c188b0
        try clear c188b1
        try clear c189
        try clear c189b0
        try clear c190
        try clear c190b0
        try clear c191
        try clear c191b0
        try clear c191b1
        try clear c192
        try clear c193
        try clear c194
        try clear c195
        try clear c196
        try clear c197
        try clear c198
        try clear c199
        try clear c200
        try clear c201
        try clear c202
        try clear c203
        try clear c204
        try clear c205
        try clear c207
        try clear c208
        try clear c209
        try clear c210
        try clear c211
        try clear c212
        try clear c213
        try clear c214
        try clear c215
        try clear c216
        try clear c217
        try clear c218
        try clear c219
        try clear c221
        try clear c222
        try clear c223
        try clear c224
        try clear c225
        try clear c226
        try clear c227
        try clear c228
        try clear c229
        try clear c230
        try clear c231
        try clear c232
        try clear c234
        try clear c235
        try clear c236
        try clear c237
        try clear c238
        try clear c239
        try clear c240
        try clear c241
        try clear c242
        try clear c243
        try clear c244
        try clear c246
        try clear c247
        try clear c248
        try clear c249
        try clear c250
        try clear c251
        try clear c252
        try clear c253
        try clear c254
        try clear c255
        try clear c257
        try clear c258
        try clear c259
        try clear c260
        try clear c261
        try clear c262
        try clear c263
        try clear c264
        try clear c265
        try clear c267
        try clear c268
        try clear c269
        try clear c270
        try clear c271
        try clear c272
        try clear c273
        try clear c274
        try clear c276
        try clear c277
        try clear c278
        try clear c279
        try clear c280
        try clear c281
        try clear c282
        try clear c284
        try clear c285
        try clear c286
        try clear c287
        try clear c288
        try clear c289
        try clear c291
        try clear c292
        try clear c293
        try clear c294
        try clear c295
        try clear c297
        try clear c298
        try clear c299
        try clear c300
        try clear c302
        try clear c303
        try clear c304
        try clear c306
        try clear c308
        try clear c308b0
        try clear c308b1
        try clear c310
        try clear c310b0
        try clear c310b1
        try clear c311
        try clear c311b0
        try clear c312
        try clear c313
        try clear c314
        try clear c315
        try clear c316
        try clear c317
        try clear c318
        try clear c319
        try clear c320
        try clear c321
        try clear c322
        try clear c323
        try clear c324
        try clear c325
        try clear c329
        try clear c330
        try clear c331
        try clear c332
        try clear c333
        try clear c334
        try clear c335
        try clear c336
        try clear c337
        try clear c338
        try clear c339
        try clear c340
        try clear c341
        try clear c342
        try clear c343
        try clear c345
        try clear c346
        try clear c347
        try clear c348
        try clear c349
        try clear c350
        try clear c351
        try clear c352
        try clear c353
        try clear c354
        try clear c355
        try clear c356
        try clear c357
        try clear c360
        try clear c360b0
        try clear c360b1
        try clear c361
        try clear c361b0
        try clear c362
        try clear c363
        try clear c364
        try clear c365
        try clear c366
        try clear c367
        try clear c368
        try clear c369
        try clear c370
        try clear c371
        try clear c372
        try clear c373
        try clear c374
        try clear c375
        try clear c377
        try clear c378
        try clear c379
        try clear c380
        try clear c381
        try clear c382
        try clear c383
        try clear c384
        try clear c385
        try clear c386
        try clear c387
        try clear c388
        try clear c389
        try clear hcz101_0
        try clear hcz101_1
        try clear hcz118_0
        try clear hcz118_1
        try clear hcz129_0
        try clear hcz129_1
        try clear hcz146_0
        try clear hcz146_1
        try clear hcz159_0
        try clear hcz159_1
        try clear hcz176_0
        try clear hcz176_1
        try clear hcz178_0
        try clear hcz178_1
        try clear hcz206_0
        try clear hcz206_1
        try clear hcz220_0
        try clear hcz220_1
        try clear hcz233_0
        try clear hcz233_1
        try clear hcz23_0
        try clear hcz23_1
        try clear hcz245_0
        try clear hcz245_1
        try clear hcz256_0
        try clear hcz256_1
        try clear hcz266_0
        try clear hcz266_1
        try clear hcz275_0
        try clear hcz275_1
        try clear hcz27_0
        try clear hcz27_1
        try clear hcz283_0
        try clear hcz283_1
        try clear hcz28_0
        try clear hcz28_1
        try clear hcz290_0
        try clear hcz290_1
        try clear hcz296_0
        try clear hcz296_1
        try clear hcz301_0
        try clear hcz301_1
        try clear hcz305_0
        try clear hcz305_1
        try clear hcz326_0
        try clear hcz326_1
        try clear hcz33_0
        try clear hcz33_1
        try clear hcz344_0
        try clear hcz344_1
        try clear hcz34_0
        try clear hcz34_1
        try clear hcz358_0
        try clear hcz358_1
        try clear hcz376_0
        try clear hcz376_1
        try clear hcz390_0
        try clear hcz390_1
        try clear hcz40_0
        try clear hcz40_1
        try clear hcz41_0
        try clear hcz41_1
        try clear hcz48_0
        try clear hcz48_1
        try clear hcz56_0
        try clear hcz56_1
        try clear hcz65_0
        try clear hcz65_1
        try clear hcz66_0
        try clear hcz66_1
        try clear hcz76_0
        try clear hcz76_1
        try clear hcz77_0
        try clear hcz77_1
        try clear hcz88_0
        try clear hcz88_1
        try clear hcz89_0
        try clear hcz89_1
        try clear hfz101_0
        try clear hfz101_1
        try clear hfz118_0
        try clear hfz118_1
        try clear hfz129_0
        try clear hfz129_1
        try clear hfz146_0
        try clear hfz146_1
        try clear hfz159_0
        try clear hfz159_1
        try clear hfz176_0
        try clear hfz176_1
        try clear hfz178_0
        try clear hfz178_1
        try clear hfz206_0
        try clear hfz206_1
        try clear hfz220_0
        try clear hfz220_1
        try clear hfz233_0
        try clear hfz233_1
        try clear hfz23_0
        try clear hfz23_1
        try clear hfz245_0
        try clear hfz245_1
        try clear hfz256_0
        try clear hfz256_1
        try clear hfz266_0
        try clear hfz266_1
        try clear hfz275_0
        try clear hfz275_1
        try clear hfz27_0
        try clear hfz27_1
        try clear hfz283_0
        try clear hfz283_1
        try clear hfz28_0
        try clear hfz28_1
        try clear hfz290_0
        try clear hfz290_1
        try clear hfz296_0
        try clear hfz296_1
        try clear hfz301_0
        try clear hfz301_1
        try clear hfz305_0
        try clear hfz305_1
        try clear hfz326_0
        try clear hfz326_1
        try clear hfz33_0
        try clear hfz33_1
        try clear hfz344_0
        try clear hfz344_1
        try clear hfz34_0
        try clear hfz34_1
        try clear hfz358_0
        try clear hfz358_1
        try clear hfz376_0
        try clear hfz376_1
        try clear hfz390_0
        try clear hfz390_1
        try clear hfz40_0
        try clear hfz40_1
        try clear hfz41_0
        try clear hfz41_1
        try clear hfz48_0
        try clear hfz48_1
        try clear hfz56_0
        try clear hfz56_1
        try clear hfz65_0
        try clear hfz65_1
        try clear hfz66_0
        try clear hfz66_1
        try clear hfz76_0
        try clear hfz76_1
        try clear hfz77_0
        try clear hfz77_1
        try clear hfz88_0
        try clear hfz88_1
        try clear hfz89_0
        try clear hfz89_1
        try clear p2
        obtain ⟨kq, x236_358, rfl, HA, HJ358, BK490, BK494, BK498, BK502, BK506, BK510, BK514, BK518, BK522, BK526, BK537, BK538, BK544, BK545, BK550, HB⟩ := hcut
        cases kq with
        | zero => exact absurd HA.out (by simp [laws_FnMaps.j2])
        | succ kj358 =>
         have H := HA.out
         clear HA
         simp only [laws_FnMaps.j2] at H
         by_cases c391 : x236_358 = true
         ·as_aux_lemma =>
          subst c391
          have H1 : (none) = some r := by rw [if_pos rfl] at H; exact H
          clear H
          have H := H1
          clear H1
          exact absurd H (by simp)
         ·as_aux_lemma =>
          replace c391 := Bool.eq_false_iff.mpr c391
          subst c391
          have H1 : (if t493 = 0 then ((laws_f6abs.f (wrap64 ((wrap64 (t496 * t489)) - t487))).bind fun t559 => (if t559 ≤ t489 then ((laws_f6abs.f (wrap64 ((wrap64 (t495 * t489)) - t488))).bind fun t560 => (if t560 ≤ t489 then (if t504 = t496 then ((laws_f6abs.f t503).bind fun t561 => ((laws_f6abs.f t495).bind fun t562 => (some (decide (t561 ≤ (wrap64 (t562 + 1))))))) else (none)) else (none))) else (none))) else (some true)) = some r := by rw [if_neg (show ¬ (false = true) by decide)] at H; exact H
          clear H
          have H := H1
          clear H1
          by_cases c392 : t493 = 0
          ·as_aux_lemma =>
           rw [if_pos c392] at H
           have c392b0 : (t493 == 0) = true := beq_iff_eq.mpr c392
           have c392b1 : (t493 != 0) = false := bne_eq_false_iff_eq.mpr c392
           clear c392
           replace H := Option.bind_eq_some_iff.mp H
           obtain ⟨t559, A3930, H⟩ := H
           replace H : (if t559 ≤ t489 then ((laws_f6abs.f (wrap64 ((wrap64 (t495 * t489)) - t488))).bind fun t560 => (if t560 ≤ t489 then (if t504 = t496 then ((laws_f6abs.f t503).bind fun t561 => ((laws_f6abs.f t495).bind fun t562 => (some (decide (t561 ≤ (wrap64 (t562 + 1))))))) else (none)) else (none))) else (none)) = some r := H
           have A393 := Aside0.mk A3930
           clear A3930
           by_cases c394 : t559 ≤ t489
           ·as_aux_lemma =>
            rw [if_pos c394] at H
            have c394b0 : decide (t559 ≤ t489) = true := decide_eq_true c394
            clear c394
            replace H := Option.bind_eq_some_iff.mp H
            obtain ⟨t560, A3950, H⟩ := H
            replace H : (if t560 ≤ t489 then (if t504 = t496 then ((laws_f6abs.f t503).bind fun t561 => ((laws_f6abs.f t495).bind fun t562 => (some (decide (t561 ≤ (wrap64 (t562 + 1))))))) else (none)) else (none)) = some r := H
            have A395 := Aside0.mk A3950
            clear A3950
            by_cases c396 : t560 ≤ t489
            ·as_aux_lemma =>
             rw [if_pos c396] at H
             have c396b0 : decide (t560 ≤ t489) = true := decide_eq_true c396
             clear c396
             by_cases c397 : t504 = t496
             ·as_aux_lemma =>
              rw [if_pos c397] at H
              have c397b0 : (t504 == t496) = true := beq_iff_eq.mpr c397
              have c397b1 : (t504 != t496) = false := bne_eq_false_iff_eq.mpr c397
              clear c397
              replace H := Option.bind_eq_some_iff.mp H
              obtain ⟨t561, A3980, H⟩ := H
              replace H : ((laws_f6abs.f t495).bind fun t562 => (some (decide (t561 ≤ (wrap64 (t562 + 1)))))) = some r := H
              have A398 := Aside0.mk A3980
              clear A3980
              replace H := Option.bind_eq_some_iff.mp H
              obtain ⟨t562, A3990, H⟩ := H
              replace H : (some (decide (t561 ≤ (wrap64 (t562 + 1))))) = some r := H
              have A399 := Aside0.mk A3990
              clear A3990
              obtain rfl := Option.some.inj H
              try go_wp2
              have n0_ := Aside0.mk (blk_drew BK490.out)
              have n1_ := Aside0.mk (blk_drew BK494.out)
              have n2_ := Aside0.mk (blk_drew BK498.out)
              have n3_ := Aside0.mk (blk_drew BK502.out)
              have n4_ := Aside0.mk (blk_drew BK506.out)
              have n5_ := Aside0.mk (blk_drew BK510.out)
              have n6_ := Aside0.mk (blk_drew BK514.out)
              have n7_ := Aside0.mk (blk_drew BK518.out)
              have n8_ := Aside0.mk (blk_drew BK522.out)
              have n9_ := Aside0.mk (blk_drew BK526.out)
              have n10_ := Aside0.mk (blk_drew BK537.out)
              have n11_ := Aside0.mk (blk_drew BK538.out)
              have n12_ := Aside0.mk (blk_drew BK544.out)
              have n13_ := Aside0.mk (blk_drew BK545.out)
              have n14_ := Aside0.mk (blk_drew BK550.out)
              have n15_ := Aside0.mk (below_drew1 HB.out)
              clear BK490 BK494 BK498 BK502 BK506 BK510 BK514 BK518 BK522 BK526 BK537 BK538 BK544 BK545 BK550 HB
              have BK490 := n0_; have BK494 := n1_; have BK498 := n2_; have BK502 := n3_; have BK506 := n4_; have BK510 := n5_; have BK514 := n6_; have BK518 := n7_; have BK522 := n8_; have BK526 := n9_
              have BK537 := n10_
              have BK538 := n11_
              have BK544 := n12_
              have BK545 := n13_
              have BK550 := n14_
              have HB := n15_
              clear n0_ n1_ n2_ n3_ n4_ n5_ n6_ n7_ n8_ n9_ n10_ n11_ n12_ n13_ n14_ n15_
              refine start_ (n := 40) (S := fun w' => w'.cell? ⟨gb498, 0, none⟩ = some (.int .i64 t495) ∧ w'.cell? ⟨gb498, 1, none⟩ = some (.int .i64 t496) ∧ w'.cell? ⟨gb490, 0, none⟩ = some (.int .i64 t487) ∧ w'.cell? ⟨gb490, 1, none⟩ = some (.int .i64 t488) ∧ w'.cell? ⟨gb506, 0, none⟩ = some (.int .i64 t503) ∧ w'.cell? ⟨gb506, 1, none⟩ = some (.int .i64 t504)) (ds := []) #[false, false, false, false, false, false, false, false, false, false, false, false, false, false, false, false, false, false, false, false, false, false, false, false, false, false, false, false, false, false, false, false, false, false, false, false, false, false, false, false] (by kernel_rfl) rfl rfl ⟨(blk_cell BK498.out 0).trans rfl, (blk_cell BK498.out 1).trans rfl, (blk_cell BK490.out 0).trans rfl, (blk_cell BK490.out 1).trans rfl, (blk_cell BK506.out 0).trans rfl, (blk_cell BK506.out 1).trans rfl⟩ (fun hHeld => ?_); refine with_tabW laws_FnMaps.tab29 laws_FnMaps.bits29 (fun HT_ HW_ => ?_)
              generalize wc.drew = w400 at BK490 BK494 BK498 BK502 BK506 BK510 BK514 BK518 BK522 BK526 BK537 BK538 BK544 BK545 BK550 HB hHeld ⊢
              refine pure_ (i := 0) (N := some 239) (v := ?_) (a' := ?_) #[true, false, false, false, false, false, false, false, false, false, false, false, false, false, false, false, false, false, false, false, false, false, false, false, false, false, false, false, false, false, false, false, false, false, false, false, false, false, false, false] rfl rfl (any_of HT_.out (by kernel_rfl)) (fun _ _ _ h => h) (Or.inl ⟨by rfl, ?_⟩) ?_ ?_
              rotate_left
              ·intro w'
               go_simp
               with_reducible rfl
              rotate_left
              ·simp only [Act.put, List.setIfInBounds_toArray, List.set_cons_zero, List.set_cons_succ, i64_w, i32_w]
               rfl
              refine pure_ (i := 2) (N := some 241) (v := ?_) (a' := ?_) #[true, false, true, false, false, false, false, false, false, false, false, false, false, false, false, false, false, false, false, false, false, false, false, false, false, false, false, false, false, false, false, false, false, false, false, false, false, false, false, false] rfl rfl (any_of HT_.out (by kernel_rfl)) (fun _ _ _ h => h) (Or.inl ⟨by rfl, ?_⟩) ?_ ?_
              rotate_left
              ·intro w'
               go_simp
               with_reducible rfl
              rotate_left
              ·simp only [Act.put, List.setIfInBounds_toArray, List.set_cons_zero, List.set_cons_succ, i64_w, i32_w]
               rfl
              refine pure_ (i := 4) (N := some 243) (v := ?_) (a' := ?_) #[true, false, true, false, true, false, false, false, false, false, false, false, false, false, false, false, false, false, false, false, false, false, false, false, false, false, false, false, false, false, false, false, false, false, false, false, false, false, false, false] rfl rfl (any_of HT_.out (by kernel_rfl)) (fun _ _ _ h => h) (Or.inl ⟨by rfl, ?_⟩) ?_ ?_
              rotate_left
              ·intro w'
               go_simp
               with_reducible rfl
              rotate_left
              ·simp only [Act.put, List.setIfInBounds_toArray, List.set_cons_zero, List.set_cons_succ, i64_w, i32_w]
               rfl
              refine pure_ (i := 8) (N := some 247) (v := ?_) (a' := ?_) #[true, false, true, false, true, false, false, false, true, false, false, false, false, false, false, false, false, false, false, false, false, false, false, false, false, false, false, false, false, false, false, false, false, false, false, false, false, false, false, false] rfl rfl (any_of HT_.out (by kernel_rfl)) (fun _ _ _ h => h) (Or.inl ⟨by rfl, ?_⟩) ?_ ?_
              rotate_left
              ·intro w'
               go_simp
               with_reducible rfl
              rotate_left
              ·simp only [Act.put, List.setIfInBounds_toArray, List.set_cons_zero, List.set_cons_succ, i64_w, i32_w]
               rfl
              refine take_ (i := 1) (N := some 240) (v := ?_) (a' := ?_) #[true, true, true, false, true, false, false, false, true, false, false, false, false, false, false, false, false, false, false, false, false, false, false, false, false, false, false, false, false, false, false, false, false, false, false, false, false, false, false, false] rfl rfl (take_ofW HT_.out HW_.out (by kernel_rfl)) (fun _ _ _ h => h) (Or.inl ⟨by rfl, ?_⟩) hHeld ?_ ?_
              rotate_left
              ·rintro w' ⟨s0, s1, s2, s3, s4, s5⟩
               go_simp
               with_reducible rfl
              rotate_left
              ·simp only [Act.put, List.setIfInBounds_toArray, List.set_cons_zero, List.set_cons_succ, i64_w, i32_w]
               rfl
              refine pure_ (i := 3) (N := some 242) (v := ?_) (a' := ?_) #[true, true, true, true, true, false, false, false, true, false, false, false, false, false, false, false, false, false, false, false, false, false, false, false, false, false, false, false, false, false, false, false, false, false, false, false, false, false, false, false] rfl rfl (any_of HT_.out (by kernel_rfl)) (fun _ _ _ h => h) (Or.inl ⟨by rfl, ?_⟩) ?_ ?_
              rotate_left
              ·intro w'
               go_simp
               with_reducible rfl
              rotate_left
              ·simp only [Act.put, List.setIfInBounds_toArray, List.set_cons_zero, List.set_cons_succ, i64_w, i32_w]
               rfl
              refine take_ (i := 5) (N := some 244) (v := ?_) (a' := ?_) #[true, true, true, true, true, true, false, false, true, false, false, false, false, false, false, false, false, false, false, false, false, false, false, false, false, false, false, false, false, false, false, false, false, false, false, false, false, false, false, false] rfl rfl (take_ofW HT_.out HW_.out (by kernel_rfl)) (fun _ _ _ h => h) (Or.inl ⟨by rfl, ?_⟩) hHeld ?_ ?_
              rotate_left
              ·rintro w' ⟨s0, s1, s2, s3, s4, s5⟩
               go_simp
               with_reducible rfl
              rotate_left
              ·simp only [Act.put, List.setIfInBounds_toArray, List.set_cons_zero, List.set_cons_succ, i64_w, i32_w]
               rfl
              refine pure_ (i := 6) (N := some 245) (v := ?_) (a' := ?_) #[true, true, true, true, true, true, true, false, true, false, false, false, false, false, false, false, false, false, false, false, false, false, false, false, false, false, false, false, false, false, false, false, false, false, false, false, false, false, false, false] rfl rfl (any_of HT_.out (by kernel_rfl)) (fun _ _ _ h => h) (Or.inl ⟨by rfl, ?_⟩) ?_ ?_
              rotate_left
              ·intro w'
               go_simp
               with_reducible rfl
              rotate_left
              ·simp only [Act.put, List.setIfInBounds_toArray, List.set_cons_zero, List.set_cons_succ, i64_w, i32_w]
               rfl
              refine one_ (i := 7) (N := some 246) #[true, true, true, true, true, true, true, true, true, false, false, false, false, false, false, false, false, false, false, false, false, false, false, false, false, false, false, false, false, false, false, false, false, false, false, false, false, false, false, false] rfl rfl (one_of HT_.out (by kernel_rfl)) (by decide) (fun K hK => ?_)
              refine goes_ Try.func21 (by kernel_rfl) rfl #[.int .i64 (wrap64 ((wrap64 (t496 * t489)) - t487))] (by rfl) rfl rfl gl_ ?_
              with_reducible refine (laws_f6abs.calls (wrap64 ((wrap64 (t496 * t489)) - t487)) t559 _ A393.out).mono ?_
              rintro e w' ⟨rfl, ⟨nd, rfl⟩⟩
              refine ⟨_, rfl, ?_⟩
              refine hK.out _ _ ⟨(blk_cell BK498.out 0).trans rfl, (blk_cell BK498.out 1).trans rfl, (blk_cell BK490.out 0).trans rfl, (blk_cell BK490.out 1).trans rfl, (blk_cell BK506.out 0).trans rfl, (blk_cell BK506.out 1).trans rfl⟩ (fun hHeld => ?_)
              clear hK K
              refine norm_ (a' := ?_) ?_ ?_
              rotate_left
              ·show Act.put _ (some 246) _ = _
               simp only [Act.put, List.setIfInBounds_toArray, List.set_cons_zero, List.set_cons_succ, i64_w, i32_w]
               rfl
              refine pure_ (i := 9) (N := some 248) (v := ?_) (a' := ?_) #[true, true, true, true, true, true, true, true, true, true, false, false, false, false, false, false, false, false, false, false, false, false, false, false, false, false, false, false, false, false, false, false, false, false, false, false, false, false, false, false] rfl rfl (any_of HT_.out (by kernel_rfl)) (fun _ _ _ h => h) (Or.inl ⟨by rfl, ?_⟩) ?_ ?_
              rotate_left
              ·intro w'
               go_simp
               with_reducible rfl
              rotate_left
              ·simp only [Act.put, List.setIfInBounds_toArray, List.set_cons_zero, List.set_cons_succ, i64_w, i32_w]
               rfl
              refine pure_ (i := 10) (N := some 249) (v := ?_) (a' := ?_) #[true, true, true, true, true, true, true, true, true, true, true, false, false, false, false, false, false, false, false, false, false, false, false, false, false, false, false, false, false, false, false, false, false, false, false, false, false, false, false, false] rfl rfl (any_of HT_.out (by kernel_rfl)) (fun _ _ _ h => h) (Or.inl ⟨by rfl, ?_⟩) ?_ ?_
              rotate_left
              ·intro w'
               go_simp
               with_reducible rfl
              rotate_left
              ·simp only [Act.put, List.setIfInBounds_toArray, List.set_cons_zero, List.set_cons_succ, i64_w, i32_w]
               rfl
              refine pure_ (i := 11) (N := some 250) (v := ?_) (a' := ?_) #[true, true, true, true, true, true, true, true, true, true, true, true, false, false, false, false, false, false, false, false, false, false, false, false, false, false, false, false, false, false, false, false, false, false, false, false, false, false, false, false] rfl rfl (any_of HT_.out (by kernel_rfl)) (fun _ _ _ h => h) (Or.inl ⟨by rfl, ?_⟩) ?_ ?_
              rotate_left
              ·intro w'
               go_simp
               with_reducible rfl
              rotate_left
              ·simp only [Act.put, List.setIfInBounds_toArray, List.set_cons_zero, List.set_cons_succ, i64_w, i32_w]
               rfl
              refine pure_ (i := 13) (N := some 252) (v := ?_) (a' := ?_) #[true, true, true, true, true, true, true, true, true, true, true, true, false, true, false, false, false, false, false, false, false, false, false, false, false, false, false, false, false, false, false, false, false, false, false, false, false, false, false, false] rfl rfl (any_of HT_.out (by kernel_rfl)) (fun _ _ _ h => h) (Or.inl ⟨by rfl, ?_⟩) ?_ ?_
              rotate_left
              ·intro w'
               go_simp
               with_reducible rfl
              rotate_left
              ·simp only [Act.put, List.setIfInBounds_toArray, List.set_cons_zero, List.set_cons_succ, i64_w, i32_w]
               rfl
              refine pure_ (i := 15) (N := some 254) (v := ?_) (a' := ?_) #[true, true, true, true, true, true, true, true, true, true, true, true, false, true, false, true, false, false, false, false, false, false, false, false, false, false, false, false, false, false, false, false, false, false, false, false, false, false, false, false] rfl rfl (any_of HT_.out (by kernel_rfl)) (fun _ _ _ h => h) (Or.inl ⟨by rfl, ?_⟩) ?_ ?_
              rotate_left
              ·intro w'
               go_simp
               with_reducible rfl
              rotate_left
              ·simp only [Act.put, List.setIfInBounds_toArray, List.set_cons_zero, List.set_cons_succ, i64_w, i32_w]
               rfl
              refine pure_ (i := 19) (N := some 258) (v := ?_) (a' := ?_) #[true, true, true, true, true, true, true, true, true, true, true, true, false, true, false, true, false, false, false, true, false, false, false, false, false, false, false, false, false, false, false, false, false, false, false, false, false, false, false, false] rfl rfl (any_of HT_.out (by kernel_rfl)) (fun _ _ _ h => h) (Or.inl ⟨by rfl, ?_⟩) ?_ ?_
              rotate_left
              ·intro w'
               go_simp
               with_reducible rfl
              rotate_left
              ·simp only [Act.put, List.setIfInBounds_toArray, List.set_cons_zero, List.set_cons_succ, i64_w, i32_w]
               rfl
              refine take_ (i := 12) (N := some 251) (v := ?_) (a' := ?_) #[true, true, true, true, true, true, true, true, true, true, true, true, true, true, false, true, false, false, false, true, false, false, false, false, false, false, false, false, false, false, false, false, false, false, false, false, false, false, false, false] rfl rfl (take_ofW HT_.out HW_.out (by kernel_rfl)) (fun _ _ _ h => h) (Or.inl ⟨by rfl, ?_⟩) hHeld ?_ ?_
              rotate_left
              ·rintro w' ⟨s0, s1, s2, s3, s4, s5⟩
               go_simp
               with_reducible rfl
              rotate_left
              ·simp only [Act.put, List.setIfInBounds_toArray, List.set_cons_zero, List.set_cons_succ, i64_w, i32_w]
               rfl
              refine pure_ (i := 14) (N := some 253) (v := ?_) (a' := ?_) #[true, true, true, true, true, true, true, true, true, true, true, true, true, true, true, true, false, false, false, true, false, false, false, false, false, false, false, false, false, false, false, false, false, false, false, false, false, false, false, false] rfl rfl (any_of HT_.out (by kernel_rfl)) (fun _ _ _ h => h) (Or.inl ⟨by rfl, ?_⟩) ?_ ?_
              rotate_left
              ·intro w'
               go_simp
               with_reducible rfl
              rotate_left
              ·simp only [Act.put, List.setIfInBounds_toArray, List.set_cons_zero, List.set_cons_succ, i64_w, i32_w]
               rfl
              refine take_ (i := 16) (N := some 255) (v := ?_) (a' := ?_) #[true, true, true, true, true, true, true, true, true, true, true, true, true, true, true, true, true, false, false, true, false, false, false, false, false, false, false, false, false, false, false, false, false, false, false, false, false, false, false, false] rfl rfl (take_ofW HT_.out HW_.out (by kernel_rfl)) (fun _ _ _ h => h) (Or.inl ⟨by rfl, ?_⟩) hHeld ?_ ?_
              rotate_left
              ·rintro w' ⟨s0, s1, s2, s3, s4, s5⟩
               go_simp
               with_reducible rfl
              rotate_left
              ·simp only [Act.put, List.setIfInBounds_toArray, List.set_cons_zero, List.set_cons_succ, i64_w, i32_w]
               rfl
              refine pure_ (i := 17) (N := some 256) (v := ?_) (a' := ?_) #[true, true, true, true, true, true, true, true, true, true, true, true, true, true, true, true, true, true, false, true, false, false, false, false, false, false, false, false, false, false, false, false, false, false, false, false, false, false, false, false] rfl rfl (any_of HT_.out (by kernel_rfl)) (fun _ _ _ h => h) (Or.inl ⟨by rfl, ?_⟩) ?_ ?_
              rotate_left
              ·intro w'
               go_simp
               with_reducible rfl
              rotate_left
              ·simp only [Act.put, List.setIfInBounds_toArray, List.set_cons_zero, List.set_cons_succ, i64_w, i32_w]
               rfl
              refine one_ (i := 18) (N := some 257) #[true, true, true, true, true, true, true, true, true, true, true, true, true, true, true, true, true, true, true, true, false, false, false, false, false, false, false, false, false, false, false, false, false, false, false, false, false, false, false, false] rfl rfl (one_of HT_.out (by kernel_rfl)) (by decide) (fun K hK => ?_)
              refine goes_ Try.func21 (by kernel_rfl) rfl #[.int .i64 (wrap64 ((wrap64 (t495 * t489)) - t488))] (by rfl) rfl rfl gl_ ?_
              with_reducible refine (laws_f6abs.calls (wrap64 ((wrap64 (t495 * t489)) - t488)) t560 _ A395.out).mono ?_
              rintro e w' ⟨rfl, ⟨nd, rfl⟩⟩
              refine ⟨_, rfl, ?_⟩
              refine hK.out _ _ ⟨(blk_cell BK498.out 0).trans rfl, (blk_cell BK498.out 1).trans rfl, (blk_cell BK490.out 0).trans rfl, (blk_cell BK490.out 1).trans rfl, (blk_cell BK506.out 0).trans rfl, (blk_cell BK506.out 1).trans rfl⟩ (fun hHeld => ?_)
              clear hK K
              refine norm_ (a' := ?_) ?_ ?_
              rotate_left
              ·show Act.put _ (some 257) _ = _
               simp only [Act.put, List.setIfInBounds_toArray, List.set_cons_zero, List.set_cons_succ, i64_w, i32_w]
               rfl
              refine pure_ (i := 20) (N := some 259) (v := ?_) (a' := ?_) #[true, true, true, true, true, true, true, true, true, true, true, true, true, true, true, true, true, true, true, true, true, false, false, false, false, false, false, false, false, false, false, false, false, false, false, false, false, false, false, false] rfl rfl (any_of HT_.out (by kernel_rfl)) (fun _ _ _ h => h) (Or.inl ⟨by rfl, ?_⟩) ?_ ?_
              rotate_left
              ·intro w'
               go_simp
               with_reducible rfl
              rotate_left
              ·simp only [Act.put, List.setIfInBounds_toArray, List.set_cons_zero, List.set_cons_succ, i64_w, i32_w]
               rfl
              refine pure_ (i := 21) (N := some 260) (v := ?_) (a' := ?_) #[true, true, true, true, true, true, true, true, true, true, true, true, true, true, true, true, true, true, true, true, true, true, false, false, false, false, false, false, false, false, false, false, false, false, false, false, false, false, false, false] rfl rfl (any_of HT_.out (by kernel_rfl)) (fun _ _ _ h => h) (Or.inl ⟨by rfl, ?_⟩) ?_ ?_
              rotate_left
              ·intro w'
               go_simp
               with_reducible rfl
              rotate_left
              ·simp only [Act.put, List.setIfInBounds_toArray, List.set_cons_zero, List.set_cons_succ, i64_w, i32_w]
               rfl
              refine pure_ (i := 22) (N := some 261) (v := ?_) (a' := ?_) #[true, true, true, true, true, true, true, true, true, true, true, true, true, true, true, true, true, true, true, true, true, true, true, false, false, false, false, false, false, false, false, false, false, false, false, false, false, false, false, false] rfl rfl (any_of HT_.out (by kernel_rfl)) (fun _ _ _ h => h) (Or.inl ⟨by rfl, ?_⟩) ?_ ?_
              rotate_left
              ·intro w'
               go_simp
               with_reducible rfl
              rotate_left
              ·simp only [Act.put, List.setIfInBounds_toArray, List.set_cons_zero, List.set_cons_succ, i64_w, i32_w]
               rfl
              refine pure_ (i := 23) (N := some 262) (v := ?_) (a' := ?_) #[true, true, true, true, true, true, true, true, true, true, true, true, true, true, true, true, true, true, true, true, true, true, true, true, false, false, false, false, false, false, false, false, false, false, false, false, false, false, false, false] rfl rfl (any_of HT_.out (by kernel_rfl)) (fun _ _ _ h => h) (Or.inl ⟨by rfl, ?_⟩) ?_ ?_
              rotate_left
              ·intro w'
               go_simp
               with_reducible rfl
              rotate_left
              ·simp only [Act.put, List.setIfInBounds_toArray, List.set_cons_zero, List.set_cons_succ, i64_w, i32_w]
               rfl
              refine pure_ (i := 25) (N := some 264) (v := ?_) (a' := ?_) #[true, true, true, true, true, true, true, true, true, true, true, true, true, true, true, true, true, true, true, true, true, true, true, true, false, true, false, false, false, false, false, false, false, false, false, false, false, false, false, false] rfl rfl (any_of HT_.out (by kernel_rfl)) (fun _ _ _ h => h) (Or.inl ⟨by rfl, ?_⟩) ?_ ?_
              rotate_left
              ·intro w'
               go_simp
               with_reducible rfl
              rotate_left
              ·simp only [Act.put, List.setIfInBounds_toArray, List.set_cons_zero, List.set_cons_succ, i64_w, i32_w]
               rfl
              refine take_ (i := 24) (N := some 263) (v := ?_) (a' := ?_) #[true, true, true, true, true, true, true, true, true, true, true, true, true, true, true, true, true, true, true, true, true, true, true, true, true, true, false, false, false, false, false, false, false, false, false, false, false, false, false, false] rfl rfl (take_ofW HT_.out HW_.out (by kernel_rfl)) (fun _ _ _ h => h) (Or.inl ⟨by rfl, ?_⟩) hHeld ?_ ?_
              rotate_left
              ·rintro w' ⟨s0, s1, s2, s3, s4, s5⟩
               go_simp
               with_reducible rfl
              rotate_left
              ·simp only [Act.put, List.setIfInBounds_toArray, List.set_cons_zero, List.set_cons_succ, i64_w, i32_w]
               rfl
              refine take_ (i := 26) (N := some 265) (v := ?_) (a' := ?_) #[true, true, true, true, true, true, true, true, true, true, true, true, true, true, true, true, true, true, true, true, true, true, true, true, true, true, true, false, false, false, false, false, false, false, false, false, false, false, false, false] rfl rfl (take_ofW HT_.out HW_.out (by kernel_rfl)) (fun _ _ _ h => h) (Or.inl ⟨by rfl, ?_⟩) hHeld ?_ ?_
              rotate_left
              ·rintro w' ⟨s0, s1, s2, s3, s4, s5⟩
               go_simp
               with_reducible rfl
              rotate_left
              ·simp only [Act.put, List.setIfInBounds_toArray, List.set_cons_zero, List.set_cons_succ, i64_w, i32_w]
               rfl
              refine pure_ (i := 27) (N := some 266) (v := ?_) (a' := ?_) #[true, true, true, true, true, true, true, true, true, true, true, true, true, true, true, true, true, true, true, true, true, true, true, true, true, true, true, true, false, false, false, false, false, false, false, false, false, false, false, false] rfl rfl (any_of HT_.out (by kernel_rfl)) (fun _ _ _ h => h) (Or.inl ⟨by rfl, ?_⟩) ?_ ?_
              rotate_left
              ·intro w'
               go_simp
               with_reducible rfl
              rotate_left
              ·simp only [Act.put, List.setIfInBounds_toArray, List.set_cons_zero, List.set_cons_succ, i64_w, i32_w]
               rfl
              refine pure_ (i := 28) (N := some 267) (v := ?_) (a' := ?_) #[true, true, true, true, true, true, true, true, true, true, true, true, true, true, true, true, true, true, true, true, true, true, true, true, true, true, true, true, true, false, false, false, false, false, false, false, false, false, false, false] rfl rfl (any_of HT_.out (by kernel_rfl)) (fun _ _ _ h => h) (Or.inl ⟨by rfl, ?_⟩) ?_ ?_
              rotate_left
              ·intro w'
               go_simp
               with_reducible rfl
              rotate_left
              ·simp only [Act.put, List.setIfInBounds_toArray, List.set_cons_zero, List.set_cons_succ, i64_w, i32_w]
               rfl
              refine pure_ (i := 29) (N := some 268) (v := ?_) (a' := ?_) #[true, true, true, true, true, true, true, true, true, true, true, true, true, true, true, true, true, true, true, true, true, true, true, true, true, true, true, true, true, true, false, false, false, false, false, false, false, false, false, false] rfl rfl (any_of HT_.out (by kernel_rfl)) (fun _ _ _ h => h) (Or.inl ⟨by rfl, ?_⟩) ?_ ?_
              rotate_left
              ·intro w'
               go_simp
               with_reducible rfl
              rotate_left
              ·simp only [Act.put, List.setIfInBounds_toArray, List.set_cons_zero, List.set_cons_succ, i64_w, i32_w]
               rfl
              refine pure_ (i := 30) (N := some 269) (v := ?_) (a' := ?_) #[true, true, true, true, true, true, true, true, true, true, true, true, true, true, true, true, true, true, true, true, true, true, true, true, true, true, true, true, true, true, true, false, false, false, false, false, false, false, false, false] rfl rfl (any_of HT_.out (by kernel_rfl)) (fun _ _ _ h => h) (Or.inl ⟨by rfl, ?_⟩) ?_ ?_
              rotate_left
              ·intro w'
               go_simp
               with_reducible rfl
              rotate_left
              ·simp only [Act.put, List.setIfInBounds_toArray, List.set_cons_zero, List.set_cons_succ, i64_w, i32_w]
               rfl
              refine pure_ (i := 33) (N := some 272) (v := ?_) (a' := ?_) #[true, true, true, true, true, true, true, true, true, true, true, true, true, true, true, true, true, true, true, true, true, true, true, true, true, true, true, true, true, true, true, false, false, true, false, false, false, false, false, false] rfl rfl (any_of HT_.out (by kernel_rfl)) (fun _ _ _ h => h) (Or.inl ⟨by rfl, ?_⟩) ?_ ?_
              rotate_left
              ·intro w'
               go_simp
               with_reducible rfl
              rotate_left
              ·simp only [Act.put, List.setIfInBounds_toArray, List.set_cons_zero, List.set_cons_succ, i64_w, i32_w]
               rfl
              refine take_ (i := 31) (N := some 270) (v := ?_) (a' := ?_) #[true, true, true, true, true, true, true, true, true, true, true, true, true, true, true, true, true, true, true, true, true, true, true, true, true, true, true, true, true, true, true, true, false, true, false, false, false, false, false, false] rfl rfl (take_ofW HT_.out HW_.out (by kernel_rfl)) (fun _ _ _ h => h) (Or.inl ⟨by rfl, ?_⟩) hHeld ?_ ?_
              rotate_left
              ·rintro w' ⟨s0, s1, s2, s3, s4, s5⟩
               go_simp
               with_reducible rfl
              rotate_left
              ·simp only [Act.put, List.setIfInBounds_toArray, List.set_cons_zero, List.set_cons_succ, i64_w, i32_w]
               rfl
              refine take_ (i := 34) (N := some 273) (v := ?_) (a' := ?_) #[true, true, true, true, true, true, true, true, true, true, true, true, true, true, true, true, true, true, true, true, true, true, true, true, true, true, true, true, true, true, true, true, false, true, true, false, false, false, false, false] rfl rfl (take_ofW HT_.out HW_.out (by kernel_rfl)) (fun _ _ _ h => h) (Or.inl ⟨by rfl, ?_⟩) hHeld ?_ ?_
              rotate_left
              ·rintro w' ⟨s0, s1, s2, s3, s4, s5⟩
               go_simp
               with_reducible rfl
              rotate_left
              ·simp only [Act.put, List.setIfInBounds_toArray, List.set_cons_zero, List.set_cons_succ, i64_w, i32_w]
               rfl
              refine one_ (i := 32) (N := some 271) #[true, true, true, true, true, true, true, true, true, true, true, true, true, true, true, true, true, true, true, true, true, true, true, true, true, true, true, true, true, true, true, true, true, true, true, false, false, false, false, false] rfl rfl (one_of HT_.out (by kernel_rfl)) (by decide) (fun K hK => ?_)
              refine goes_ Try.func21 (by kernel_rfl) rfl #[.int .i64 t503] (by rfl) rfl rfl gl_ ?_
              with_reducible refine (laws_f6abs.calls t503 t561 _ A398.out).mono ?_
              rintro e w' ⟨rfl, ⟨nd, rfl⟩⟩
              refine ⟨_, rfl, ?_⟩
              refine hK.out _ _ ⟨(blk_cell BK498.out 0).trans rfl, (blk_cell BK498.out 1).trans rfl, (blk_cell BK490.out 0).trans rfl, (blk_cell BK490.out 1).trans rfl, (blk_cell BK506.out 0).trans rfl, (blk_cell BK506.out 1).trans rfl⟩ (fun hHeld => ?_)
              clear hK K
              refine norm_ (a' := ?_) ?_ ?_
              rotate_left
              ·show Act.put _ (some 271) _ = _
               simp only [Act.put, List.setIfInBounds_toArray, List.set_cons_zero, List.set_cons_succ, i64_w, i32_w]
               rfl
              refine one_ (i := 35) (N := some 274) #[true, true, true, true, true, true, true, true, true, true, true, true, true, true, true, true, true, true, true, true, true, true, true, true, true, true, true, true, true, true, true, true, true, true, true, true, false, false, false, false] rfl rfl (one_of HT_.out (by kernel_rfl)) (by decide) (fun K hK => ?_)
              refine goes_ Try.func21 (by kernel_rfl) rfl #[.int .i64 t495] (by rfl) rfl rfl gl_ ?_
              with_reducible refine (laws_f6abs.calls t495 t562 _ A399.out).mono ?_
              rintro e w' ⟨rfl, ⟨nd, rfl⟩⟩
              refine ⟨_, rfl, ?_⟩
              refine hK.out _ _ ⟨(blk_cell BK498.out 0).trans rfl, (blk_cell BK498.out 1).trans rfl, (blk_cell BK490.out 0).trans rfl, (blk_cell BK490.out 1).trans rfl, (blk_cell BK506.out 0).trans rfl, (blk_cell BK506.out 1).trans rfl⟩ (fun hHeld => ?_)
              clear hK K
              refine norm_ (a' := ?_) ?_ ?_
              rotate_left
              ·show Act.put _ (some 274) _ = _
               simp only [Act.put, List.setIfInBounds_toArray, List.set_cons_zero, List.set_cons_succ, i64_w, i32_w]
               rfl
              refine pure_ (i := 36) (N := some 275) (v := ?_) (a' := ?_) #[true, true, true, true, true, true, true, true, true, true, true, true, true, true, true, true, true, true, true, true, true, true, true, true, true, true, true, true, true, true, true, true, true, true, true, true, true, false, false, false] rfl rfl (any_of HT_.out (by kernel_rfl)) (fun _ _ _ h => h) (Or.inl ⟨by rfl, ?_⟩) ?_ ?_
              rotate_left
              ·intro w'
               go_simp
               with_reducible rfl
              rotate_left
              ·simp only [Act.put, List.setIfInBounds_toArray, List.set_cons_zero, List.set_cons_succ, i64_w, i32_w]
               rfl
              refine pure_ (i := 37) (N := some 276) (v := ?_) (a' := ?_) #[true, true, true, true, true, true, true, true, true, true, true, true, true, true, true, true, true, true, true, true, true, true, true, true, true, true, true, true, true, true, true, true, true, true, true, true, true, true, false, false] rfl rfl (any_of HT_.out (by kernel_rfl)) (fun _ _ _ h => h) (Or.inl ⟨by rfl, ?_⟩) ?_ ?_
              rotate_left
              ·intro w'
               go_simp
               with_reducible rfl
              rotate_left
              ·simp only [Act.put, List.setIfInBounds_toArray, List.set_cons_zero, List.set_cons_succ, i64_w, i32_w]
               rfl
              refine pure_ (i := 38) (N := some 277) (v := ?_) (a' := ?_) #[true, true, true, true, true, true, true, true, true, true, true, true, true, true, true, true, true, true, true, true, true, true, true, true, true, true, true, true, true, true, true, true, true, true, true, true, true, true, true, false] rfl rfl (any_of HT_.out (by kernel_rfl)) (fun _ _ _ h => h) (Or.inl ⟨by rfl, ?_⟩) ?_ ?_
              rotate_left
              ·intro w'
               go_simp
               with_reducible rfl
              rotate_left
              ·simp only [Act.put, List.setIfInBounds_toArray, List.set_cons_zero, List.set_cons_succ, i64_w, i32_w]
               rfl
              refine pure_ (i := 39) (N := some 2) (v := ?_) (a' := ?_) #[true, true, true, true, true, true, true, true, true, true, true, true, true, true, true, true, true, true, true, true, true, true, true, true, true, true, true, true, true, true, true, true, true, true, true, true, true, true, true, true] rfl rfl (any_of HT_.out (by kernel_rfl)) (fun _ _ _ h => h) (Or.inl ⟨by rfl, ?_⟩) ?_ ?_
              rotate_left
              ·intro w'
               go_simp
               with_reducible rfl
              rotate_left
              ·simp only [Act.put, List.setIfInBounds_toArray, List.set_cons_zero, List.set_cons_succ, i64_w, i32_w]
               rfl
              refine done_ (done_of HT_.out (by kernel_rfl)) ?_
              try go_wp2
              go_ret
              exact ⟨by first | rfl | (simp [errW_none, errW_some] <;> rfl) | (simp [*, errW_none, errW_some] <;> rfl), by repeat (first | (with_reducible first | exact HB.out | apply below_alloc | apply pw_below_drewN | apply below_drew1 | refine below_set ?_ GE490.out | refine below_set ?_ GE494.out | refine below_set ?_ GE498.out | refine below_set ?_ GE502.out | refine below_set ?_ GE506.out | refine below_set ?_ GE510.out | refine below_set ?_ GE514.out | refine below_set ?_ GE518.out | refine below_set ?_ GE522.out | refine below_set ?_ GE526.out | refine below_set ?_ GE537.out | refine below_set ?_ GE538.out | refine below_set ?_ GE544.out | refine below_set ?_ GE545.out | refine below_set ?_ GE550.out) | exact HB.out)⟩
             ·as_aux_lemma =>
              rw [if_neg c397] at H
              exact absurd H (by simp)
            ·as_aux_lemma =>
             rw [if_neg c396] at H
             exact absurd H (by simp)
           ·as_aux_lemma =>
            rw [if_neg c394] at H
            exact absurd H (by simp)
          ·as_aux_lemma =>
           rw [if_neg c392] at H
           have c392b0 : (t493 == 0) = false := beq_eq_false_iff_ne.mpr c392
           have c392b1 : (t493 != 0) = true := bne_iff_ne.mpr c392
           obtain rfl := Option.some.inj H
           go_wp2
           go_ret
           exact ⟨by first | rfl | (simp [errW_none, errW_some] <;> rfl) | (simp [*, errW_none, errW_some] <;> rfl), by repeat (first | (with_reducible first | exact HB.out | apply below_alloc | apply pw_below_drewN | apply below_drew1 | refine below_set ?_ GE490.out | refine below_set ?_ GE494.out | refine below_set ?_ GE498.out | refine below_set ?_ GE502.out | refine below_set ?_ GE506.out | refine below_set ?_ GE510.out | refine below_set ?_ GE514.out | refine below_set ?_ GE518.out | refine below_set ?_ GE522.out | refine below_set ?_ GE526.out | refine below_set ?_ GE537.out | refine below_set ?_ GE538.out | refine below_set ?_ GE544.out | refine below_set ?_ GE545.out | refine below_set ?_ GE550.out) | exact HB.out)⟩

/-- THE ONE PURE STATEMENT of laws_FnMaps. -/
def laws_FnMaps.Pure : Prop := ∀ (l0 : List Int), wfS (wfI .u8) l0 → l0.length * 1 ≤ 140737488351232 → ∃ k, laws_FnMaps.f k l0 = some true

end Go.Proofs.Ytfaciogcddpgdaa.Print
