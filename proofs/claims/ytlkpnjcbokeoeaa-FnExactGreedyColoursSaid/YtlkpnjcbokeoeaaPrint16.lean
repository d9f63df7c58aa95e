-- Printed by a program of this session out of the translation; not trusted: Lean checks it.
-- SHRUNK
import Derived.Test.YtlkpnjcbokeoeaaPrint0
import Derived.Test.YtlkpnjcbokeoeaaPrint2
import Derived.Test.YtlkpnjcbokeoeaaPrint3
import Derived.Test.YtlkpnjcbokeoeaaPrint4
import Derived.Test.YtlkpnjcbokeoeaaPrint10
import Derived.Test.YtlkpnjcbokeoeaaPrint11
import Derived.Test.YtlkpnjcbokeoeaaPrint15
namespace Go.Proofs.Ytlkpnjcbokeoeaa.Print
open Go.RowKit Go.Proofs.YtlkpnjcbokeoeaaW.PrintWords Go.Proofs.YtlkpnjcbokeoeaaW.PrintLast Go.Proofs.YtlkpnjcbokeoeaaW.PrintMore
attribute [local go_sem] max2_int min2_int max_two min_two max_three min_three max_four min_four   -- for this text's walks alone
set_option linter.unusedVariables false
set_option linter.unusedSimpArgs false

/-! ### laws_FnExactGreedyColours: function 13 -/
mutual
def laws_FnExactGreedyColours.j0 : Nat → Int → List (S57) → List Int → List Int → Int → List (S55) → List Int → List Int → Int → Bool → Option (Bool)
 | 0, _, _, _, _, _, _, _, _, _, _ => none
 | k + 1, x0, x1, x2, x8, x9, x10, x11, x12, x13, x55 => if x55 = true then (none) else ((laws_toBorderS.f k x1).bind fun t264 => ((laws_eqBorderS.f k x10 t264).bind fun t267 => (if t267 = true then ((laws_toInt64S.f k x2).bind fun t268 => ((laws_eqInt64S.f k x11 t268).bind fun t271 => (if t271 = true then ((laws_markBorderS.f k x10 1).bind fun bt272 => ((laws_markInt64S.f k x11 bt272.1).bind fun bt274 => (if bt274.1 < 0 then (none) else ((laws_eqInt64S.f k x12 x8).bind fun t276 => (if t276 = true then (laws_FnExactGreedyColours.j1 k x0 x1 x2 x8 x9 x12 (x13 != x9)) else (none)))))) else (none)))) else (none))))
def laws_FnExactGreedyColours.j1 : Nat → Int → List (S57) → List Int → List Int → Int → List Int → Bool → Option (Bool)
 | 0, _, _, _, _, _, _, _ => none
 | k + 1, x0, x1, x2, x8, x9, x12, x84 => if x84 = true then (none) else ((laws_markInt64S.f k x12 1).bind fun bt277 => ((laws_heldInt64S.f k bt277.2 1).bind fun t279 => (if t279 < 0 then (none) else (if t279 = bt277.1 then ((laws_toBorderS.f k x1).bind fun t280 => ((laws_toInt64S.f k x2).bind fun t283 => ((impl_GreedyColours.f k x0 t280 t283).bind fun bt286 => ((laws_eqInt64S.f k bt286.1 x8).bind fun t290 => (if t290 = true then (laws_FnExactGreedyColours.j2 k bt277.2 bt277.1 (bt286.2 != x9)) else (none)))))) else (none)))))
def laws_FnExactGreedyColours.j2 : Nat → List Int → Int → Bool → Option (Bool)
 | 0, _, _, _ => none
 | k + 1, x12, x15, x113 => if x113 = true then (none) else ((laws_heldInt64S.f k x12 1).bind fun t291 => (if t291 < 0 then (none) else (if t291 = x15 then (some true) else (none))))
end
def laws_FnExactGreedyColours.f (k : Nat) (a0 : Int) (l1 : List (S57)) (l2 : List Int) : Option (Bool) := if (l2.length : Int) > 1048576 then (some true) else ((laws_szBorderS.f l1 1048576).bind fun t242 => (if t242 < 0 then (some true) else ((laws_toBorderS.f k l1).bind fun t243 => ((laws_toInt64S.f k l2).bind fun t246 => ((spec_GreedyColours.f k a0 t243 t246).bind fun bt249 => ((laws_toBorderS.f k l1).bind fun t253 => ((laws_toInt64S.f k l2).bind fun t256 => ((impl_GreedyColours.f k a0 t253 t256).bind fun bt259 => ((laws_eqInt64S.f k bt259.1 bt249.1).bind fun t263 => (if t263 = true then (laws_FnExactGreedyColours.j0 k a0 l1 l2 bt249.1 bt249.2 t253 t256 bt259.1 bt259.2 (bt259.2 != bt249.2)) else (none)))))))))))
theorem laws_FnExactGreedyColours.mono_l : ∀ k, (∀ y0 y1 y2 y3 y4 y5 y6 y7 y8 y9, LeO (laws_FnExactGreedyColours.j0 k y0 y1 y2 y3 y4 y5 y6 y7 y8 y9) (laws_FnExactGreedyColours.j0 (k + 1) y0 y1 y2 y3 y4 y5 y6 y7 y8 y9)) ∧ (∀ y0 y1 y2 y3 y4 y5 y6, LeO (laws_FnExactGreedyColours.j1 k y0 y1 y2 y3 y4 y5 y6) (laws_FnExactGreedyColours.j1 (k + 1) y0 y1 y2 y3 y4 y5 y6)) ∧ (∀ y0 y1 y2, LeO (laws_FnExactGreedyColours.j2 k y0 y1 y2) (laws_FnExactGreedyColours.j2 (k + 1) y0 y1 y2))
 | 0 => ⟨fun _ _ _ _ _ _ _ _ _ _ r h => by simp [laws_FnExactGreedyColours.j0] at h, fun _ _ _ _ _ _ _ r h => by simp [laws_FnExactGreedyColours.j1] at h, fun _ _ _ r h => by simp [laws_FnExactGreedyColours.j2] at h⟩
 | k + 1 => by
  obtain ⟨ih0, ih1, ih2⟩ := laws_FnExactGreedyColours.mono_l k
  refine ⟨?_, ?_, ?_⟩
  ·intro y0 y1 y2 y3 y4 y5 y6 y7 y8 y9
   unfold laws_FnExactGreedyColours.j0
   repeat' first
   | (with_reducible exact ih0 _ _ _ _ _ _ _ _ _ _)
   | (with_reducible exact ih1 _ _ _ _ _ _ _)
   | (with_reducible exact ih2 _ _ _)
   | (with_reducible exact impl_GreedyColours.mono _ _ _ _)
   | (with_reducible exact laws_eqBorderS.mono _ _ _)
   | (with_reducible exact laws_eqInt64S.mono _ _ _)
   | (with_reducible exact laws_heldInt64S.mono _ _ _)
   | (with_reducible exact laws_markBorderS.mono _ _ _)
   | (with_reducible exact laws_markInt64S.mono _ _ _)
   | (with_reducible exact laws_toBorderS.mono _ _)
   | (with_reducible exact laws_toInt64S.mono _ _)
   | (with_reducible exact spec_GreedyColours.mono _ _ _ _)
   | (with_reducible exact LeO.refl _)
   | (with_reducible exact LeO.none _)
   | (with_reducible refine LeO.ite ?_ ?_)
   | (with_reducible refine LeO.bind ?_ (fun _ => ?_))
   | exact ih0 _ _ _ _ _ _ _ _ _ _
   | exact ih1 _ _ _ _ _ _ _
   | exact ih2 _ _ _
   | exact impl_GreedyColours.mono _ _ _ _
   | exact laws_eqBorderS.mono _ _ _
   | exact laws_eqInt64S.mono _ _ _
   | exact laws_heldInt64S.mono _ _ _
   | exact laws_markBorderS.mono _ _ _
   | exact laws_markInt64S.mono _ _ _
   | exact laws_toBorderS.mono _ _
   | exact laws_toInt64S.mono _ _
   | exact spec_GreedyColours.mono _ _ _ _
   | exact LeO.none _
   | refine LeO.ite ?_ ?_
   | refine LeO.bind ?_ (fun _ => ?_)
  ·intro y0 y1 y2 y3 y4 y5 y6
   unfold laws_FnExactGreedyColours.j1
   repeat' first
   | (with_reducible exact ih0 _ _ _ _ _ _ _ _ _ _)
   | (with_reducible exact ih1 _ _ _ _ _ _ _)
   | (with_reducible exact ih2 _ _ _)
   | (with_reducible exact impl_GreedyColours.mono _ _ _ _)
   | (with_reducible exact laws_eqBorderS.mono _ _ _)
   | (with_reducible exact laws_eqInt64S.mono _ _ _)
   | (with_reducible exact laws_heldInt64S.mono _ _ _)
   | (with_reducible exact laws_markBorderS.mono _ _ _)
   | (with_reducible exact laws_markInt64S.mono _ _ _)
   | (with_reducible exact laws_toBorderS.mono _ _)
   | (with_reducible exact laws_toInt64S.mono _ _)
   | (with_reducible exact spec_GreedyColours.mono _ _ _ _)
   | (with_reducible exact LeO.refl _)
   | (with_reducible exact LeO.none _)
   | (with_reducible refine LeO.ite ?_ ?_)
   | (with_reducible refine LeO.bind ?_ (fun _ => ?_))
   | exact ih0 _ _ _ _ _ _ _ _ _ _
   | exact ih1 _ _ _ _ _ _ _
   | exact ih2 _ _ _
   | exact impl_GreedyColours.mono _ _ _ _
   | exact laws_eqBorderS.mono _ _ _
   | exact laws_eqInt64S.mono _ _ _
   | exact laws_heldInt64S.mono _ _ _
   | exact laws_markBorderS.mono _ _ _
   | exact laws_markInt64S.mono _ _ _
   | exact laws_toBorderS.mono _ _
   | exact laws_toInt64S.mono _ _
   | exact spec_GreedyColours.mono _ _ _ _
   | exact LeO.none _
   | refine LeO.ite ?_ ?_
   | refine LeO.bind ?_ (fun _ => ?_)
  ·intro y0 y1 y2
   unfold laws_FnExactGreedyColours.j2
   repeat' first
   | (with_reducible exact ih0 _ _ _ _ _ _ _ _ _ _)
   | (with_reducible exact ih1 _ _ _ _ _ _ _)
   | (with_reducible exact ih2 _ _ _)
   | (with_reducible exact impl_GreedyColours.mono _ _ _ _)
   | (with_reducible exact laws_eqBorderS.mono _ _ _)
   | (with_reducible exact laws_eqInt64S.mono _ _ _)
   | (with_reducible exact laws_heldInt64S.mono _ _ _)
   | (with_reducible exact laws_markBorderS.mono _ _ _)
   | (with_reducible exact laws_markInt64S.mono _ _ _)
   | (with_reducible exact laws_toBorderS.mono _ _)
   | (with_reducible exact laws_toInt64S.mono _ _)
   | (with_reducible exact spec_GreedyColours.mono _ _ _ _)
   | (with_reducible exact LeO.refl _)
   | (with_reducible exact LeO.none _)
   | (with_reducible refine LeO.ite ?_ ?_)
   | (with_reducible refine LeO.bind ?_ (fun _ => ?_))
   | exact ih0 _ _ _ _ _ _ _ _ _ _
   | exact ih1 _ _ _ _ _ _ _
   | exact ih2 _ _ _
   | exact impl_GreedyColours.mono _ _ _ _
   | exact laws_eqBorderS.mono _ _ _
   | exact laws_eqInt64S.mono _ _ _
   | exact laws_heldInt64S.mono _ _ _
   | exact laws_markBorderS.mono _ _ _
   | exact laws_markInt64S.mono _ _ _
   | exact laws_toBorderS.mono _ _
   | exact laws_toInt64S.mono _ _
   | exact spec_GreedyColours.mono _ _ _ _
   | exact LeO.none _
   | refine LeO.ite ?_ ?_
   | refine LeO.bind ?_ (fun _ => ?_)
theorem laws_FnExactGreedyColours.mono : ∀ a0 a1 a2 k, LeO (laws_FnExactGreedyColours.f k a0 a1 a2) (laws_FnExactGreedyColours.f (k + 1) a0 a1 a2) := by
 intro a0 a1 a2 k
 obtain ⟨ih0, ih1, ih2⟩ := laws_FnExactGreedyColours.mono_l k
 unfold laws_FnExactGreedyColours.f
 repeat' first
   | (with_reducible exact ih0 _ _ _ _ _ _ _ _ _ _)
   | (with_reducible exact ih1 _ _ _ _ _ _ _)
   | (with_reducible exact ih2 _ _ _)
   | (with_reducible exact impl_GreedyColours.mono _ _ _ _)
   | (with_reducible exact laws_eqBorderS.mono _ _ _)
   | (with_reducible exact laws_eqInt64S.mono _ _ _)
   | (with_reducible exact laws_heldInt64S.mono _ _ _)
   | (with_reducible exact laws_markBorderS.mono _ _ _)
   | (with_reducible exact laws_markInt64S.mono _ _ _)
   | (with_reducible exact laws_toBorderS.mono _ _)
   | (with_reducible exact laws_toInt64S.mono _ _)
   | (with_reducible exact spec_GreedyColours.mono _ _ _ _)
   | (with_reducible exact LeO.refl _)
   | (with_reducible exact LeO.none _)
   | (with_reducible refine LeO.ite ?_ ?_)
   | (with_reducible refine LeO.bind ?_ (fun _ => ?_))
   | exact ih0 _ _ _ _ _ _ _ _ _ _
   | exact ih1 _ _ _ _ _ _ _
   | exact ih2 _ _ _
   | exact impl_GreedyColours.mono _ _ _ _
   | exact laws_eqBorderS.mono _ _ _
   | exact laws_eqInt64S.mono _ _ _
   | exact laws_heldInt64S.mono _ _ _
   | exact laws_markBorderS.mono _ _ _
   | exact laws_markInt64S.mono _ _ _
   | exact laws_toBorderS.mono _ _
   | exact laws_toInt64S.mono _ _
   | exact spec_GreedyColours.mono _ _ _ _
   | exact LeO.none _
   | refine LeO.ite ?_ ?_
   | refine LeO.bind ?_ (fun _ => ?_)
set_option maxHeartbeats 8000000 in
set_option maxRecDepth 100000 in
theorem laws_FnExactGreedyColours.calls (k : Nat) (a0 : Int) (A1 : Option Addr) (c1 : Nat) (l1 : List (S57)) (A2 : Option Addr) (c2 : Nat) (l2 : List Int) (r : Bool) (w : World) (hr1 : Kd.C k57 w A1 l1.length l1) (hc1 : l1.length ≤ c1) (hr2 : Kd.C (Kd.int .i64) w A2 l2.length l2) (hc2 : l2.length ≤ c2) (h : laws_FnExactGreedyColours.f k a0 l1 l2 = some r) :
  Calls Try.prog 13 #[.int .i64 a0, .slice A1 l1.length c1, .slice A2 l2.length c2] w fun e w' => e = .returned (.bool r) ∧ Below w.heap.size w w' := by
 have HR1 := Aside0.mk hr1
 have HC1 := Aside0.mk hc1
 clear hr1 hc1
 have HR2 := Aside0.mk hr2
 have HC2 := Aside0.mk hc2
 clear hr2 hc2
 have HB := Aside0.mk (Below.refl w.heap.size w)
 have H : (if (l2.length : Int) > 1048576 then (some true) else ((laws_szBorderS.f l1 1048576).bind fun t242 => (if t242 < 0 then (some true) else ((laws_toBorderS.f k l1).bind fun t243 => ((laws_toInt64S.f k l2).bind fun t246 => ((spec_GreedyColours.f k a0 t243 t246).bind fun bt249 => ((laws_toBorderS.f k l1).bind fun t253 => ((laws_toInt64S.f k l2).bind fun t256 => ((impl_GreedyColours.f k a0 t253 t256).bind fun bt259 => ((laws_eqInt64S.f k bt259.1 bt249.1).bind fun t263 => (if t263 = true then (laws_FnExactGreedyColours.j0 k a0 l1 l2 bt249.1 bt249.2 t253 t256 bt259.1 bt259.2 (bt259.2 != bt249.2)) else (none)))))))))))) = some r := h
 clear h
 by_cases c4 : (l2.length : Int) > 1048576
 ·rw [if_pos c4] at H
  have c4b0 : decide (1048576 < (l2.length : Int)) = true := decide_eq_true c4
  have c4b1 : decide (1048576 < l2.length) = true := decide_eq_true (by omega)
  clear c4
  obtain rfl := Option.some.inj H
  go_enter Try.func13, Try.ntmps13
  go_wp2
  go_ret
  exact ⟨by first | rfl | (simp [errW_none, errW_some] <;> rfl) | (simp [*, errW_none, errW_some] <;> rfl), by repeat (first | (with_reducible first | exact HB.out | apply below_alloc | apply pw_below_drewN | apply below_drew1) | exact HB.out)⟩
 ·rw [if_neg c4] at H
  have c4b0 : decide (1048576 < (l2.length : Int)) = false := decide_eq_false c4
  have c4b1 : decide (1048576 < l2.length) = false := decide_eq_false (by omega)
  clear c4
  replace H := Option.bind_eq_some_iff.mp H
  obtain ⟨t242, A50, H⟩ := H
  replace H : (if t242 < 0 then (some true) else ((laws_toBorderS.f k l1).bind fun t243 => ((laws_toInt64S.f k l2).bind fun t246 => ((spec_GreedyColours.f k a0 t243 t246).bind fun bt249 => ((laws_toBorderS.f k l1).bind fun t253 => ((laws_toInt64S.f k l2).bind fun t256 => ((impl_GreedyColours.f k a0 t253 t256).bind fun bt259 => ((laws_eqInt64S.f k bt259.1 bt249.1).bind fun t263 => (if t263 = true then (laws_FnExactGreedyColours.j0 k a0 l1 l2 bt249.1 bt249.2 t253 t256 bt259.1 bt259.2 (bt259.2 != bt249.2)) else (none)))))))))) = some r := H
  have A5 := Aside0.mk A50
  clear A50
  by_cases c6 : t242 < 0
  ·rw [if_pos c6] at H
   have c6b0 : decide (t242 < 0) = true := decide_eq_true c6
   clear c6
   obtain rfl := Option.some.inj H
   go_enter Try.func13, Try.ntmps13
   go_wp2_with (first | ((with_reducible refine gate_callee (f := 14) rfl ?_); refine goesL_ (some 24) rfl rfl Try.func14 (by kernel_rfl) rfl #[.slice A1 l1.length c1, .int .i64 1048576] rfl (by (try simp only [List.map_toArray, List.map_cons, List.map_nil]); first | done | rfl | (simp only [List.length_drop, List.length_take]; rfl)) ?_; (with_reducible refine (laws_szBorderS.calls _ _ l1 1048576 t242 _ ?side1 ?side2 A5.out).mono ?_); (case side1 => repeat (first | exact HR1.out | (with_reducible refine Kd.C_alloc ?_ _) | (with_reducible refine Kd.C_drewN ?_ _) | (with_reducible refine Kd.C_drew ?_))); (case side2 => exact HC1.out); rintro e w' ⟨rfl, ⟨nd, rfl⟩⟩; refine ⟨_, rfl, ?_⟩))
   go_ret
   exact ⟨by first | rfl | (simp [errW_none, errW_some] <;> rfl) | (simp [*, errW_none, errW_some] <;> rfl), by repeat (first | (with_reducible first | exact HB.out | apply below_alloc | apply pw_below_drewN | apply below_drew1) | exact HB.out)⟩
  ·rw [if_neg c6] at H
   have c6b0 : decide (t242 < 0) = false := decide_eq_false c6
   clear c6
   replace H := Option.bind_eq_some_iff.mp H
   obtain ⟨t243, A70, H⟩ := H
   replace H : ((laws_toInt64S.f k l2).bind fun t246 => ((spec_GreedyColours.f k a0 t243 t246).bind fun bt249 => ((laws_toBorderS.f k l1).bind fun t253 => ((laws_toInt64S.f k l2).bind fun t256 => ((impl_GreedyColours.f k a0 t253 t256).bind fun bt259 => ((laws_eqInt64S.f k bt259.1 bt249.1).bind fun t263 => (if t263 = true then (laws_FnExactGreedyColours.j0 k a0 l1 l2 bt249.1 bt249.2 t253 t256 bt259.1 bt259.2 (bt259.2 != bt249.2)) else (none)))))))) = some r := H
   have A7 := Aside0.mk A70
   clear A70
   replace H := Option.bind_eq_some_iff.mp H
   obtain ⟨t246, A80, H⟩ := H
   replace H : ((spec_GreedyColours.f k a0 t243 t246).bind fun bt249 => ((laws_toBorderS.f k l1).bind fun t253 => ((laws_toInt64S.f k l2).bind fun t256 => ((impl_GreedyColours.f k a0 t253 t256).bind fun bt259 => ((laws_eqInt64S.f k bt259.1 bt249.1).bind fun t263 => (if t263 = true then (laws_FnExactGreedyColours.j0 k a0 l1 l2 bt249.1 bt249.2 t253 t256 bt259.1 bt259.2 (bt259.2 != bt249.2)) else (none))))))) = some r := H
   have A8 := Aside0.mk A80
   clear A80
   replace H := Option.bind_eq_some_iff.mp H
   obtain ⟨⟨t249, t250⟩, A90, H⟩ := H
   replace H : ((laws_toBorderS.f k l1).bind fun t253 => ((laws_toInt64S.f k l2).bind fun t256 => ((impl_GreedyColours.f k a0 t253 t256).bind fun bt259 => ((laws_eqInt64S.f k bt259.1 t249).bind fun t263 => (if t263 = true then (laws_FnExactGreedyColours.j0 k a0 l1 l2 t249 t250 t253 t256 bt259.1 bt259.2 (bt259.2 != t250)) else (none)))))) = some r := H
   have A9 := Aside0.mk A90
   clear A90
   replace H := Option.bind_eq_some_iff.mp H
   obtain ⟨t253, A100, H⟩ := H
   replace H : ((laws_toInt64S.f k l2).bind fun t256 => ((impl_GreedyColours.f k a0 t253 t256).bind fun bt259 => ((laws_eqInt64S.f k bt259.1 t249).bind fun t263 => (if t263 = true then (laws_FnExactGreedyColours.j0 k a0 l1 l2 t249 t250 t253 t256 bt259.1 bt259.2 (bt259.2 != t250)) else (none))))) = some r := H
   have A10 := Aside0.mk A100
   clear A100
   replace H := Option.bind_eq_some_iff.mp H
   obtain ⟨t256, A110, H⟩ := H
   replace H : ((impl_GreedyColours.f k a0 t253 t256).bind fun bt259 => ((laws_eqInt64S.f k bt259.1 t249).bind fun t263 => (if t263 = true then (laws_FnExactGreedyColours.j0 k a0 l1 l2 t249 t250 t253 t256 bt259.1 bt259.2 (bt259.2 != t250)) else (none)))) = some r := H
   have A11 := Aside0.mk A110
   clear A110
   replace H := Option.bind_eq_some_iff.mp H
   obtain ⟨⟨t259, t260⟩, A120, H⟩ := H
   replace H : ((laws_eqInt64S.f k t259 t249).bind fun t263 => (if t263 = true then (laws_FnExactGreedyColours.j0 k a0 l1 l2 t249 t250 t253 t256 t259 t260 (t260 != t250)) else (none))) = some r := H
   have A12 := Aside0.mk A120
   clear A120
   have HC13 := Aside0.mk H
   clear H
   go_enter Try.func13, Try.ntmps13
   go_upto_region 11 with (first | ((with_reducible refine gate_callee (f := 14) rfl ?_); refine goesL_ (some 24) rfl rfl Try.func14 (by kernel_rfl) rfl #[.slice A1 l1.length c1, .int .i64 1048576] rfl (by (try simp only [List.map_toArray, List.map_cons, List.map_nil]); first | done | rfl | (simp only [List.length_drop, List.length_take]; rfl)) ?_; (with_reducible refine (laws_szBorderS.calls _ _ l1 1048576 t242 _ ?side1 ?side2 A5.out).mono ?_); (case side1 => repeat (first | exact HR1.out | (with_reducible refine Kd.C_alloc ?_ _) | (with_reducible refine Kd.C_drewN ?_ _) | (with_reducible refine Kd.C_drew ?_))); (case side2 => exact HC1.out); rintro e w' ⟨rfl, ⟨nd, rfl⟩⟩; refine ⟨_, rfl, ?_⟩) | ((with_reducible refine gate_callee (f := 16) rfl ?_); refine goesL_ (some 30) rfl rfl Try.func16 (by kernel_rfl) rfl #[.slice A1 l1.length c1] rfl (by (try simp only [List.map_toArray, List.map_cons, List.map_nil]); first | done | rfl | (simp only [List.length_drop, List.length_take]; rfl)) ?_; (with_reducible refine (laws_toBorderS.calls k _ _ l1 t243 _ ?side1 ?side2 A7.out).mono ?_); (case side1 => repeat (first | exact HR1.out | (with_reducible refine Kd.C_alloc ?_ _) | (with_reducible refine Kd.C_drewN ?_ _) | (with_reducible refine Kd.C_drew ?_))); (case side2 => exact HC1.out); rintro e w14 ⟨v244, rfl, ho0, hb⟩; refine ⟨_, rfl, ?_⟩; have n0_ := Aside0.mk (Kd.R_lower ho0 (below_size (by repeat (first | (with_reducible first | exact HB.out | apply below_alloc | apply pw_below_drewN | apply below_drew1) | exact HB.out)))); have n1_ := Aside0.mk (below_step (by repeat (first | (with_reducible first | exact HB.out | apply below_alloc | apply pw_below_drewN | apply below_drew1) | exact HB.out)) hb); clear HB; have HO245 := n0_; have HB := n1_; clear n0_ n1_; (try clear hb); (try clear hb2); (try clear hk); (try clear hi); (try clear ho0)) | ((with_reducible refine gate_callee (f := 27) rfl ?_); refine goesL_ (some 32) rfl rfl Try.func27 (by kernel_rfl) rfl #[.slice A2 l2.length c2] rfl (by (try simp only [List.map_toArray, List.map_cons, List.map_nil]); first | done | rfl | (simp only [List.length_drop, List.length_take]; rfl)) ?_; (with_reducible refine (laws_toInt64S.calls k _ _ l2 t246 _ ?side1 ?side2 A8.out).mono ?_); (case side1 => repeat (first | exact (Kd.C_below HR2.out HB.out) | (with_reducible refine Kd.C_alloc ?_ _) | (with_reducible refine Kd.C_drewN ?_ _) | (with_reducible refine Kd.C_drew ?_))); (case side2 => exact HC2.out); rintro e w15 ⟨v247, rfl, ho0, hb⟩; refine ⟨_, rfl, ?_⟩; have n0_ := Aside0.mk (Kd.R_below (by (with_reducible repeat (first | apply Kd.R_alloc | apply Kd.R_drewN | apply Kd.R_drew)); exact HO245.out) hb); have n1_ := Aside0.mk (Kd.R_lower ho0 (below_size (by repeat (first | (with_reducible first | exact HB.out | apply below_alloc | apply pw_below_drewN | apply below_drew1) | exact HB.out)))); have n2_ := Aside0.mk (below_step (by repeat (first | (with_reducible first | exact HB.out | apply below_alloc | apply pw_below_drewN | apply below_drew1) | exact HB.out)) hb); clear HO245; clear HB; have HO245 := n0_; have HO248 := n1_; have HB := n2_; clear n0_ n1_ n2_; (try clear hb); (try clear hb2); (try clear hk); (try clear hi); (try clear ho0); obtain ⟨Ao16, co16, eo16⟩ := Kd.R_slice HO245.out; subst eo16; obtain ⟨Ao17, co17, eo17⟩ := Kd.R_slice HO248.out; subst eo17) | ((with_reducible refine gate_callee (f := 45) rfl ?_); refine goesL_ (some 33) rfl rfl Try.func45 (by kernel_rfl) rfl #[.int .i64 a0, .slice Ao16 t243.length co16, .slice Ao17 t246.length co17] rfl (by (try simp only [List.map_toArray, List.map_cons, List.map_nil]); first | done | rfl | (simp only [List.length_drop, List.length_take]; rfl)) ?_; (with_reducible refine (spec_GreedyColours.calls k a0 _ _ t243 _ _ t246 t249 t250 _ ?side1 ?side2 ?side3 ?side4 A9.out).mono ?_); (case side1 => repeat (first | exact (Kd.R_reads' HO245.out).2.2 | (with_reducible refine Kd.C_alloc ?_ _) | (with_reducible refine Kd.C_drewN ?_ _) | (with_reducible refine Kd.C_drew ?_))); (case side2 => exact (Kd.R_reads' HO245.out).2.1); (case side3 => repeat (first | exact (Kd.R_reads' HO248.out).2.2 | (with_reducible refine Kd.C_alloc ?_ _) | (with_reducible refine Kd.C_drewN ?_ _) | (with_reducible refine Kd.C_drew ?_))); (case side4 => exact (Kd.R_reads' HO248.out).2.1); rintro e w18 ⟨v251, rfl, ho0, hb⟩; refine ⟨_, rfl, ?_⟩; have n0_ := Aside0.mk (Kd.R_below (by (with_reducible repeat (first | apply Kd.R_alloc | apply Kd.R_drewN | apply Kd.R_drew)); exact HO245.out) hb); have n1_ := Aside0.mk (Kd.R_elder' (by (with_reducible repeat (first | apply Kd.R_alloc | apply Kd.R_drewN | apply Kd.R_drew)); exact HO248.out) (Kd.R_base ho0) hb); have n2_ := Aside0.mk (Kd.R_lower (Kd.R_new' ho0 (Kd.R_lt (by (with_reducible repeat (first | apply Kd.R_alloc | apply Kd.R_drewN | apply Kd.R_drew)); exact HO248.out))) (below_size (by repeat (first | (with_reducible first | exact HB.out | apply below_alloc | apply pw_below_drewN | apply below_drew1) | exact HB.out)))); have n3_ := Aside0.mk (below_step (by repeat (first | (with_reducible first | exact HB.out | apply below_alloc | apply pw_below_drewN | apply below_drew1) | exact HB.out)) hb); clear HO245; clear HO248; clear HB; have HO245 := n0_; have HO248 := n1_; have HO252 := n2_; have HB := n3_; clear n0_ n1_ n2_ n3_; (try clear hb); (try clear hb2); (try clear hk); (try clear hi); (try clear ho0)) | ((with_reducible refine gate_callee (f := 16) rfl ?_); refine goesL_ (some 37) rfl rfl Try.func16 (by kernel_rfl) rfl #[.slice A1 l1.length c1] rfl (by (try simp only [List.map_toArray, List.map_cons, List.map_nil]); first | done | rfl | (simp only [List.length_drop, List.length_take]; rfl)) ?_; (with_reducible refine (laws_toBorderS.calls k _ _ l1 t253 _ ?side1 ?side2 A10.out).mono ?_); (case side1 => repeat (first | exact (Kd.C_below HR1.out HB.out) | (with_reducible refine Kd.C_alloc ?_ _) | (with_reducible refine Kd.C_drewN ?_ _) | (with_reducible refine Kd.C_drew ?_))); (case side2 => exact HC1.out); rintro e w19 ⟨v254, rfl, ho0, hb⟩; refine ⟨_, rfl, ?_⟩; have n0_ := Aside0.mk (Kd.R_elder' (by (with_reducible repeat (first | apply Kd.R_alloc | apply Kd.R_drewN | apply Kd.R_drew)); exact HO245.out) (Kd.R_base ho0) hb); have n1_ := Aside0.mk (Kd.R_below (by (with_reducible repeat (first | apply Kd.R_alloc | apply Kd.R_drewN | apply Kd.R_drew)); exact HO248.out) hb); have n2_ := Aside0.mk (Kd.R_below (by (with_reducible repeat (first | apply Kd.R_alloc | apply Kd.R_drewN | apply Kd.R_drew)); exact HO252.out) hb); have n3_ := Aside0.mk (Kd.R_lower (Kd.R_new' ho0 (Kd.R_lt (by (with_reducible repeat (first | apply Kd.R_alloc | apply Kd.R_drewN | apply Kd.R_drew)); exact HO245.out))) (below_size (by repeat (first | (with_reducible first | exact HB.out | apply below_alloc | apply pw_below_drewN | apply below_drew1) | exact HB.out)))); have n4_ := Aside0.mk (below_step (by repeat (first | (with_reducible first | exact HB.out | apply below_alloc | apply pw_below_drewN | apply below_drew1) | exact HB.out)) hb); clear HO245; clear HO248; clear HO252; clear HB; have HO245 := n0_; have HO248 := n1_; have HO252 := n2_; have HO255 := n3_; have HB := n4_; clear n0_ n1_ n2_ n3_ n4_; (try clear hb); (try clear hb2); (try clear hk); (try clear hi); (try clear ho0)) | ((with_reducible refine gate_callee (f := 27) rfl ?_); refine goesL_ (some 39) rfl rfl Try.func27 (by kernel_rfl) rfl #[.slice A2 l2.length c2] rfl (by (try simp only [List.map_toArray, List.map_cons, List.map_nil]); first | done | rfl | (simp only [List.length_drop, List.length_take]; rfl)) ?_; (with_reducible refine (laws_toInt64S.calls k _ _ l2 t256 _ ?side1 ?side2 A11.out).mono ?_); (case side1 => repeat (first | exact (Kd.C_below HR2.out HB.out) | (with_reducible refine Kd.C_alloc ?_ _) | (with_reducible refine Kd.C_drewN ?_ _) | (with_reducible refine Kd.C_drew ?_))); (case side2 => exact HC2.out); rintro e w20 ⟨v257, rfl, ho0, hb⟩; refine ⟨_, rfl, ?_⟩; have n0_ := Aside0.mk (Kd.R_below (by (with_reducible repeat (first | apply Kd.R_alloc | apply Kd.R_drewN | apply Kd.R_drew)); exact HO245.out) hb); have n1_ := Aside0.mk (Kd.R_elder' (by (with_reducible repeat (first | apply Kd.R_alloc | apply Kd.R_drewN | apply Kd.R_drew)); exact HO248.out) (Kd.R_base ho0) hb); have n2_ := Aside0.mk (Kd.R_elder' (by (with_reducible repeat (first | apply Kd.R_alloc | apply Kd.R_drewN | apply Kd.R_drew)); exact HO252.out) (Kd.R_base ho0) hb); have n3_ := Aside0.mk (Kd.R_below (by (with_reducible repeat (first | apply Kd.R_alloc | apply Kd.R_drewN | apply Kd.R_drew)); exact HO255.out) hb); have n4_ := Aside0.mk (Kd.R_lower (Kd.R_new' (Kd.R_new' ho0 (Kd.R_lt (by (with_reducible repeat (first | apply Kd.R_alloc | apply Kd.R_drewN | apply Kd.R_drew)); exact HO248.out))) (Kd.R_lt (by (with_reducible repeat (first | apply Kd.R_alloc | apply Kd.R_drewN | apply Kd.R_drew)); exact HO252.out))) (below_size (by repeat (first | (with_reducible first | exact HB.out | apply below_alloc | apply pw_below_drewN | apply below_drew1) | exact HB.out)))); have n5_ := Aside0.mk (below_step (by repeat (first | (with_reducible first | exact HB.out | apply below_alloc | apply pw_below_drewN | apply below_drew1) | exact HB.out)) hb); clear HO245; clear HO248; clear HO252; clear HO255; clear HB; have HO245 := n0_; have HO248 := n1_; have HO252 := n2_; have HO255 := n3_; have HO258 := n4_; have HB := n5_; clear n0_ n1_ n2_ n3_ n4_ n5_; (try clear hb); (try clear hb2); (try clear hk); (try clear hi); (try clear ho0); obtain ⟨Ao21, co21, eo21⟩ := Kd.R_slice HO255.out; subst eo21; obtain ⟨Ao22, co22, eo22⟩ := Kd.R_slice HO258.out; subst eo22) | ((with_reducible refine gate_callee (f := 30) rfl ?_); refine goesL_ (some 44) rfl rfl Try.func30 (by kernel_rfl) rfl #[.int .i64 a0, .slice Ao21 t253.length co21, .slice Ao22 t256.length co22] rfl (by (try simp only [List.map_toArray, List.map_cons, List.map_nil]); first | done | rfl | (simp only [List.length_drop, List.length_take]; rfl)) ?_; (with_reducible refine (impl_GreedyColours.calls k a0 _ _ t253 _ _ t256 t259 t260 _ ?side1 ?side2 ?side3 ?side4 A12.out).mono ?_); (case side1 => repeat (first | exact (Kd.R_reads' HO255.out).2.2 | (with_reducible refine Kd.C_alloc ?_ _) | (with_reducible refine Kd.C_drewN ?_ _) | (with_reducible refine Kd.C_drew ?_))); (case side2 => exact (Kd.R_reads' HO255.out).2.1); (case side3 => repeat (first | exact (Kd.R_reads' HO258.out).2.2 | (with_reducible refine Kd.C_alloc ?_ _) | (with_reducible refine Kd.C_drewN ?_ _) | (with_reducible refine Kd.C_drew ?_))); (case side4 => exact (Kd.R_reads' HO258.out).2.1); rintro e w23 ⟨v261, rfl, ho0, hb⟩; refine ⟨_, rfl, ?_⟩; have n0_ := Aside0.mk (Kd.R_below (by (with_reducible repeat (first | apply Kd.R_alloc | apply Kd.R_drewN | apply Kd.R_drew)); exact HO245.out) hb); have n1_ := Aside0.mk (Kd.R_elder' (by (with_reducible repeat (first | apply Kd.R_alloc | apply Kd.R_drewN | apply Kd.R_drew)); exact HO248.out) (Kd.R_base ho0) hb); have n2_ := Aside0.mk (Kd.R_elder' (by (with_reducible repeat (first | apply Kd.R_alloc | apply Kd.R_drewN | apply Kd.R_drew)); exact HO252.out) (Kd.R_base ho0) hb); have n3_ := Aside0.mk (Kd.R_below (by (with_reducible repeat (first | apply Kd.R_alloc | apply Kd.R_drewN | apply Kd.R_drew)); exact HO255.out) hb); have n4_ := Aside0.mk (Kd.R_elder' (by (with_reducible repeat (first | apply Kd.R_alloc | apply Kd.R_drewN | apply Kd.R_drew)); exact HO258.out) (Kd.R_base ho0) hb); have n5_ := Aside0.mk (Kd.R_lower (Kd.R_new' (Kd.R_new' (Kd.R_new' ho0 (Kd.R_lt (by (with_reducible repeat (first | apply Kd.R_alloc | apply Kd.R_drewN | apply Kd.R_drew)); exact HO248.out))) (Kd.R_lt (by (with_reducible repeat (first | apply Kd.R_alloc | apply Kd.R_drewN | apply Kd.R_drew)); exact HO252.out))) (Kd.R_lt (by (with_reducible repeat (first | apply Kd.R_alloc | apply Kd.R_drewN | apply Kd.R_drew)); exact HO258.out))) (below_size (by repeat (first | (with_reducible first | exact HB.out | apply below_alloc | apply pw_below_drewN | apply below_drew1) | exact HB.out)))); have n6_ := Aside0.mk (below_step (by repeat (first | (with_reducible first | exact HB.out | apply below_alloc | apply pw_below_drewN | apply below_drew1) | exact HB.out)) hb); clear HO245; clear HO248; clear HO252; clear HO255; clear HO258; clear HB; have HO245 := n0_; have HO248 := n1_; have HO252 := n2_; have HO255 := n3_; have HO258 := n4_; have HO262 := n5_; have HB := n6_; clear n0_ n1_ n2_ n3_ n4_ n5_ n6_; (try clear hb); (try clear hb2); (try clear hk); (try clear hi); (try clear ho0)))
   (try simp only [Act.put, List.setIfInBounds_toArray, List.set_cons_zero, List.set_cons_succ])
   go_cut [55] (fun v55 wc => ∃ (kq : Nat) (x55_12 : Bool), v55 = .bool x55_12 ∧ Aside0 (laws_FnExactGreedyColours.j0 kq a0 l1 l2 t249 t250 t253 t256 t259 t260 x55_12 = some r) ∧ Aside0 (kq ≤ k) ∧ Aside0 (Kd.R (Kd.int .i64) 2 wc w.heap.size (fun k_ => some k_ ≠ ((.slice Ao22 t256.length co22) : Value).ownBlock ∧ some k_ ≠ (v261 : Value).ownBlock) v251 t249) ∧ Aside0 (Kd.R k55 55 wc w.heap.size (fun _ => True) (.slice Ao21 t253.length co21) t253) ∧ Aside0 (Kd.R (Kd.int .i64) 2 wc w.heap.size (fun k_ => some k_ ≠ (v251 : Value).ownBlock ∧ some k_ ≠ (v261 : Value).ownBlock) (.slice Ao22 t256.length co22) t256) ∧ Aside0 (Kd.R (Kd.int .i64) 2 wc w.heap.size (fun k_ => some k_ ≠ (v251 : Value).ownBlock ∧ some k_ ≠ ((.slice Ao22 t256.length co22) : Value).ownBlock) v261 t259) ∧ Aside0 (Below w.heap.size w wc))
   case first =>
    have H := HC13.out
    clear HC13
    replace H := Option.bind_eq_some_iff.mp H
    obtain ⟨t263, A240, H⟩ := H
    replace H : (if t263 = true then (laws_FnExactGreedyColours.j0 k a0 l1 l2 t249 t250 t253 t256 t259 t260 (t260 != t250)) else (none)) = some r := H
    have A24 := Aside0.mk A240
    clear A240
    by_cases c25 : t263 = true
    ·subst c25
     have H1 : (laws_FnExactGreedyColours.j0 k a0 l1 l2 t249 t250 t253 t256 t259 t260 (t260 != t250)) = some r := by rw [if_pos rfl] at H; exact H
     clear H
     have H := H1
     clear H1
     have H' := Aside0.mk H
     clear H
     obtain ⟨Ao26, co26, eo26⟩ := Kd.R_slice HO262.out
     subst eo26
     obtain ⟨Ao27, co27, eo27⟩ := Kd.R_slice HO252.out
     subst eo27
     go_wp2_with (first | ((with_reducible refine gate_callee (f := 29) rfl ?_); refine goesL_ (some 49) rfl rfl Try.func29 (by kernel_rfl) rfl #[.slice Ao26 t259.length co26, .slice Ao27 t249.length co27] rfl (by (try simp only [List.map_toArray, List.map_cons, List.map_nil]); first | done | rfl | (simp only [List.length_drop, List.length_take]; rfl)) ?_; (with_reducible refine (laws_eqInt64S.calls k _ _ t259 _ _ t249 true _ ?side1 ?side2 ?side3 ?side4 A24.out).mono ?_); (case side1 => repeat (first | exact (Kd.R_reads' HO262.out).2.2 | (with_reducible refine Kd.C_alloc ?_ _) | (with_reducible refine Kd.C_drewN ?_ _) | (with_reducible refine Kd.C_drew ?_))); (case side2 => exact (Kd.R_reads' HO262.out).2.1); (case side3 => repeat (first | exact (Kd.R_reads' HO252.out).2.2 | (with_reducible refine Kd.C_alloc ?_ _) | (with_reducible refine Kd.C_drewN ?_ _) | (with_reducible refine Kd.C_drew ?_))); (case side4 => exact (Kd.R_reads' HO252.out).2.1); rintro e w' ⟨rfl, ⟨nd, rfl⟩⟩; refine ⟨_, rfl, ?_⟩))
     go_meet
     case rel => exact ⟨_, ((t260 != t250)), (by first | rfl | (simp; done) | (simp [*]; done)), H', ⟨by first | omega | exact Nat.le_refl _⟩, ⟨by (with_reducible repeat (first | apply Kd.R_alloc | apply Kd.R_drewN | apply Kd.R_drew)); exact Kd.R_mono HO252.out (fun _ hk => ⟨hk.1.2, hk.2⟩)⟩, ⟨by (with_reducible repeat (first | apply Kd.R_alloc | apply Kd.R_drewN | apply Kd.R_drew)); exact Kd.R_mono HO255.out (fun _ hk => trivial)⟩, ⟨by (with_reducible repeat (first | apply Kd.R_alloc | apply Kd.R_drewN | apply Kd.R_drew)); exact Kd.R_mono HO258.out (fun _ hk => ⟨hk.1.2, hk.2⟩)⟩, ⟨by (with_reducible repeat (first | apply Kd.R_alloc | apply Kd.R_drewN | apply Kd.R_drew)); exact Kd.R_mono HO262.out (fun _ hk => ⟨hk.1.2, hk.2⟩)⟩, ⟨by repeat (first | (with_reducible first | exact HB.out | apply below_alloc | apply pw_below_drewN | apply below_drew1) | exact HB.out)⟩⟩
    ·replace c25 := Bool.eq_false_iff.mpr c25
     subst c25
     have H1 : (none) = some r := by rw [if_neg (show ¬ (false = true) by decide)] at H; exact H
     clear H
     have H := H1
     clear H1
     exact absurd H (by simp)
   case rest =>
    clear HC13
    try clear c1
    try clear c2
    try clear p2
    try clear c3
    try clear c4
    try clear c4b0
    try clear c4b1
    try clear c6
    try clear c6b0
    try clear c13
    try clear c14
    try clear c16
    try clear c25
    try clear c27
    obtain ⟨kq, x55_12, rfl, HA, HJ12, HO_8, HO_10, HO_11, HO_12, HB⟩ := hcut
    cases kq with
    | zero => exact absurd HA.out (by simp [laws_FnExactGreedyColours.j0])
    | succ kj12 =>
     have H := HA.out
     clear HA
     simp only [laws_FnExactGreedyColours.j0] at H
     by_cases c28 : x55_12 = true
     ·subst c28
      have H1 : (none) = some r := by rw [if_pos rfl] at H; exact H
      clear H
      have H := H1
      clear H1
      exact absurd H (by simp)
     ·replace c28 := Bool.eq_false_iff.mpr c28
      subst c28
      have H1 : ((laws_toBorderS.f kj12 l1).bind fun t264 => ((laws_eqBorderS.f kj12 t253 t264).bind fun t267 => (if t267 = true then ((laws_toInt64S.f kj12 l2).bind fun t268 => ((laws_eqInt64S.f kj12 t256 t268).bind fun t271 => (if t271 = true then ((laws_markBorderS.f kj12 t253 1).bind fun bt272 => ((laws_markInt64S.f kj12 t256 bt272.1).bind fun bt274 => (if bt274.1 < 0 then (none) else ((laws_eqInt64S.f kj12 t259 t249).bind fun t276 => (if t276 = true then (laws_FnExactGreedyColours.j1 kj12 a0 l1 l2 t249 t250 t259 (t260 != t250)) else (none)))))) else (none)))) else (none)))) = some r := by rw [if_neg (show ¬ (false = true) by decide)] at H; exact H
      clear H
      have H := H1
      clear H1
      replace H := Option.bind_eq_some_iff.mp H
      obtain ⟨t264, A290, H⟩ := H
      replace H : ((laws_eqBorderS.f kj12 t253 t264).bind fun t267 => (if t267 = true then ((laws_toInt64S.f kj12 l2).bind fun t268 => ((laws_eqInt64S.f kj12 t256 t268).bind fun t271 => (if t271 = true then ((laws_markBorderS.f kj12 t253 1).bind fun bt272 => ((laws_markInt64S.f kj12 t256 bt272.1).bind fun bt274 => (if bt274.1 < 0 then (none) else ((laws_eqInt64S.f kj12 t259 t249).bind fun t276 => (if t276 = true then (laws_FnExactGreedyColours.j1 kj12 a0 l1 l2 t249 t250 t259 (t260 != t250)) else (none)))))) else (none)))) else (none))) = some r := H
      have A29 := Aside0.mk A290
      clear A290
      replace H := Option.bind_eq_some_iff.mp H
      obtain ⟨t267, A300, H⟩ := H
      replace H : (if t267 = true then ((laws_toInt64S.f kj12 l2).bind fun t268 => ((laws_eqInt64S.f kj12 t256 t268).bind fun t271 => (if t271 = true then ((laws_markBorderS.f kj12 t253 1).bind fun bt272 => ((laws_markInt64S.f kj12 t256 bt272.1).bind fun bt274 => (if bt274.1 < 0 then (none) else ((laws_eqInt64S.f kj12 t259 t249).bind fun t276 => (if t276 = true then (laws_FnExactGreedyColours.j1 kj12 a0 l1 l2 t249 t250 t259 (t260 != t250)) else (none)))))) else (none)))) else (none)) = some r := H
      have A30 := Aside0.mk A300
      clear A300
      by_cases c31 : t267 = true
      ·subst c31
       have H1 : ((laws_toInt64S.f kj12 l2).bind fun t268 => ((laws_eqInt64S.f kj12 t256 t268).bind fun t271 => (if t271 = true then ((laws_markBorderS.f kj12 t253 1).bind fun bt272 => ((laws_markInt64S.f kj12 t256 bt272.1).bind fun bt274 => (if bt274.1 < 0 then (none) else ((laws_eqInt64S.f kj12 t259 t249).bind fun t276 => (if t276 = true then (laws_FnExactGreedyColours.j1 kj12 a0 l1 l2 t249 t250 t259 (t260 != t250)) else (none)))))) else (none)))) = some r := by rw [if_pos rfl] at H; exact H
       clear H
       have H := H1
       clear H1
       replace H := Option.bind_eq_some_iff.mp H
       obtain ⟨t268, A320, H⟩ := H
       replace H : ((laws_eqInt64S.f kj12 t256 t268).bind fun t271 => (if t271 = true then ((laws_markBorderS.f kj12 t253 1).bind fun bt272 => ((laws_markInt64S.f kj12 t256 bt272.1).bind fun bt274 => (if bt274.1 < 0 then (none) else ((laws_eqInt64S.f kj12 t259 t249).bind fun t276 => (if t276 = true then (laws_FnExactGreedyColours.j1 kj12 a0 l1 l2 t249 t250 t259 (t260 != t250)) else (none)))))) else (none))) = some r := H
       have A32 := Aside0.mk A320
       clear A320
       replace H := Option.bind_eq_some_iff.mp H
       obtain ⟨t271, A330, H⟩ := H
       replace H : (if t271 = true then ((laws_markBorderS.f kj12 t253 1).bind fun bt272 => ((laws_markInt64S.f kj12 t256 bt272.1).bind fun bt274 => (if bt274.1 < 0 then (none) else ((laws_eqInt64S.f kj12 t259 t249).bind fun t276 => (if t276 = true then (laws_FnExactGreedyColours.j1 kj12 a0 l1 l2 t249 t250 t259 (t260 != t250)) else (none)))))) else (none)) = some r := H
       have A33 := Aside0.mk A330
       clear A330
       by_cases c34 : t271 = true
       ·subst c34
        have H1 : ((laws_markBorderS.f kj12 t253 1).bind fun bt272 => ((laws_markInt64S.f kj12 t256 bt272.1).bind fun bt274 => (if bt274.1 < 0 then (none) else ((laws_eqInt64S.f kj12 t259 t249).bind fun t276 => (if t276 = true then (laws_FnExactGreedyColours.j1 kj12 a0 l1 l2 t249 t250 t259 (t260 != t250)) else (none)))))) = some r := by rw [if_pos rfl] at H; exact H
        clear H
        have H := H1
        clear H1
        replace H := Option.bind_eq_some_iff.mp H
        obtain ⟨⟨t272, t273⟩, A350, H⟩ := H
        replace H : ((laws_markInt64S.f kj12 t256 t272).bind fun bt274 => (if bt274.1 < 0 then (none) else ((laws_eqInt64S.f kj12 t259 t249).bind fun t276 => (if t276 = true then (laws_FnExactGreedyColours.j1 kj12 a0 l1 l2 t249 t250 t259 (t260 != t250)) else (none))))) = some r := H
        have A35 := Aside0.mk A350
        clear A350
        replace H := Option.bind_eq_some_iff.mp H
        obtain ⟨⟨t274, t275⟩, A360, H⟩ := H
        replace H : (if t274 < 0 then (none) else ((laws_eqInt64S.f kj12 t259 t249).bind fun t276 => (if t276 = true then (laws_FnExactGreedyColours.j1 kj12 a0 l1 l2 t249 t250 t259 (t260 != t250)) else (none)))) = some r := H
        have A36 := Aside0.mk A360
        clear A360
        have HC37 := Aside0.mk H
        clear H
        go_upto_region 20 with (first | ((with_reducible refine gate_callee (f := 16) rfl ?_); refine goesL_ (some 58) rfl rfl Try.func16 (by kernel_rfl) rfl #[.slice A1 l1.length c1] rfl (by (try simp only [List.map_toArray, List.map_cons, List.map_nil]); first | done | rfl | (simp only [List.length_drop, List.length_take]; rfl)) ?_; (with_reducible refine (laws_toBorderS.calls kj12 _ _ l1 t264 _ ?side1 ?side2 A29.out).mono ?_); (case side1 => repeat (first | exact (Kd.C_below HR1.out HB.out) | (with_reducible refine Kd.C_alloc ?_ _) | (with_reducible refine Kd.C_drewN ?_ _) | (with_reducible refine Kd.C_drew ?_))); (case side2 => exact HC1.out); rintro e w38 ⟨v265, rfl, ho0, hb⟩; refine ⟨_, rfl, ?_⟩; have n0_ := Aside0.mk (Kd.R_below (by (with_reducible repeat (first | apply Kd.R_alloc | apply Kd.R_drewN | apply Kd.R_drew)); exact HO_8.out) hb); have n1_ := Aside0.mk (Kd.R_elder' (by (with_reducible repeat (first | apply Kd.R_alloc | apply Kd.R_drewN | apply Kd.R_drew)); exact HO_10.out) (Kd.R_base ho0) hb); have n2_ := Aside0.mk (Kd.R_below (by (with_reducible repeat (first | apply Kd.R_alloc | apply Kd.R_drewN | apply Kd.R_drew)); exact HO_11.out) hb); have n3_ := Aside0.mk (Kd.R_below (by (with_reducible repeat (first | apply Kd.R_alloc | apply Kd.R_drewN | apply Kd.R_drew)); exact HO_12.out) hb); have n4_ := Aside0.mk (Kd.R_lower (Kd.R_new' ho0 (Kd.R_lt (by (with_reducible repeat (first | apply Kd.R_alloc | apply Kd.R_drewN | apply Kd.R_drew)); exact HO_10.out))) (below_size (by repeat (first | (with_reducible first | exact HB.out | apply below_alloc | apply pw_below_drewN | apply below_drew1) | exact HB.out)))); have n5_ := Aside0.mk (below_step (by repeat (first | (with_reducible first | exact HB.out | apply below_alloc | apply pw_below_drewN | apply below_drew1) | exact HB.out)) hb); clear HO_8; clear HO_10; clear HO_11; clear HO_12; clear HB; have HO_8 := n0_; have HO_10 := n1_; have HO_11 := n2_; have HO_12 := n3_; have HO266 := n4_; have HB := n5_; clear n0_ n1_ n2_ n3_ n4_ n5_; (try clear hb); (try clear hb2); (try clear hk); (try clear hi); (try clear ho0); obtain ⟨Ao39, co39, eo39⟩ := Kd.R_slice HO266.out; subst eo39) | ((with_reducible refine gate_callee (f := 18) rfl ?_); refine goesL_ (some 59) rfl rfl Try.func18 (by kernel_rfl) rfl #[.slice Ao21 t253.length co21, .slice Ao39 t264.length co39] rfl (by (try simp only [List.map_toArray, List.map_cons, List.map_nil]); first | done | rfl | (simp only [List.length_drop, List.length_take]; rfl)) ?_; (with_reducible refine (laws_eqBorderS.calls kj12 _ _ t253 _ _ t264 true _ ?side1 ?side2 ?side3 ?side4 A30.out).mono ?_); (case side1 => repeat (first | exact (Kd.R_reads' HO_10.out).2.2 | (with_reducible refine Kd.C_alloc ?_ _) | (with_reducible refine Kd.C_drewN ?_ _) | (with_reducible refine Kd.C_drew ?_))); (case side2 => exact (Kd.R_reads' HO_10.out).2.1); (case side3 => repeat (first | exact (Kd.R_reads' HO266.out).2.2 | (with_reducible refine Kd.C_alloc ?_ _) | (with_reducible refine Kd.C_drewN ?_ _) | (with_reducible refine Kd.C_drew ?_))); (case side4 => exact (Kd.R_reads' HO266.out).2.1); rintro e w40 ⟨rfl, hb⟩; refine ⟨_, rfl, ?_⟩; have n0_ := Aside0.mk (Kd.R_below (by (with_reducible repeat (first | apply Kd.R_alloc | apply Kd.R_drewN | apply Kd.R_drew)); exact HO_8.out) hb); have n1_ := Aside0.mk (Kd.R_below (by (with_reducible repeat (first | apply Kd.R_alloc | apply Kd.R_drewN | apply Kd.R_drew)); exact HO_10.out) hb); have n2_ := Aside0.mk (Kd.R_below (by (with_reducible repeat (first | apply Kd.R_alloc | apply Kd.R_drewN | apply Kd.R_drew)); exact HO_11.out) hb); have n3_ := Aside0.mk (Kd.R_below (by (with_reducible repeat (first | apply Kd.R_alloc | apply Kd.R_drewN | apply Kd.R_drew)); exact HO_12.out) hb); have n4_ := Aside0.mk (Kd.R_below (by (with_reducible repeat (first | apply Kd.R_alloc | apply Kd.R_drewN | apply Kd.R_drew)); exact HO266.out) hb); have n5_ := Aside0.mk (below_step (by repeat (first | (with_reducible first | exact HB.out | apply below_alloc | apply pw_below_drewN | apply below_drew1) | exact HB.out)) hb); clear HO_8; clear HO_10; clear HO_11; clear HO_12; clear HO266; clear HB; have HO_8 := n0_; have HO_10 := n1_; have HO_11 := n2_; have HO_12 := n3_; have HO266 := n4_; have HB := n5_; clear n0_ n1_ n2_ n3_ n4_ n5_; (try clear hb); (try clear hb2); (try clear hk); (try clear hi)) | ((with_reducible refine gate_callee (f := 27) rfl ?_); refine goesL_ (some 63) rfl rfl Try.func27 (by kernel_rfl) rfl #[.slice A2 l2.length c2] rfl (by (try simp only [List.map_toArray, List.map_cons, List.map_nil]); first | done | rfl | (simp only [List.length_drop, List.length_take]; rfl)) ?_; (with_reducible refine (laws_toInt64S.calls kj12 _ _ l2 t268 _ ?side1 ?side2 A32.out).mono ?_); (case side1 => repeat (first | exact (Kd.C_below HR2.out HB.out) | (with_reducible refine Kd.C_alloc ?_ _) | (with_reducible refine Kd.C_drewN ?_ _) | (with_reducible refine Kd.C_drew ?_))); (case side2 => exact HC2.out); rintro e w41 ⟨v269, rfl, ho0, hb⟩; refine ⟨_, rfl, ?_⟩; have n0_ := Aside0.mk (Kd.R_elder' (by (with_reducible repeat (first | apply Kd.R_alloc | apply Kd.R_drewN | apply Kd.R_drew)); exact HO_8.out) (Kd.R_base ho0) hb); have n1_ := Aside0.mk (Kd.R_below (by (with_reducible repeat (first | apply Kd.R_alloc | apply Kd.R_drewN | apply Kd.R_drew)); exact HO_10.out) hb); have n2_ := Aside0.mk (Kd.R_elder' (by (with_reducible repeat (first | apply Kd.R_alloc | apply Kd.R_drewN | apply Kd.R_drew)); exact HO_11.out) (Kd.R_base ho0) hb); have n3_ := Aside0.mk (Kd.R_elder' (by (with_reducible repeat (first | apply Kd.R_alloc | apply Kd.R_drewN | apply Kd.R_drew)); exact HO_12.out) (Kd.R_base ho0) hb); have n4_ := Aside0.mk (Kd.R_below (by (with_reducible repeat (first | apply Kd.R_alloc | apply Kd.R_drewN | apply Kd.R_drew)); exact HO266.out) hb); have n5_ := Aside0.mk (Kd.R_lower (Kd.R_new' (Kd.R_new' (Kd.R_new' ho0 (Kd.R_lt (by (with_reducible repeat (first | apply Kd.R_alloc | apply Kd.R_drewN | apply Kd.R_drew)); exact HO_8.out))) (Kd.R_lt (by (with_reducible repeat (first | apply Kd.R_alloc | apply Kd.R_drewN | apply Kd.R_drew)); exact HO_11.out))) (Kd.R_lt (by (with_reducible repeat (first | apply Kd.R_alloc | apply Kd.R_drewN | apply Kd.R_drew)); exact HO_12.out))) (below_size (by repeat (first | (with_reducible first | exact HB.out | apply below_alloc | apply pw_below_drewN | apply below_drew1) | exact HB.out)))); have n6_ := Aside0.mk (below_step (by repeat (first | (with_reducible first | exact HB.out | apply below_alloc | apply pw_below_drewN | apply below_drew1) | exact HB.out)) hb); clear HO_8; clear HO_10; clear HO_11; clear HO_12; clear HO266; clear HB; have HO_8 := n0_; have HO_10 := n1_; have HO_11 := n2_; have HO_12 := n3_; have HO266 := n4_; have HO270 := n5_; have HB := n6_; clear n0_ n1_ n2_ n3_ n4_ n5_ n6_; (try clear hb); (try clear hb2); (try clear hk); (try clear hi); (try clear ho0); obtain ⟨Ao42, co42, eo42⟩ := Kd.R_slice HO270.out; subst eo42) | ((with_reducible refine gate_callee (f := 29) rfl ?_); refine goesL_ (some 64) rfl rfl Try.func29 (by kernel_rfl) rfl #[.slice Ao22 t256.length co22, .slice Ao42 t268.length co42] rfl (by (try simp only [List.map_toArray, List.map_cons, List.map_nil]); first | done | rfl | (simp only [List.length_drop, List.length_take]; rfl)) ?_; (with_reducible refine (laws_eqInt64S.calls kj12 _ _ t256 _ _ t268 true _ ?side1 ?side2 ?side3 ?side4 A33.out).mono ?_); (case side1 => repeat (first | exact (Kd.R_reads' HO_11.out).2.2 | (with_reducible refine Kd.C_alloc ?_ _) | (with_reducible refine Kd.C_drewN ?_ _) | (with_reducible refine Kd.C_drew ?_))); (case side2 => exact (Kd.R_reads' HO_11.out).2.1); (case side3 => repeat (first | exact (Kd.R_reads' HO270.out).2.2 | (with_reducible refine Kd.C_alloc ?_ _) | (with_reducible refine Kd.C_drewN ?_ _) | (with_reducible refine Kd.C_drew ?_))); (case side4 => exact (Kd.R_reads' HO270.out).2.1); rintro e w' ⟨rfl, ⟨nd, rfl⟩⟩; refine ⟨_, rfl, ?_⟩) | ((with_reducible refine gate_callee (f := 37) rfl ?_); refine goesL_ (some 68) rfl rfl Try.func37 (by kernel_rfl) rfl #[.slice Ao21 t253.length co21, .int .i64 1] rfl (by (try simp only [List.map_toArray, List.map_cons, List.map_nil]); first | done | rfl | (simp only [List.length_drop, List.length_take]; rfl)) ?_; (with_reducible refine (laws_markBorderS.calls kj12 (fun k_ => some k_ = (.slice Ao21 t253.length co21 : Value).ownBlock) (.slice Ao21 t253.length co21) t253 1 t272 t273 w _ ?side1 ?side2 A35.out).mono ?_); (case side1 => repeat (first | (with_reducible first | exact HB.out | apply below_alloc | apply pw_below_drewN | apply below_drew1) | exact HB.out)); (case side2 => exact Kd.R_tight rfl HO_10.out); rintro e w43 ⟨rfl, hy0, hb, hkp⟩; refine ⟨_, rfl, ?_⟩; have n0_ := Aside0.mk (Kd.R_mono (ok' := fun k_ => some k_ ≠ (.slice Ao22 t256.length co22 : Value).ownBlock ∧ some k_ ≠ (v261 : Value).ownBlock ∧ some k_ ≠ (.slice Ao42 t268.length co42 : Value).ownBlock) (Kd.R_keptB ((Kd.R_apart' HO_8.out (Kd.R_typed HO_10.out) (by decide))) hkp (fun k_ hk_ hs_ => (hk_.2) hs_)) (fun k_ hk_ => ⟨hk_.1.1.1.1, hk_.1.1.1.2, hk_.1.1.2⟩)); have n1_ := Aside0.mk (Kd.R_reok rfl hy0 (fun k_ e_ => HO_10.out.1 k_ e_)); have n2_ := Aside0.mk (Kd.R_mono (ok' := fun k_ => some k_ ≠ (v251 : Value).ownBlock ∧ some k_ ≠ (v261 : Value).ownBlock ∧ some k_ ≠ (.slice Ao42 t268.length co42 : Value).ownBlock) (Kd.R_keptB ((Kd.R_apart' HO_11.out (Kd.R_typed HO_10.out) (by decide))) hkp (fun k_ hk_ hs_ => (hk_.2) hs_)) (fun k_ hk_ => ⟨hk_.1.1.1.1, hk_.1.1.1.2, hk_.1.1.2⟩)); have n3_ := Aside0.mk (Kd.R_mono (ok' := fun k_ => some k_ ≠ (v251 : Value).ownBlock ∧ some k_ ≠ (.slice Ao22 t256.length co22 : Value).ownBlock ∧ some k_ ≠ (.slice Ao42 t268.length co42 : Value).ownBlock) (Kd.R_keptB ((Kd.R_apart' HO_12.out (Kd.R_typed HO_10.out) (by decide))) hkp (fun k_ hk_ hs_ => (hk_.2) hs_)) (fun k_ hk_ => ⟨hk_.1.1.1.1, hk_.1.1.1.2, hk_.1.1.2⟩)); have n4_ := Aside0.mk (Kd.R_mono (ok' := fun k_ => some k_ ≠ (.slice Ao21 t253.length co21 : Value).ownBlock) (Kd.R_keptB (HO266.out) hkp (fun k_ hk_ hs_ => (hk_.2) hs_)) (fun k_ hk_ => hk_.1.2)); have n5_ := Aside0.mk (Kd.R_mono (ok' := fun k_ => some k_ ≠ (v251 : Value).ownBlock ∧ some k_ ≠ (.slice Ao22 t256.length co22 : Value).ownBlock ∧ some k_ ≠ (v261 : Value).ownBlock) (Kd.R_keptB ((Kd.R_apart' HO270.out (Kd.R_typed HO_10.out) (by decide))) hkp (fun k_ hk_ hs_ => (hk_.2) hs_)) (fun k_ hk_ => ⟨hk_.1.1.1.1.2, hk_.1.1.1.2, hk_.1.1.2⟩)); have n6_ := Aside0.mk (hb); clear HO_8; clear HO_10; clear HO_11; clear HO_12; clear HO266; clear HO270; clear HB; have HO_8 := n0_; have HO_10 := n1_; have HO_11 := n2_; have HO_12 := n3_; have HO266 := n4_; have HO270 := n5_; have HB := n6_; clear n0_ n1_ n2_ n3_ n4_ n5_ n6_; (try clear hb); (try clear hkp); (try clear hy0)) | ((with_reducible refine gate_callee (f := 38) rfl ?_); refine goesL_ (some 71) rfl rfl Try.func38 (by kernel_rfl) rfl #[.slice Ao22 t256.length co22, .int .i64 t272] rfl (by (try simp only [List.map_toArray, List.map_cons, List.map_nil]); first | done | rfl | (simp only [List.length_drop, List.length_take]; rfl)) ?_; (with_reducible refine (laws_markInt64S.calls kj12 (fun k_ => some k_ = (.slice Ao22 t256.length co22 : Value).ownBlock) (.slice Ao22 t256.length co22) t256 t272 t274 t275 w _ ?side1 ?side2 A36.out).mono ?_); (case side1 => repeat (first | (with_reducible first | exact HB.out | apply below_alloc | apply pw_below_drewN | apply below_drew1) | exact HB.out)); (case side2 => exact Kd.R_tight rfl HO_11.out); rintro e w44 ⟨rfl, hy0, hb, hkp⟩; refine ⟨_, rfl, ?_⟩; have n0_ := Aside0.mk (Kd.R_mono (ok' := fun k_ => some k_ ≠ (.slice Ao22 t256.length co22 : Value).ownBlock ∧ some k_ ≠ (v261 : Value).ownBlock ∧ some k_ ≠ (.slice Ao42 t268.length co42 : Value).ownBlock) (Kd.R_keptB (HO_8.out) hkp (fun k_ hk_ hs_ => (hk_.1) hs_)) (fun k_ hk_ => ⟨hk_.1.1, hk_.1.2.1, hk_.1.2.2⟩)); have n1_ := Aside0.mk (Kd.R_mono (ok' := fun k_ => some k_ ≠ (.slice Ao39 t264.length co39 : Value).ownBlock) (Kd.R_keptB ((Kd.R_apart' HO_10.out (Kd.R_typed HO_11.out) (by decide))) hkp (fun k_ hk_ hs_ => (hk_.2) hs_)) (fun k_ hk_ => hk_.1.1.2)); have n2_ := Aside0.mk (Kd.R_reok rfl hy0 (fun k_ e_ => HO_11.out.1 k_ e_)); have n3_ := Aside0.mk (Kd.R_mono (ok' := fun k_ => some k_ ≠ (v251 : Value).ownBlock ∧ some k_ ≠ (.slice Ao22 t256.length co22 : Value).ownBlock ∧ some k_ ≠ (.slice Ao42 t268.length co42 : Value).ownBlock) (Kd.R_keptB (HO_12.out) hkp (fun k_ hk_ hs_ => (hk_.2.1) hs_)) (fun k_ hk_ => ⟨hk_.1.1, hk_.1.2.1, hk_.1.2.2⟩)); have n4_ := Aside0.mk (Kd.R_mono (ok' := fun k_ => some k_ ≠ (.slice Ao21 t253.length co21 : Value).ownBlock) (Kd.R_keptB ((Kd.R_apart' HO266.out (Kd.R_typed HO_11.out) (by decide))) hkp (fun k_ hk_ hs_ => (hk_.2) hs_)) (fun k_ hk_ => hk_.1.1)); have n5_ := Aside0.mk (Kd.R_mono (ok' := fun k_ => some k_ ≠ (v251 : Value).ownBlock ∧ some k_ ≠ (.slice Ao22 t256.length co22 : Value).ownBlock ∧ some k_ ≠ (v261 : Value).ownBlock) (Kd.R_keptB (HO270.out) hkp (fun k_ hk_ hs_ => (hk_.2.1) hs_)) (fun k_ hk_ => ⟨hk_.1.1, hk_.1.2.1, hk_.1.2.2⟩)); have n6_ := Aside0.mk (hb); clear HO_8; clear HO_10; clear HO_11; clear HO_12; clear HO266; clear HO270; clear HB; have HO_8 := n0_; have HO_10 := n1_; have HO_11 := n2_; have HO_12 := n3_; have HO266 := n4_; have HO270 := n5_; have HB := n6_; clear n0_ n1_ n2_ n3_ n4_ n5_ n6_; (try clear hb); (try clear hkp); (try clear hy0)))
        (try simp only [Act.put, List.setIfInBounds_toArray, List.set_cons_zero, List.set_cons_succ])
        go_cut [84] (fun v84 wc => ∃ (kq : Nat) (x84_36 : Bool), v84 = .bool x84_36 ∧ Aside0 (laws_FnExactGreedyColours.j1 kq a0 l1 l2 t249 t250 t259 x84_36 = some r) ∧ Aside0 (kq ≤ kj12) ∧ Aside0 (Kd.R (Kd.int .i64) 2 wc w.heap.size (fun k_ => some k_ ≠ (v261 : Value).ownBlock) v251 t249) ∧ Aside0 (Kd.R (Kd.int .i64) 2 wc w.heap.size (fun k_ => some k_ ≠ (v251 : Value).ownBlock) v261 t259) ∧ Aside0 (Below w.heap.size w wc))
        case first =>
         have H := HC37.out
         clear HC37
         by_cases c45 : t274 < 0
         ·rw [if_pos c45] at H
          exact absurd H (by simp)
         ·rw [if_neg c45] at H
          have c45b0 : decide (t274 < 0) = false := decide_eq_false c45
          clear c45
          (first | rw [c45b0] | (simp only [i64_w, i32_w]; rw [c45b0]) | skip)
          replace H := Option.bind_eq_some_iff.mp H
          obtain ⟨t276, A460, H⟩ := H
          replace H : (if t276 = true then (laws_FnExactGreedyColours.j1 kj12 a0 l1 l2 t249 t250 t259 (t260 != t250)) else (none)) = some r := H
          have A46 := Aside0.mk A460
          clear A460
          by_cases c47 : t276 = true
          ·subst c47
           have H1 : (laws_FnExactGreedyColours.j1 kj12 a0 l1 l2 t249 t250 t259 (t260 != t250)) = some r := by rw [if_pos rfl] at H; exact H
           clear H
           have H := H1
           clear H1
           have H' := Aside0.mk H
           clear H
           obtain ⟨Ao48, co48, eo48⟩ := Kd.R_slice HO_12.out
           subst eo48
           obtain ⟨Ao49, co49, eo49⟩ := Kd.R_slice HO_8.out
           subst eo49
           go_wp2_with (first | (go_at_call 29; (with_reducible refine (laws_eqInt64S.calls kj12 _ _ t259 _ _ t249 true _ ?side1 ?side2 ?side3 ?side4 A46.out).mono ?_); (case side1 => repeat (first | exact (Kd.R_reads' HO_12.out).2.2 | (with_reducible refine Kd.C_alloc ?_ _) | (with_reducible refine Kd.C_drewN ?_ _) | (with_reducible refine Kd.C_drew ?_))); (case side2 => exact (Kd.R_reads' HO_12.out).2.1); (case side3 => repeat (first | exact (Kd.R_reads' HO_8.out).2.2 | (with_reducible refine Kd.C_alloc ?_ _) | (with_reducible refine Kd.C_drewN ?_ _) | (with_reducible refine Kd.C_drew ?_))); (case side4 => exact (Kd.R_reads' HO_8.out).2.1); rintro e w' ⟨rfl, ⟨nd, rfl⟩⟩))
           go_meet
           case rel => exact ⟨_, ((t260 != t250)), (by first | rfl | (simp; done) | (simp [*]; done)), H', ⟨by have := HJ12.out; first | omega | exact Nat.le_refl _⟩, ⟨by (with_reducible repeat (first | apply Kd.R_alloc | apply Kd.R_drewN | apply Kd.R_drew)); exact Kd.R_mono HO_8.out (fun _ hk => hk.2.1)⟩, ⟨by (with_reducible repeat (first | apply Kd.R_alloc | apply Kd.R_drewN | apply Kd.R_drew)); exact Kd.R_mono HO_12.out (fun _ hk => hk.1)⟩, ⟨by repeat (first | (with_reducible first | exact HB.out | apply below_alloc | apply pw_below_drewN | apply below_drew1) | exact HB.out)⟩⟩
          ·replace c47 := Bool.eq_false_iff.mpr c47
           subst c47
           have H1 : (none) = some r := by rw [if_neg (show ¬ (false = true) by decide)] at H; exact H
           clear H
           have H := H1
           clear H1
           exact absurd H (by simp)
        case rest =>
         clear HC37
         try clear c1
         try clear c2
         try clear p2
         try clear c3
         try clear c4
         try clear c4b0
         try clear c4b1
         try clear c6
         try clear c6b0
         try clear c13
         try clear c14
         try clear c16
         try clear c18
         try clear c25
         try clear c27
         try clear c28
         try clear c29
         try clear c30
         try clear c31
         try clear c34
         try clear c37
         try clear c38
         try clear c45
         try clear c45b0
         try clear c47
         try clear p2
         obtain ⟨kq, x84_36, rfl, HA, HJ36, HO_8, HO_12, HB⟩ := hcut
         cases kq with
         | zero => exact absurd HA.out (by simp [laws_FnExactGreedyColours.j1])
         | succ kj36 =>
          have H := HA.out
          clear HA
          simp only [laws_FnExactGreedyColours.j1] at H
          by_cases c50 : x84_36 = true
          ·subst c50
           have H1 : (none) = some r := by rw [if_pos rfl] at H; exact H
           clear H
           have H := H1
           clear H1
           exact absurd H (by simp)
          ·replace c50 := Bool.eq_false_iff.mpr c50
           subst c50
           have H1 : ((laws_markInt64S.f kj36 t259 1).bind fun bt277 => ((laws_heldInt64S.f kj36 bt277.2 1).bind fun t279 => (if t279 < 0 then (none) else (if t279 = bt277.1 then ((laws_toBorderS.f kj36 l1).bind fun t280 => ((laws_toInt64S.f kj36 l2).bind fun t283 => ((impl_GreedyColours.f kj36 a0 t280 t283).bind fun bt286 => ((laws_eqInt64S.f kj36 bt286.1 t249).bind fun t290 => (if t290 = true then (laws_FnExactGreedyColours.j2 kj36 bt277.2 bt277.1 (bt286.2 != t250)) else (none)))))) else (none))))) = some r := by rw [if_neg (show ¬ (false = true) by decide)] at H; exact H
           clear H
           have H := H1
           clear H1
           replace H := Option.bind_eq_some_iff.mp H
           obtain ⟨⟨t277, t278⟩, A510, H⟩ := H
           replace H : ((laws_heldInt64S.f kj36 t278 1).bind fun t279 => (if t279 < 0 then (none) else (if t279 = t277 then ((laws_toBorderS.f kj36 l1).bind fun t280 => ((laws_toInt64S.f kj36 l2).bind fun t283 => ((impl_GreedyColours.f kj36 a0 t280 t283).bind fun bt286 => ((laws_eqInt64S.f kj36 bt286.1 t249).bind fun t290 => (if t290 = true then (laws_FnExactGreedyColours.j2 kj36 t278 t277 (bt286.2 != t250)) else (none)))))) else (none)))) = some r := H
           have A51 := Aside0.mk A510
           clear A510
           replace H := Option.bind_eq_some_iff.mp H
           obtain ⟨t279, A520, H⟩ := H
           replace H : (if t279 < 0 then (none) else (if t279 = t277 then ((laws_toBorderS.f kj36 l1).bind fun t280 => ((laws_toInt64S.f kj36 l2).bind fun t283 => ((impl_GreedyColours.f kj36 a0 t280 t283).bind fun bt286 => ((laws_eqInt64S.f kj36 bt286.1 t249).bind fun t290 => (if t290 = true then (laws_FnExactGreedyColours.j2 kj36 t278 t277 (bt286.2 != t250)) else (none)))))) else (none))) = some r := H
           have A52 := Aside0.mk A520
           clear A520
           by_cases c53 : t279 < 0
           ·rw [if_pos c53] at H
            exact absurd H (by simp)
           ·rw [if_neg c53] at H
            have c53b0 : decide (t279 < 0) = false := decide_eq_false c53
            clear c53
            by_cases c54 : t279 = t277
            ·rw [if_pos c54] at H
             have c54b0 : (t279 == t277) = true := beq_iff_eq.mpr c54
             have c54b1 : (t279 != t277) = false := bne_eq_false_iff_eq.mpr c54
             clear c54
             replace H := Option.bind_eq_some_iff.mp H
             obtain ⟨t280, A550, H⟩ := H
             replace H : ((laws_toInt64S.f kj36 l2).bind fun t283 => ((impl_GreedyColours.f kj36 a0 t280 t283).bind fun bt286 => ((laws_eqInt64S.f kj36 bt286.1 t249).bind fun t290 => (if t290 = true then (laws_FnExactGreedyColours.j2 kj36 t278 t277 (bt286.2 != t250)) else (none))))) = some r := H
             have A55 := Aside0.mk A550
             clear A550
             replace H := Option.bind_eq_some_iff.mp H
             obtain ⟨t283, A560, H⟩ := H
             replace H : ((impl_GreedyColours.f kj36 a0 t280 t283).bind fun bt286 => ((laws_eqInt64S.f kj36 bt286.1 t249).bind fun t290 => (if t290 = true then (laws_FnExactGreedyColours.j2 kj36 t278 t277 (bt286.2 != t250)) else (none)))) = some r := H
             have A56 := Aside0.mk A560
             clear A560
             replace H := Option.bind_eq_some_iff.mp H
             obtain ⟨⟨t286, t287⟩, A570, H⟩ := H
             replace H : ((laws_eqInt64S.f kj36 t286 t249).bind fun t290 => (if t290 = true then (laws_FnExactGreedyColours.j2 kj36 t278 t277 (t287 != t250)) else (none))) = some r := H
             have A57 := Aside0.mk A570
             clear A570
             have HC58 := Aside0.mk H
             clear H
             obtain ⟨Ao59, co59, eo59⟩ := Kd.R_slice HO_12.out
             subst eo59
             go_upto_region 31 with (first | ((with_reducible refine gate_callee (f := 38) rfl ?_); refine goesL_ (some 87) rfl rfl Try.func38 (by kernel_rfl) rfl #[.slice Ao59 t259.length co59, .int .i64 1] rfl (by (try simp only [List.map_toArray, List.map_cons, List.map_nil]); first | done | rfl | (simp only [List.length_drop, List.length_take]; rfl)) ?_; (with_reducible refine (laws_markInt64S.calls kj36 (fun k_ => some k_ = (.slice Ao59 t259.length co59 : Value).ownBlock) (.slice Ao59 t259.length co59) t259 1 t277 t278 w _ ?side1 ?side2 A51.out).mono ?_); (case side1 => repeat (first | (with_reducible first | exact HB.out | apply below_alloc | apply pw_below_drewN | apply below_drew1) | exact HB.out)); (case side2 => exact Kd.R_tight rfl HO_12.out); rintro e w60 ⟨rfl, hy0, hb, hkp⟩; refine ⟨_, rfl, ?_⟩; have n0_ := Aside0.mk (Kd.R_mono (ok' := fun k_ => some k_ ≠ (.slice Ao59 t259.length co59 : Value).ownBlock) (Kd.R_keptB (HO_8.out) hkp (fun k_ hk_ hs_ => (hk_) hs_)) (fun k_ hk_ => hk_.1)); have n1_ := Aside0.mk (Kd.R_reok rfl hy0 (fun k_ e_ => HO_12.out.1 k_ e_)); have n2_ := Aside0.mk (hb); clear HO_8; clear HO_12; clear HB; have HO_8 := n0_; have HO_12 := n1_; have HB := n2_; clear n0_ n1_ n2_; (try clear hb); (try clear hkp); (try clear hy0)) | ((with_reducible refine gate_callee (f := 39) rfl ?_); refine goesL_ (some 90) rfl rfl Try.func39 (by kernel_rfl) rfl #[.slice Ao59 t278.length co59, .int .i64 1] rfl (by (try simp only [List.map_toArray, List.map_cons, List.map_nil]); first | done | (rw [show t278.length = t259.length from (Kd.R_reads' HO_12.out).1.symm] <;> rfl) | rfl | (simp only [List.length_drop, List.length_take]; rfl)) ?_; (with_reducible refine (laws_heldInt64S.calls kj36 _ _ t278 1 t279 _ ?side1 ?side2 A52.out).mono ?_); (case side1 => repeat (first | exact (Kd.R_reads' HO_12.out).2.2 | (with_reducible refine Kd.C_alloc ?_ _) | (with_reducible refine Kd.C_drewN ?_ _) | (with_reducible refine Kd.C_drew ?_))); (case side2 => rw [show t278.length = t259.length from (Kd.R_reads' HO_12.out).1.symm]; exact (Kd.R_reads' HO_12.out).2.1); rintro e w' ⟨rfl, ⟨nd, rfl⟩⟩; refine ⟨_, rfl, ?_⟩) | ((with_reducible refine gate_callee (f := 16) rfl ?_); refine goesL_ (some 99) rfl rfl Try.func16 (by kernel_rfl) rfl #[.slice A1 l1.length c1] rfl (by (try simp only [List.map_toArray, List.map_cons, List.map_nil]); first | done | rfl | (simp only [List.length_drop, List.length_take]; rfl)) ?_; (with_reducible refine (laws_toBorderS.calls kj36 _ _ l1 t280 _ ?side1 ?side2 A55.out).mono ?_); (case side1 => repeat (first | exact (Kd.C_below HR1.out (by repeat (first | (with_reducible first | exact HB.out | apply below_alloc | apply pw_below_drewN | apply below_drew1) | exact HB.out))) | (with_reducible refine Kd.C_alloc ?_ _) | (with_reducible refine Kd.C_drewN ?_ _) | (with_reducible refine Kd.C_drew ?_))); (case side2 => exact HC1.out); rintro e w61 ⟨v281, rfl, ho0, hb⟩; refine ⟨_, rfl, ?_⟩; have n0_ := Aside0.mk (Kd.R_below (by (with_reducible repeat (first | apply Kd.R_alloc | apply Kd.R_drewN | apply Kd.R_drew)); exact HO_8.out) hb); have n1_ := Aside0.mk (Kd.R_below (by (with_reducible repeat (first | apply Kd.R_alloc | apply Kd.R_drewN | apply Kd.R_drew)); exact HO_12.out) hb); have n2_ := Aside0.mk (Kd.R_lower ho0 (below_size (by repeat (first | (with_reducible first | exact HB.out | apply below_alloc | apply pw_below_drewN | apply below_drew1) | exact HB.out)))); have n3_ := Aside0.mk (below_step (by repeat (first | (with_reducible first | exact HB.out | apply below_alloc | apply pw_below_drewN | apply below_drew1) | exact HB.out)) hb); clear HO_8; clear HO_12; clear HB; have HO_8 := n0_; have HO_12 := n1_; have HO282 := n2_; have HB := n3_; clear n0_ n1_ n2_ n3_; (try clear hb); (try clear hb2); (try clear hk); (try clear hi); (try clear ho0)) | ((with_reducible refine gate_callee (f := 27) rfl ?_); refine goesL_ (some 101) rfl rfl Try.func27 (by kernel_rfl) rfl #[.slice A2 l2.length c2] rfl (by (try simp only [List.map_toArray, List.map_cons, List.map_nil]); first | done | rfl | (simp only [List.length_drop, List.length_take]; rfl)) ?_; (with_reducible refine (laws_toInt64S.calls kj36 _ _ l2 t283 _ ?side1 ?side2 A56.out).mono ?_); (case side1 => repeat (first | exact (Kd.C_below HR2.out HB.out) | (with_reducible refine Kd.C_alloc ?_ _) | (with_reducible refine Kd.C_drewN ?_ _) | (with_reducible refine Kd.C_drew ?_))); (case side2 => exact HC2.out); rintro e w62 ⟨v284, rfl, ho0, hb⟩; refine ⟨_, rfl, ?_⟩; have n0_ := Aside0.mk (Kd.R_elder' (by (with_reducible repeat (first | apply Kd.R_alloc | apply Kd.R_drewN | apply Kd.R_drew)); exact HO_8.out) (Kd.R_base ho0) hb); have n1_ := Aside0.mk (Kd.R_elder' (by (with_reducible repeat (first | apply Kd.R_alloc | apply Kd.R_drewN | apply Kd.R_drew)); exact HO_12.out) (Kd.R_base ho0) hb); have n2_ := Aside0.mk (Kd.R_below (by (with_reducible repeat (first | apply Kd.R_alloc | apply Kd.R_drewN | apply Kd.R_drew)); exact HO282.out) hb); have n3_ := Aside0.mk (Kd.R_lower (Kd.R_new' (Kd.R_new' ho0 (Kd.R_lt (by (with_reducible repeat (first | apply Kd.R_alloc | apply Kd.R_drewN | apply Kd.R_drew)); exact HO_8.out))) (Kd.R_lt (by (with_reducible repeat (first | apply Kd.R_alloc | apply Kd.R_drewN | apply Kd.R_drew)); exact HO_12.out))) (below_size (by repeat (first | (with_reducible first | exact HB.out | apply below_alloc | apply pw_below_drewN | apply below_drew1) | exact HB.out)))); have n4_ := Aside0.mk (below_step (by repeat (first | (with_reducible first | exact HB.out | apply below_alloc | apply pw_below_drewN | apply below_drew1) | exact HB.out)) hb); clear HO_8; clear HO_12; clear HO282; clear HB; have HO_8 := n0_; have HO_12 := n1_; have HO282 := n2_; have HO285 := n3_; have HB := n4_; clear n0_ n1_ n2_ n3_ n4_; (try clear hb); (try clear hb2); (try clear hk); (try clear hi); (try clear ho0); obtain ⟨Ao63, co63, eo63⟩ := Kd.R_slice HO282.out; subst eo63; obtain ⟨Ao64, co64, eo64⟩ := Kd.R_slice HO285.out; subst eo64) | ((with_reducible refine gate_callee (f := 30) rfl ?_); refine goesL_ (some 102) rfl rfl Try.func30 (by kernel_rfl) rfl #[.int .i64 a0, .slice Ao63 t280.length co63, .slice Ao64 t283.length co64] rfl (by (try simp only [List.map_toArray, List.map_cons, List.map_nil]); first | done | rfl | (simp only [List.length_drop, List.length_take]; rfl)) ?_; (with_reducible refine (impl_GreedyColours.calls kj36 a0 _ _ t280 _ _ t283 t286 t287 _ ?side1 ?side2 ?side3 ?side4 A57.out).mono ?_); (case side1 => repeat (first | exact (Kd.R_reads' HO282.out).2.2 | (with_reducible refine Kd.C_alloc ?_ _) | (with_reducible refine Kd.C_drewN ?_ _) | (with_reducible refine Kd.C_drew ?_))); (case side2 => exact (Kd.R_reads' HO282.out).2.1); (case side3 => repeat (first | exact (Kd.R_reads' HO285.out).2.2 | (with_reducible refine Kd.C_alloc ?_ _) | (with_reducible refine Kd.C_drewN ?_ _) | (with_reducible refine Kd.C_drew ?_))); (case side4 => exact (Kd.R_reads' HO285.out).2.1); rintro e w65 ⟨v288, rfl, ho0, hb⟩; refine ⟨_, rfl, ?_⟩; have n0_ := Aside0.mk (Kd.R_elder' (by (with_reducible repeat (first | apply Kd.R_alloc | apply Kd.R_drewN | apply Kd.R_drew)); exact HO_8.out) (Kd.R_base ho0) hb); have n1_ := Aside0.mk (Kd.R_elder' (by (with_reducible repeat (first | apply Kd.R_alloc | apply Kd.R_drewN | apply Kd.R_drew)); exact HO_12.out) (Kd.R_base ho0) hb); have n2_ := Aside0.mk (Kd.R_below (by (with_reducible repeat (first | apply Kd.R_alloc | apply Kd.R_drewN | apply Kd.R_drew)); exact HO282.out) hb); have n3_ := Aside0.mk (Kd.R_elder' (by (with_reducible repeat (first | apply Kd.R_alloc | apply Kd.R_drewN | apply Kd.R_drew)); exact HO285.out) (Kd.R_base ho0) hb); have n4_ := Aside0.mk (Kd.R_lower (Kd.R_new' (Kd.R_new' (Kd.R_new' ho0 (Kd.R_lt (by (with_reducible repeat (first | apply Kd.R_alloc | apply Kd.R_drewN | apply Kd.R_drew)); exact HO_8.out))) (Kd.R_lt (by (with_reducible repeat (first | apply Kd.R_alloc | apply Kd.R_drewN | apply Kd.R_drew)); exact HO_12.out))) (Kd.R_lt (by (with_reducible repeat (first | apply Kd.R_alloc | apply Kd.R_drewN | apply Kd.R_drew)); exact HO285.out))) (below_size (by repeat (first | (with_reducible first | exact HB.out | apply below_alloc | apply pw_below_drewN | apply below_drew1) | exact HB.out)))); have n5_ := Aside0.mk (below_step (by repeat (first | (with_reducible first | exact HB.out | apply below_alloc | apply pw_below_drewN | apply below_drew1) | exact HB.out)) hb); clear HO_8; clear HO_12; clear HO282; clear HO285; clear HB; have HO_8 := n0_; have HO_12 := n1_; have HO282 := n2_; have HO285 := n3_; have HO289 := n4_; have HB := n5_; clear n0_ n1_ n2_ n3_ n4_ n5_; (try clear hb); (try clear hb2); (try clear hk); (try clear hi); (try clear ho0)))
             (try simp only [Act.put, List.setIfInBounds_toArray, List.set_cons_zero, List.set_cons_succ])
             go_cut [113] (fun v113 wc => ∃ (kq : Nat) (x113_57 : Bool), v113 = .bool x113_57 ∧ Aside0 (laws_FnExactGreedyColours.j2 kq t278 t277 x113_57 = some r) ∧ Aside0 (kq ≤ kj36) ∧ Aside0 (Kd.R (Kd.int .i64) 2 wc w.heap.size (fun _ => True) (.slice Ao59 t259.length co59) t278) ∧ Aside0 (Below w.heap.size w wc))
             case first =>
              have H := HC58.out
              clear HC58
              replace H := Option.bind_eq_some_iff.mp H
              obtain ⟨t290, A660, H⟩ := H
              replace H : (if t290 = true then (laws_FnExactGreedyColours.j2 kj36 t278 t277 (t287 != t250)) else (none)) = some r := H
              have A66 := Aside0.mk A660
              clear A660
              by_cases c67 : t290 = true
              ·subst c67
               have H1 : (laws_FnExactGreedyColours.j2 kj36 t278 t277 (t287 != t250)) = some r := by rw [if_pos rfl] at H; exact H
               clear H
               have H := H1
               clear H1
               have H' := Aside0.mk H
               clear H
               obtain ⟨Ao68, co68, eo68⟩ := Kd.R_slice HO289.out
               subst eo68
               obtain ⟨Ao69, co69, eo69⟩ := Kd.R_slice HO_8.out
               subst eo69
               go_wp2_with (first | ((with_reducible refine gate_callee (f := 29) rfl ?_); refine goesL_ (some 107) rfl rfl Try.func29 (by kernel_rfl) rfl #[.slice Ao68 t286.length co68, .slice Ao69 t249.length co69] rfl (by (try simp only [List.map_toArray, List.map_cons, List.map_nil]); first | done | rfl | (simp only [List.length_drop, List.length_take]; rfl)) ?_; (with_reducible refine (laws_eqInt64S.calls kj36 _ _ t286 _ _ t249 true _ ?side1 ?side2 ?side3 ?side4 A66.out).mono ?_); (case side1 => repeat (first | exact (Kd.R_reads' HO289.out).2.2 | (with_reducible refine Kd.C_alloc ?_ _) | (with_reducible refine Kd.C_drewN ?_ _) | (with_reducible refine Kd.C_drew ?_))); (case side2 => exact (Kd.R_reads' HO289.out).2.1); (case side3 => repeat (first | exact (Kd.R_reads' HO_8.out).2.2 | (with_reducible refine Kd.C_alloc ?_ _) | (with_reducible refine Kd.C_drewN ?_ _) | (with_reducible refine Kd.C_drew ?_))); (case side4 => exact (Kd.R_reads' HO_8.out).2.1); rintro e w' ⟨rfl, ⟨nd, rfl⟩⟩; refine ⟨_, rfl, ?_⟩))
               go_meet
               case rel => exact ⟨_, ((t287 != t250)), (by first | rfl | (simp; done) | (simp [*]; done)), H', ⟨by have := HJ12.out; have := HJ36.out; first | omega | exact Nat.le_refl _⟩, ⟨by (with_reducible repeat (first | apply Kd.R_alloc | apply Kd.R_drewN | apply Kd.R_drew)); exact Kd.R_mono HO_12.out (fun _ hk => trivial)⟩, ⟨by repeat (first | (with_reducible first | exact HB.out | apply below_alloc | apply pw_below_drewN | apply below_drew1) | exact HB.out)⟩⟩
              ·replace c67 := Bool.eq_false_iff.mpr c67
               subst c67
               have H1 : (none) = some r := by rw [if_neg (show ¬ (false = true) by decide)] at H; exact H
               clear H
               have H := H1
               clear H1
               exact absurd H (by simp)
             case rest =>
              clear HC58
              try clear c1
              try clear c2
              try clear p2
              try clear c3
              try clear c4
              try clear c4b0
              try clear c4b1
              try clear c5
              try clear c6
              try clear c6b0
              try clear c13
              try clear c14
              try clear c16
              try clear c18
              try clear c25
              try clear c27
              try clear c28
              try clear c29
              try clear c30
              try clear c31
              try clear c34
              try clear c37
              try clear c38
              try clear c39
              try clear c45
              try clear c45b0
              try clear c47
              try clear c50
              try clear c53
              try clear c53b0
              try clear c54
              try clear c54b0
              try clear c54b1
              try clear c67
              try clear p2
              obtain ⟨kq, x113_57, rfl, HA, HJ57, HO_12, HB⟩ := hcut
              have hl12_57 := (Kd.R_reads' HO_12.out).1
              rw [hl12_57] at HO_12
              (try simp only [hl12_57])
              cases kq with
              | zero => exact absurd HA.out (by simp [laws_FnExactGreedyColours.j2])
              | succ kj57 =>
               have H := HA.out
               clear HA
               simp only [laws_FnExactGreedyColours.j2] at H
               by_cases c70 : x113_57 = true
               ·subst c70
                have H1 : (none) = some r := by rw [if_pos rfl] at H; exact H
                clear H
                have H := H1
                clear H1
                exact absurd H (by simp)
               ·replace c70 := Bool.eq_false_iff.mpr c70
                subst c70
                have H1 : ((laws_heldInt64S.f kj57 t278 1).bind fun t291 => (if t291 < 0 then (none) else (if t291 = t277 then (some true) else (none)))) = some r := by rw [if_neg (show ¬ (false = true) by decide)] at H; exact H
                clear H
                have H := H1
                clear H1
                replace H := Option.bind_eq_some_iff.mp H
                obtain ⟨t291, A710, H⟩ := H
                replace H : (if t291 < 0 then (none) else (if t291 = t277 then (some true) else (none))) = some r := H
                have A71 := Aside0.mk A710
                clear A710
                by_cases c72 : t291 < 0
                ·rw [if_pos c72] at H
                 exact absurd H (by simp)
                ·rw [if_neg c72] at H
                 have c72b0 : decide (t291 < 0) = false := decide_eq_false c72
                 clear c72
                 by_cases c73 : t291 = t277
                 ·rw [if_pos c73] at H
                  have c73b0 : (t291 == t277) = true := beq_iff_eq.mpr c73
                  have c73b1 : (t291 != t277) = false := bne_eq_false_iff_eq.mpr c73
                  clear c73
                  obtain rfl := Option.some.inj H
                  go_wp2_with (first | ((with_reducible refine gate_callee (f := 39) rfl ?_); refine goesL_ (some 116) rfl rfl Try.func39 (by kernel_rfl) rfl #[.slice Ao59 t278.length co59, .int .i64 1] rfl (by (try simp only [List.map_toArray, List.map_cons, List.map_nil]); first | done | rfl | (simp only [List.length_drop, List.length_take]; rfl)) ?_; (with_reducible refine (laws_heldInt64S.calls kj57 _ _ t278 1 t291 _ ?side1 ?side2 A71.out).mono ?_); (case side1 => repeat (first | exact (Kd.R_reads' HO_12.out).2.2 | (with_reducible refine Kd.C_alloc ?_ _) | (with_reducible refine Kd.C_drewN ?_ _) | (with_reducible refine Kd.C_drew ?_))); (case side2 => exact (Kd.R_reads' HO_12.out).2.1); rintro e w' ⟨rfl, ⟨nd, rfl⟩⟩; refine ⟨_, rfl, ?_⟩))
                  go_ret
                  exact ⟨by first | rfl | (simp [errW_none, errW_some] <;> rfl) | (simp [*, errW_none, errW_some] <;> rfl), by repeat (first | (with_reducible first | exact HB.out | apply below_alloc | apply pw_below_drewN | apply below_drew1) | exact HB.out)⟩
                 ·rw [if_neg c73] at H
                  exact absurd H (by simp)
            ·rw [if_neg c54] at H
             exact absurd H (by simp)
       ·replace c34 := Bool.eq_false_iff.mpr c34
        subst c34
        have H1 : (none) = some r := by rw [if_neg (show ¬ (false = true) by decide)] at H; exact H
        clear H
        have H := H1
        clear H1
        exact absurd H (by simp)
      ·replace c31 := Bool.eq_false_iff.mpr c31
       subst c31
       have H1 : (none) = some r := by rw [if_neg (show ¬ (false = true) by decide)] at H; exact H
       clear H
       have H := H1
       clear H1
       exact absurd H (by simp)

/-- THE ONE PURE STATEMENT of laws_FnExactGreedyColours. -/
def laws_FnExactGreedyColours.Pure : Prop := ∀ (a0 : Int) (l1 : List (S57)) (l2 : List Int), (wfI .i64) a0 → wfS wf57 l1 → l1.length * 16 ≤ 140737488351232 → wfS (wfI .i64) l2 → l2.length * 8 ≤ 140737488351232 → ∃ k, laws_FnExactGreedyColours.f k a0 l1 l2 = some true

end Go.Proofs.Ytlkpnjcbokeoeaa.Print
