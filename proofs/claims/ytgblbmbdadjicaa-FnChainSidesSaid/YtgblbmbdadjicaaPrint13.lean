-- Printed by a program of this session out of the translation; not trusted: Lean checks it.
-- SHRUNK
import Derived.Test.YtgblbmbdadjicaaPrint0
import Derived.Test.YtgblbmbdadjicaaPrint5
import Derived.Test.YtgblbmbdadjicaaPrint8
import Derived.Test.YtgblbmbdadjicaaPrint11
import Derived.Test.YtgblbmbdadjicaaPrint12
namespace Go.Proofs.Ytgblbmbdadjicaa.Print
open Go.RowKit Go.Proofs.YtgblbmbdadjicaaW.PrintWords Go.Proofs.YtgblbmbdadjicaaW.PrintLast Go.Proofs.YtgblbmbdadjicaaW.PrintMore
attribute [local go_sem] max2_int min2_int max_two min_two max_three min_three max_four min_four   -- for this text's walks alone
set_option linter.unusedVariables false
set_option linter.unusedSimpArgs false

/-! ### laws_FnChainSides: function 5 -/
mutual
def laws_FnChainSides.j0 : Nat → List (S44) → Int → Bool → Option (Bool)
 | 0, _, _, _ => none
 | k + 1, x3, x7, x120 => if x120 = true then (none) else (laws_FnChainSides.l0 k x3 x7 0 1)
def laws_FnChainSides.l0 : Nat → List (S44) → Int → Int → Int → Option (Bool)
 | 0, _, _, _, _ => none
 | k + 1, x3, x7, x18, x19 => if x19 < (x3.length : Int) then (if 0 ≤ x19 then (if 0 ≤ (wrap64 (x19 - 1)) then (if (wrap64 (x19 - 1)) < (x3.length : Int) then (laws_FnChainSides.l0 k x3 x7 (wrap64 (x18 + (mx (wrap64 (((rd_T44 x3 x19).f0) - ((rd_T44 x3 (wrap64 (x19 - 1))).f0))) (wrap64 (((rd_T44 x3 (wrap64 (x19 - 1))).f0) - ((rd_T44 x3 x19).f0)))))) (wrap64 (x19 + 1))) else (none)) else (none)) else (none)) else (some (decide (x7 ≥ x18)))
end
def laws_FnChainSides.f (k : Nat) (l0 : List Int) : Option (Bool) := (laws_a2Long.f l0 ([] : List Int)).bind fun t219 => (if t219 = true then (some true) else ((spec_A2Chain.f k l0).bind fun t220 => ((spec_ReverseChain.f k t220).bind fun bt223 => ((impl_LengthBounds.f k t220).bind fun bt227 => ((impl_LengthBounds.f k bt223.1).bind fun bt230 => ((impl_TurnsAside.f k t220).bind fun bt233 => ((impl_TurnsAside.f k bt223.1).bind fun bt236 => (if bt223.2 = 0 then (if bt227.2.2 = 0 then (if bt227.1 > bt227.2.1 then (none) else (if (wrap64 (bt227.2.1 - bt227.1)) ≥ (t220.length : Int) then (none) else (if bt230.2.2 = 0 then (if bt230.1 = bt227.1 then (if bt230.2.1 = bt227.2.1 then (if bt233.2.2 = 0 then (if bt236.2.2 = 0 then (if bt233.1 = bt236.2.1 then (if bt233.2.1 = bt236.1 then (if bt233.1 < 0 then (none) else (if bt233.2.1 < 0 then (none) else (laws_FnChainSides.j0 k t220 bt227.2.1 (decide ((wrap64 (bt233.1 + bt233.2.1)) > (wrap64 ((t220.length : Int) - 2))))))) else (none)) else (none)) else (none)) else (none)) else (none)) else (none)) else (none)))) else (none)) else (none)))))))))
theorem laws_FnChainSides.mono_l : ∀ k, (∀ y0 y1 y2, LeO (laws_FnChainSides.j0 k y0 y1 y2) (laws_FnChainSides.j0 (k + 1) y0 y1 y2)) ∧ (∀ y0 y1 y2 y3, LeO (laws_FnChainSides.l0 k y0 y1 y2 y3) (laws_FnChainSides.l0 (k + 1) y0 y1 y2 y3))
 | 0 => ⟨fun _ _ _ r h => by simp [laws_FnChainSides.j0] at h, fun _ _ _ _ r h => by simp [laws_FnChainSides.l0] at h⟩
 | k + 1 => by
  obtain ⟨ih0, ih1⟩ := laws_FnChainSides.mono_l k
  refine ⟨?_, ?_⟩
  ·intro y0 y1 y2
   unfold laws_FnChainSides.j0
   repeat' first
   | (with_reducible exact ih0 _ _ _)
   | (with_reducible exact ih1 _ _ _ _)
   | (with_reducible exact impl_LengthBounds.mono _ _)
   | (with_reducible exact impl_TurnsAside.mono _ _)
   | (with_reducible exact spec_A2Chain.mono _ _)
   | (with_reducible exact spec_ReverseChain.mono _ _)
   | (with_reducible exact LeO.refl _)
   | (with_reducible exact LeO.none _)
   | (with_reducible refine LeO.ite ?_ ?_)
   | (with_reducible refine LeO.bind ?_ (fun _ => ?_))
   | exact ih0 _ _ _
   | exact ih1 _ _ _ _
   | exact impl_LengthBounds.mono _ _
   | exact impl_TurnsAside.mono _ _
   | exact spec_A2Chain.mono _ _
   | exact spec_ReverseChain.mono _ _
   | exact LeO.none _
   | refine LeO.ite ?_ ?_
   | refine LeO.bind ?_ (fun _ => ?_)
  ·intro y0 y1 y2 y3
   unfold laws_FnChainSides.l0
   repeat' first
   | (with_reducible exact ih0 _ _ _)
   | (with_reducible exact ih1 _ _ _ _)
   | (with_reducible exact impl_LengthBounds.mono _ _)
   | (with_reducible exact impl_TurnsAside.mono _ _)
   | (with_reducible exact spec_A2Chain.mono _ _)
   | (with_reducible exact spec_ReverseChain.mono _ _)
   | (with_reducible exact LeO.refl _)
   | (with_reducible exact LeO.none _)
   | (with_reducible refine LeO.ite ?_ ?_)
   | (with_reducible refine LeO.bind ?_ (fun _ => ?_))
   | exact ih0 _ _ _
   | exact ih1 _ _ _ _
   | exact impl_LengthBounds.mono _ _
   | exact impl_TurnsAside.mono _ _
   | exact spec_A2Chain.mono _ _
   | exact spec_ReverseChain.mono _ _
   | exact LeO.none _
   | refine LeO.ite ?_ ?_
   | refine LeO.bind ?_ (fun _ => ?_)
theorem laws_FnChainSides.mono : ∀ a0 k, LeO (laws_FnChainSides.f k a0) (laws_FnChainSides.f (k + 1) a0) := by
 intro a0 k
 obtain ⟨ih0, ih1⟩ := laws_FnChainSides.mono_l k
 unfold laws_FnChainSides.f
 repeat' first
   | (with_reducible exact ih0 _ _ _)
   | (with_reducible exact ih1 _ _ _ _)
   | (with_reducible exact impl_LengthBounds.mono _ _)
   | (with_reducible exact impl_TurnsAside.mono _ _)
   | (with_reducible exact spec_A2Chain.mono _ _)
   | (with_reducible exact spec_ReverseChain.mono _ _)
   | (with_reducible exact LeO.refl _)
   | (with_reducible exact LeO.none _)
   | (with_reducible refine LeO.ite ?_ ?_)
   | (with_reducible refine LeO.bind ?_ (fun _ => ?_))
   | exact ih0 _ _ _
   | exact ih1 _ _ _ _
   | exact impl_LengthBounds.mono _ _
   | exact impl_TurnsAside.mono _ _
   | exact spec_A2Chain.mono _ _
   | exact spec_ReverseChain.mono _ _
   | exact LeO.none _
   | refine LeO.ite ?_ ?_
   | refine LeO.bind ?_ (fun _ => ?_)
set_option maxHeartbeats 8000000 in
set_option maxRecDepth 100000 in
theorem laws_FnChainSides.calls (k : Nat) (A0 : Option Addr) (c0 : Nat) (l0 : List Int) (r : Bool) (w : World) (hr0 : Kd.C (Kd.int .u8) w A0 l0.length l0) (hc0 : l0.length ≤ c0) (h : laws_FnChainSides.f k l0 = some r) :
  Calls Try.prog 5 #[.slice A0 l0.length c0] w fun e w' => e = .returned (.bool r) ∧ Below w.heap.size w w' := by
 have HR0 := Aside0.mk hr0
 have HC0 := Aside0.mk hc0
 clear hr0 hc0
 have HB := Aside0.mk (Below.refl w.heap.size w)
 have H : ((laws_a2Long.f l0 ([] : List Int)).bind fun t219 => (if t219 = true then (some true) else ((spec_A2Chain.f k l0).bind fun t220 => ((spec_ReverseChain.f k t220).bind fun bt223 => ((impl_LengthBounds.f k t220).bind fun bt227 => ((impl_LengthBounds.f k bt223.1).bind fun bt230 => ((impl_TurnsAside.f k t220).bind fun bt233 => ((impl_TurnsAside.f k bt223.1).bind fun bt236 => (if bt223.2 = 0 then (if bt227.2.2 = 0 then (if bt227.1 > bt227.2.1 then (none) else (if (wrap64 (bt227.2.1 - bt227.1)) ≥ (t220.length : Int) then (none) else (if bt230.2.2 = 0 then (if bt230.1 = bt227.1 then (if bt230.2.1 = bt227.2.1 then (if bt233.2.2 = 0 then (if bt236.2.2 = 0 then (if bt233.1 = bt236.2.1 then (if bt233.2.1 = bt236.1 then (if bt233.1 < 0 then (none) else (if bt233.2.1 < 0 then (none) else (laws_FnChainSides.j0 k t220 bt227.2.1 (decide ((wrap64 (bt233.1 + bt233.2.1)) > (wrap64 ((t220.length : Int) - 2))))))) else (none)) else (none)) else (none)) else (none)) else (none)) else (none)) else (none)))) else (none)) else (none)))))))))) = some r := h
 clear h
 replace H := Option.bind_eq_some_iff.mp H
 obtain ⟨t219, A20, H⟩ := H
 replace H : (if t219 = true then (some true) else ((spec_A2Chain.f k l0).bind fun t220 => ((spec_ReverseChain.f k t220).bind fun bt223 => ((impl_LengthBounds.f k t220).bind fun bt227 => ((impl_LengthBounds.f k bt223.1).bind fun bt230 => ((impl_TurnsAside.f k t220).bind fun bt233 => ((impl_TurnsAside.f k bt223.1).bind fun bt236 => (if bt223.2 = 0 then (if bt227.2.2 = 0 then (if bt227.1 > bt227.2.1 then (none) else (if (wrap64 (bt227.2.1 - bt227.1)) ≥ (t220.length : Int) then (none) else (if bt230.2.2 = 0 then (if bt230.1 = bt227.1 then (if bt230.2.1 = bt227.2.1 then (if bt233.2.2 = 0 then (if bt236.2.2 = 0 then (if bt233.1 = bt236.2.1 then (if bt233.2.1 = bt236.1 then (if bt233.1 < 0 then (none) else (if bt233.2.1 < 0 then (none) else (laws_FnChainSides.j0 k t220 bt227.2.1 (decide ((wrap64 (bt233.1 + bt233.2.1)) > (wrap64 ((t220.length : Int) - 2))))))) else (none)) else (none)) else (none)) else (none)) else (none)) else (none)) else (none)))) else (none)) else (none))))))))) = some r := H
 have A2 := Aside0.mk A20
 clear A20
 by_cases c3 : t219 = true
 ·subst c3
  have H1 : (some true) = some r := by rw [if_pos rfl] at H; exact H
  clear H
  have H := H1
  clear H1
  obtain rfl := Option.some.inj H
  go_enter Try.func5, Try.ntmps5
  go_wp2_with (first | (go_at_call 25; (refine (laws_a2Long.calls _ _ l0 _ _ ([] : List Int) true _ ?side1 ?side2 ?side3 ?side4 A2.out).mono ?_); (case side1 => repeat (first | exact HR0.out | (with_reducible refine Kd.C_alloc ?_ _) | (with_reducible refine Kd.C_drewN ?_ _) | (with_reducible refine Kd.C_drew ?_))); (case side2 => exact HC0.out); (case side3 => exact Kd.C_nil _ _); (case side4 => exact Nat.le_refl _); rintro e w' ⟨rfl, ⟨nd, rfl⟩⟩; (try first | exact ⟨rfl, _, World.drewN_drewN _ _ _⟩ | exact ⟨rfl, _, Eq.trans (World.drewN_drewN _ _ _) (congrArg (World.drewN _) (Nat.add_assoc _ _ _))⟩)))
  repeat (go_quiet (first | (go_at_call 25; (try simp only [i64_w, i32_w]); (refine (laws_a2Long.calls _ _ l0 _ _ ([] : List Int) true _ ?side1 ?side2 ?side3 ?side4 A2.out).mono ?_); (case side1 => repeat (first | exact HR0.out | (with_reducible refine Kd.C_alloc ?_ _) | (with_reducible refine Kd.C_drewN ?_ _) | (with_reducible refine Kd.C_drew ?_))); (case side2 => exact HC0.out); (case side3 => exact Kd.C_nil _ _); (case side4 => exact Nat.le_refl _); rintro e w' ⟨rfl, ⟨nd, rfl⟩⟩; (try first | exact ⟨rfl, _, World.drewN_drewN _ _ _⟩ | exact ⟨rfl, _, Eq.trans (World.drewN_drewN _ _ _) (congrArg (World.drewN _) (Nat.add_assoc _ _ _))⟩))); try go_wp2_with (first | (go_at_call 25; (refine (laws_a2Long.calls _ _ l0 _ _ ([] : List Int) true _ ?side1 ?side2 ?side3 ?side4 A2.out).mono ?_); (case side1 => repeat (first | exact HR0.out | (with_reducible refine Kd.C_alloc ?_ _) | (with_reducible refine Kd.C_drewN ?_ _) | (with_reducible refine Kd.C_drew ?_))); (case side2 => exact HC0.out); (case side3 => exact Kd.C_nil _ _); (case side4 => exact Nat.le_refl _); rintro e w' ⟨rfl, ⟨nd, rfl⟩⟩; (try first | exact ⟨rfl, _, World.drewN_drewN _ _ _⟩ | exact ⟨rfl, _, Eq.trans (World.drewN_drewN _ _ _) (congrArg (World.drewN _) (Nat.add_assoc _ _ _))⟩))))
  go_ret
  exact ⟨by first | rfl | (simp [errW_none, errW_some] <;> rfl) | (simp [*, errW_none, errW_some] <;> rfl), by repeat (first | (with_reducible first | exact HB.out | apply below_alloc | apply pw_below_drewN | apply below_drew1) | exact HB.out)⟩
 ·replace c3 := Bool.eq_false_iff.mpr c3
  subst c3
  have H1 : ((spec_A2Chain.f k l0).bind fun t220 => ((spec_ReverseChain.f k t220).bind fun bt223 => ((impl_LengthBounds.f k t220).bind fun bt227 => ((impl_LengthBounds.f k bt223.1).bind fun bt230 => ((impl_TurnsAside.f k t220).bind fun bt233 => ((impl_TurnsAside.f k bt223.1).bind fun bt236 => (if bt223.2 = 0 then (if bt227.2.2 = 0 then (if bt227.1 > bt227.2.1 then (none) else (if (wrap64 (bt227.2.1 - bt227.1)) ≥ (t220.length : Int) then (none) else (if bt230.2.2 = 0 then (if bt230.1 = bt227.1 then (if bt230.2.1 = bt227.2.1 then (if bt233.2.2 = 0 then (if bt236.2.2 = 0 then (if bt233.1 = bt236.2.1 then (if bt233.2.1 = bt236.1 then (if bt233.1 < 0 then (none) else (if bt233.2.1 < 0 then (none) else (laws_FnChainSides.j0 k t220 bt227.2.1 (decide ((wrap64 (bt233.1 + bt233.2.1)) > (wrap64 ((t220.length : Int) - 2))))))) else (none)) else (none)) else (none)) else (none)) else (none)) else (none)) else (none)))) else (none)) else (none)))))))) = some r := by rw [if_neg (show ¬ (false = true) by decide)] at H; exact H
  clear H
  have H := H1
  clear H1
  replace H := Option.bind_eq_some_iff.mp H
  obtain ⟨t220, A40, H⟩ := H
  replace H : ((spec_ReverseChain.f k t220).bind fun bt223 => ((impl_LengthBounds.f k t220).bind fun bt227 => ((impl_LengthBounds.f k bt223.1).bind fun bt230 => ((impl_TurnsAside.f k t220).bind fun bt233 => ((impl_TurnsAside.f k bt223.1).bind fun bt236 => (if bt223.2 = 0 then (if bt227.2.2 = 0 then (if bt227.1 > bt227.2.1 then (none) else (if (wrap64 (bt227.2.1 - bt227.1)) ≥ (t220.length : Int) then (none) else (if bt230.2.2 = 0 then (if bt230.1 = bt227.1 then (if bt230.2.1 = bt227.2.1 then (if bt233.2.2 = 0 then (if bt236.2.2 = 0 then (if bt233.1 = bt236.2.1 then (if bt233.2.1 = bt236.1 then (if bt233.1 < 0 then (none) else (if bt233.2.1 < 0 then (none) else (laws_FnChainSides.j0 k t220 bt227.2.1 (decide ((wrap64 (bt233.1 + bt233.2.1)) > (wrap64 ((t220.length : Int) - 2))))))) else (none)) else (none)) else (none)) else (none)) else (none)) else (none)) else (none)))) else (none)) else (none))))))) = some r := H
  have A4 := Aside0.mk A40
  clear A40
  replace H := Option.bind_eq_some_iff.mp H
  obtain ⟨⟨t223, t224⟩, A50, H⟩ := H
  replace H : ((impl_LengthBounds.f k t220).bind fun bt227 => ((impl_LengthBounds.f k t223).bind fun bt230 => ((impl_TurnsAside.f k t220).bind fun bt233 => ((impl_TurnsAside.f k t223).bind fun bt236 => (if t224 = 0 then (if bt227.2.2 = 0 then (if bt227.1 > bt227.2.1 then (none) else (if (wrap64 (bt227.2.1 - bt227.1)) ≥ (t220.length : Int) then (none) else (if bt230.2.2 = 0 then (if bt230.1 = bt227.1 then (if bt230.2.1 = bt227.2.1 then (if bt233.2.2 = 0 then (if bt236.2.2 = 0 then (if bt233.1 = bt236.2.1 then (if bt233.2.1 = bt236.1 then (if bt233.1 < 0 then (none) else (if bt233.2.1 < 0 then (none) else (laws_FnChainSides.j0 k t220 bt227.2.1 (decide ((wrap64 (bt233.1 + bt233.2.1)) > (wrap64 ((t220.length : Int) - 2))))))) else (none)) else (none)) else (none)) else (none)) else (none)) else (none)) else (none)))) else (none)) else (none)))))) = some r := H
  have A5 := Aside0.mk A50
  clear A50
  replace H := Option.bind_eq_some_iff.mp H
  obtain ⟨⟨t227, t228, t229⟩, A60, H⟩ := H
  replace H : ((impl_LengthBounds.f k t223).bind fun bt230 => ((impl_TurnsAside.f k t220).bind fun bt233 => ((impl_TurnsAside.f k t223).bind fun bt236 => (if t224 = 0 then (if t229 = 0 then (if t227 > t228 then (none) else (if (wrap64 (t228 - t227)) ≥ (t220.length : Int) then (none) else (if bt230.2.2 = 0 then (if bt230.1 = t227 then (if bt230.2.1 = t228 then (if bt233.2.2 = 0 then (if bt236.2.2 = 0 then (if bt233.1 = bt236.2.1 then (if bt233.2.1 = bt236.1 then (if bt233.1 < 0 then (none) else (if bt233.2.1 < 0 then (none) else (laws_FnChainSides.j0 k t220 t228 (decide ((wrap64 (bt233.1 + bt233.2.1)) > (wrap64 ((t220.length : Int) - 2))))))) else (none)) else (none)) else (none)) else (none)) else (none)) else (none)) else (none)))) else (none)) else (none))))) = some r := H
  have A6 := Aside0.mk A60
  clear A60
  replace H := Option.bind_eq_some_iff.mp H
  obtain ⟨⟨t230, t231, t232⟩, A70, H⟩ := H
  replace H : ((impl_TurnsAside.f k t220).bind fun bt233 => ((impl_TurnsAside.f k t223).bind fun bt236 => (if t224 = 0 then (if t229 = 0 then (if t227 > t228 then (none) else (if (wrap64 (t228 - t227)) ≥ (t220.length : Int) then (none) else (if t232 = 0 then (if t230 = t227 then (if t231 = t228 then (if bt233.2.2 = 0 then (if bt236.2.2 = 0 then (if bt233.1 = bt236.2.1 then (if bt233.2.1 = bt236.1 then (if bt233.1 < 0 then (none) else (if bt233.2.1 < 0 then (none) else (laws_FnChainSides.j0 k t220 t228 (decide ((wrap64 (bt233.1 + bt233.2.1)) > (wrap64 ((t220.length : Int) - 2))))))) else (none)) else (none)) else (none)) else (none)) else (none)) else (none)) else (none)))) else (none)) else (none)))) = some r := H
  have A7 := Aside0.mk A70
  clear A70
  replace H := Option.bind_eq_some_iff.mp H
  obtain ⟨⟨t233, t234, t235⟩, A80, H⟩ := H
  replace H : ((impl_TurnsAside.f k t223).bind fun bt236 => (if t224 = 0 then (if t229 = 0 then (if t227 > t228 then (none) else (if (wrap64 (t228 - t227)) ≥ (t220.length : Int) then (none) else (if t232 = 0 then (if t230 = t227 then (if t231 = t228 then (if t235 = 0 then (if bt236.2.2 = 0 then (if t233 = bt236.2.1 then (if t234 = bt236.1 then (if t233 < 0 then (none) else (if t234 < 0 then (none) else (laws_FnChainSides.j0 k t220 t228 (decide ((wrap64 (t233 + t234)) > (wrap64 ((t220.length : Int) - 2))))))) else (none)) else (none)) else (none)) else (none)) else (none)) else (none)) else (none)))) else (none)) else (none))) = some r := H
  have A8 := Aside0.mk A80
  clear A80
  replace H := Option.bind_eq_some_iff.mp H
  obtain ⟨⟨t236, t237, t238⟩, A90, H⟩ := H
  replace H : (if t224 = 0 then (if t229 = 0 then (if t227 > t228 then (none) else (if (wrap64 (t228 - t227)) ≥ (t220.length : Int) then (none) else (if t232 = 0 then (if t230 = t227 then (if t231 = t228 then (if t235 = 0 then (if t238 = 0 then (if t233 = t237 then (if t234 = t236 then (if t233 < 0 then (none) else (if t234 < 0 then (none) else (laws_FnChainSides.j0 k t220 t228 (decide ((wrap64 (t233 + t234)) > (wrap64 ((t220.length : Int) - 2))))))) else (none)) else (none)) else (none)) else (none)) else (none)) else (none)) else (none)))) else (none)) else (none)) = some r := H
  have A9 := Aside0.mk A90
  clear A90
  have HC10 := Aside0.mk H
  clear H
  go_enter Try.func5, Try.ntmps5
  go_upto_region 9 with (first | (go_at_call 25; (refine (laws_a2Long.calls _ _ l0 _ _ ([] : List Int) false _ ?side1 ?side2 ?side3 ?side4 A2.out).mono ?_); (case side1 => repeat (first | exact HR0.out | (with_reducible refine Kd.C_alloc ?_ _) | (with_reducible refine Kd.C_drewN ?_ _) | (with_reducible refine Kd.C_drew ?_))); (case side2 => exact HC0.out); (case side3 => exact Kd.C_nil _ _); (case side4 => exact Nat.le_refl _); rintro e w' ⟨rfl, ⟨nd, rfl⟩⟩; (try first | exact ⟨rfl, _, World.drewN_drewN _ _ _⟩ | exact ⟨rfl, _, Eq.trans (World.drewN_drewN _ _ _) (congrArg (World.drewN _) (Nat.add_assoc _ _ _))⟩)) | (go_at_call 26; (with_reducible refine (spec_A2Chain.calls k _ _ l0 t220 _ ?side1 ?side2 A4.out).mono ?_); (case side1 => repeat (first | exact HR0.out | (with_reducible refine Kd.C_alloc ?_ _) | (with_reducible refine Kd.C_drewN ?_ _) | (with_reducible refine Kd.C_drew ?_))); (case side2 => exact HC0.out); rintro e w11 ⟨v221, rfl, ho0, hb⟩; have n0_ := Aside0.mk (Kd.R_lower ho0 (below_size (by repeat (first | (with_reducible first | exact HB.out | apply below_alloc | apply pw_below_drewN | apply below_drew1) | exact HB.out)))); have n1_ := Aside0.mk (below_step (by repeat (first | (with_reducible first | exact HB.out | apply below_alloc | apply pw_below_drewN | apply below_drew1) | exact HB.out)) hb); clear HB; have HO222 := n0_; have HB := n1_; clear n0_ n1_; (try clear hb); (try clear hb2); (try clear hk); (try clear hi); (try clear ho0); obtain ⟨Ao12, co12, eo12⟩ := Kd.R_slice HO222.out; subst eo12) | (go_at_call 27; (with_reducible refine (spec_ReverseChain.calls k _ _ t220 t223 t224 _ ?side1 ?side2 A5.out).mono ?_); (case side1 => repeat (first | exact (Kd.R_reads' HO222.out).2.2 | (with_reducible refine Kd.C_alloc ?_ _) | (with_reducible refine Kd.C_drewN ?_ _) | (with_reducible refine Kd.C_drew ?_))); (case side2 => exact (Kd.R_reads' HO222.out).2.1); rintro e w13 ⟨v225, rfl, ho0, hb⟩; have n0_ := Aside0.mk (Kd.R_elder' (by (with_reducible repeat (first | apply Kd.R_alloc | apply Kd.R_drewN | apply Kd.R_drew)); exact HO222.out) (Kd.R_base ho0) hb); have n1_ := Aside0.mk (Kd.R_lower (Kd.R_new' ho0 (Kd.R_lt (by (with_reducible repeat (first | apply Kd.R_alloc | apply Kd.R_drewN | apply Kd.R_drew)); exact HO222.out))) (below_size (by repeat (first | (with_reducible first | exact HB.out | apply below_alloc | apply pw_below_drewN | apply below_drew1) | exact HB.out)))); have n2_ := Aside0.mk (below_step (by repeat (first | (with_reducible first | exact HB.out | apply below_alloc | apply pw_below_drewN | apply below_drew1) | exact HB.out)) hb); clear HO222; clear HB; have HO222 := n0_; have HO226 := n1_; have HB := n2_; clear n0_ n1_ n2_; (try clear hb); (try clear hb2); (try clear hk); (try clear hi); (try clear ho0)) | (go_at_call 28; (with_reducible refine (impl_LengthBounds.calls k _ _ t220 t227 t228 t229 _ ?side1 ?side2 A6.out).mono ?_); (case side1 => repeat (first | exact (Kd.R_reads' HO222.out).2.2 | (with_reducible refine Kd.C_alloc ?_ _) | (with_reducible refine Kd.C_drewN ?_ _) | (with_reducible refine Kd.C_drew ?_))); (case side2 => exact (Kd.R_reads' HO222.out).2.1); rintro e w14 ⟨rfl, hb⟩; have n0_ := Aside0.mk (Kd.R_below (by (with_reducible repeat (first | apply Kd.R_alloc | apply Kd.R_drewN | apply Kd.R_drew)); exact HO222.out) hb); have n1_ := Aside0.mk (Kd.R_below (by (with_reducible repeat (first | apply Kd.R_alloc | apply Kd.R_drewN | apply Kd.R_drew)); exact HO226.out) hb); have n2_ := Aside0.mk (below_step (by repeat (first | (with_reducible first | exact HB.out | apply below_alloc | apply pw_below_drewN | apply below_drew1) | exact HB.out)) hb); clear HO222; clear HO226; clear HB; have HO222 := n0_; have HO226 := n1_; have HB := n2_; clear n0_ n1_ n2_; (try clear hb); (try clear hb2); (try clear hk); (try clear hi); obtain ⟨Ao15, co15, eo15⟩ := Kd.R_slice HO226.out; subst eo15) | (go_at_call 28; (with_reducible refine (impl_LengthBounds.calls k _ _ t223 t230 t231 t232 _ ?side1 ?side2 A7.out).mono ?_); (case side1 => repeat (first | exact (Kd.R_reads' HO226.out).2.2 | (with_reducible refine Kd.C_alloc ?_ _) | (with_reducible refine Kd.C_drewN ?_ _) | (with_reducible refine Kd.C_drew ?_))); (case side2 => exact (Kd.R_reads' HO226.out).2.1); rintro e w16 ⟨rfl, hb⟩; have n0_ := Aside0.mk (Kd.R_below (by (with_reducible repeat (first | apply Kd.R_alloc | apply Kd.R_drewN | apply Kd.R_drew)); exact HO222.out) hb); have n1_ := Aside0.mk (Kd.R_below (by (with_reducible repeat (first | apply Kd.R_alloc | apply Kd.R_drewN | apply Kd.R_drew)); exact HO226.out) hb); have n2_ := Aside0.mk (below_step (by repeat (first | (with_reducible first | exact HB.out | apply below_alloc | apply pw_below_drewN | apply below_drew1) | exact HB.out)) hb); clear HO222; clear HO226; clear HB; have HO222 := n0_; have HO226 := n1_; have HB := n2_; clear n0_ n1_ n2_; (try clear hb); (try clear hb2); (try clear hk); (try clear hi)) | (go_at_call 29; (with_reducible refine (impl_TurnsAside.calls k _ _ t220 t233 t234 t235 _ ?side1 ?side2 A8.out).mono ?_); (case side1 => repeat (first | exact (Kd.R_reads' HO222.out).2.2 | (with_reducible refine Kd.C_alloc ?_ _) | (with_reducible refine Kd.C_drewN ?_ _) | (with_reducible refine Kd.C_drew ?_))); (case side2 => exact (Kd.R_reads' HO222.out).2.1); rintro e w17 ⟨rfl, hb⟩; have n0_ := Aside0.mk (Kd.R_below (by (with_reducible repeat (first | apply Kd.R_alloc | apply Kd.R_drewN | apply Kd.R_drew)); exact HO222.out) hb); have n1_ := Aside0.mk (Kd.R_below (by (with_reducible repeat (first | apply Kd.R_alloc | apply Kd.R_drewN | apply Kd.R_drew)); exact HO226.out) hb); have n2_ := Aside0.mk (below_step (by repeat (first | (with_reducible first | exact HB.out | apply below_alloc | apply pw_below_drewN | apply below_drew1) | exact HB.out)) hb); clear HO222; clear HO226; clear HB; have HO222 := n0_; have HO226 := n1_; have HB := n2_; clear n0_ n1_ n2_; (try clear hb); (try clear hb2); (try clear hk); (try clear hi)) | (go_at_call 29; (with_reducible refine (impl_TurnsAside.calls k _ _ t223 t236 t237 t238 _ ?side1 ?side2 A9.out).mono ?_); (case side1 => repeat (first | exact (Kd.R_reads' HO226.out).2.2 | (with_reducible refine Kd.C_alloc ?_ _) | (with_reducible refine Kd.C_drewN ?_ _) | (with_reducible refine Kd.C_drew ?_))); (case side2 => exact (Kd.R_reads' HO226.out).2.1); rintro e w18 ⟨rfl, hb⟩; have n0_ := Aside0.mk (Kd.R_below (by (with_reducible repeat (first | apply Kd.R_alloc | apply Kd.R_drewN | apply Kd.R_drew)); exact HO222.out) hb); have n1_ := Aside0.mk (Kd.R_below (by (with_reducible repeat (first | apply Kd.R_alloc | apply Kd.R_drewN | apply Kd.R_drew)); exact HO226.out) hb); have n2_ := Aside0.mk (below_step (by repeat (first | (with_reducible first | exact HB.out | apply below_alloc | apply pw_below_drewN | apply below_drew1) | exact HB.out)) hb); clear HO222; clear HO226; clear HB; have HO222 := n0_; have HO226 := n1_; have HB := n2_; clear n0_ n1_ n2_; (try clear hb); (try clear hb2); (try clear hk); (try clear hi)))
  repeat (go_quiet (first | (go_at_call 25; (try simp only [i64_w, i32_w]); (refine (laws_a2Long.calls _ _ l0 _ _ ([] : List Int) false _ ?side1 ?side2 ?side3 ?side4 A2.out).mono ?_); (case side1 => repeat (first | exact HR0.out | (with_reducible refine Kd.C_alloc ?_ _) | (with_reducible refine Kd.C_drewN ?_ _) | (with_reducible refine Kd.C_drew ?_))); (case side2 => exact HC0.out); (case side3 => exact Kd.C_nil _ _); (case side4 => exact Nat.le_refl _); rintro e w' ⟨rfl, ⟨nd, rfl⟩⟩; (try first | exact ⟨rfl, _, World.drewN_drewN _ _ _⟩ | exact ⟨rfl, _, Eq.trans (World.drewN_drewN _ _ _) (congrArg (World.drewN _) (Nat.add_assoc _ _ _))⟩)) | (go_at_call 26; (try simp only [i64_w, i32_w]); (with_reducible refine (spec_A2Chain.calls k _ _ l0 t220 _ ?side1 ?side2 A4.out).mono ?_); (case side1 => repeat (first | exact HR0.out | (with_reducible refine Kd.C_alloc ?_ _) | (with_reducible refine Kd.C_drewN ?_ _) | (with_reducible refine Kd.C_drew ?_))); (case side2 => exact HC0.out); rintro e w11 ⟨v221, rfl, ho0, hb⟩; have n0_ := Aside0.mk (Kd.R_lower ho0 (below_size (by repeat (first | (with_reducible first | exact HB.out | apply below_alloc | apply pw_below_drewN | apply below_drew1) | exact HB.out)))); have n1_ := Aside0.mk (below_step (by repeat (first | (with_reducible first | exact HB.out | apply below_alloc | apply pw_below_drewN | apply below_drew1) | exact HB.out)) hb); clear HB; have HO222 := n0_; have HB := n1_; clear n0_ n1_; (try clear hb); (try clear hb2); (try clear hk); (try clear hi); (try clear ho0); obtain ⟨Ao12, co12, eo12⟩ := Kd.R_slice HO222.out; subst eo12) | (go_at_call 27; (try simp only [i64_w, i32_w]); (with_reducible refine (spec_ReverseChain.calls k _ _ t220 t223 t224 _ ?side1 ?side2 A5.out).mono ?_); (case side1 => repeat (first | exact (Kd.R_reads' HO222.out).2.2 | (with_reducible refine Kd.C_alloc ?_ _) | (with_reducible refine Kd.C_drewN ?_ _) | (with_reducible refine Kd.C_drew ?_))); (case side2 => exact (Kd.R_reads' HO222.out).2.1); rintro e w13 ⟨v225, rfl, ho0, hb⟩; have n0_ := Aside0.mk (Kd.R_elder' (by (with_reducible repeat (first | apply Kd.R_alloc | apply Kd.R_drewN | apply Kd.R_drew)); exact HO222.out) (Kd.R_base ho0) hb); have n1_ := Aside0.mk (Kd.R_lower (Kd.R_new' ho0 (Kd.R_lt (by (with_reducible repeat (first | apply Kd.R_alloc | apply Kd.R_drewN | apply Kd.R_drew)); exact HO222.out))) (below_size (by repeat (first | (with_reducible first | exact HB.out | apply below_alloc | apply pw_below_drewN | apply below_drew1) | exact HB.out)))); have n2_ := Aside0.mk (below_step (by repeat (first | (with_reducible first | exact HB.out | apply below_alloc | apply pw_below_drewN | apply below_drew1) | exact HB.out)) hb); clear HO222; clear HB; have HO222 := n0_; have HO226 := n1_; have HB := n2_; clear n0_ n1_ n2_; (try clear hb); (try clear hb2); (try clear hk); (try clear hi); (try clear ho0)) | (go_at_call 28; (try simp only [i64_w, i32_w]); (with_reducible refine (impl_LengthBounds.calls k _ _ t220 t227 t228 t229 _ ?side1 ?side2 A6.out).mono ?_); (case side1 => repeat (first | exact (Kd.R_reads' HO222.out).2.2 | (with_reducible refine Kd.C_alloc ?_ _) | (with_reducible refine Kd.C_drewN ?_ _) | (with_reducible refine Kd.C_drew ?_))); (case side2 => exact (Kd.R_reads' HO222.out).2.1); rintro e w14 ⟨rfl, hb⟩; have n0_ := Aside0.mk (Kd.R_below (by (with_reducible repeat (first | apply Kd.R_alloc | apply Kd.R_drewN | apply Kd.R_drew)); exact HO222.out) hb); have n1_ := Aside0.mk (Kd.R_below (by (with_reducible repeat (first | apply Kd.R_alloc | apply Kd.R_drewN | apply Kd.R_drew)); exact HO226.out) hb); have n2_ := Aside0.mk (below_step (by repeat (first | (with_reducible first | exact HB.out | apply below_alloc | apply pw_below_drewN | apply below_drew1) | exact HB.out)) hb); clear HO222; clear HO226; clear HB; have HO222 := n0_; have HO226 := n1_; have HB := n2_; clear n0_ n1_ n2_; (try clear hb); (try clear hb2); (try clear hk); (try clear hi); obtain ⟨Ao15, co15, eo15⟩ := Kd.R_slice HO226.out; subst eo15) | (go_at_call 28; (try simp only [i64_w, i32_w]); (with_reducible refine (impl_LengthBounds.calls k _ _ t223 t230 t231 t232 _ ?side1 ?side2 A7.out).mono ?_); (case side1 => repeat (first | exact (Kd.R_reads' HO226.out).2.2 | (with_reducible refine Kd.C_alloc ?_ _) | (with_reducible refine Kd.C_drewN ?_ _) | (with_reducible refine Kd.C_drew ?_))); (case side2 => exact (Kd.R_reads' HO226.out).2.1); rintro e w16 ⟨rfl, hb⟩; have n0_ := Aside0.mk (Kd.R_below (by (with_reducible repeat (first | apply Kd.R_alloc | apply Kd.R_drewN | apply Kd.R_drew)); exact HO222.out) hb); have n1_ := Aside0.mk (Kd.R_below (by (with_reducible repeat (first | apply Kd.R_alloc | apply Kd.R_drewN | apply Kd.R_drew)); exact HO226.out) hb); have n2_ := Aside0.mk (below_step (by repeat (first | (with_reducible first | exact HB.out | apply below_alloc | apply pw_below_drewN | apply below_drew1) | exact HB.out)) hb); clear HO222; clear HO226; clear HB; have HO222 := n0_; have HO226 := n1_; have HB := n2_; clear n0_ n1_ n2_; (try clear hb); (try clear hb2); (try clear hk); (try clear hi)) | (go_at_call 29; (try simp only [i64_w, i32_w]); (with_reducible refine (impl_TurnsAside.calls k _ _ t220 t233 t234 t235 _ ?side1 ?side2 A8.out).mono ?_); (case side1 => repeat (first | exact (Kd.R_reads' HO222.out).2.2 | (with_reducible refine Kd.C_alloc ?_ _) | (with_reducible refine Kd.C_drewN ?_ _) | (with_reducible refine Kd.C_drew ?_))); (case side2 => exact (Kd.R_reads' HO222.out).2.1); rintro e w17 ⟨rfl, hb⟩; have n0_ := Aside0.mk (Kd.R_below (by (with_reducible repeat (first | apply Kd.R_alloc | apply Kd.R_drewN | apply Kd.R_drew)); exact HO222.out) hb); have n1_ := Aside0.mk (Kd.R_below (by (with_reducible repeat (first | apply Kd.R_alloc | apply Kd.R_drewN | apply Kd.R_drew)); exact HO226.out) hb); have n2_ := Aside0.mk (below_step (by repeat (first | (with_reducible first | exact HB.out | apply below_alloc | apply pw_below_drewN | apply below_drew1) | exact HB.out)) hb); clear HO222; clear HO226; clear HB; have HO222 := n0_; have HO226 := n1_; have HB := n2_; clear n0_ n1_ n2_; (try clear hb); (try clear hb2); (try clear hk); (try clear hi)) | (go_at_call 29; (try simp only [i64_w, i32_w]); (with_reducible refine (impl_TurnsAside.calls k _ _ t223 t236 t237 t238 _ ?side1 ?side2 A9.out).mono ?_); (case side1 => repeat (first | exact (Kd.R_reads' HO226.out).2.2 | (with_reducible refine Kd.C_alloc ?_ _) | (with_reducible refine Kd.C_drewN ?_ _) | (with_reducible refine Kd.C_drew ?_))); (case side2 => exact (Kd.R_reads' HO226.out).2.1); rintro e w18 ⟨rfl, hb⟩; have n0_ := Aside0.mk (Kd.R_below (by (with_reducible repeat (first | apply Kd.R_alloc | apply Kd.R_drewN | apply Kd.R_drew)); exact HO222.out) hb); have n1_ := Aside0.mk (Kd.R_below (by (with_reducible repeat (first | apply Kd.R_alloc | apply Kd.R_drewN | apply Kd.R_drew)); exact HO226.out) hb); have n2_ := Aside0.mk (below_step (by repeat (first | (with_reducible first | exact HB.out | apply below_alloc | apply pw_below_drewN | apply below_drew1) | exact HB.out)) hb); clear HO222; clear HO226; clear HB; have HO222 := n0_; have HO226 := n1_; have HB := n2_; clear n0_ n1_ n2_; (try clear hb); (try clear hb2); (try clear hk); (try clear hi))); go_upto_region 9 with (first | (go_at_call 25; (refine (laws_a2Long.calls _ _ l0 _ _ ([] : List Int) false _ ?side1 ?side2 ?side3 ?side4 A2.out).mono ?_); (case side1 => repeat (first | exact HR0.out | (with_reducible refine Kd.C_alloc ?_ _) | (with_reducible refine Kd.C_drewN ?_ _) | (with_reducible refine Kd.C_drew ?_))); (case side2 => exact HC0.out); (case side3 => exact Kd.C_nil _ _); (case side4 => exact Nat.le_refl _); rintro e w' ⟨rfl, ⟨nd, rfl⟩⟩; (try first | exact ⟨rfl, _, World.drewN_drewN _ _ _⟩ | exact ⟨rfl, _, Eq.trans (World.drewN_drewN _ _ _) (congrArg (World.drewN _) (Nat.add_assoc _ _ _))⟩)) | (go_at_call 26; (with_reducible refine (spec_A2Chain.calls k _ _ l0 t220 _ ?side1 ?side2 A4.out).mono ?_); (case side1 => repeat (first | exact HR0.out | (with_reducible refine Kd.C_alloc ?_ _) | (with_reducible refine Kd.C_drewN ?_ _) | (with_reducible refine Kd.C_drew ?_))); (case side2 => exact HC0.out); rintro e w11 ⟨v221, rfl, ho0, hb⟩; have n0_ := Aside0.mk (Kd.R_lower ho0 (below_size (by repeat (first | (with_reducible first | exact HB.out | apply below_alloc | apply pw_below_drewN | apply below_drew1) | exact HB.out)))); have n1_ := Aside0.mk (below_step (by repeat (first | (with_reducible first | exact HB.out | apply below_alloc | apply pw_below_drewN | apply below_drew1) | exact HB.out)) hb); clear HB; have HO222 := n0_; have HB := n1_; clear n0_ n1_; (try clear hb); (try clear hb2); (try clear hk); (try clear hi); (try clear ho0); obtain ⟨Ao12, co12, eo12⟩ := Kd.R_slice HO222.out; subst eo12) | (go_at_call 27; (with_reducible refine (spec_ReverseChain.calls k _ _ t220 t223 t224 _ ?side1 ?side2 A5.out).mono ?_); (case side1 => repeat (first | exact (Kd.R_reads' HO222.out).2.2 | (with_reducible refine Kd.C_alloc ?_ _) | (with_reducible refine Kd.C_drewN ?_ _) | (with_reducible refine Kd.C_drew ?_))); (case side2 => exact (Kd.R_reads' HO222.out).2.1); rintro e w13 ⟨v225, rfl, ho0, hb⟩; have n0_ := Aside0.mk (Kd.R_elder' (by (with_reducible repeat (first | apply Kd.R_alloc | apply Kd.R_drewN | apply Kd.R_drew)); exact HO222.out) (Kd.R_base ho0) hb); have n1_ := Aside0.mk (Kd.R_lower (Kd.R_new' ho0 (Kd.R_lt (by (with_reducible repeat (first | apply Kd.R_alloc | apply Kd.R_drewN | apply Kd.R_drew)); exact HO222.out))) (below_size (by repeat (first | (with_reducible first | exact HB.out | apply below_alloc | apply pw_below_drewN | apply below_drew1) | exact HB.out)))); have n2_ := Aside0.mk (below_step (by repeat (first | (with_reducible first | exact HB.out | apply below_alloc | apply pw_below_drewN | apply below_drew1) | exact HB.out)) hb); clear HO222; clear HB; have HO222 := n0_; have HO226 := n1_; have HB := n2_; clear n0_ n1_ n2_; (try clear hb); (try clear hb2); (try clear hk); (try clear hi); (try clear ho0)) | (go_at_call 28; (with_reducible refine (impl_LengthBounds.calls k _ _ t220 t227 t228 t229 _ ?side1 ?side2 A6.out).mono ?_); (case side1 => repeat (first | exact (Kd.R_reads' HO222.out).2.2 | (with_reducible refine Kd.C_alloc ?_ _) | (with_reducible refine Kd.C_drewN ?_ _) | (with_reducible refine Kd.C_drew ?_))); (case side2 => exact (Kd.R_reads' HO222.out).2.1); rintro e w14 ⟨rfl, hb⟩; have n0_ := Aside0.mk (Kd.R_below (by (with_reducible repeat (first | apply Kd.R_alloc | apply Kd.R_drewN | apply Kd.R_drew)); exact HO222.out) hb); have n1_ := Aside0.mk (Kd.R_below (by (with_reducible repeat (first | apply Kd.R_alloc | apply Kd.R_drewN | apply Kd.R_drew)); exact HO226.out) hb); have n2_ := Aside0.mk (below_step (by repeat (first | (with_reducible first | exact HB.out | apply below_alloc | apply pw_below_drewN | apply below_drew1) | exact HB.out)) hb); clear HO222; clear HO226; clear HB; have HO222 := n0_; have HO226 := n1_; have HB := n2_; clear n0_ n1_ n2_; (try clear hb); (try clear hb2); (try clear hk); (try clear hi); obtain ⟨Ao15, co15, eo15⟩ := Kd.R_slice HO226.out; subst eo15) | (go_at_call 28; (with_reducible refine (impl_LengthBounds.calls k _ _ t223 t230 t231 t232 _ ?side1 ?side2 A7.out).mono ?_); (case side1 => repeat (first | exact (Kd.R_reads' HO226.out).2.2 | (with_reducible refine Kd.C_alloc ?_ _) | (with_reducible refine Kd.C_drewN ?_ _) | (with_reducible refine Kd.C_drew ?_))); (case side2 => exact (Kd.R_reads' HO226.out).2.1); rintro e w16 ⟨rfl, hb⟩; have n0_ := Aside0.mk (Kd.R_below (by (with_reducible repeat (first | apply Kd.R_alloc | apply Kd.R_drewN | apply Kd.R_drew)); exact HO222.out) hb); have n1_ := Aside0.mk (Kd.R_below (by (with_reducible repeat (first | apply Kd.R_alloc | apply Kd.R_drewN | apply Kd.R_drew)); exact HO226.out) hb); have n2_ := Aside0.mk (below_step (by repeat (first | (with_reducible first | exact HB.out | apply below_alloc | apply pw_below_drewN | apply below_drew1) | exact HB.out)) hb); clear HO222; clear HO226; clear HB; have HO222 := n0_; have HO226 := n1_; have HB := n2_; clear n0_ n1_ n2_; (try clear hb); (try clear hb2); (try clear hk); (try clear hi)) | (go_at_call 29; (with_reducible refine (impl_TurnsAside.calls k _ _ t220 t233 t234 t235 _ ?side1 ?side2 A8.out).mono ?_); (case side1 => repeat (first | exact (Kd.R_reads' HO222.out).2.2 | (with_reducible refine Kd.C_alloc ?_ _) | (with_reducible refine Kd.C_drewN ?_ _) | (with_reducible refine Kd.C_drew ?_))); (case side2 => exact (Kd.R_reads' HO222.out).2.1); rintro e w17 ⟨rfl, hb⟩; have n0_ := Aside0.mk (Kd.R_below (by (with_reducible repeat (first | apply Kd.R_alloc | apply Kd.R_drewN | apply Kd.R_drew)); exact HO222.out) hb); have n1_ := Aside0.mk (Kd.R_below (by (with_reducible repeat (first | apply Kd.R_alloc | apply Kd.R_drewN | apply Kd.R_drew)); exact HO226.out) hb); have n2_ := Aside0.mk (below_step (by repeat (first | (with_reducible first | exact HB.out | apply below_alloc | apply pw_below_drewN | apply below_drew1) | exact HB.out)) hb); clear HO222; clear HO226; clear HB; have HO222 := n0_; have HO226 := n1_; have HB := n2_; clear n0_ n1_ n2_; (try clear hb); (try clear hb2); (try clear hk); (try clear hi)) | (go_at_call 29; (with_reducible refine (impl_TurnsAside.calls k _ _ t223 t236 t237 t238 _ ?side1 ?side2 A9.out).mono ?_); (case side1 => repeat (first | exact (Kd.R_reads' HO226.out).2.2 | (with_reducible refine Kd.C_alloc ?_ _) | (with_reducible refine Kd.C_drewN ?_ _) | (with_reducible refine Kd.C_drew ?_))); (case side2 => exact (Kd.R_reads' HO226.out).2.1); rintro e w18 ⟨rfl, hb⟩; have n0_ := Aside0.mk (Kd.R_below (by (with_reducible repeat (first | apply Kd.R_alloc | apply Kd.R_drewN | apply Kd.R_drew)); exact HO222.out) hb); have n1_ := Aside0.mk (Kd.R_below (by (with_reducible repeat (first | apply Kd.R_alloc | apply Kd.R_drewN | apply Kd.R_drew)); exact HO226.out) hb); have n2_ := Aside0.mk (below_step (by repeat (first | (with_reducible first | exact HB.out | apply below_alloc | apply pw_below_drewN | apply below_drew1) | exact HB.out)) hb); clear HO222; clear HO226; clear HB; have HO222 := n0_; have HO226 := n1_; have HB := n2_; clear n0_ n1_ n2_; (try clear hb); (try clear hb2); (try clear hk); (try clear hi))))
  (try simp only [Act.put, List.setIfInBounds_toArray, List.set_cons_zero, List.set_cons_succ])
  go_cut [120] (fun v120 wc => ∃ (kq : Nat) (x120_9 : Bool), v120 = .bool x120_9 ∧ Aside0 (laws_FnChainSides.j0 kq t220 t228 x120_9 = some r) ∧ Aside0 (kq ≤ k) ∧ Aside0 (Kd.R k44 44 wc w.heap.size (fun _ => True) (.slice Ao12 t220.length co12) t220) ∧ Aside0 (Below w.heap.size w wc))
  case first =>
   have H := HC10.out
   clear HC10
   by_cases c19 : t224 = 0
   ·rw [if_pos c19] at H
    have c19b0 : (t224 == 0) = true := beq_iff_eq.mpr c19
    have c19b1 : (t224 != 0) = false := bne_eq_false_iff_eq.mpr c19
    clear c19
    (first | rw [c19b0] | (simp only [i64_w, i32_w]; rw [c19b0]) | skip)
    by_cases c20 : t229 = 0
    ·rw [if_pos c20] at H
     have c20b0 : (t229 == 0) = true := beq_iff_eq.mpr c20
     have c20b1 : (t229 != 0) = false := bne_eq_false_iff_eq.mpr c20
     clear c20
     by_cases c21 : t227 > t228
     ·rw [if_pos c21] at H
      exact absurd H (by simp)
     ·rw [if_neg c21] at H
      have c21b0 : decide (t228 < t227) = false := decide_eq_false c21
      clear c21
      by_cases c22 : (wrap64 (t228 - t227)) ≥ (t220.length : Int)
      ·rw [if_pos c22] at H
       exact absurd H (by simp)
      ·rw [if_neg c22] at H
       have c22b0 : decide ((t220.length : Int) ≤ (wrap64 (t228 - t227))) = false := decide_eq_false c22
       clear c22
       by_cases c23 : t232 = 0
       ·rw [if_pos c23] at H
        have c23b0 : (t232 == 0) = true := beq_iff_eq.mpr c23
        have c23b1 : (t232 != 0) = false := bne_eq_false_iff_eq.mpr c23
        clear c23
        by_cases c24 : t230 = t227
        ·rw [if_pos c24] at H
         have c24b0 : (t230 == t227) = true := beq_iff_eq.mpr c24
         have c24b1 : (t230 != t227) = false := bne_eq_false_iff_eq.mpr c24
         clear c24
         by_cases c25 : t231 = t228
         ·rw [if_pos c25] at H
          have c25b0 : (t231 == t228) = true := beq_iff_eq.mpr c25
          have c25b1 : (t231 != t228) = false := bne_eq_false_iff_eq.mpr c25
          clear c25
          by_cases c26 : t235 = 0
          ·rw [if_pos c26] at H
           have c26b0 : (t235 == 0) = true := beq_iff_eq.mpr c26
           have c26b1 : (t235 != 0) = false := bne_eq_false_iff_eq.mpr c26
           clear c26
           by_cases c27 : t238 = 0
           ·rw [if_pos c27] at H
            have c27b0 : (t238 == 0) = true := beq_iff_eq.mpr c27
            have c27b1 : (t238 != 0) = false := bne_eq_false_iff_eq.mpr c27
            clear c27
            by_cases c28 : t233 = t237
            ·rw [if_pos c28] at H
             have c28b0 : (t233 == t237) = true := beq_iff_eq.mpr c28
             have c28b1 : (t233 != t237) = false := bne_eq_false_iff_eq.mpr c28
             clear c28
             by_cases c29 : t234 = t236
             ·rw [if_pos c29] at H
              have c29b0 : (t234 == t236) = true := beq_iff_eq.mpr c29
              have c29b1 : (t234 != t236) = false := bne_eq_false_iff_eq.mpr c29
              clear c29
              by_cases c30 : t233 < 0
              ·rw [if_pos c30] at H
               exact absurd H (by simp)
              ·rw [if_neg c30] at H
               have c30b0 : decide (t233 < 0) = false := decide_eq_false c30
               clear c30
               by_cases c31 : t234 < 0
               ·rw [if_pos c31] at H
                exact absurd H (by simp)
               ·rw [if_neg c31] at H
                have c31b0 : decide (t234 < 0) = false := decide_eq_false c31
                clear c31
                have H' := Aside0.mk H
                clear H
                go_wp2
                repeat (go_quiet (fail); try go_wp2)
                go_meet
                case rel => exact ⟨_, (decide ((wrap64 (t233 + t234)) > (wrap64 ((t220.length : Int) - 2)))), (by first | rfl | (simp; done) | (simp [*]; done)), H', ⟨by first | omega | exact Nat.le_refl _⟩, ⟨by (with_reducible repeat (first | apply Kd.R_alloc | apply Kd.R_drewN | apply Kd.R_drew)); exact Kd.R_mono HO222.out (fun _ hk => trivial)⟩, ⟨by repeat (first | (with_reducible first | exact HB.out | apply below_alloc | apply pw_below_drewN | apply below_drew1) | exact HB.out)⟩⟩
             ·rw [if_neg c29] at H
              exact absurd H (by simp)
            ·rw [if_neg c28] at H
             exact absurd H (by simp)
           ·rw [if_neg c27] at H
            exact absurd H (by simp)
          ·rw [if_neg c26] at H
           exact absurd H (by simp)
         ·rw [if_neg c25] at H
          exact absurd H (by simp)
        ·rw [if_neg c24] at H
         exact absurd H (by simp)
       ·rw [if_neg c23] at H
        exact absurd H (by simp)
    ·rw [if_neg c20] at H
     exact absurd H (by simp)
   ·rw [if_neg c19] at H
    exact absurd H (by simp)
  case rest =>
   clear HC10
   try clear c1
   try clear c2
   try clear p2
   try clear c3
   try clear c5
   try clear p6
   try clear c19
   try clear c19b0
   try clear c19b1
   try clear c20
   try clear c20b0
   try clear c20b1
   try clear c21
   try clear c21b0
   try clear c22
   try clear c22b0
   try clear c23
   try clear c23b0
   try clear c23b1
   try clear c24
   try clear c24b0
   try clear c24b1
   try clear c25
   try clear c25b0
   try clear c25b1
   try clear c26
   try clear c26b0
   try clear c26b1
   try clear c27
   try clear c27b0
   try clear c27b1
   try clear c28
   try clear c28b0
   try clear c28b1
   try clear c29
   try clear c29b0
   try clear c29b1
   try clear c30
   try clear c30b0
   try clear c31
   try clear c31b0
   obtain ⟨kq, x120_9, rfl, HA, HJ9, HO_3, HB⟩ := hcut
   cases kq with
   | zero => exact absurd HA.out (by simp [laws_FnChainSides.j0])
   | succ kj9 =>
    have H := HA.out
    clear HA
    simp only [laws_FnChainSides.j0] at H
    by_cases c32 : x120_9 = true
    ·subst c32
     have H1 : (none) = some r := by rw [if_pos rfl] at H; exact H
     clear H
     have H := H1
     clear H1
     exact absurd H (by simp)
    ·replace c32 := Bool.eq_false_iff.mpr c32
     subst c32
     have H1 : (laws_FnChainSides.l0 kj9 t220 t228 0 1) = some r := by rw [if_neg (show ¬ (false = true) by decide)] at H; exact H
     clear H
     have H := H1
     clear H1
     have H' := Aside0.mk H
     clear H
     go_wp2
     repeat (go_quiet (fail); try go_wp2)
     go_loopg [18, 19] kj9 (fun kq v18 v19 w' => ∃ (x18_2 : Int) (x19_2 : Int), v18 = .int .i64 x18_2 ∧ v19 = .int .i64 x19_2 ∧ Aside0 (laws_FnChainSides.l0 kq t220 t228 x18_2 x19_2 = some r) ∧ Aside0 (kq ≤ kj9) ∧ Aside0 (Kd.R k44 44 w' w.heap.size (fun _ => True) (.slice Ao12 t220.length co12) t220) ∧ Aside0 (Below w.heap.size w w'))
     case atStart => exact ⟨(0), (1), (by first | rfl | (simp; done) | (simp [*]; done)), (by first | rfl | (simp; done) | (simp [*]; done)), H', ⟨Nat.le_refl _⟩, ⟨by (with_reducible repeat (first | apply Kd.R_alloc | apply Kd.R_drewN | apply Kd.R_drew)); exact HO_3.out⟩, ⟨by repeat (first | (with_reducible first | exact HB.out | apply below_alloc | apply pw_below_drewN | apply below_drew1) | exact HB.out)⟩⟩
     case round =>
      clear H'
      try clear c1
      try clear c2
      try clear p2
      try clear c3
      try clear c5
      try clear p6
      try clear c19
      try clear c19b0
      try clear c19b1
      try clear c20
      try clear c20b0
      try clear c20b1
      try clear c21
      try clear c21b0
      try clear c22
      try clear c22b0
      try clear c23
      try clear c23b0
      try clear c23b1
      try clear c24
      try clear c24b0
      try clear c24b1
      try clear c25
      try clear c25b0
      try clear c25b1
      try clear c26
      try clear c26b0
      try clear c26b1
      try clear c27
      try clear c27b0
      try clear c27b1
      try clear c28
      try clear c28b0
      try clear c28b1
      try clear c29
      try clear c29b0
      try clear c29b1
      try clear c30
      try clear c30b0
      try clear c31
      try clear c31b0
      try clear c32
      try clear p2
      try clear p6
      obtain ⟨x18_2, x19_2, rfl, rfl, HA, HK2, HO_3, HB⟩ := hrel
      cases gk with
      | zero => exact absurd HA.out (by simp [laws_FnChainSides.l0])
      | succ k2 =>
       have H := HA.out
       clear HA
       simp only [laws_FnChainSides.l0] at H
       by_cases c33 : x19_2 < (t220.length : Int)
       ·rw [if_pos c33] at H
        have c33b0 : decide (x19_2 < (t220.length : Int)) = true := decide_eq_true c33
        clear c33
        by_cases c34 : 0 ≤ x19_2
        ·rw [if_pos c34] at H
         have c34b0 : decide (0 ≤ x19_2) = true := decide_eq_true c34
         clear c34
         obtain ⟨ji35, hji35⟩ : ∃ j_ : Int, (wrap64 (x19_2 - 1)) = j_ := ⟨_, rfl⟩
         replace H : (if 0 ≤ (ji35) then (if (ji35) < (t220.length : Int) then (laws_FnChainSides.l0 k2 t220 t228 (wrap64 (x18_2 + (mx (wrap64 (((rd_T44 t220 x19_2).f0) - ((rd_T44 t220 (ji35)).f0))) (wrap64 (((rd_T44 t220 (ji35)).f0) - ((rd_T44 t220 x19_2).f0)))))) (wrap64 (x19_2 + 1))) else (none)) else (none)) = some r := by first | (rw [hji35] at H; exact H) | (simp only [hji35] at H ⊢; exact H)
         have hji35w : (IntKind.i64.wrap (x19_2 - 1)) = ji35 := (i64_w _).trans hji35
         by_cases c36 : 0 ≤ (ji35)
         ·rw [if_pos c36] at H
          have c36b0 : decide (0 ≤ (ji35)) = true := decide_eq_true c36
          clear c36
          by_cases c37 : (ji35) < (t220.length : Int)
          ·rw [if_pos c37] at H
           have c37b0 : decide ((ji35) < (t220.length : Int)) = true := decide_eq_true c37
           clear c37
           obtain ⟨ji38, hji38⟩ : ∃ j_ : Int, (mx (wrap64 (((rd_T44 t220 x19_2).f0) - ((rd_T44 t220 (ji35)).f0))) (wrap64 (((rd_T44 t220 (ji35)).f0) - ((rd_T44 t220 x19_2).f0)))) = j_ := ⟨_, rfl⟩
           replace H : (laws_FnChainSides.l0 k2 t220 t228 (wrap64 (x18_2 + (ji38))) (wrap64 (x19_2 + 1))) = some r := by first | (rw [hji38] at H; exact H) | (simp only [hji38] at H ⊢; exact H)
           have hji38_ : (if (wrap64 (((rd_T44 t220 x19_2).f0) - ((rd_T44 t220 (ji35)).f0))) < (wrap64 (((rd_T44 t220 (ji35)).f0) - ((rd_T44 t220 x19_2).f0))) then (wrap64 (((rd_T44 t220 (ji35)).f0) - ((rd_T44 t220 x19_2).f0))) else (wrap64 (((rd_T44 t220 x19_2).f0) - ((rd_T44 t220 (ji35)).f0)))) = ji38 := hji38
           have H' := Aside0.mk H
           clear H
           have p239 : 0 ≤ (x19_2 : Int) := od_
           have q239 : x19_2 < (t220.length : Int) := od_
           obtain ⟨ad239, e239, hx239_0, hx239_1⟩ := at_T44 (Kd.R_reads' HO_3.out).2.2 x19_2 p239 q239
           cases e239
           replace p239 := eq_true p239
           replace q239 := eq_true q239
           have p240 : 0 ≤ ((ji35) : Int) := od_
           have q240 : (ji35) < (t220.length : Int) := od_
           obtain ⟨ad240, e240, hx240_0, hx240_1⟩ := at_T44 (Kd.R_reads' HO_3.out).2.2 (ji35) p240 q240
           obtain rfl : ad239 = ad240 := (by injection e240)
           replace p240 := eq_true p240
           replace q240 := eq_true q240
           have p241 : 0 ≤ ((ji35) : Int) := od_
           have q241 : (ji35) < (t220.length : Int) := od_
           obtain ⟨ad241, e241, hx241_0, hx241_1⟩ := at_T44 (Kd.R_reads' HO_3.out).2.2 (ji35) p241 q241
           obtain rfl : ad239 = ad241 := (by injection e241)
           replace p241 := eq_true p241
           replace q241 := eq_true q241
           have p242 : 0 ≤ (x19_2 : Int) := od_
           have q242 : x19_2 < (t220.length : Int) := od_
           obtain ⟨ad242, e242, hx242_0, hx242_1⟩ := at_T44 (Kd.R_reads' HO_3.out).2.2 x19_2 p242 q242
           obtain rfl : ad239 = ad242 := (by injection e242)
           replace p242 := eq_true p242
           replace q242 := eq_true q242
           go_wp2
           repeat (go_quiet (fail); try go_wp2)
           try subst hji35
           go_roundg k2
           case measure => have := HJ9.out; have := HK2.out; omega
           case rel => exact ⟨(wrap64 (x18_2 + (ji38))), (wrap64 (x19_2 + 1)), (by first | rfl | (simp; done) | (simp only [← hji38] <;> (first | rfl | simp)) | (simp [*]; done)), (by first | rfl | (simp; done) | (simp [*]; done)), H', ⟨by have := HJ9.out; have := HK2.out; omega⟩, ⟨by (with_reducible repeat (first | apply Kd.R_alloc | apply Kd.R_drewN | apply Kd.R_drew)); exact HO_3.out⟩, ⟨by repeat (first | (with_reducible first | exact HB.out | apply below_alloc | apply pw_below_drewN | apply below_drew1) | exact HB.out)⟩⟩
          ·rw [if_neg c37] at H
           exact absurd H (by simp)
         ·rw [if_neg c36] at H
          exact absurd H (by simp)
        ·rw [if_neg c34] at H
         exact absurd H (by simp)
       ·rw [if_neg c33] at H
        have c33b0 : decide (x19_2 < (t220.length : Int)) = false := decide_eq_false c33
        clear c33
        obtain rfl := Option.some.inj H
        go_wp2
        repeat (go_quiet (fail); try go_wp2)
        go_ret
        exact ⟨by first | rfl | (simp [errW_none, errW_some] <;> rfl) | (simp [*, errW_none, errW_some] <;> rfl), by repeat (first | (with_reducible first | exact HB.out | apply below_alloc | apply pw_below_drewN | apply below_drew1) | exact HB.out)⟩

/-- THE ONE PURE STATEMENT of laws_FnChainSides. -/
def laws_FnChainSides.Pure : Prop := ∀ (l0 : List Int), wfS (wfI .u8) l0 → l0.length * 1 ≤ 140737488351232 → ∃ k, laws_FnChainSides.f k l0 = some true

end Go.Proofs.Ytgblbmbdadjicaa.Print
