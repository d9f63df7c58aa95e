-- Printed by a program of this session out of the translation; not trusted: Lean checks it.
-- SHRUNK
import Derived.Test.YtcjkklkmlooinaaPrint0
import Derived.Test.YtcjkklkmlooinaaPrint2
import Derived.Test.YtcjkklkmlooinaaPrint3
import Derived.Test.YtcjkklkmlooinaaPrint9
import Derived.Test.YtcjkklkmlooinaaPrint10
import Derived.Test.YtcjkklkmlooinaaPrint11
namespace Go.Proofs.Ytcjkklkmlooinaa.Print
open Go.RowKit Go.Proofs.YtcjkklkmlooinaaW.PrintWords Go.Proofs.YtcjkklkmlooinaaW.PrintLast Go.Proofs.YtcjkklkmlooinaaW.PrintMore
attribute [local go_sem] max2_int min2_int max_two min_two max_three min_three max_four min_four   -- for this text's walks alone
set_option linter.unusedVariables false
set_option linter.unusedSimpArgs false

/-! ### laws_FnHardBorders: function 3 -/
mutual
def laws_FnHardBorders.j0 : Nat → Int → List (S58) → List Int → Int → Bool → Option (Bool)
 | 0, _, _, _, _, _ => none
 | k + 1, x3, x4, x5, x7, x48 => if x48 = true then (none) else (laws_FnHardBorders.l0 k x3 x4 x5 x7 0)
def laws_FnHardBorders.l0 : Nat → Int → List (S58) → List Int → Int → Int → Option (Bool)
 | 0, _, _, _, _, _ => none
 | k + 1, x3, x4, x5, x7, x9 => if x9 < (x4.length : Int) then ((some (([] : List (S58)) : List (S58))).bind fun y244 => (if 0 ≤ x9 then (if x9 ≤ (x4.length : Int) then ((some (x4.take (x9 : Int).toNat : List (S58))).bind fun y247 => (if y244.length + y247.length < 8796093022208 then ((some (y244 ++ y247 : List (S58))).bind fun y251 => (if 0 ≤ (wrap64 (x9 + 1)) then (if (wrap64 (x9 + 1)) ≤ (x4.length : Int) then ((some (x4.drop ((wrap64 (x9 + 1)) : Int).toNat : List (S58))).bind fun y254 => (if y251.length + y254.length < 8796093022208 then ((impl_FewestColours.f k x3 (y251 ++ y254)).bind fun bt261 => (if bt261.2 = 0 then (if bt261.1 > x7 then (none) else (if bt261.1 < (wrap64 (x7 - 1)) then (none) else ((laws_a2Has.f k x5 x9).bind fun t263 => (if ((decide (bt261.1 < x7)) != t263) = true then (none) else (laws_FnHardBorders.l0 k x3 x4 x5 x7 (wrap64 (x9 + 1))))))) else (none))) else (none))) else (none)) else (none))) else (none))) else (none)) else (none))) else (laws_FnHardBorders.l1 k x3 x4 0 0)
def laws_FnHardBorders.l1 : Nat → Int → List (S58) → Int → Int → Option (Bool)
 | 0, _, _, _, _ => none
 | k + 1, x3, x4, x13, x14 => if x14 < x3 then ((impl_NeighboursOf.f k x3 x4 x14).bind fun bt264 => (if bt264.2 = 0 then ((laws_a2Rises.f k bt264.1 x3).bind fun t268 => (if t268 = true then ((laws_a2Has.f k bt264.1 x14).bind fun t269 => (if t269 = true then (none) else (laws_FnHardBorders.l1 k x3 x4 (wrap64 (x13 + (bt264.1.length : Int))) (wrap64 (x14 + 1))))) else (none))) else (none))) else (some (x13 == (wrap64 (2 * (x4.length : Int)))))
end
def laws_FnHardBorders.f (k : Nat) (l0 : List Int) : Option (Bool) := (laws_a2Long.f l0 ([] : List Int)).bind fun t232 => (if t232 = true then (some true) else ((spec_A2Lands.f k l0).bind fun bt233 => ((impl_HardBorders.f k bt233.1 bt233.2).bind fun bt237 => ((impl_FewestColours.f k bt233.1 bt233.2).bind fun bt241 => (if bt237.2 = 0 then ((laws_a2Rises.f k bt237.1 (bt233.2.length : Int)).bind fun t243 => (if t243 = true then (laws_FnHardBorders.j0 k bt233.1 bt233.2 bt237.1 bt241.1 (bt241.2 != 0)) else (none))) else (none))))))
theorem laws_FnHardBorders.mono_l : ∀ k, (∀ y0 y1 y2 y3 y4, LeO (laws_FnHardBorders.j0 k y0 y1 y2 y3 y4) (laws_FnHardBorders.j0 (k + 1) y0 y1 y2 y3 y4)) ∧ (∀ y0 y1 y2 y3 y4, LeO (laws_FnHardBorders.l0 k y0 y1 y2 y3 y4) (laws_FnHardBorders.l0 (k + 1) y0 y1 y2 y3 y4)) ∧ (∀ y0 y1 y2 y3, LeO (laws_FnHardBorders.l1 k y0 y1 y2 y3) (laws_FnHardBorders.l1 (k + 1) y0 y1 y2 y3))
 | 0 => ⟨fun _ _ _ _ _ r h => by simp [laws_FnHardBorders.j0] at h, fun _ _ _ _ _ r h => by simp [laws_FnHardBorders.l0] at h, fun _ _ _ _ r h => by simp [laws_FnHardBorders.l1] at h⟩
 | k + 1 => by
  obtain ⟨ih0, ih1, ih2⟩ := laws_FnHardBorders.mono_l k
  refine ⟨?_, ?_, ?_⟩
  ·intro y0 y1 y2 y3 y4
   unfold laws_FnHardBorders.j0
   repeat' first
   | (with_reducible exact ih0 _ _ _ _ _)
   | (with_reducible exact ih1 _ _ _ _ _)
   | (with_reducible exact ih2 _ _ _ _)
   | (with_reducible exact impl_FewestColours.mono _ _ _)
   | (with_reducible exact impl_HardBorders.mono _ _ _)
   | (with_reducible exact impl_NeighboursOf.mono _ _ _ _)
   | (with_reducible exact laws_a2Has.mono _ _ _)
   | (with_reducible exact laws_a2Rises.mono _ _ _)
   | (with_reducible exact spec_A2Lands.mono _ _)
   | (with_reducible exact LeO.refl _)
   | (with_reducible exact LeO.none _)
   | (with_reducible refine LeO.ite ?_ ?_)
   | (with_reducible refine LeO.bind ?_ (fun _ => ?_))
   | exact ih0 _ _ _ _ _
   | exact ih1 _ _ _ _ _
   | exact ih2 _ _ _ _
   | exact impl_FewestColours.mono _ _ _
   | exact impl_HardBorders.mono _ _ _
   | exact impl_NeighboursOf.mono _ _ _ _
   | exact laws_a2Has.mono _ _ _
   | exact laws_a2Rises.mono _ _ _
   | exact spec_A2Lands.mono _ _
   | exact LeO.none _
   | refine LeO.ite ?_ ?_
   | refine LeO.bind ?_ (fun _ => ?_)
  ·intro y0 y1 y2 y3 y4
   unfold laws_FnHardBorders.l0
   repeat' first
   | (with_reducible exact ih0 _ _ _ _ _)
   | (with_reducible exact ih1 _ _ _ _ _)
   | (with_reducible exact ih2 _ _ _ _)
   | (with_reducible exact impl_FewestColours.mono _ _ _)
   | (with_reducible exact impl_HardBorders.mono _ _ _)
   | (with_reducible exact impl_NeighboursOf.mono _ _ _ _)
   | (with_reducible exact laws_a2Has.mono _ _ _)
   | (with_reducible exact laws_a2Rises.mono _ _ _)
   | (with_reducible exact spec_A2Lands.mono _ _)
   | (with_reducible exact LeO.refl _)
   | (with_reducible exact LeO.none _)
   | (with_reducible refine LeO.ite ?_ ?_)
   | (with_reducible refine LeO.bind ?_ (fun _ => ?_))
   | exact ih0 _ _ _ _ _
   | exact ih1 _ _ _ _ _
   | exact ih2 _ _ _ _
   | exact impl_FewestColours.mono _ _ _
   | exact impl_HardBorders.mono _ _ _
   | exact impl_NeighboursOf.mono _ _ _ _
   | exact laws_a2Has.mono _ _ _
   | exact laws_a2Rises.mono _ _ _
   | exact spec_A2Lands.mono _ _
   | exact LeO.none _
   | refine LeO.ite ?_ ?_
   | refine LeO.bind ?_ (fun _ => ?_)
  ·intro y0 y1 y2 y3
   unfold laws_FnHardBorders.l1
   repeat' first
   | (with_reducible exact ih0 _ _ _ _ _)
   | (with_reducible exact ih1 _ _ _ _ _)
   | (with_reducible exact ih2 _ _ _ _)
   | (with_reducible exact impl_FewestColours.mono _ _ _)
   | (with_reducible exact impl_HardBorders.mono _ _ _)
   | (with_reducible exact impl_NeighboursOf.mono _ _ _ _)
   | (with_reducible exact laws_a2Has.mono _ _ _)
   | (with_reducible exact laws_a2Rises.mono _ _ _)
   | (with_reducible exact spec_A2Lands.mono _ _)
   | (with_reducible exact LeO.refl _)
   | (with_reducible exact LeO.none _)
   | (with_reducible refine LeO.ite ?_ ?_)
   | (with_reducible refine LeO.bind ?_ (fun _ => ?_))
   | exact ih0 _ _ _ _ _
   | exact ih1 _ _ _ _ _
   | exact ih2 _ _ _ _
   | exact impl_FewestColours.mono _ _ _
   | exact impl_HardBorders.mono _ _ _
   | exact impl_NeighboursOf.mono _ _ _ _
   | exact laws_a2Has.mono _ _ _
   | exact laws_a2Rises.mono _ _ _
   | exact spec_A2Lands.mono _ _
   | exact LeO.none _
   | refine LeO.ite ?_ ?_
   | refine LeO.bind ?_ (fun _ => ?_)
theorem laws_FnHardBorders.mono : ∀ a0 k, LeO (laws_FnHardBorders.f k a0) (laws_FnHardBorders.f (k + 1) a0) := by
 intro a0 k
 obtain ⟨ih0, ih1, ih2⟩ := laws_FnHardBorders.mono_l k
 unfold laws_FnHardBorders.f
 repeat' first
   | (with_reducible exact ih0 _ _ _ _ _)
   | (with_reducible exact ih1 _ _ _ _ _)
   | (with_reducible exact ih2 _ _ _ _)
   | (with_reducible exact impl_FewestColours.mono _ _ _)
   | (with_reducible exact impl_HardBorders.mono _ _ _)
   | (with_reducible exact impl_NeighboursOf.mono _ _ _ _)
   | (with_reducible exact laws_a2Has.mono _ _ _)
   | (with_reducible exact laws_a2Rises.mono _ _ _)
   | (with_reducible exact spec_A2Lands.mono _ _)
   | (with_reducible exact LeO.refl _)
   | (with_reducible exact LeO.none _)
   | (with_reducible refine LeO.ite ?_ ?_)
   | (with_reducible refine LeO.bind ?_ (fun _ => ?_))
   | exact ih0 _ _ _ _ _
   | exact ih1 _ _ _ _ _
   | exact ih2 _ _ _ _
   | exact impl_FewestColours.mono _ _ _
   | exact impl_HardBorders.mono _ _ _
   | exact impl_NeighboursOf.mono _ _ _ _
   | exact laws_a2Has.mono _ _ _
   | exact laws_a2Rises.mono _ _ _
   | exact spec_A2Lands.mono _ _
   | exact LeO.none _
   | refine LeO.ite ?_ ?_
   | refine LeO.bind ?_ (fun _ => ?_)
set_option maxHeartbeats 8000000 in
set_option maxRecDepth 100000 in
theorem laws_FnHardBorders.calls (k : Nat) (A0 : Option Addr) (c0 : Nat) (l0 : List Int) (r : Bool) (w : World) (hr0 : Kd.C (Kd.int .u8) w A0 l0.length l0) (hc0 : l0.length ≤ c0) (h : laws_FnHardBorders.f k l0 = some r) :
  Calls Try.prog 3 #[.slice A0 l0.length c0] w fun e w' => e = .returned (.bool r) ∧ Below w.heap.size w w' := by
 have HR0 := Aside0.mk hr0
 have HC0 := Aside0.mk hc0
 clear hr0 hc0
 have HB := Aside0.mk (Below.refl w.heap.size w)
 have H : ((laws_a2Long.f l0 ([] : List Int)).bind fun t232 => (if t232 = true then (some true) else ((spec_A2Lands.f k l0).bind fun bt233 => ((impl_HardBorders.f k bt233.1 bt233.2).bind fun bt237 => ((impl_FewestColours.f k bt233.1 bt233.2).bind fun bt241 => (if bt237.2 = 0 then ((laws_a2Rises.f k bt237.1 (bt233.2.length : Int)).bind fun t243 => (if t243 = true then (laws_FnHardBorders.j0 k bt233.1 bt233.2 bt237.1 bt241.1 (bt241.2 != 0)) else (none))) else (none))))))) = some r := h
 clear h
 replace H := Option.bind_eq_some_iff.mp H
 obtain ⟨t232, A20, H⟩ := H
 replace H : (if t232 = true then (some true) else ((spec_A2Lands.f k l0).bind fun bt233 => ((impl_HardBorders.f k bt233.1 bt233.2).bind fun bt237 => ((impl_FewestColours.f k bt233.1 bt233.2).bind fun bt241 => (if bt237.2 = 0 then ((laws_a2Rises.f k bt237.1 (bt233.2.length : Int)).bind fun t243 => (if t243 = true then (laws_FnHardBorders.j0 k bt233.1 bt233.2 bt237.1 bt241.1 (bt241.2 != 0)) else (none))) else (none)))))) = some r := H
 have A2 := Aside0.mk A20
 clear A20
 by_cases c3 : t232 = true
 ·subst c3
  have H1 : (some true) = some r := by rw [if_pos rfl] at H; exact H
  clear H
  have H := H1
  clear H1
  obtain rfl := Option.some.inj H
  go_enter Try.func3, Try.ntmps3
  go_wp2_with (first | ((with_reducible refine gate_callee (f := 8) rfl ?_); refine goesL_ (some 18) rfl rfl Try.func8 (by kernel_rfl) rfl #[.slice A0 l0.length c0, .slice none 0 0] rfl (by (try simp only [List.map_toArray, List.map_cons, List.map_nil]); first | done | rfl | (simp only [List.length_drop, List.length_take]; rfl)) ?_; (refine (laws_a2Long.calls _ _ l0 _ _ ([] : List Int) true _ ?side1 ?side2 ?side3 ?side4 A2.out).mono ?_); (case side1 => repeat (first | exact HR0.out | (with_reducible refine Kd.C_alloc ?_ _) | (with_reducible refine Kd.C_drewN ?_ _) | (with_reducible refine Kd.C_drew ?_))); (case side2 => exact HC0.out); (case side3 => exact Kd.C_nil _ _); (case side4 => exact Nat.le_refl _); rintro e w' ⟨rfl, ⟨nd, rfl⟩⟩; refine ⟨_, rfl, ?_⟩))
  go_ret
  exact ⟨by first | rfl | (simp [errW_none, errW_some] <;> rfl) | (simp [*, errW_none, errW_some] <;> rfl), by repeat (first | (with_reducible first | exact HB.out | apply below_alloc | apply pw_below_drewN | apply below_drew1) | exact HB.out)⟩
 ·replace c3 := Bool.eq_false_iff.mpr c3
  subst c3
  have H1 : ((spec_A2Lands.f k l0).bind fun bt233 => ((impl_HardBorders.f k bt233.1 bt233.2).bind fun bt237 => ((impl_FewestColours.f k bt233.1 bt233.2).bind fun bt241 => (if bt237.2 = 0 then ((laws_a2Rises.f k bt237.1 (bt233.2.length : Int)).bind fun t243 => (if t243 = true then (laws_FnHardBorders.j0 k bt233.1 bt233.2 bt237.1 bt241.1 (bt241.2 != 0)) else (none))) else (none))))) = some r := by rw [if_neg (show ¬ (false = true) by decide)] at H; exact H
  clear H
  have H := H1
  clear H1
  replace H := Option.bind_eq_some_iff.mp H
  obtain ⟨⟨t233, t234⟩, A40, H⟩ := H
  replace H : ((impl_HardBorders.f k t233 t234).bind fun bt237 => ((impl_FewestColours.f k t233 t234).bind fun bt241 => (if bt237.2 = 0 then ((laws_a2Rises.f k bt237.1 (t234.length : Int)).bind fun t243 => (if t243 = true then (laws_FnHardBorders.j0 k t233 t234 bt237.1 bt241.1 (bt241.2 != 0)) else (none))) else (none)))) = some r := H
  have A4 := Aside0.mk A40
  clear A40
  replace H := Option.bind_eq_some_iff.mp H
  obtain ⟨⟨t237, t240⟩, A50, H⟩ := H
  replace H : ((impl_FewestColours.f k t233 t234).bind fun bt241 => (if t240 = 0 then ((laws_a2Rises.f k t237 (t234.length : Int)).bind fun t243 => (if t243 = true then (laws_FnHardBorders.j0 k t233 t234 t237 bt241.1 (bt241.2 != 0)) else (none))) else (none))) = some r := H
  have A5 := Aside0.mk A50
  clear A50
  replace H := Option.bind_eq_some_iff.mp H
  obtain ⟨⟨t241, t242⟩, A60, H⟩ := H
  replace H : (if t240 = 0 then ((laws_a2Rises.f k t237 (t234.length : Int)).bind fun t243 => (if t243 = true then (laws_FnHardBorders.j0 k t233 t234 t237 t241 (t242 != 0)) else (none))) else (none)) = some r := H
  have A6 := Aside0.mk A60
  clear A60
  have HC7 := Aside0.mk H
  clear H
  go_enter Try.func3, Try.ntmps3
  go_upto_region 6 with (first | ((with_reducible refine gate_callee (f := 8) rfl ?_); refine goesL_ (some 18) rfl rfl Try.func8 (by kernel_rfl) rfl #[.slice A0 l0.length c0, .slice none 0 0] rfl (by (try simp only [List.map_toArray, List.map_cons, List.map_nil]); first | done | rfl | (simp only [List.length_drop, List.length_take]; rfl)) ?_; (refine (laws_a2Long.calls _ _ l0 _ _ ([] : List Int) false _ ?side1 ?side2 ?side3 ?side4 A2.out).mono ?_); (case side1 => repeat (first | exact HR0.out | (with_reducible refine Kd.C_alloc ?_ _) | (with_reducible refine Kd.C_drewN ?_ _) | (with_reducible refine Kd.C_drew ?_))); (case side2 => exact HC0.out); (case side3 => exact Kd.C_nil _ _); (case side4 => exact Nat.le_refl _); rintro e w' ⟨rfl, ⟨nd, rfl⟩⟩; refine ⟨_, rfl, ?_⟩) | ((with_reducible refine gate_callee (f := 9) rfl ?_); refine goesL_ (some 21) rfl rfl Try.func9 (by kernel_rfl) rfl #[.slice A0 l0.length c0] rfl (by (try simp only [List.map_toArray, List.map_cons, List.map_nil]); first | done | rfl | (simp only [List.length_drop, List.length_take]; rfl)) ?_; (with_reducible refine (spec_A2Lands.calls k _ _ l0 t233 t234 _ ?side1 ?side2 A4.out).mono ?_); (case side1 => repeat (first | exact HR0.out | (with_reducible refine Kd.C_alloc ?_ _) | (with_reducible refine Kd.C_drewN ?_ _) | (with_reducible refine Kd.C_drew ?_))); (case side2 => exact HC0.out); rintro e w8 ⟨v235, rfl, ho0, hb⟩; refine ⟨_, rfl, ?_⟩; have n0_ := Aside0.mk (Kd.R_lower ho0 (below_size (by repeat (first | (with_reducible first | exact HB.out | apply below_alloc | apply pw_below_drewN | apply below_drew1) | exact HB.out)))); have n1_ := Aside0.mk (below_step (by repeat (first | (with_reducible first | exact HB.out | apply below_alloc | apply pw_below_drewN | apply below_drew1) | exact HB.out)) hb); clear HB; have HO236 := n0_; have HB := n1_; clear n0_ n1_; (try clear hb); (try clear hb2); (try clear hk); (try clear hi); (try clear ho0); obtain ⟨Ao9, co9, eo9⟩ := Kd.R_slice HO236.out; subst eo9) | ((with_reducible refine gate_callee (f := 10) rfl ?_); refine goesL_ (some 27) rfl rfl Try.func10 (by kernel_rfl) rfl #[.int .i64 t233, .slice Ao9 t234.length co9] rfl (by (try simp only [List.map_toArray, List.map_cons, List.map_nil]); first | done | rfl | (simp only [List.length_drop, List.length_take]; rfl)) ?_; (with_reducible refine (impl_HardBorders.calls k t233 (fun k_ => some k_ = (.slice Ao9 t234.length co9 : Value).ownBlock) _ _ t234 t237 t240 _ ?side1 A5.out).mono ?_); (case side1 => exact Kd.R_V (Kd.R_tight rfl (HO236.out))); rintro e w10 ⟨v238, rfl, ho0, hb⟩; refine ⟨_, rfl, ?_⟩; have n0_ := Aside0.mk (Kd.R_below (by (with_reducible repeat (first | apply Kd.R_alloc | apply Kd.R_drewN | apply Kd.R_drew)); exact HO236.out) hb); have n1_ := Aside0.mk (Kd.R_lower (Kd.R_mono (ok' := fun k_ => True) ho0 (fun _ hk_ => trivial)) (below_size (by repeat (first | (with_reducible first | exact HB.out | apply below_alloc | apply pw_below_drewN | apply below_drew1) | exact HB.out)))); have n2_ := Aside0.mk (below_step (by repeat (first | (with_reducible first | exact HB.out | apply below_alloc | apply pw_below_drewN | apply below_drew1) | exact HB.out)) hb); clear HO236; clear HB; have HO236 := n0_; have HO239 := n1_; have HB := n2_; clear n0_ n1_ n2_; (try clear hb); (try clear hb2); (try clear hk); (try clear hi); (try clear ho0)) | ((with_reducible refine gate_callee (f := 11) rfl ?_); refine goesL_ (some 33) rfl rfl Try.func11 (by kernel_rfl) rfl #[.int .i64 t233, .slice Ao9 t234.length co9] rfl (by (try simp only [List.map_toArray, List.map_cons, List.map_nil]); first | done | rfl | (simp only [List.length_drop, List.length_take]; rfl)) ?_; (with_reducible refine (impl_FewestColours.calls k t233 _ _ t234 t241 t242 _ ?side1 ?side2 A6.out).mono ?_); (case side1 => repeat (first | exact (Kd.R_reads' HO236.out).2.2 | (with_reducible refine Kd.C_alloc ?_ _) | (with_reducible refine Kd.C_drewN ?_ _) | (with_reducible refine Kd.C_drew ?_))); (case side2 => exact (Kd.R_reads' HO236.out).2.1); rintro e w11 ⟨rfl, hb⟩; refine ⟨_, rfl, ?_⟩; have n0_ := Aside0.mk (Kd.R_below (by (with_reducible repeat (first | apply Kd.R_alloc | apply Kd.R_drewN | apply Kd.R_drew)); exact HO236.out) hb); have n1_ := Aside0.mk (Kd.R_below (by (with_reducible repeat (first | apply Kd.R_alloc | apply Kd.R_drewN | apply Kd.R_drew)); exact HO239.out) hb); have n2_ := Aside0.mk (below_step (by repeat (first | (with_reducible first | exact HB.out | apply below_alloc | apply pw_below_drewN | apply below_drew1) | exact HB.out)) hb); clear HO236; clear HO239; clear HB; have HO236 := n0_; have HO239 := n1_; have HB := n2_; clear n0_ n1_ n2_; (try clear hb); (try clear hb2); (try clear hk); (try clear hi)))
  (try simp only [Act.put, List.setIfInBounds_toArray, List.set_cons_zero, List.set_cons_succ])
  go_cut [48] (fun v48 wc => ∃ (kq : Nat) (x48_6 : Bool), v48 = .bool x48_6 ∧ Aside0 (laws_FnHardBorders.j0 kq t233 t234 t237 t241 x48_6 = some r) ∧ Aside0 (kq ≤ k) ∧ Aside0 (Kd.R k58 58 wc w.heap.size (fun _ => True) (.slice Ao9 t234.length co9) t234) ∧ Aside0 (Kd.R (Kd.int .i64) 2 wc w.heap.size (fun _ => True) v238 t237) ∧ Aside0 (Below w.heap.size w wc))
  case first =>
   have H := HC7.out
   clear HC7
   by_cases c12 : t240 = 0
   ·rw [if_pos c12] at H
    have c12b0 : (t240 == 0) = true := beq_iff_eq.mpr c12
    have c12b1 : (t240 != 0) = false := bne_eq_false_iff_eq.mpr c12
    clear c12
    (first | rw [c12b0] | (simp only [i64_w, i32_w]; rw [c12b0]) | skip)
    replace H := Option.bind_eq_some_iff.mp H
    obtain ⟨t243, A130, H⟩ := H
    replace H : (if t243 = true then (laws_FnHardBorders.j0 k t233 t234 t237 t241 (t242 != 0)) else (none)) = some r := H
    have A13 := Aside0.mk A130
    clear A130
    by_cases c14 : t243 = true
    ·subst c14
     have H1 : (laws_FnHardBorders.j0 k t233 t234 t237 t241 (t242 != 0)) = some r := by rw [if_pos rfl] at H; exact H
     clear H
     have H := H1
     clear H1
     have H' := Aside0.mk H
     clear H
     obtain ⟨Ao15, co15, eo15⟩ := Kd.R_slice HO239.out
     subst eo15
     go_wp2_with (first | (go_at_call 12; (with_reducible refine (laws_a2Rises.calls k _ _ t237 (t234.length : Int) true _ ?side1 ?side2 A13.out).mono ?_); (case side1 => repeat (first | exact (Kd.R_reads' HO239.out).2.2 | (with_reducible refine Kd.C_alloc ?_ _) | (with_reducible refine Kd.C_drewN ?_ _) | (with_reducible refine Kd.C_drew ?_))); (case side2 => exact (Kd.R_reads' HO239.out).2.1); rintro e w' ⟨rfl, ⟨nd, rfl⟩⟩))
     go_meet
     case rel => exact ⟨_, ((t242 != 0)), (by first | rfl | (simp; done) | (simp [*]; done)), H', ⟨by first | omega | exact Nat.le_refl _⟩, ⟨by (with_reducible repeat (first | apply Kd.R_alloc | apply Kd.R_drewN | apply Kd.R_drew)); exact HO236.out⟩, ⟨by (with_reducible repeat (first | apply Kd.R_alloc | apply Kd.R_drewN | apply Kd.R_drew)); exact HO239.out⟩, ⟨by repeat (first | (with_reducible first | exact HB.out | apply below_alloc | apply pw_below_drewN | apply below_drew1) | exact HB.out)⟩⟩
    ·replace c14 := Bool.eq_false_iff.mpr c14
     subst c14
     have H1 : (none) = some r := by rw [if_neg (show ¬ (false = true) by decide)] at H; exact H
     clear H
     have H := H1
     clear H1
     exact absurd H (by simp)
   ·rw [if_neg c12] at H
    exact absurd H (by simp)
  case rest =>
   clear HC7
   try clear c1
   try clear p2
   try clear c3
   try clear c8
   try clear c9
   try clear c10
   try clear c11
   try clear c12
   try clear c12b0
   try clear c12b1
   try clear c14
   obtain ⟨kq, x48_6, rfl, HA, HJ6, HO_4, HO_5, HB⟩ := hcut
   cases kq with
   | zero => exact absurd HA.out (by simp [laws_FnHardBorders.j0])
   | succ kj6 =>
    have H := HA.out
    clear HA
    simp only [laws_FnHardBorders.j0] at H
    by_cases c16 : x48_6 = true
    ·subst c16
     have H1 : (none) = some r := by rw [if_pos rfl] at H; exact H
     clear H
     have H := H1
     clear H1
     exact absurd H (by simp)
    ·replace c16 := Bool.eq_false_iff.mpr c16
     subst c16
     have H1 : (laws_FnHardBorders.l0 kj6 t233 t234 t237 t241 0) = some r := by rw [if_neg (show ¬ (false = true) by decide)] at H; exact H
     clear H
     have H := H1
     clear H1
     have H' := Aside0.mk H
     clear H
     go_wp2
     go_loopg [9] kj6 (fun kq v9 w' => ∃ (x9_2 : Int), v9 = .int .i64 x9_2 ∧ Aside0 (laws_FnHardBorders.l0 kq t233 t234 t237 t241 x9_2 = some r) ∧ Aside0 (kq ≤ kj6) ∧ Aside0 (Kd.R k58 58 w' w.heap.size (fun _ => True) (.slice Ao9 t234.length co9) t234) ∧ Aside0 (Kd.R (Kd.int .i64) 2 w' w.heap.size (fun _ => True) v238 t237) ∧ Aside0 (Below w.heap.size w w'))
     case atStart => exact ⟨(0), (by first | rfl | (simp; done) | (simp [*]; done)), H', ⟨Nat.le_refl _⟩, ⟨by (with_reducible repeat (first | apply Kd.R_alloc | apply Kd.R_drewN | apply Kd.R_drew)); exact HO_4.out⟩, ⟨by (with_reducible repeat (first | apply Kd.R_alloc | apply Kd.R_drewN | apply Kd.R_drew)); exact HO_5.out⟩, ⟨by repeat (first | (with_reducible first | exact HB.out | apply below_alloc | apply pw_below_drewN | apply below_drew1) | exact HB.out)⟩⟩
     case round =>
      clear H'
      try clear c1
      try clear p2
      try clear c3
      try clear c8
      try clear c9
      try clear c10
      try clear c11
      try clear c12
      try clear c12b0
      try clear c12b1
      try clear c14
      try clear c16
      try clear p2
      obtain ⟨x9_2, rfl, HA, HK2, HO_4, HO_5, HB⟩ := hrel
      cases gk with
      | zero => exact absurd HA.out (by simp [laws_FnHardBorders.l0])
      | succ k2 =>
       have H := HA.out
       clear HA
       simp only [laws_FnHardBorders.l0] at H
       by_cases c17 : x9_2 < (t234.length : Int)
       ·rw [if_pos c17] at H
        have c17b0 : decide (x9_2 < (t234.length : Int)) = true := decide_eq_true c17
        clear c17
        obtain ⟨y244, hy244⟩ : ∃ y_ : List (S58), y_ = (([] : List (S58))) := ⟨_, rfl⟩
        replace H : (if 0 ≤ x9_2 then (if x9_2 ≤ (t234.length : Int) then ((some (t234.take (x9_2 : Int).toNat : List (S58))).bind fun y247 => (if y244.length + y247.length < 8796093022208 then ((some (y244 ++ y247 : List (S58))).bind fun y251 => (if 0 ≤ (wrap64 (x9_2 + 1)) then (if (wrap64 (x9_2 + 1)) ≤ (t234.length : Int) then ((some (t234.drop ((wrap64 (x9_2 + 1)) : Int).toNat : List (S58))).bind fun y254 => (if y251.length + y254.length < 8796093022208 then ((impl_FewestColours.f k2 t233 (y251 ++ y254)).bind fun bt261 => (if bt261.2 = 0 then (if bt261.1 > t241 then (none) else (if bt261.1 < (wrap64 (t241 - 1)) then (none) else ((laws_a2Has.f k2 t237 x9_2).bind fun t263 => (if ((decide (bt261.1 < t241)) != t263) = true then (none) else (laws_FnHardBorders.l0 k2 t233 t234 t237 t241 (wrap64 (x9_2 + 1))))))) else (none))) else (none))) else (none)) else (none))) else (none))) else (none)) else (none)) = some r := by first | (rw [hy244]; with_reducible exact H) | (have H2_ := (Option.bind_some _ _).symm.trans H; rw [hy244]; with_reducible exact H2_) | (have H2_ := (Option.bind_some _ _).symm.trans H; with_reducible exact H2_) | with_reducible exact H | (rw [hy244]; exact H) | exact H
        have Ny244 := Aside0.mk hy244
        clear hy244
        by_cases c18 : 0 ≤ x9_2
        ·rw [if_pos c18] at H
         have c18b0 := eq_true c18
         have c18b1 : decide (0 ≤ x9_2) = true := decide_eq_true c18
         clear c18
         by_cases c19 : x9_2 ≤ (t234.length : Int)
         ·rw [if_pos c19] at H
          have c19b0 := eq_true c19
          have c19b1 : decide (x9_2 ≤ (t234.length : Int)) = true := decide_eq_true c19
          clear c19
          obtain ⟨y247, hy247⟩ : ∃ y_ : List (S58), y_ = (t234.take (x9_2 : Int).toNat) := ⟨_, rfl⟩
          replace H : (if y244.length + y247.length < 8796093022208 then ((some (y244 ++ y247 : List (S58))).bind fun y251 => (if 0 ≤ (wrap64 (x9_2 + 1)) then (if (wrap64 (x9_2 + 1)) ≤ (t234.length : Int) then ((some (t234.drop ((wrap64 (x9_2 + 1)) : Int).toNat : List (S58))).bind fun y254 => (if y251.length + y254.length < 8796093022208 then ((impl_FewestColours.f k2 t233 (y251 ++ y254)).bind fun bt261 => (if bt261.2 = 0 then (if bt261.1 > t241 then (none) else (if bt261.1 < (wrap64 (t241 - 1)) then (none) else ((laws_a2Has.f k2 t237 x9_2).bind fun t263 => (if ((decide (bt261.1 < t241)) != t263) = true then (none) else (laws_FnHardBorders.l0 k2 t233 t234 t237 t241 (wrap64 (x9_2 + 1))))))) else (none))) else (none))) else (none)) else (none))) else (none)) = some r := by first | (rw [hy247]; with_reducible exact H) | (have H2_ := (Option.bind_some _ _).symm.trans H; rw [hy247]; with_reducible exact H2_) | (have H2_ := (Option.bind_some _ _).symm.trans H; with_reducible exact H2_) | with_reducible exact H | (rw [hy247]; exact H) | exact H
          have Ny247 := Aside0.mk hy247
          clear hy247
          by_cases c20 : y244.length + y247.length < 8796093022208
          ·rw [if_pos c20] at H
           have LMc20 := Aside0.mk c20
           clear c20
           obtain ⟨y251, hy251⟩ : ∃ y_ : List (S58), y_ = (y244 ++ y247) := ⟨_, rfl⟩
           replace H : (if 0 ≤ (wrap64 (x9_2 + 1)) then (if (wrap64 (x9_2 + 1)) ≤ (t234.length : Int) then ((some (t234.drop ((wrap64 (x9_2 + 1)) : Int).toNat : List (S58))).bind fun y254 => (if y251.length + y254.length < 8796093022208 then ((impl_FewestColours.f k2 t233 (y251 ++ y254)).bind fun bt261 => (if bt261.2 = 0 then (if bt261.1 > t241 then (none) else (if bt261.1 < (wrap64 (t241 - 1)) then (none) else ((laws_a2Has.f k2 t237 x9_2).bind fun t263 => (if ((decide (bt261.1 < t241)) != t263) = true then (none) else (laws_FnHardBorders.l0 k2 t233 t234 t237 t241 (wrap64 (x9_2 + 1))))))) else (none))) else (none))) else (none)) else (none)) = some r := by first | (rw [hy251]; with_reducible exact H) | (have H2_ := (Option.bind_some _ _).symm.trans H; rw [hy251]; with_reducible exact H2_) | (have H2_ := (Option.bind_some _ _).symm.trans H; with_reducible exact H2_) | with_reducible exact H | (rw [hy251]; exact H) | exact H
           have Ny251 := Aside0.mk hy251
           clear hy251
           obtain ⟨ji21, hji21⟩ : ∃ j_ : Int, (wrap64 (x9_2 + 1)) = j_ := ⟨_, rfl⟩
           replace H : (if 0 ≤ (ji21) then (if (ji21) ≤ (t234.length : Int) then ((some (t234.drop ((ji21) : Int).toNat : List (S58))).bind fun y254 => (if y251.length + y254.length < 8796093022208 then ((impl_FewestColours.f k2 t233 (y251 ++ y254)).bind fun bt261 => (if bt261.2 = 0 then (if bt261.1 > t241 then (none) else (if bt261.1 < (wrap64 (t241 - 1)) then (none) else ((laws_a2Has.f k2 t237 x9_2).bind fun t263 => (if ((decide (bt261.1 < t241)) != t263) = true then (none) else (laws_FnHardBorders.l0 k2 t233 t234 t237 t241 ji21))))) else (none))) else (none))) else (none)) else (none)) = some r := by first | (rw [hji21] at H; exact H) | (simp only [hji21] at H ⊢; exact H)
           have hji21w : (IntKind.i64.wrap (x9_2 + 1)) = ji21 := (i64_w _).trans hji21
           by_cases c22 : 0 ≤ (ji21)
           ·rw [if_pos c22] at H
            have c22b0 := eq_true c22
            have c22b1 : decide (0 ≤ (ji21)) = true := decide_eq_true c22
            clear c22
            by_cases c23 : (ji21) ≤ (t234.length : Int)
            ·rw [if_pos c23] at H
             have c23b0 := eq_true c23
             have c23b1 : decide ((ji21) ≤ (t234.length : Int)) = true := decide_eq_true c23
             clear c23
             obtain ⟨y254, hy254⟩ : ∃ y_ : List (S58), y_ = (t234.drop ((ji21) : Int).toNat) := ⟨_, rfl⟩
             replace H : (if y251.length + y254.length < 8796093022208 then ((impl_FewestColours.f k2 t233 (y251 ++ y254)).bind fun bt261 => (if bt261.2 = 0 then (if bt261.1 > t241 then (none) else (if bt261.1 < (wrap64 (t241 - 1)) then (none) else ((laws_a2Has.f k2 t237 x9_2).bind fun t263 => (if ((decide (bt261.1 < t241)) != t263) = true then (none) else (laws_FnHardBorders.l0 k2 t233 t234 t237 t241 ji21))))) else (none))) else (none)) = some r := by first | (rw [hy254]; with_reducible exact H) | (have H2_ := (Option.bind_some _ _).symm.trans H; rw [hy254]; with_reducible exact H2_) | (have H2_ := (Option.bind_some _ _).symm.trans H; with_reducible exact H2_) | with_reducible exact H | (rw [hy254]; exact H) | exact H
             have Ny254 := Aside0.mk hy254
             clear hy254
             by_cases c24 : y251.length + y254.length < 8796093022208
             ·rw [if_pos c24] at H
              have LMc24 := Aside0.mk c24
              clear c24
              obtain ⟨y258, hy258⟩ : ∃ y_ : List (S58), y_ = (y251 ++ y254) := ⟨_, rfl⟩
              replace H : ((impl_FewestColours.f k2 t233 y258).bind fun bt261 => (if bt261.2 = 0 then (if bt261.1 > t241 then (none) else (if bt261.1 < (wrap64 (t241 - 1)) then (none) else ((laws_a2Has.f k2 t237 x9_2).bind fun t263 => (if ((decide (bt261.1 < t241)) != t263) = true then (none) else (laws_FnHardBorders.l0 k2 t233 t234 t237 t241 ji21))))) else (none))) = some r := by first | (rw [hy258]; with_reducible exact H) | (have H2_ := (Option.bind_some _ _).symm.trans H; rw [hy258]; with_reducible exact H2_) | (have H2_ := (Option.bind_some _ _).symm.trans H; with_reducible exact H2_) | with_reducible exact H | (rw [hy258]; exact H) | exact H
              have Ny258 := Aside0.mk hy258
              clear hy258
              replace H := Option.bind_eq_some_iff.mp H
              obtain ⟨⟨t261, t262⟩, A250, H⟩ := H
              replace H : (if t262 = 0 then (if t261 > t241 then (none) else (if t261 < (wrap64 (t241 - 1)) then (none) else ((laws_a2Has.f k2 t237 x9_2).bind fun t263 => (if ((decide (t261 < t241)) != t263) = true then (none) else (laws_FnHardBorders.l0 k2 t233 t234 t237 t241 ji21))))) else (none)) = some r := H
              have A25 := Aside0.mk A250
              clear A250
              by_cases c26 : t262 = 0
              ·rw [if_pos c26] at H
               have c26b0 : (t262 == 0) = true := beq_iff_eq.mpr c26
               have c26b1 : (t262 != 0) = false := bne_eq_false_iff_eq.mpr c26
               clear c26
               by_cases c27 : t261 > t241
               ·rw [if_pos c27] at H
                exact absurd H (by simp)
               ·rw [if_neg c27] at H
                have c27b0 : decide (t241 < t261) = false := decide_eq_false c27
                clear c27
                by_cases c28 : t261 < (wrap64 (t241 - 1))
                ·rw [if_pos c28] at H
                 exact absurd H (by simp)
                ·rw [if_neg c28] at H
                 have c28b0 : decide (t261 < (wrap64 (t241 - 1))) = false := decide_eq_false c28
                 clear c28
                 replace H := Option.bind_eq_some_iff.mp H
                 obtain ⟨t263, A290, H⟩ := H
                 replace H : (if ((decide (t261 < t241)) != t263) = true then (none) else (laws_FnHardBorders.l0 k2 t233 t234 t237 t241 ji21)) = some r := H
                 have A29 := Aside0.mk A290
                 clear A290
                 by_cases c30 : ((decide (t261 < t241)) != t263) = true
                 ·rw [if_pos c30] at H
                  exact absurd H (by simp)
                 ·rw [if_neg c30] at H
                  have c30b0 : ((decide (t261 < t241)) != t263) = false := by simpa using c30
                  (try (have c30b1 : decide ((decide (t261 < t241)) = t263) = true := by simpa using c30))
                  (try (have c30b2 : ((decide (t261 < t241)) == t263) = true := by simpa using c30))
                  clear c30
                  have H' := Aside0.mk H
                  clear H
                  go_wp2_with (first | ((with_reducible refine gate_dst (N := 55) rfl ?_); (try (refine gate_guard (by rfl) ?_; dsimp only)); refine Kd.R_lit k58 _ 58 ?hg (N := 55) ?hd (xs := ([] : List (S58))) (inner := []) (ok := fun _ => True) (okp := fun _ => True) ?hr ?hp (fun _ hk => hk) trivial (Below.refl _ _) (Nat.le_refl _) (by simp) ?_; (case hd => rfl); (case hg => rfl); (case hr => first | (go_simp; done) | (go_simp; rfl)); (case hp => exact (Reps.none _ _)); intro v245 w31 ho32 hb hg_ hnew_; clear hg_ hnew_; (first | rw [← Ny244.out] at ho32 | (simp only [Int.reduceToNat] at ho32; rw [← Ny244.out] at ho32)); have n0_ := Aside0.mk (Kd.R_elder' (by (with_reducible repeat (first | apply Kd.R_alloc | apply Kd.R_drewN | apply Kd.R_drew)); exact HO_4.out) (Kd.R_base ho32) hb); have n1_ := Aside0.mk (Kd.R_below (by (with_reducible repeat (first | apply Kd.R_alloc | apply Kd.R_drewN | apply Kd.R_drew)); exact HO_5.out) hb); have n2_ := Aside0.mk (Kd.R_lower (Kd.R_new' ho32 (Kd.R_lt (by (with_reducible repeat (first | apply Kd.R_alloc | apply Kd.R_drewN | apply Kd.R_drew)); exact HO_4.out))) (below_size (by repeat (first | (with_reducible first | exact HB.out | apply below_alloc | apply pw_below_drewN | apply below_drew1) | exact HB.out)))); have n3_ := Aside0.mk (below_step (by repeat (first | (with_reducible first | exact HB.out | apply below_alloc | apply pw_below_drewN | apply below_drew1) | exact HB.out)) hb); clear HO_4; clear HO_5; clear HB; have HO_4 := n0_; have HO_5 := n1_; have HO246 := n2_; have HB := n3_; clear n0_ n1_ n2_ n3_; clear hb ho32; have q33 : (x9_2 : Int) ≤ ((t234.length : Int) : Int) := od_; obtain ⟨i033, hi033, _, hsz33, _⟩ := info_parts info58; have hroom33 : t234.length ≤ co9 := (Kd.R_reads' HO_4.out).2.1; have hC33 : Kd.C k58 _ Ao9 t234.length t234 := (Kd.R_reads' HO_4.out).2.2; have hcut33 := cut_to (P := Try.prog) 24 58 .i64 Try.underlying24 hi033 Ao9 t234.length co9 x9_2 od_ q33 hroom33; have hr33 := Kd.C_take (m := (x9_2 : Int).toNat) hC33 (by omega); have hy33 : y247.length = (x9_2 : Int).toNat := (by rw [Ny247.out, List.length_take]; omega); rw [← Ny247.out] at hr33; rw [← hy33] at hcut33; have HR250 := Aside0.mk hr33; have HC250 := Aside0.mk (show y247.length ≤ co9 from by omega); clear hr33 hC33 hroom33 hi033 hsz33; have KY33 := Aside0.mk hy33; clear hy33; have KL33 := Aside0.mk (show (x9_2 : Int).toNat ≤ t234.length from by omega); replace q33 := eq_true q33) | ((with_reducible refine gate_builtin (b := .append) (xs := #[.tmp 55, .tmp 58]) rfl ?_); (try (refine gate_guard (by rfl) ?_; dsimp only)); at_builtin; refine Kd.R_append_rows k58 (w0 := w) w.heap.size rfl (.tmp 55) (.tmp 58) 24 58 (.agg #[(.int .i64 0), (.int .i64 0)]) 16 rfl Try.underlying24 info58 rfl (by decide) (by omega) v245 y244 y247 _ _ _ (fun k_ => some k_ ≠ (.slice Ao9 t234.length co9 : Value).ownBlock) (fun _ => False) rfl rfl ?aO ?aR (fun _ _ h => h) (fun _ h => h.elim) ?aF ?aB ?aS ?aL ?_; (case aR => repeat (first | exact (by repeat (first | (with_reducible exact HR250.out) | (with_reducible refine Kd.C_alloc ?_ _) | (with_reducible refine Kd.C_drewN ?_ _) | (with_reducible refine Kd.C_drew ?_) | exact HR250.out)) | (with_reducible refine Kd.C_alloc ?_ _) | (with_reducible refine Kd.C_drewN ?_ _) | (with_reducible refine Kd.C_drew ?_))); (case aB => exact (by repeat (first | (with_reducible first | exact HB.out | apply below_alloc | apply pw_below_drewN | apply below_drew1) | exact HB.out))); (case aF => exact (fun k_ hk => Kd.fresh' (Kd.R_lt (by (with_reducible repeat (first | apply Kd.R_alloc | apply Kd.R_drewN | apply Kd.R_drew)); exact HO_4.out)) k_ hk)); (case aO => exact (by (with_reducible repeat (first | apply Kd.R_alloc | apply Kd.R_drewN | apply Kd.R_drew)); exact Kd.R_mono HO246.out (fun _ hk => hk.2))); (case aS => exact (below_size (by repeat (first | (with_reducible first | exact HB.out | apply below_alloc | apply pw_below_drewN | apply below_drew1) | exact HB.out)))); (case aL => have := LMc20.out; omega); intro v252 w34 ho hb hg hat; rw [← Ny251.out] at ho; have n0_ := Aside0.mk (Kd.R_after (ok := (fun _ => True)) (by (with_reducible repeat (first | apply Kd.R_alloc | apply Kd.R_drewN | apply Kd.R_drew)); exact HO_4.out) hg hat); have n1_ := Aside0.mk (Kd.R_over' (by (with_reducible repeat (first | apply Kd.R_alloc | apply Kd.R_drewN | apply Kd.R_drew)); exact HO_5.out) (Kd.R_typed (by (with_reducible repeat (first | apply Kd.R_alloc | apply Kd.R_drewN | apply Kd.R_drew)); exact HO246.out)) (by decide) hg); have n2_ := Aside0.mk (hb); have n3_ := Aside0.mk ((show Kd.C k58 w34 Ao9 y247.length y247 from by rw [Ny247.out]; exact Kd.C_take (m := (x9_2 : Int).toNat) ((Kd.R_reads' (Kd.R_after (ok := (fun _ => True)) (by (with_reducible repeat (first | apply Kd.R_alloc | apply Kd.R_drewN | apply Kd.R_drew)); exact HO_4.out) hg hat)).2.2) KL33.out)); have n4_ := Aside0.mk (ho); clear HO_4; clear HO_5; clear HB; clear HR250; clear HO246; have HO_4 := n0_; have HO_5 := n1_; have HB := n2_; have HR250 := n3_; have HO253 := n4_; clear n0_ n1_ n2_ n3_ n4_; clear ho hb hg hat; have q35 : ((ji21) : Int) ≤ ((t234.length : Int) : Int) := od_; obtain ⟨i035, hi035, _, hsz35, _⟩ := info_parts info58; have hroom35 : t234.length ≤ co9 := (Kd.R_reads' HO_4.out).2.1; have hC35 : Kd.C k58 _ Ao9 t234.length t234 := (Kd.R_reads' HO_4.out).2.2; have q035 : (0 : Int) ≤ ((ji21) : Int) := od_; have hcut35 := cut_from (P := Try.prog) 24 58 .i64 Try.underlying24 hi035 2 hsz35 Ao9 t234.length co9 (ji21) q035 q35; have hr35 := Kd.C_drop (m := ((ji21) : Int).toNat) (c := co9) hC35 (by omega) hroom35; obtain ⟨A35, hA35⟩ : ∃ A_z, A_z = (if co9 = ((ji21) : Int).toNat then Ao9 else (Ao9 : Option Addr).map (·.add (((ji21) : Int).toNat * 2))) := ⟨_, rfl⟩; obtain ⟨c35, hc35⟩ : ∃ c_z, c_z = co9 - ((ji21) : Int).toNat := ⟨_, rfl⟩; have hy35 : y254.length = t234.length - ((ji21) : Int).toNat := (by rw [Ny254.out, List.length_drop] <;> omega); rw [show (t234).drop ((ji21) : Int).toNat = y254 from Ny254.out.symm] at hr35; replace hr35 : Kd.C k58 _ A35 y254.length y254 := (by rw [hA35]; exact hr35); rw [← hy35, ← hA35, ← hc35] at hcut35; have HR257 := Aside0.mk hr35; have HC257 := Aside0.mk (show y254.length ≤ c35 from by rw [hy35, hc35]; exact Nat.sub_le_sub_right hroom35 _); clear hr35 hC35 hroom35 hi035 hsz35 hc35; have KY35 := Aside0.mk hy35; have KA35 := Aside0.mk hA35; clear hy35 hA35; have KL35 := Aside0.mk (show ((ji21) : Int).toNat ≤ t234.length from by omega); replace q35 := eq_true q35) | ((with_reducible refine gate_builtin (b := .append) (xs := #[.tmp 60, .tmp 64]) rfl ?_); (try (refine gate_guard (by rfl) ?_; dsimp only)); at_builtin; refine Kd.R_append_rows k58 (w0 := w) w.heap.size rfl (.tmp 60) (.tmp 64) 24 58 (.agg #[(.int .i64 0), (.int .i64 0)]) 16 rfl Try.underlying24 info58 rfl (by decide) (by omega) v252 y251 y254 _ _ _ (fun k_ => some k_ ≠ (.slice Ao9 t234.length co9 : Value).ownBlock) (fun _ => False) rfl rfl ?aO ?aR (fun _ _ h => h) (fun _ h => h.elim) ?aF ?aB ?aS ?aL ?_; (case aR => repeat (first | exact (by repeat (first | (with_reducible exact HR257.out) | (with_reducible refine Kd.C_alloc ?_ _) | (with_reducible refine Kd.C_drewN ?_ _) | (with_reducible refine Kd.C_drew ?_) | exact HR257.out)) | (with_reducible refine Kd.C_alloc ?_ _) | (with_reducible refine Kd.C_drewN ?_ _) | (with_reducible refine Kd.C_drew ?_))); (case aB => exact (by repeat (first | (with_reducible first | exact HB.out | apply below_alloc | apply pw_below_drewN | apply below_drew1) | exact HB.out))); (case aF => exact (fun k_ hk => Kd.fresh' (Kd.R_lt (by (with_reducible repeat (first | apply Kd.R_alloc | apply Kd.R_drewN | apply Kd.R_drew)); exact HO_4.out)) k_ hk)); (case aO => exact (by (with_reducible repeat (first | apply Kd.R_alloc | apply Kd.R_drewN | apply Kd.R_drew)); exact HO253.out)); (case aS => exact (below_size (by repeat (first | (with_reducible first | exact HB.out | apply below_alloc | apply pw_below_drewN | apply below_drew1) | exact HB.out)))); (case aL => have := LMc24.out; omega); intro v259 w36 ho hb hg hat; rw [← Ny258.out] at ho; have n0_ := Aside0.mk (Kd.R_after (ok := (fun _ => True)) (by (with_reducible repeat (first | apply Kd.R_alloc | apply Kd.R_drewN | apply Kd.R_drew)); exact HO_4.out) hg hat); have n1_ := Aside0.mk (Kd.R_over' (by (with_reducible repeat (first | apply Kd.R_alloc | apply Kd.R_drewN | apply Kd.R_drew)); exact HO_5.out) (Kd.R_typed (by (with_reducible repeat (first | apply Kd.R_alloc | apply Kd.R_drewN | apply Kd.R_drew)); exact HO253.out)) (by decide) hg); have n2_ := Aside0.mk (hb); have n3_ := Aside0.mk ((show Kd.C k58 w36 Ao9 y247.length y247 from by rw [Ny247.out]; exact Kd.C_take (m := (x9_2 : Int).toNat) ((Kd.R_reads' (Kd.R_after (ok := (fun _ => True)) (by (with_reducible repeat (first | apply Kd.R_alloc | apply Kd.R_drewN | apply Kd.R_drew)); exact HO_4.out) hg hat)).2.2) KL33.out)); have n4_ := Aside0.mk ((show Kd.C k58 w36 A35 y254.length y254 from by rw [Ny254.out, KA35.out]; exact Kd.C_drop (m := ((ji21) : Int).toNat) (c := co9) ((Kd.R_reads' (Kd.R_after (ok := (fun _ => True)) (by (with_reducible repeat (first | apply Kd.R_alloc | apply Kd.R_drewN | apply Kd.R_drew)); exact HO_4.out) hg hat)).2.2) KL35.out ((Kd.R_reads' (Kd.R_after (ok := (fun _ => True)) (by (with_reducible repeat (first | apply Kd.R_alloc | apply Kd.R_drewN | apply Kd.R_drew)); exact HO_4.out) hg hat)).2.1))); have n5_ := Aside0.mk (ho); clear HO_4; clear HO_5; clear HB; clear HR250; clear HR257; clear HO253; have HO_4 := n0_; have HO_5 := n1_; have HB := n2_; have HR250 := n3_; have HR257 := n4_; have HO260 := n5_; clear n0_ n1_ n2_ n3_ n4_ n5_; clear ho hb hg hat; obtain ⟨Ao37, co37, eo37⟩ := Kd.R_slice HO260.out; subst eo37) | ((with_reducible refine gate_callee (f := 11) rfl ?_); refine goesL_ (some 69) rfl rfl Try.func11 (by kernel_rfl) rfl #[.int .i64 t233, .slice Ao37 y258.length co37] rfl (by (try simp only [List.map_toArray, List.map_cons, List.map_nil]); first | done | rfl | (simp only [List.length_drop, List.length_take]; rfl)) ?_; (with_reducible refine (impl_FewestColours.calls k2 t233 _ _ y258 t261 t262 _ ?side1 ?side2 A25.out).mono ?_); (case side1 => repeat (first | exact (Kd.R_reads' HO260.out).2.2 | (with_reducible refine Kd.C_alloc ?_ _) | (with_reducible refine Kd.C_drewN ?_ _) | (with_reducible refine Kd.C_drew ?_))); (case side2 => exact (Kd.R_reads' HO260.out).2.1); rintro e w38 ⟨rfl, hb⟩; refine ⟨_, rfl, ?_⟩; have n0_ := Aside0.mk (Kd.R_below (by (with_reducible repeat (first | apply Kd.R_alloc | apply Kd.R_drewN | apply Kd.R_drew)); exact HO_4.out) hb); have n1_ := Aside0.mk (Kd.R_below (by (with_reducible repeat (first | apply Kd.R_alloc | apply Kd.R_drewN | apply Kd.R_drew)); exact HO_5.out) hb); have n2_ := Aside0.mk (Kd.R_below (by (with_reducible repeat (first | apply Kd.R_alloc | apply Kd.R_drewN | apply Kd.R_drew)); exact HO260.out) hb); have n3_ := Aside0.mk (Kd.C_below (by repeat (first | (with_reducible exact HR250.out) | (with_reducible refine Kd.C_alloc ?_ _) | (with_reducible refine Kd.C_drewN ?_ _) | (with_reducible refine Kd.C_drew ?_) | exact HR250.out)) hb); have n4_ := Aside0.mk (Kd.C_below (by repeat (first | (with_reducible exact HR257.out) | (with_reducible refine Kd.C_alloc ?_ _) | (with_reducible refine Kd.C_drewN ?_ _) | (with_reducible refine Kd.C_drew ?_) | exact HR257.out)) hb); have n5_ := Aside0.mk (below_step (by repeat (first | (with_reducible first | exact HB.out | apply below_alloc | apply pw_below_drewN | apply below_drew1) | exact HB.out)) hb); clear HO_4; clear HO_5; clear HO260; clear HR250; clear HR257; clear HB; have HO_4 := n0_; have HO_5 := n1_; have HO260 := n2_; have HR250 := n3_; have HR257 := n4_; have HB := n5_; clear n0_ n1_ n2_ n3_ n4_ n5_; (try clear hb); (try clear hb2); (try clear hk); (try clear hi); obtain ⟨Ao39, co39, eo39⟩ := Kd.R_slice HO_5.out; subst eo39) | (go_at_call 13; (with_reducible refine (laws_a2Has.calls k2 _ _ t237 x9_2 t263 _ ?side1 ?side2 A29.out).mono ?_); (case side1 => repeat (first | exact (Kd.R_reads' HO_5.out).2.2 | (with_reducible refine Kd.C_alloc ?_ _) | (with_reducible refine Kd.C_drewN ?_ _) | (with_reducible refine Kd.C_drew ?_))); (case side2 => exact (Kd.R_reads' HO_5.out).2.1); rintro e w' ⟨rfl, ⟨nd, rfl⟩⟩))
                  go_roundg k2
                  case measure => have := HJ6.out; have := HK2.out; omega
                  case rel => exact ⟨(ji21), (by first | rfl | (simp; done) | (simp only [← hji21] <;> (first | rfl | simp)) | (simp [*]; done)), H', ⟨by have := HJ6.out; have := HK2.out; omega⟩, ⟨by (with_reducible repeat (first | apply Kd.R_alloc | apply Kd.R_drewN | apply Kd.R_drew)); exact Kd.R_mono HO_4.out (fun _ hk => trivial)⟩, ⟨by (with_reducible repeat (first | apply Kd.R_alloc | apply Kd.R_drewN | apply Kd.R_drew)); exact HO_5.out⟩, ⟨by repeat (first | (with_reducible first | exact HB.out | apply below_alloc | apply pw_below_drewN | apply below_drew1) | exact HB.out)⟩⟩
              ·rw [if_neg c26] at H
               exact absurd H (by simp)
             ·rw [if_neg c24] at H
              exact absurd H (by simp)
            ·rw [if_neg c23] at H
             exact absurd H (by simp)
           ·rw [if_neg c22] at H
            exact absurd H (by simp)
          ·rw [if_neg c20] at H
           exact absurd H (by simp)
         ·rw [if_neg c19] at H
          exact absurd H (by simp)
        ·rw [if_neg c18] at H
         exact absurd H (by simp)
       ·rw [if_neg c17] at H
        have c17b0 : decide (x9_2 < (t234.length : Int)) = false := decide_eq_false c17
        clear c17
        have H' := Aside0.mk H
        clear H
        go_wp2
        go_loopg [13, 14] k2 (fun kq v13 v14 w' => ∃ (x13_3 : Int) (x14_3 : Int), v13 = .int .i64 x13_3 ∧ v14 = .int .i64 x14_3 ∧ Aside0 (laws_FnHardBorders.l1 kq t233 t234 x13_3 x14_3 = some r) ∧ Aside0 (kq ≤ k2) ∧ Aside0 (Kd.R k58 58 w' w.heap.size (fun _ => True) (.slice Ao9 t234.length co9) t234) ∧ Aside0 (Below w.heap.size w w'))
        case atStart => exact ⟨(0), (0), (by first | rfl | (simp; done) | (simp [*]; done)), (by first | rfl | (simp; done) | (simp [*]; done)), H', ⟨Nat.le_refl _⟩, ⟨by (with_reducible repeat (first | apply Kd.R_alloc | apply Kd.R_drewN | apply Kd.R_drew)); exact HO_4.out⟩, ⟨by repeat (first | (with_reducible first | exact HB.out | apply below_alloc | apply pw_below_drewN | apply below_drew1) | exact HB.out)⟩⟩
        case round =>
         clear H'
         try clear c1
         try clear c2
         try clear p2
         try clear c3
         try clear q3
         try clear p6
         try clear c8
         try clear c9
         try clear c10
         try clear c11
         try clear c12
         try clear c12b0
         try clear c12b1
         try clear c14
         try clear c16
         try clear c17
         try clear c17b0
         try clear c18
         try clear c18b0
         try clear c18b1
         try clear c19
         try clear c19b0
         try clear c19b1
         try clear c20
         try clear c22
         try clear c22b0
         try clear c22b1
         try clear c23
         try clear c23b0
         try clear c23b1
         try clear c24
         try clear c26
         try clear c26b0
         try clear c26b1
         try clear c27
         try clear c27b0
         try clear c28
         try clear c28b0
         try clear c30
         try clear c30b0
         try clear c30b1
         try clear c30b2
         try clear q33
         try clear c35
         try clear q35
         try clear p2
         try clear q035
         try clear q33
         try clear q35
         obtain ⟨x13_3, x14_3, rfl, rfl, HA, HK3, HO_4, HB⟩ := hrel
         cases gk with
         | zero => exact absurd HA.out (by simp [laws_FnHardBorders.l1])
         | succ k3 =>
          have H := HA.out
          clear HA
          simp only [laws_FnHardBorders.l1] at H
          by_cases c40 : x14_3 < t233
          ·rw [if_pos c40] at H
           have c40b0 : decide (x14_3 < t233) = true := decide_eq_true c40
           clear c40
           replace H := Option.bind_eq_some_iff.mp H
           obtain ⟨⟨t264, t265⟩, A410, H⟩ := H
           replace H : (if t265 = 0 then ((laws_a2Rises.f k3 t264 t233).bind fun t268 => (if t268 = true then ((laws_a2Has.f k3 t264 x14_3).bind fun t269 => (if t269 = true then (none) else (laws_FnHardBorders.l1 k3 t233 t234 (wrap64 (x13_3 + (t264.length : Int))) (wrap64 (x14_3 + 1))))) else (none))) else (none)) = some r := H
           have A41 := Aside0.mk A410
           clear A410
           by_cases c42 : t265 = 0
           ·rw [if_pos c42] at H
            have c42b0 : (t265 == 0) = true := beq_iff_eq.mpr c42
            have c42b1 : (t265 != 0) = false := bne_eq_false_iff_eq.mpr c42
            clear c42
            replace H := Option.bind_eq_some_iff.mp H
            obtain ⟨t268, A430, H⟩ := H
            replace H : (if t268 = true then ((laws_a2Has.f k3 t264 x14_3).bind fun t269 => (if t269 = true then (none) else (laws_FnHardBorders.l1 k3 t233 t234 (wrap64 (x13_3 + (t264.length : Int))) (wrap64 (x14_3 + 1))))) else (none)) = some r := H
            have A43 := Aside0.mk A430
            clear A430
            by_cases c44 : t268 = true
            ·subst c44
             have H1 : ((laws_a2Has.f k3 t264 x14_3).bind fun t269 => (if t269 = true then (none) else (laws_FnHardBorders.l1 k3 t233 t234 (wrap64 (x13_3 + (t264.length : Int))) (wrap64 (x14_3 + 1))))) = some r := by rw [if_pos rfl] at H; exact H
             clear H
             have H := H1
             clear H1
             replace H := Option.bind_eq_some_iff.mp H
             obtain ⟨t269, A450, H⟩ := H
             replace H : (if t269 = true then (none) else (laws_FnHardBorders.l1 k3 t233 t234 (wrap64 (x13_3 + (t264.length : Int))) (wrap64 (x14_3 + 1)))) = some r := H
             have A45 := Aside0.mk A450
             clear A450
             by_cases c46 : t269 = true
             ·subst c46
              have H1 : (none) = some r := by rw [if_pos rfl] at H; exact H
              clear H
              have H := H1
              clear H1
              exact absurd H (by simp)
             ·replace c46 := Bool.eq_false_iff.mpr c46
              subst c46
              have H1 : (laws_FnHardBorders.l1 k3 t233 t234 (wrap64 (x13_3 + (t264.length : Int))) (wrap64 (x14_3 + 1))) = some r := by rw [if_neg (show ¬ (false = true) by decide)] at H; exact H
              clear H
              have H := H1
              clear H1
              have H' := Aside0.mk H
              clear H
              go_wp2_with (first | ((with_reducible refine gate_callee (f := 14) rfl ?_); refine goesL_ (some 103) rfl rfl Try.func14 (by kernel_rfl) rfl #[.int .i64 t233, .slice Ao9 t234.length co9, .int .i64 x14_3] rfl (by (try simp only [List.map_toArray, List.map_cons, List.map_nil]); first | done | rfl | (simp only [List.length_drop, List.length_take]; rfl)) ?_; (with_reducible refine (impl_NeighboursOf.calls k3 t233 _ _ t234 x14_3 t264 t265 _ ?side1 ?side2 A41.out).mono ?_); (case side1 => repeat (first | exact (Kd.R_reads' HO_4.out).2.2 | (with_reducible refine Kd.C_alloc ?_ _) | (with_reducible refine Kd.C_drewN ?_ _) | (with_reducible refine Kd.C_drew ?_))); (case side2 => exact (Kd.R_reads' HO_4.out).2.1); rintro e w47 ⟨v266, rfl, ho0, hb⟩; refine ⟨_, rfl, ?_⟩; have n0_ := Aside0.mk (Kd.R_below (by (with_reducible repeat (first | apply Kd.R_alloc | apply Kd.R_drewN | apply Kd.R_drew)); exact HO_4.out) hb); have n1_ := Aside0.mk (Kd.R_lower ho0 (below_size (by repeat (first | (with_reducible first | exact HB.out | apply below_alloc | apply pw_below_drewN | apply below_drew1) | exact HB.out)))); have n2_ := Aside0.mk (below_step (by repeat (first | (with_reducible first | exact HB.out | apply below_alloc | apply pw_below_drewN | apply below_drew1) | exact HB.out)) hb); clear HO_4; clear HB; have HO_4 := n0_; have HO267 := n1_; have HB := n2_; clear n0_ n1_ n2_; (try clear hb); (try clear hb2); (try clear hk); (try clear hi); (try clear ho0); obtain ⟨Ao48, co48, eo48⟩ := Kd.R_slice HO267.out; subst eo48) | (go_at_call 12; (with_reducible refine (laws_a2Rises.calls k3 _ _ t264 t233 true _ ?side1 ?side2 A43.out).mono ?_); (case side1 => repeat (first | exact (Kd.R_reads' HO267.out).2.2 | (with_reducible refine Kd.C_alloc ?_ _) | (with_reducible refine Kd.C_drewN ?_ _) | (with_reducible refine Kd.C_drew ?_))); (case side2 => exact (Kd.R_reads' HO267.out).2.1); rintro e w' ⟨rfl, ⟨nd, rfl⟩⟩) | (go_at_call 13; (with_reducible refine (laws_a2Has.calls k3 _ _ t264 x14_3 false _ ?side1 ?side2 A45.out).mono ?_); (case side1 => repeat (first | exact (Kd.R_reads' HO267.out).2.2 | (with_reducible refine Kd.C_alloc ?_ _) | (with_reducible refine Kd.C_drewN ?_ _) | (with_reducible refine Kd.C_drew ?_))); (case side2 => exact (Kd.R_reads' HO267.out).2.1); rintro e w' ⟨rfl, ⟨nd, rfl⟩⟩))
              go_roundg k3
              case measure => have := HJ6.out; have := HK2.out; have := HK3.out; omega
              case rel => exact ⟨(wrap64 (x13_3 + (t264.length : Int))), (wrap64 (x14_3 + 1)), (by first | rfl | (simp; done) | (simp [*]; done)), (by first | rfl | (simp; done) | (simp [*]; done)), H', ⟨by have := HJ6.out; have := HK2.out; have := HK3.out; omega⟩, ⟨by (with_reducible repeat (first | apply Kd.R_alloc | apply Kd.R_drewN | apply Kd.R_drew)); exact HO_4.out⟩, ⟨by repeat (first | (with_reducible first | exact HB.out | apply below_alloc | apply pw_below_drewN | apply below_drew1) | exact HB.out)⟩⟩
            ·replace c44 := Bool.eq_false_iff.mpr c44
             subst c44
             have H1 : (none) = some r := by rw [if_neg (show ¬ (false = true) by decide)] at H; exact H
             clear H
             have H := H1
             clear H1
             exact absurd H (by simp)
           ·rw [if_neg c42] at H
            exact absurd H (by simp)
          ·rw [if_neg c40] at H
           have c40b0 : decide (x14_3 < t233) = false := decide_eq_false c40
           clear c40
           obtain rfl := Option.some.inj H
           go_wp2
           go_ret
           exact ⟨by first | rfl | (simp [errW_none, errW_some] <;> rfl) | (simp [*, errW_none, errW_some] <;> rfl), by repeat (first | (with_reducible first | exact HB.out | apply below_alloc | apply pw_below_drewN | apply below_drew1) | exact HB.out)⟩

/-- THE ONE PURE STATEMENT of laws_FnHardBorders. -/
def laws_FnHardBorders.Pure : Prop := ∀ (l0 : List Int), wfS (wfI .u8) l0 → l0.length * 1 ≤ 140737488351232 → ∃ k, laws_FnHardBorders.f k l0 = some true

end Go.Proofs.Ytcjkklkmlooinaa.Print
