-- Printed by a program of this session out of the translation; not trusted: Lean checks it.
-- SQUEEZED
import Derived.Test.YtmedijjjhabpbaaPrint0
import Derived.Test.YtmedijjjhabpbaaPrint5
import Derived.Test.YtmedijjjhabpbaaPrint13
import Derived.Test.YtmedijjjhabpbaaPrint14
import Derived.Test.YtmedijjjhabpbaaPrint16
import Derived.Test.YtmedijjjhabpbaaPrint17
import Derived.Test.YtmedijjjhabpbaaPrint18
namespace Go.Proofs.Ytmedijjjhabpbaa.Print
open Go.RowKit Go.Proofs.YtmedijjjhabpbaaW.PrintWords Go.Proofs.YtmedijjjhabpbaaW.PrintLast Go.Proofs.YtmedijjjhabpbaaW.PrintMore
attribute [local go_sem] max2_int min2_int max_two min_two max_three min_three max_four min_four   -- for this text's walks alone
set_option linter.unusedVariables false
set_option linter.unusedSimpArgs false

/-! ### spec_l00From: function 31 -/
def spec_l00From.f (l0 : List Int) : Option (List Int × Int × Int) := some (l0, 0, 0)
set_option maxHeartbeats 8000000 in
set_option maxRecDepth 100000 in
theorem spec_l00From.calls (A0 : Option Addr) (c0 : Nat) (l0 : List Int) (r1 : List Int) (r2 : Int) (r3 : Int) (w0 w : World) (hB : Below w0.heap.size w0 w) (hr0 : Kd.C (Kd.int .u8) w0 A0 l0.length l0) (hc0 : l0.length ≤ c0) (h : spec_l00From.f l0 = some (r1, r2, r3)) :
    Calls Try.prog 31 #[.slice A0 l0.length c0] w fun e w' => ∃ g_ : Nat, e = .returned (.pointer (some ⟨g_, 0, none⟩)) ∧ IsS70 w0 w' g_ r1 r2 r3 ∧ Below w0.heap.size w0 w' ∧ Below w.heap.size w w' := by
  have hu70 := Try.underlying70
  have HR0 := Aside0.mk hr0
  have HC0 := Aside0.mk hc0
  clear hr0 hc0
  have HBW := Aside0.mk (Below.refl w.heap.size w)
  have HW0 := Aside0.mk hB.size
  have HB := Aside0.mk hB
  clear hB
  have H : (some (l0, 0, 0)) = some (r1, r2, r3) := h
  clear h
  simp only [Option.some.injEq, Prod.mk.injEq] at H
  obtain ⟨rfl, rfl, rfl⟩ := H
  go_enter Try.func31, Try.ntmps31
  go_wp2_with (first | ((with_reducible refine gate_dst (N := 5) rfl ?_); refine box_event ?hg (N := 5) ?hd (cs := #[.slice A0 l0.length c0, .int .i64 0, .int .u64 0]) (t := 70) ?hr ?_; (case hd => rfl); (case hg => rfl); (case hr => first | (go_simp; done) | (go_simp; rfl)); intro gb473 hg w2 hbox hb; have n0_ := Aside0.mk (below_step HBW.out hb); have n1_ := Aside0.mk (below_step (bw_ HB.out) hb); have n2_ := Aside0.mk (hbox); have n3_ := Aside0.mk ((by rw [hg]; exact (below_size (by repeat (first | (with_reducible first | exact HBW.out | apply below_alloc | apply pw_below_drewN | apply below_drew1) | exact HBW.out))) : w.heap.size ≤ gb473)); have n4_ := Aside0.mk ((Nat.le_trans HW0.out (by rw [hg]; exact (below_size (by repeat (first | (with_reducible first | exact HBW.out | apply below_alloc | apply pw_below_drewN | apply below_drew1) | exact HBW.out))) : w.heap.size ≤ gb473) : w0.heap.size ≤ gb473)); clear HBW; clear HB; have HBW := n0_; have HB := n1_; have BK473 := n2_; have GW473 := n3_; have GE473 := n4_; clear n0_ n1_ n2_ n3_ n4_; clear hb hbox hg))
  go_ret
  exact ⟨_, rfl, (show IsS70 w0 _ gb473 l0 0 0 from ⟨_, _, by (with_reducible repeat (first | refine blk_drewN ?_ _ | refine blk_drew ?_ | refine blk_alloc ?_ _)); exact BK473.out, GE473.out, HR0.out⟩), by repeat (first | (with_reducible first | exact HB.out | apply below_alloc | apply pw_below_drewN | apply below_drew1 | refine below_set ?_ GE473.out) | exact HB.out), by repeat (first | (with_reducible first | exact HBW.out | apply below_alloc | apply pw_below_drewN | apply below_drew1 | refine below_set ?_ GW473.out) | exact HBW.out)⟩

/-! ### spec_DrawJoinAll: function 13 -/
def spec_DrawJoinAll.f (k : Nat) (l0 : List Int) : Option ((List (List (S49)))) := (spec_l00From.f l0).bind fun bt474 => ((spec_l10Parts.f k bt474.1 bt474.2.1 bt474.2.2).bind fun bt478 => (some bt478.1))
theorem spec_DrawJoinAll.mono : ∀ a0 k, LeO (spec_DrawJoinAll.f k a0) (spec_DrawJoinAll.f (k + 1) a0) := by
  intro a0 k
  unfold spec_DrawJoinAll.f
  repeat' first
      | (with_reducible exact spec_l10Parts.mono _ _ _ _)
      | (with_reducible exact LeO.refl _)
      | (with_reducible exact LeO.none _)
      | (with_reducible refine LeO.ite ?_ ?_)
      | (with_reducible refine LeO.bind ?_ (fun _ => ?_))
      | exact spec_l10Parts.mono _ _ _ _
      | exact LeO.none _
      | refine LeO.ite ?_ ?_
      | refine LeO.bind ?_ (fun _ => ?_)
set_option maxHeartbeats 8000000 in
set_option maxRecDepth 100000 in
theorem spec_DrawJoinAll.calls (k : Nat) (A0 : Option Addr) (c0 : Nat) (l0 : List Int) (r : List (List (S49))) (w : World) (hr0 : Kd.C (Kd.int .u8) w A0 l0.length l0) (hc0 : l0.length ≤ c0) (h : spec_DrawJoinAll.f k l0 = some r) :
    Calls Try.prog 13 #[.slice A0 l0.length c0] w fun e w' => ∃ v0_ : Value, e = .returned (v0_) ∧ Kd.S (Kd.slice 49 k49) 34 w' w.heap.size (fun _ => True) v0_ r ∧ Below w.heap.size w w' := by
  have HR0 := Aside0.mk hr0
  have HC0 := Aside0.mk hc0
  clear hr0 hc0
  have HB := Aside0.mk (Below.refl w.heap.size w)
  have H : ((spec_l00From.f l0).bind fun bt474 => ((spec_l10Parts.f k bt474.1 bt474.2.1 bt474.2.2).bind fun bt478 => (some bt478.1))) = some r := h
  clear h
  replace H := Option.bind_eq_some_iff.mp H
  obtain ⟨⟨t474, t475, t476⟩, A20, H⟩ := H
  replace H : ((spec_l10Parts.f k t474 t475 t476).bind fun bt478 => (some bt478.1)) = some r := H
  have A2 := Aside0.mk A20
  clear A20
  replace H := Option.bind_eq_some_iff.mp H
  obtain ⟨⟨t478, t481, t482⟩, A30, H⟩ := H
  replace H : (some t478) = some r := H
  have A3 := Aside0.mk A30
  clear A30
  obtain rfl := Option.some.inj H
  go_enter Try.func13, Try.ntmps13
  go_wp2_with (first | ((with_reducible refine gate_callee (f := 31) rfl ?_); refine goesL_ (some 4) rfl rfl Try.func31 (by kernel_rfl) rfl #[.slice A0 l0.length c0] rfl gl_ ?_; (with_reducible refine (spec_l00From.calls _ _ l0 t474 t475 t476 w _ ?side1 ?side2 ?side3 A2.out).mono ?_); (case side1 => repeat (first | (with_reducible first | exact HB.out | apply below_alloc | apply pw_below_drewN | apply below_drew1) | exact HB.out)); (case side2 => exact HR0.out); (case side3 => exact HC0.out); rintro e w4 ⟨g477, rfl, hi, hb, hb2⟩; refine ⟨_, rfl, ?_⟩; have n0_ := Aside0.mk (hb); have n1_ := Aside0.mk (hi); clear HB; have HB := n0_; have HI477 := n1_; clear n0_ n1_; (try clear hb); (try clear hb2); (try clear hk); (try clear hi)) | ((with_reducible refine gate_callee (f := 30) rfl ?_); refine goesL_ (some 5) rfl rfl Try.func30 (by kernel_rfl) rfl #[.pointer (some ⟨g477, 0, none⟩)] rfl gl_ ?_; (with_reducible refine (spec_l10Parts.calls k g477 t474 t475 t476 t478 t481 t482 w _ ?side1 ?side2 A3.out).mono ?_); (case side1 => repeat (first | (with_reducible first | exact HI477.out | apply IsS70.alloc | apply IsS70.drewN | apply IsS70.drew | apply IsS70.set_1 | apply IsS70.set_2) | exact HI477.out)); (case side2 => repeat (first | (with_reducible first | exact HB.out | apply below_alloc | apply pw_below_drewN | apply below_drew1 | refine below_set ?_ (IsS70.ge HI477.out)) | exact HB.out)); rintro e w5 ⟨v479, rfl, ho0, hi, hb, hk⟩; refine ⟨_, rfl, ?_⟩; have n0_ := Aside0.mk (Kd.S_lower ho0 (below_size (by repeat (first | (with_reducible first | exact HB.out | apply below_alloc | apply pw_below_drewN | apply below_drew1 | refine below_set ?_ (IsS70.ge HI477.out)) | exact HB.out)))); have n1_ := Aside0.mk (hb); have n2_ := Aside0.mk (hi); clear HB; clear HI477; have HO480 := n0_; have HB := n1_; have HI477 := n2_; clear n0_ n1_ n2_; (try clear hb); (try clear hb2); (try clear hk); (try clear hi); (try clear ho0)))
  go_ret
  exact ⟨_, by first | rfl | (simp [errW_none, errW_some] <;> rfl) | (simp [*, errW_none, errW_some] <;> rfl), by (with_reducible repeat (first | apply Kd.S_alloc | apply Kd.S_drewN | apply Kd.S_drew)); exact HO480.out, by repeat (first | (with_reducible first | exact HB.out | apply below_alloc | apply pw_below_drewN | apply below_drew1 | refine below_set ?_ (IsS70.ge HI477.out)) | exact HB.out)⟩

/-! ### spec_DrawJoinTwo: function 14 -/
def spec_DrawJoinTwo.f (k : Nat) (l0 : List Int) : Option (List S49 × List S49) := (spec_l00From.f l0).bind fun a => (spec_l10Parts.f k a.1 a.2.1 a.2.2).bind fun b => if (b.1.length : Int) < 2 then ((spec_l10Any.f k a.1 b.2.1 b.2.2).bind fun c => (spec_l07Draw.f k a.1 c.2.1 c.2.2).bind fun d => some (c.1, d.1)) else some (g_row b.1 0, g_row b.1 1)
theorem spec_DrawJoinTwo.mono : ∀ a0 k, LeO (spec_DrawJoinTwo.f k a0) (spec_DrawJoinTwo.f (k + 1) a0) := by
 intro a0 k
 unfold spec_DrawJoinTwo.f
 repeat' first
 | exact spec_l10Parts.mono _ _ _ _
 | exact spec_l10Any.mono _ _ _ _
 | exact spec_l07Draw.mono _ _ _ _
 | exact LeO.refl _
 | exact LeO.none _
 | refine LeO.ite ?_ ?_
 | refine LeO.bind ?_ (fun _ => ?_)
set_option maxHeartbeats 8000000 in
/-- The first two rows of a row of rows: they are apart. -/
theorem g_two {W : World} {base g n cap : Nat} {xs : List (List S49)} (h : Kd.S (Kd.slice 49 k49) 34 W base (fun _ => True) (.slice (some ⟨g, 0, none⟩) n cap) xs) (h2 : 2 ≤ xs.length) :
  ∃ v0 v1, W.cell? ⟨g, 0, none⟩ = some v0 ∧ W.cell? ⟨g, 1, none⟩ = some v1 ∧ Kd.R k49 49 W base (fun k => some k ≠ v1.ownBlock) v0 (g_row xs 0) ∧ Kd.R k49 49 W base (fun k => some k ≠ v0.ownBlock) v1 (g_row xs 1) := by
 obtain ⟨f, hok, inner, hown, hr⟩ := h
 have e0 : xs.zipIdx[0]? = some (g_row xs 0, 0) := by
  rw [List.getElem?_zipIdx, List.getElem?_eq_getElem (show 0 < xs.length by omega)]
  simp [g_row, List.getD, show 0 < xs.length by omega]
 have e1 : xs.zipIdx[1]? = some (g_row xs 1, 1) := by
  rw [List.getElem?_zipIdx, List.getElem?_eq_getElem (show 1 < xs.length by omega)]
  simp [g_row, List.getD, show 1 < xs.length by omega]
 obtain ⟨v0, c0, R0⟩ := hr.2 0 _ e0
 obtain ⟨v1, c1, R1⟩ := hr.2 1 _ e1
 have c0 : (inner.drop (0 * 1)).take 1 = [v0] := c0
 have c1 : (inner.drop (1 * 1)).take 1 = [v1] := c1
 rw [g_take1] at c0 c1
 have i0 : inner[0]? = some v0 := by
  cases hq : inner[0]? with
  | none => rw [hq] at c0; simp at c0
  | some z => rw [hq] at c0; simp at c0; rw [c0]
 have i1 : inner[1]? = some v1 := by
  cases hq : inner[1]? with
  | none => rw [hq] at c1; simp at c1
  | some z => rw [hq] at c1; simp at c1; rw [c1]
 have q0 := hown.cells (g := g) rfl 0 v0 i0
 have q1 := hown.cells (g := g) rfl 1 v1 i1
 rw [g_at0] at q0 q1
 have t0 := Kd.R_tight rfl R0
 have t1 := Kd.R_tight rfl R1
 refine ⟨v0, v1, q0, q1, Kd.R_mono t0 (fun k hk e => ?_), Kd.R_mono t1 (fun k hk e => ?_)⟩
 · have h0 := (R0.1 k hk.symm).2
   have h1 := (R1.1 k e.symm).2
   rw [h0] at h1
   cases h1
 · have h0 := (R0.1 k e.symm).2
   have h1 := (R1.1 k hk.symm).2
   rw [h0] at h1
   cases h1
set_option maxHeartbeats 8000000 in
set_option maxRecDepth 100000 in
theorem spec_DrawJoinTwo.calls (k : Nat) (A0 : Option Addr) (c0 : Nat) (l0 : List Int) (r1 : List S49) (r2 : List S49) (w : World) (hr0 : Kd.C (Kd.int .u8) w A0 l0.length l0) (hc0 : l0.length ≤ c0) (h : spec_DrawJoinTwo.f k l0 = some (r1, r2)) :
  Calls Try.prog 14 #[.slice A0 l0.length c0] w fun e w' => ∃ v0_ v1_ : Value, e = .returned (.tuple #[v0_, v1_]) ∧ Kd.R k49 49 w' w.heap.size (fun k_ => some k_ ≠ (v1_ : Value).ownBlock) v0_ r1 ∧ Kd.R k49 49 w' w.heap.size (fun k_ => some k_ ≠ (v0_ : Value).ownBlock) v1_ r2 ∧ Below w.heap.size w w' := by
 have HR0 := Aside0.mk hr0
 have HC0 := Aside0.mk hc0
 clear hr0 hc0
 unfold spec_DrawJoinTwo.f at h
 obtain ⟨⟨a1, a2, a3⟩, ha, H⟩ := Option.bind_eq_some_iff.mp h
 dsimp only at H
 obtain ⟨⟨b1, b2, b3⟩, hb, H⟩ := Option.bind_eq_some_iff.mp H
 dsimp only at H
 have HA := Aside0.mk ha
 have HB := Aside0.mk hb
 clear h ha hb
 by_cases c2 : (b1.length : Int) < 2
 · rw [if_pos c2] at H
   have c2b : decide ((b1.length : Int) < 2) = true := decide_eq_true c2
   obtain ⟨⟨x1, x2, x3⟩, hx, H⟩ := Option.bind_eq_some_iff.mp H
   dsimp only at H
   obtain ⟨⟨y1, y2, y3⟩, hy, H⟩ := Option.bind_eq_some_iff.mp H
   cases H
   have HX := Aside0.mk hx
   have HY := Aside0.mk hy
   clear hx hy c2
   go_enter Try.func14, Try.ntmps14
   go_wp2_with (first | (go_at_call 31; (with_reducible refine (spec_l00From.calls A0 c0 l0 a1 a2 a3 w _ ?side0 ?side1 ?side2 HA.out).mono ?_); (case side0 => exact Below.refl _ _); (case side1 => exact HR0.out); (case side2 => exact HC0.out); rintro e w4 ⟨g, rfl, hi4, hb4, _⟩; have HI4 := Aside0.mk hi4; have HB4 := Aside0.mk hb4; clear hi4 hb4) | (go_at_call 30; (with_reducible refine (spec_l10Parts.calls k g a1 a2 a3 b1 b2 b3 w _ ?side1 ?side2 HB.out).mono ?_); (case side1 => exact HI4.out); (case side2 => exact HB4.out); rintro e w5 ⟨v5, rfl, hs5, hi5, hb5, _⟩; obtain ⟨A5, c5, e5⟩ := Kd.S_slice hs5; subst e5; have HI5 := Aside0.mk hi5; have HB5 := Aside0.mk hb5; clear hs5 hi5 hb5) | (go_at_call 32; (with_reducible refine (spec_l10Any.calls k g a1 b2 b3 _ x2 x3 w _ ?side1 ?side2 HX.out).mono ?_); (case side1 => exact HI5.out); (case side2 => exact HB5.out); rintro e w6 ⟨v6, rfl, hs6, hi6, hb6, _⟩; have HV6 := Aside0.mk (Kd.R_tight rfl (Kd.R_lower hs6 HB5.out.size)); have HI6 := Aside0.mk hi6; have HB6 := Aside0.mk hb6; clear hs6 hi6 hb6) | (go_at_call 33; (with_reducible refine (spec_l07Draw.calls k g a1 x2 x3 _ y2 y3 w _ ?side1 ?side2 HY.out).mono ?_); (case side1 => exact HI6.out); (case side2 => exact HB6.out); rintro e w7 ⟨v7, rfl, hs7, hi7, hb7, hk7⟩; have HV7 := Aside0.mk hs7; have HB7 := Aside0.mk hb7; have HK7 := Aside0.mk hk7; clear hs7 hi7 hb7 hk7))
   go_ret2
   refine ⟨_, _, rfl, Kd.R_mono (Kd.R_keep HV6.out HK7.out (fun k_ hk_ e => ?_)) (fun k_ hk_ e => ?_), Kd.R_mono (Kd.R_tight rfl (Kd.R_lower HV7.out HB6.out.size)) (fun k_ hk_ e => ?_), HB7.out⟩
   · exact IsS70.own_ne HI6.out HV6.out (by decide) (by rw [← e]; exact hk_)
   · have h1 := Kd.R_lt HV6.out k_ hk_.symm
     have h2 := Kd.R_base HV7.out k_ e.symm
     omega
   · have h1 := Kd.R_lt HV6.out k_ e.symm
     have h2 := Kd.R_base HV7.out k_ hk_.symm
     omega
 · rw [if_neg c2] at H
   cases H
   have c2b : decide ((b1.length : Int) < 2) = false := decide_eq_false c2
   have hl2 : 2 ≤ b1.length := by omega
   have L2 := Aside0.mk hl2
   have q0 := eq_true (show (0 : Int) < (b1.length : Int) by omega)
   have q1 := eq_true (show (1 : Int) < (b1.length : Int) by omega)
   have q4 := eq_true (show 0 < b1.length by omega)
   have q5 := eq_true (show 1 < b1.length by omega)
   clear c2 hl2
   go_enter Try.func14, Try.ntmps14
   go_wp2_with (first | (go_at_call 31; (with_reducible refine (spec_l00From.calls A0 c0 l0 a1 a2 a3 w _ ?side0 ?side1 ?side2 HA.out).mono ?_); (case side0 => exact Below.refl _ _); (case side1 => exact HR0.out); (case side2 => exact HC0.out); rintro e w4 ⟨g, rfl, hi4, hb4, _⟩; have HI4 := Aside0.mk hi4; have HB4 := Aside0.mk hb4; clear hi4 hb4) | (go_at_call 30; (with_reducible refine (spec_l10Parts.calls k g a1 a2 a3 b1 b2 b3 w _ ?side1 ?side2 HB.out).mono ?_); (case side1 => exact HI4.out); (case side2 => exact HB4.out); rintro e w5 ⟨v5, rfl, hs5, hi5, hb5, _⟩; obtain ⟨gl, capl, e5, _, _, _⟩ := Kd.S_form hs5 (by have := L2.out; omega); subst e5; obtain ⟨v0, v1, q2, q3, R0, R1⟩ := g_two hs5 L2.out; have HV0 := Aside0.mk (Kd.R_lower R0 HB4.out.size); have HV1 := Aside0.mk (Kd.R_lower R1 HB4.out.size); have HB5 := Aside0.mk hb5; clear hs5 hi5 hb5 R0 R1))
   -- REGION 6
   refine start_ (n := 8) (S := fun w' => w'.cell? ⟨gl, 0, none⟩ = some v0 ∧ w'.cell? ⟨gl, 1, none⟩ = some v1) (ds := []) #[false, false, false, false, false, false, false, false] (by kernel_rfl) rfl rfl ⟨(show World.cell? (World.drew _) _ = _ from q2), (show World.cell? (World.drew _) _ = _ from q3)⟩ (fun hHeld => ?_)
   refine pure_ (i := 0) (N := some 19) (v := ?_) (a' := ?_) #[true, false, false, false, false, false, false, false] rfl rfl (by kernel_rfl) (fun _ _ _ h => h) (Or.inl ⟨by rfl, ?_⟩) ?_ ?_
   rotate_left
   · intro w'
     go_simp
     with_reducible rfl
   rotate_left
   · simp only [Act.put, List.setIfInBounds_toArray, List.set_cons_zero, List.set_cons_succ, i64_w, i32_w]
     rfl
   refine pure_ (i := 1) (N := some 20) (v := ?_) (a' := ?_) #[true, true, false, false, false, false, false, false] rfl rfl (by kernel_rfl) (fun _ _ _ h => h) (Or.inl ⟨by rfl, ?_⟩) ?_ ?_
   rotate_left
   · intro w'
     go_simp
     with_reducible rfl
   rotate_left
   · simp only [Act.put, List.setIfInBounds_toArray, List.set_cons_zero, List.set_cons_succ, i64_w, i32_w]
     rfl
   refine pure_ (i := 3) (N := some 22) (v := ?_) (a' := ?_) #[true, true, false, true, false, false, false, false] rfl rfl (by kernel_rfl) (fun _ _ _ h => h) (Or.inl ⟨by rfl, ?_⟩) ?_ ?_
   rotate_left
   · intro w'
     go_simp
     with_reducible rfl
   rotate_left
   · simp only [Act.put, List.setIfInBounds_toArray, List.set_cons_zero, List.set_cons_succ, i64_w, i32_w]
     rfl
   refine pure_ (i := 4) (N := some 23) (v := ?_) (a' := ?_) #[true, true, false, true, true, false, false, false] rfl rfl (by kernel_rfl) (fun _ _ _ h => h) (Or.inl ⟨by rfl, ?_⟩) ?_ ?_
   rotate_left
   · intro w'
     go_simp
     with_reducible rfl
   rotate_left
   · simp only [Act.put, List.setIfInBounds_toArray, List.set_cons_zero, List.set_cons_succ, i64_w, i32_w]
     rfl
   refine take_ (i := 2) (N := some 21) (v := ?_) (a' := ?_) #[true, true, true, true, true, false, false, false] rfl rfl (by kernel_rfl) (fun _ _ _ h => h) (Or.inl ⟨by rfl, ?_⟩) hHeld ?_ ?_
   rotate_left
   · rintro w' ⟨s0, s1⟩
     go_simp
     with_reducible rfl
   rotate_left
   · simp only [Act.put, List.setIfInBounds_toArray, List.set_cons_zero, List.set_cons_succ, i64_w, i32_w]
     rfl
   refine pure_ (i := 6) (N := some 2) (v := ?_) (a' := ?_) #[true, true, true, true, true, false, true, false] rfl rfl (by kernel_rfl) (fun _ _ _ h => h) (Or.inl ⟨by rfl, ?_⟩) ?_ ?_
   rotate_left
   · intro w'
     go_simp
     with_reducible rfl
   rotate_left
   · simp only [Act.put, List.setIfInBounds_toArray, List.set_cons_zero, List.set_cons_succ, i64_w, i32_w]
     rfl
   refine take_ (i := 5) (N := some 24) (v := ?_) (a' := ?_) #[true, true, true, true, true, true, true, false] rfl rfl (by kernel_rfl) (fun _ _ _ h => h) (Or.inl ⟨by rfl, ?_⟩) hHeld ?_ ?_
   rotate_left
   · rintro w' ⟨s0, s1⟩
     go_simp
     with_reducible rfl
   rotate_left
   · simp only [Act.put, List.setIfInBounds_toArray, List.set_cons_zero, List.set_cons_succ, i64_w, i32_w]
     rfl
   refine pure_ (i := 7) (N := some 3) (v := ?_) (a' := ?_) #[true, true, true, true, true, true, true, true] rfl rfl (by kernel_rfl) (fun _ _ _ h => h) (Or.inl ⟨by rfl, ?_⟩) ?_ ?_
   rotate_left
   · intro w'
     go_simp
     with_reducible rfl
   rotate_left
   · simp only [Act.put, List.setIfInBounds_toArray, List.set_cons_zero, List.set_cons_succ, i64_w, i32_w]
     rfl
   refine done_ (by kernel_rfl) ?_
   
   try go_wp2
   -- END 6
   go_ret2
   exact ⟨_, _, rfl, (by (with_reducible repeat (first | apply Kd.R_alloc | apply Kd.R_drewN | apply Kd.R_drew)); exact HV0.out), (by (with_reducible repeat (first | apply Kd.R_alloc | apply Kd.R_drewN | apply Kd.R_drew)); exact HV1.out), by repeat (first | exact HB5.out | apply pw_below_drewN | apply below_drew1)⟩

end Go.Proofs.Ytmedijjjhabpbaa.Print
