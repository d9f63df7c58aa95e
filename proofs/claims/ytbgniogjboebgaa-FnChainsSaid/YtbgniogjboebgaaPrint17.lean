-- Printed by a program of this session out of the translation; not trusted: Lean checks it.
import Derived.Test.YtbgniogjboebgaaPrint0
import Derived.Test.YtbgniogjboebgaaPrint5
import Derived.Test.YtbgniogjboebgaaPrint13
import Derived.Test.YtbgniogjboebgaaPrint15
namespace Go.Proofs.Ytbgniogjboebgaa.Print
open Go.RowKit Go.Proofs.YtbgniogjboebgaaW.PrintWords Go.Proofs.YtbgniogjboebgaaW.PrintLast Go.Proofs.YtbgniogjboebgaaW.PrintMore
attribute [local go_sem] max2_int min2_int max_two min_two max_three min_three max_four min_four   -- for this text's walks alone
set_option linter.unusedVariables false
set_option linter.unusedSimpArgs false

/-! ### spec_StaysWithin: function 101 -/
def spec_StaysWithin.j0 : Nat → List (S48) → Int → Int → Int → Int → Bool → Option (Bool × Int)
  | 0, _, _, _, _, _, _ => none
  | k + 1, x0, x1, x2, x3, x10, x30 => if x30 = true then (some (false, 2)) else (if x10 = 0 then ((spec_l07Within.f k x0 x1 x2 x3).bind fun t285 => (some (t285, 0))) else (some (false, x10)))
def spec_StaysWithin.f (k : Nat) (l0 : List (S48)) (a1 : Int) (a2 : Int) (a3 : Int) : Option (Bool × Int) := (spec_l07Code.f k l0 a3).bind fun t282 => (if t282 = 0 then ((spec_l00In.f a2 0 (wrap64 ((l0.length : Int) - 1))).bind fun t283 => (if t283 = true then ((spec_l00In.f a1 0 (wrap64 (a2 - 1))).bind fun t284 => (spec_StaysWithin.j0 k l0 a1 a2 a3 t282 (!t284))) else (spec_StaysWithin.j0 k l0 a1 a2 a3 t282 true))) else (spec_StaysWithin.j0 k l0 a1 a2 a3 t282 false))
theorem spec_StaysWithin.mono_l : ∀ k, (∀ y0 y1 y2 y3 y4 y5, LeO (spec_StaysWithin.j0 k y0 y1 y2 y3 y4 y5) (spec_StaysWithin.j0 (k + 1) y0 y1 y2 y3 y4 y5))
  | 0 => fun _ _ _ _ _ _ r h => by simp [spec_StaysWithin.j0] at h
  | k + 1 => by
    have ih0 := spec_StaysWithin.mono_l k
    · intro y0 y1 y2 y3 y4 y5
      unfold spec_StaysWithin.j0
      repeat' first
      | (with_reducible exact ih0 _ _ _ _ _ _)
      | (with_reducible exact spec_l07Code.mono _ _ _)
      | (with_reducible exact spec_l07Within.mono _ _ _ _ _)
      | (with_reducible exact LeO.refl _)
      | (with_reducible exact LeO.none _)
      | (with_reducible refine LeO.ite ?_ ?_)
      | (with_reducible refine LeO.bind ?_ (fun _ => ?_))
      | exact ih0 _ _ _ _ _ _
      | exact spec_l07Code.mono _ _ _
      | exact spec_l07Within.mono _ _ _ _ _
      | exact LeO.none _
      | refine LeO.ite ?_ ?_
      | refine LeO.bind ?_ (fun _ => ?_)
theorem spec_StaysWithin.mono : ∀ a0 a1 a2 a3 k, LeO (spec_StaysWithin.f k a0 a1 a2 a3) (spec_StaysWithin.f (k + 1) a0 a1 a2 a3) := by
  intro a0 a1 a2 a3 k
  have ih0 := spec_StaysWithin.mono_l k
  unfold spec_StaysWithin.f
  repeat' first
      | (with_reducible exact ih0 _ _ _ _ _ _)
      | (with_reducible exact spec_l07Code.mono _ _ _)
      | (with_reducible exact spec_l07Within.mono _ _ _ _ _)
      | (with_reducible exact LeO.refl _)
      | (with_reducible exact LeO.none _)
      | (with_reducible refine LeO.ite ?_ ?_)
      | (with_reducible refine LeO.bind ?_ (fun _ => ?_))
      | exact ih0 _ _ _ _ _ _
      | exact spec_l07Code.mono _ _ _
      | exact spec_l07Within.mono _ _ _ _ _
      | exact LeO.none _
      | refine LeO.ite ?_ ?_
      | refine LeO.bind ?_ (fun _ => ?_)
set_option maxHeartbeats 8000000 in
set_option maxRecDepth 100000 in
theorem spec_StaysWithin.calls (k : Nat) (A0 : Option Addr) (c0 : Nat) (l0 : List (S48)) (a1 : Int) (a2 : Int) (a3 : Int) (r1 : Bool) (r2 : Int) (w : World) (hr0 : Kd.C k48 w A0 l0.length l0) (hc0 : l0.length ≤ c0) (h : spec_StaysWithin.f k l0 a1 a2 a3 = some (r1, r2)) :
    Calls Try.prog 101 #[.slice A0 l0.length c0, .int .i64 a1, .int .i64 a2, .int .i64 a3] w fun e w' => e = .returned (.tuple #[.bool r1, .int .i64 r2]) ∧ Below w.heap.size w w' := by
  have HR0 := Aside0.mk hr0
  have HC0 := Aside0.mk hc0
  clear hr0 hc0
  have HB := Aside0.mk (Below.refl w.heap.size w)
  have H : ((spec_l07Code.f k l0 a3).bind fun t282 => (if t282 = 0 then ((spec_l00In.f a2 0 (wrap64 ((l0.length : Int) - 1))).bind fun t283 => (if t283 = true then ((spec_l00In.f a1 0 (wrap64 (a2 - 1))).bind fun t284 => (spec_StaysWithin.j0 k l0 a1 a2 a3 t282 (!t284))) else (spec_StaysWithin.j0 k l0 a1 a2 a3 t282 true))) else (spec_StaysWithin.j0 k l0 a1 a2 a3 t282 false))) = some (r1, r2) := h
  clear h
  replace H := Option.bind_eq_some_iff.mp H
  obtain ⟨t282, A50, H⟩ := H
  replace H : (if t282 = 0 then ((spec_l00In.f a2 0 (wrap64 ((l0.length : Int) - 1))).bind fun t283 => (if t283 = true then ((spec_l00In.f a1 0 (wrap64 (a2 - 1))).bind fun t284 => (spec_StaysWithin.j0 k l0 a1 a2 a3 t282 (!t284))) else (spec_StaysWithin.j0 k l0 a1 a2 a3 t282 true))) else (spec_StaysWithin.j0 k l0 a1 a2 a3 t282 false)) = some (r1, r2) := H
  have A5 := Aside0.mk A50
  clear A50
  have HC6 := Aside0.mk H
  clear H
  go_enter Try.func101, Try.ntmps101
  go_upto_region 2 with (first | ((with_reducible refine gate_callee (f := 96) rfl ?_); refine goesL_ (some 13) rfl rfl Try.func96 (by kernel_rfl) rfl #[.slice A0 l0.length c0, .int .i64 a3] rfl (by (try simp only [List.map_toArray, List.map_cons, List.map_nil]); first | done | rfl | (simp only [List.length_drop, List.length_take]; rfl)) ?_; (with_reducible refine (spec_l07Code.calls k _ _ l0 a3 t282 _ ?side1 ?side2 A5.out).mono ?_); (case side1 => repeat (first | exact HR0.out | (with_reducible refine Kd.C_alloc ?_ _) | (with_reducible refine Kd.C_drewN ?_ _) | (with_reducible refine Kd.C_drew ?_))); (case side2 => exact HC0.out); rintro e w' ⟨rfl, ⟨nd, rfl⟩⟩; refine ⟨_, rfl, ?_⟩))
  (try simp only [Act.put, List.setIfInBounds_toArray, List.set_cons_zero, List.set_cons_succ])
  go_cut [30] (fun v30 wc => ∃ (kq : Nat) (x30_5 : Bool), v30 = .bool x30_5 ∧ Aside0 (spec_StaysWithin.j0 kq l0 a1 a2 a3 t282 x30_5 = some (r1, r2)) ∧ Aside0 (kq ≤ k) ∧ Aside0 (Below w.heap.size w wc))
  case first =>
    have H := HC6.out
    clear HC6
    by_cases c7 : t282 = 0
    · rw [if_pos c7] at H
      have c7b0 : (t282 == 0) = true := beq_iff_eq.mpr c7
      have c7b1 : (t282 != 0) = false := bne_eq_false_iff_eq.mpr c7
      clear c7
      (first | rw [c7b0] | (simp only [i64_w, i32_w]; rw [c7b0]) | skip)
      replace H := Option.bind_eq_some_iff.mp H
      obtain ⟨t283, A80, H⟩ := H
      replace H : (if t283 = true then ((spec_l00In.f a1 0 (wrap64 (a2 - 1))).bind fun t284 => (spec_StaysWithin.j0 k l0 a1 a2 a3 t282 (!t284))) else (spec_StaysWithin.j0 k l0 a1 a2 a3 t282 true)) = some (r1, r2) := H
      have A8 := Aside0.mk A80
      clear A80
      by_cases c9 : t283 = true
      · subst c9
        have H1 : ((spec_l00In.f a1 0 (wrap64 (a2 - 1))).bind fun t284 => (spec_StaysWithin.j0 k l0 a1 a2 a3 t282 (!t284))) = some (r1, r2) := by rw [if_pos rfl] at H; exact H
        clear H
        have H := H1
        clear H1
        replace H := Option.bind_eq_some_iff.mp H
        obtain ⟨t284, A100, H⟩ := H
        replace H : (spec_StaysWithin.j0 k l0 a1 a2 a3 t282 (!t284)) = some (r1, r2) := H
        have A10 := Aside0.mk A100
        clear A100
        have H' := Aside0.mk H
        clear H
        go_wp2_with (first | (go_at_call 91; (with_reducible refine (spec_l00In.calls a2 0 (wrap64 ((l0.length : Int) - 1)) true _ A8.out).mono ?_); rintro e w' ⟨rfl, ⟨nd, rfl⟩⟩) | (go_at_call 91; (with_reducible refine (spec_l00In.calls a1 0 (wrap64 (a2 - 1)) t284 _ A10.out).mono ?_); rintro e w' ⟨rfl, ⟨nd, rfl⟩⟩))
        go_meet
        case rel => exact ⟨_, (!t284), (by first | rfl | (simp; done) | (simp [*]; done)), H', ⟨by first | omega | exact Nat.le_refl _⟩, ⟨by repeat (first | (with_reducible first | exact HB.out | apply below_alloc | apply pw_below_drewN | apply below_drew1) | exact HB.out)⟩⟩
      · replace c9 := Bool.eq_false_iff.mpr c9
        subst c9
        have H1 : (spec_StaysWithin.j0 k l0 a1 a2 a3 t282 true) = some (r1, r2) := by rw [if_neg (show ¬ (false = true) by decide)] at H; exact H
        clear H
        have H := H1
        clear H1
        have H' := Aside0.mk H
        clear H
        go_wp2_with (first | (go_at_call 91; (with_reducible refine (spec_l00In.calls a2 0 (wrap64 ((l0.length : Int) - 1)) false _ A8.out).mono ?_); rintro e w' ⟨rfl, ⟨nd, rfl⟩⟩))
        go_meet
        case rel => exact ⟨_, (true), (by first | rfl | (simp; done) | (simp [*]; done)), H', ⟨by first | omega | exact Nat.le_refl _⟩, ⟨by repeat (first | (with_reducible first | exact HB.out | apply below_alloc | apply pw_below_drewN | apply below_drew1) | exact HB.out)⟩⟩
    · rw [if_neg c7] at H
      have c7b0 : (t282 == 0) = false := beq_eq_false_iff_ne.mpr c7
      have c7b1 : (t282 != 0) = true := bne_iff_ne.mpr c7
      (first | rw [c7b0] | (simp only [i64_w, i32_w]; rw [c7b0]) | skip)
      have H' := Aside0.mk H
      clear H
      go_wp2
      go_meet
      case rel => exact ⟨_, (false), (by first | rfl | (simp; done) | (simp [*]; done)), H', ⟨by first | omega | exact Nat.le_refl _⟩, ⟨by repeat (first | (with_reducible first | exact HB.out | apply below_alloc | apply pw_below_drewN | apply below_drew1) | exact HB.out)⟩⟩
  case rest =>
    clear HC6
    try clear c1
    try clear p2
    try clear p6
    try clear c7
    try clear c7b0
    try clear c7b1
    try clear c9
    try clear c10
    obtain ⟨kq, x30_5, rfl, HA, HJ5, HB⟩ := hcut
    cases kq with
    | zero => exact absurd HA.out (by simp [spec_StaysWithin.j0])
    | succ kj5 =>
      have H := HA.out
      clear HA
      simp only [spec_StaysWithin.j0] at H
      by_cases c11 : x30_5 = true
      · subst c11
        have H1 : (some (false, 2)) = some (r1, r2) := by rw [if_pos rfl] at H; exact H
        clear H
        have H := H1
        clear H1
        simp only [Option.some.injEq, Prod.mk.injEq] at H
        obtain ⟨rfl, rfl⟩ := H
        go_wp2
        go_ret2
        exact ⟨by first | rfl | (simp [errW_none, errW_some] <;> rfl) | (simp [*, errW_none, errW_some] <;> rfl), by repeat (first | (with_reducible first | exact HB.out | apply below_alloc | apply pw_below_drewN | apply below_drew1) | exact HB.out)⟩
      · replace c11 := Bool.eq_false_iff.mpr c11
        subst c11
        have H1 : (if t282 = 0 then ((spec_l07Within.f kj5 l0 a1 a2 a3).bind fun t285 => (some (t285, 0))) else (some (false, t282))) = some (r1, r2) := by rw [if_neg (show ¬ (false = true) by decide)] at H; exact H
        clear H
        have H := H1
        clear H1
        by_cases c12 : t282 = 0
        · rw [if_pos c12] at H
          have c12b0 : (t282 == 0) = true := beq_iff_eq.mpr c12
          have c12b1 : (t282 != 0) = false := bne_eq_false_iff_eq.mpr c12
          clear c12
          replace H := Option.bind_eq_some_iff.mp H
          obtain ⟨t285, A130, H⟩ := H
          replace H : (some (t285, 0)) = some (r1, r2) := H
          have A13 := Aside0.mk A130
          clear A130
          simp only [Option.some.injEq, Prod.mk.injEq] at H
          obtain ⟨rfl, rfl⟩ := H
          go_wp2_with (first | ((with_reducible refine gate_callee (f := 97) rfl ?_); refine goesL_ (some 38) rfl rfl Try.func97 (by kernel_rfl) rfl #[.slice A0 l0.length c0, .int .i64 a1, .int .i64 a2, .int .i64 a3] rfl (by (try simp only [List.map_toArray, List.map_cons, List.map_nil]); first | done | rfl | (simp only [List.length_drop, List.length_take]; rfl)) ?_; (with_reducible refine (spec_l07Within.calls kj5 _ _ l0 a1 a2 a3 t285 _ ?side1 ?side2 A13.out).mono ?_); (case side1 => repeat (first | exact (Kd.C_below HR0.out HB.out) | (with_reducible refine Kd.C_alloc ?_ _) | (with_reducible refine Kd.C_drewN ?_ _) | (with_reducible refine Kd.C_drew ?_))); (case side2 => exact HC0.out); rintro e w14 ⟨rfl, hb⟩; refine ⟨_, rfl, ?_⟩; have n0_ := Aside0.mk (below_step (by repeat (first | (with_reducible first | exact HB.out | apply below_alloc | apply pw_below_drewN | apply below_drew1) | exact HB.out)) hb); clear HB; have HB := n0_; clear n0_; (try clear hb); (try clear hb2); (try clear hk); (try clear hi)))
          go_ret2
          exact ⟨by first | rfl | (simp [errW_none, errW_some] <;> rfl) | (simp [*, errW_none, errW_some] <;> rfl), by repeat (first | (with_reducible first | exact HB.out | apply below_alloc | apply pw_below_drewN | apply below_drew1) | exact HB.out)⟩
        · rw [if_neg c12] at H
          have c12b0 : (t282 == 0) = false := beq_eq_false_iff_ne.mpr c12
          have c12b1 : (t282 != 0) = true := bne_iff_ne.mpr c12
          simp only [Option.some.injEq, Prod.mk.injEq] at H
          obtain ⟨rfl, rfl⟩ := H
          go_wp2
          go_ret2
          exact ⟨by first | rfl | (simp [errW_none, errW_some] <;> rfl) | (simp [*, errW_none, errW_some] <;> rfl), by repeat (first | (with_reducible first | exact HB.out | apply below_alloc | apply pw_below_drewN | apply below_drew1) | exact HB.out)⟩

end Go.Proofs.Ytbgniogjboebgaa.Print
