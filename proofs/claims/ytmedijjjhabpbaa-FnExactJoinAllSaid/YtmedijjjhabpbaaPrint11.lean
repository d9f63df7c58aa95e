-- Printed by a program of this session out of the translation; not trusted: Lean checks it.
-- SQUEEZED
-- SHRUNK
-- NILFIX
import Derived.Test.YtmedijjjhabpbaaPrint0
import Derived.Test.YtmedijjjhabpbaaPrint1
import Derived.Test.YtmedijjjhabpbaaPrint9
import Derived.Test.YtmedijjjhabpbaaPrint10
namespace Go.Proofs.Ytmedijjjhabpbaa.Print
open Go.RowKit Go.Proofs.YtmedijjjhabpbaaW.PrintWords Go.Proofs.YtmedijjjhabpbaaW.PrintLast Go.Proofs.YtmedijjjhabpbaaW.PrintMore
attribute [local go_sem] max2_int min2_int max_two min_two max_three min_three max_four min_four   -- for this text's walks alone
set_option linter.unusedVariables false
set_option linter.unusedSimpArgs false

attribute [local go_sem high] eqA49
/-! ### impl_join: function 36 -/
def impl_join.f (k : Nat) (l0 : List (S49)) (l1 : List (S49)) : Option ((List (S49))) := if 0 < (l0.length : Int) then (if 0 ≤ (wrap64 ((l0.length : Int) - 1)) then (if (wrap64 ((l0.length : Int) - 1)) < (l0.length : Int) then (if 0 < (l1.length : Int) then (if (((rd_T49 l0 (wrap64 ((l0.length : Int) - 1))).f0) == ((rd_T49 l1 0).f0) && (((rd_T49 l0 (wrap64 ((l0.length : Int) - 1))).f1) == ((rd_T49 l1 0).f1))) = true then (if 1 ≤ (l1.length : Int) then ((impl_Place_56.f k (([l0, (l1.drop 1)] : List (List (S49))))).bind fun t267 => (if 0 < (t267.length : Int) then (some t267) else none)) else (none)) else (if 0 ≤ (wrap64 ((l1.length : Int) - 1)) then (if (wrap64 ((l1.length : Int) - 1)) < (l1.length : Int) then (if (((rd_T49 l0 (wrap64 ((l0.length : Int) - 1))).f0) == ((rd_T49 l1 (wrap64 ((l1.length : Int) - 1))).f0) && (((rd_T49 l0 (wrap64 ((l0.length : Int) - 1))).f1) == ((rd_T49 l1 (wrap64 ((l1.length : Int) - 1))).f1))) = true then ((impl_reversed.f k l1).bind fun t271 => (if 1 ≤ (t271.length : Int) then ((impl_Place_56.f k (([l0, (t271.drop 1)] : List (List (S49))))).bind fun t282 => (if 0 < (t282.length : Int) then (some t282) else none)) else (none))) else (if (((rd_T49 l0 0).f0) == ((rd_T49 l1 (wrap64 ((l1.length : Int) - 1))).f0) && (((rd_T49 l0 0).f1) == ((rd_T49 l1 (wrap64 ((l1.length : Int) - 1))).f1))) = true then (if 1 ≤ (l0.length : Int) then ((impl_Place_56.f k (([l1, (l0.drop 1)] : List (List (S49))))).bind fun t294 => (if 0 < (t294.length : Int) then (some t294) else none)) else (none)) else (if (((rd_T49 l0 0).f0) == ((rd_T49 l1 0).f0) && (((rd_T49 l0 0).f1) == ((rd_T49 l1 0).f1))) = true then ((impl_reversed.f k l1).bind fun t298 => (if 1 ≤ (l0.length : Int) then ((impl_Place_56.f k (([t298, (l0.drop 1)] : List (List (S49))))).bind fun t309 => (if 0 < (t309.length : Int) then (some t309) else none)) else (none))) else (some ([] : List (S49)))))) else (none)) else (none))) else (none)) else (none)) else (none)) else (none)
theorem impl_join.mono : ∀ a0 a1 k, LeO (impl_join.f k a0 a1) (impl_join.f (k + 1) a0 a1) := by
 intro a0 a1 k
 unfold impl_join.f
 repeat' first
   | (with_reducible exact impl_Place_56.mono _ _)
   | (with_reducible exact impl_reversed.mono _ _)
   | (with_reducible exact LeO.refl _)
   | (with_reducible exact LeO.none _)
   | (with_reducible refine LeO.ite ?_ ?_)
   | (with_reducible refine LeO.bind ?_ (fun _ => ?_))
   | exact impl_Place_56.mono _ _
   | exact impl_reversed.mono _ _
   | exact LeO.none _
   | refine LeO.ite ?_ ?_
   | refine LeO.bind ?_ (fun _ => ?_)
def impl_join.T1 : Bool × List (List Nat × List Nat) := (true, [([], []), ([0], [0]), ([1], [1]), ([], []), ([], []), ([4], [4]), ([5], [5]), ([3, 6], [3, 6]), ([7], [7]), ([], []), ([], []), ([9, 2, 0, 1, 2, 9, 10], [2, 9]), ([10, 8, 11, 0, 1, 2, 3, 4, 5, 6, 7, 8, 9, 10, 11], [8, 10])])
def impl_join.B1 : List Nat := [0, 1, 3, 0, 0, 16, 48, 120, 248, 0, 0, 1543, 4095]
theorem impl_join.tab1 : rtab .any (opsOf Try.f36 1) = impl_join.T1 := by kernel_rfl
theorem impl_join.bits1 : waitsOk impl_join.T1.2 impl_join.B1 = true := by kernel_rfl
def impl_join.T4 : Bool × List (List Nat × List Nat) := (true, [([], []), ([], []), ([], []), ([2], [2]), ([3], [3]), ([1, 4], [1, 4]), ([5], [5]), ([0, 6], [0, 6]), ([7], [7])])
def impl_join.B4 : List Nat := [0, 0, 0, 4, 12, 30, 62, 127, 255]
theorem impl_join.tab4 : rtab .any (opsOf Try.f36 4) = impl_join.T4 := by kernel_rfl
theorem impl_join.bits4 : waitsOk impl_join.T4.2 impl_join.B4 = true := by kernel_rfl
def impl_join.T6 : Bool × List (List Nat × List Nat) := (true, [([], []), ([], []), ([], []), ([2], [2]), ([3], [3]), ([1, 4], [1, 4]), ([5], [5]), ([0, 6], [0, 6]), ([7], [7])])
def impl_join.B6 : List Nat := [0, 0, 0, 4, 12, 30, 62, 127, 255]
theorem impl_join.tab6 : rtab .any (opsOf Try.f36 6) = impl_join.T6 := by kernel_rfl
theorem impl_join.bits6 : waitsOk impl_join.T6.2 impl_join.B6 = true := by kernel_rfl
theorem vaw_ {W : World} {e base : Nat} {ok : Nat → Prop} {ad : Addr} {n c : Nat} {xs : List S49} (h : Kd.V k49 e W base ok (.slice (some ad) n c) xs) {g : Nat} (hok : ∀ k, ok k → k ≠ g) (hn : 0 < (xs.length : Int)) : ad.block ≠ g := by
 intro eg
 obtain ⟨hnn, hl, hF⟩ := Kd.V_at h
 obtain ⟨ad1, e1, c0, _⟩ := at_T49 (Kd.F_now hF) 0 (Int.le_refl _) hn
 injection e1 with e1
 subst e1
 have hb : (ad.add ((0 : Int).toNat * 2)).block = g := by rw [add_block]; exact eg
 have h2 := Kd.F_now (Kd.F_far hF (p := ad.add ((0 : Int).toNat * 2)) (fun k hk e2 => hok k hk (e2.trans hb)) (.bool true))
 obtain ⟨ad2, e2, c2, _⟩ := at_T49 h2 0 (Int.le_refl _) hn
 injection e2 with e2
 subst e2
 rw [World.cell?_setCell_same' _ _ _ (by rw [c0]; rfl)] at c2
 injection c2 with c2
 cases c2
set_option maxHeartbeats 8000000 in
set_option maxRecDepth 100000 in
theorem impl_join.calls (k : Nat) (P0_ : Nat → Prop) (A0 : Option Addr) (c0 : Nat) (l0 : List (S49)) (P1_ : Nat → Prop) (A1 : Option Addr) (c1 : Nat) (l1 : List (S49)) (r : List (S49)) (w : World) (hs0 : Kd.V k49 49 w w.heap.size (fun k_ => P0_ k_) (.slice A0 l0.length c0) l0) (hs1 : Kd.V k49 49 w w.heap.size (fun k_ => P1_ k_) (.slice A1 l1.length c1) l1) (h : impl_join.f k l0 l1 = some r) :
  Calls Try.prog 36 #[.slice A0 l0.length c0, .slice A1 l1.length c1] w fun e w' => ∃ v0_ : Value, e = .returned (v0_) ∧ Kd.R k49 49 w' w.heap.size (fun k_ => (w.heap.size ≤ k_)) v0_ r ∧ Below w.heap.size w w' ∧ (r = [] → v0_ = .slice none 0 0) := by
 have hu49 := Try.underlying49
 have HO0 := Aside0.mk (show Kd.V k49 49 w w.heap.size (fun k_ => ((P0_ k_ ∨ P1_ k_) ∨ w.heap.size ≤ k_)) (.slice A0 l0.length c0) l0 from Kd.V_mono hs0 (fun k_ hk => .inl (.inl hk)))
 have HO1 := Aside0.mk (show Kd.V k49 49 w w.heap.size (fun k_ => ((P0_ k_ ∨ P1_ k_) ∨ w.heap.size ≤ k_)) (.slice A1 l1.length c1) l1 from Kd.V_mono hs1 (fun k_ hk => .inl (.inr hk)))
 have HB := Aside0.mk (Below.refl w.heap.size w)
 have H : (if 0 < (l0.length : Int) then (if 0 ≤ (wrap64 ((l0.length : Int) - 1)) then (if (wrap64 ((l0.length : Int) - 1)) < (l0.length : Int) then (if 0 < (l1.length : Int) then (if (((rd_T49 l0 (wrap64 ((l0.length : Int) - 1))).f0) == ((rd_T49 l1 0).f0) && (((rd_T49 l0 (wrap64 ((l0.length : Int) - 1))).f1) == ((rd_T49 l1 0).f1))) = true then (if 1 ≤ (l1.length : Int) then ((impl_Place_56.f k (([l0, (l1.drop 1)] : List (List (S49))))).bind fun t267 => (if 0 < (t267.length : Int) then (some t267) else none)) else (none)) else (if 0 ≤ (wrap64 ((l1.length : Int) - 1)) then (if (wrap64 ((l1.length : Int) - 1)) < (l1.length : Int) then (if (((rd_T49 l0 (wrap64 ((l0.length : Int) - 1))).f0) == ((rd_T49 l1 (wrap64 ((l1.length : Int) - 1))).f0) && (((rd_T49 l0 (wrap64 ((l0.length : Int) - 1))).f1) == ((rd_T49 l1 (wrap64 ((l1.length : Int) - 1))).f1))) = true then ((impl_reversed.f k l1).bind fun t271 => (if 1 ≤ (t271.length : Int) then ((impl_Place_56.f k (([l0, (t271.drop 1)] : List (List (S49))))).bind fun t282 => (if 0 < (t282.length : Int) then (some t282) else none)) else (none))) else (if (((rd_T49 l0 0).f0) == ((rd_T49 l1 (wrap64 ((l1.length : Int) - 1))).f0) && (((rd_T49 l0 0).f1) == ((rd_T49 l1 (wrap64 ((l1.length : Int) - 1))).f1))) = true then (if 1 ≤ (l0.length : Int) then ((impl_Place_56.f k (([l1, (l0.drop 1)] : List (List (S49))))).bind fun t294 => (if 0 < (t294.length : Int) then (some t294) else none)) else (none)) else (if (((rd_T49 l0 0).f0) == ((rd_T49 l1 0).f0) && (((rd_T49 l0 0).f1) == ((rd_T49 l1 0).f1))) = true then ((impl_reversed.f k l1).bind fun t298 => (if 1 ≤ (l0.length : Int) then ((impl_Place_56.f k (([t298, (l0.drop 1)] : List (List (S49))))).bind fun t309 => (if 0 < (t309.length : Int) then (some t309) else none)) else (none))) else (some ([] : List (S49)))))) else (none)) else (none))) else (none)) else (none)) else (none)) else (none)) = some r := h
 clear h
 by_cases c3 : 0 < (l0.length : Int)
 ·rw [if_pos c3] at H
  have c3b0 : decide (0 < (l0.length : Int)) = true := decide_eq_true c3
  have c3b1 : decide (0 < l0.length) = true := decide_eq_true (by omega)
  clear c3
  obtain ⟨ji4, hji4⟩ : ∃ j_ : Int, (wrap64 ((l0.length : Int) - 1)) = j_ := ⟨_, rfl⟩
  replace H : (if 0 ≤ (ji4) then (if (ji4) < (l0.length : Int) then (if 0 < (l1.length : Int) then (if (((rd_T49 l0 (ji4)).f0) == ((rd_T49 l1 0).f0) && (((rd_T49 l0 (ji4)).f1) == ((rd_T49 l1 0).f1))) = true then (if 1 ≤ (l1.length : Int) then ((impl_Place_56.f k (([l0, (l1.drop 1)] : List (List (S49))))).bind fun t267 => (if 0 < (t267.length : Int) then (some t267) else none)) else (none)) else (if 0 ≤ (wrap64 ((l1.length : Int) - 1)) then (if (wrap64 ((l1.length : Int) - 1)) < (l1.length : Int) then (if (((rd_T49 l0 (ji4)).f0) == ((rd_T49 l1 (wrap64 ((l1.length : Int) - 1))).f0) && (((rd_T49 l0 (ji4)).f1) == ((rd_T49 l1 (wrap64 ((l1.length : Int) - 1))).f1))) = true then ((impl_reversed.f k l1).bind fun t271 => (if 1 ≤ (t271.length : Int) then ((impl_Place_56.f k (([l0, (t271.drop 1)] : List (List (S49))))).bind fun t282 => (if 0 < (t282.length : Int) then (some t282) else none)) else (none))) else (if (((rd_T49 l0 0).f0) == ((rd_T49 l1 (wrap64 ((l1.length : Int) - 1))).f0) && (((rd_T49 l0 0).f1) == ((rd_T49 l1 (wrap64 ((l1.length : Int) - 1))).f1))) = true then (if 1 ≤ (l0.length : Int) then ((impl_Place_56.f k (([l1, (l0.drop 1)] : List (List (S49))))).bind fun t294 => (if 0 < (t294.length : Int) then (some t294) else none)) else (none)) else (if (((rd_T49 l0 0).f0) == ((rd_T49 l1 0).f0) && (((rd_T49 l0 0).f1) == ((rd_T49 l1 0).f1))) = true then ((impl_reversed.f k l1).bind fun t298 => (if 1 ≤ (l0.length : Int) then ((impl_Place_56.f k (([t298, (l0.drop 1)] : List (List (S49))))).bind fun t309 => (if 0 < (t309.length : Int) then (some t309) else none)) else (none))) else (some ([] : List (S49)))))) else (none)) else (none))) else (none)) else (none)) else (none)) = some r := by first | (rw [hji4] at H; exact H) | (simp only [hji4] at H ⊢; exact H)
  have hji4w : (IntKind.i64.wrap ((l0.length : Int) - 1)) = ji4 := (i64_w _).trans hji4
  by_cases c5 : 0 ≤ (ji4)
  ·rw [if_pos c5] at H
   have c5b0 : decide (0 ≤ (ji4)) = true := decide_eq_true c5
   clear c5
   by_cases c6 : (ji4) < (l0.length : Int)
   ·rw [if_pos c6] at H
    have c6b0 : decide ((ji4) < (l0.length : Int)) = true := decide_eq_true c6
    clear c6
    by_cases c7 : 0 < (l1.length : Int)
    ·rw [if_pos c7] at H
     have c7b0 : decide (0 < (l1.length : Int)) = true := decide_eq_true c7
     have c7b1 : decide (0 < l1.length) = true := decide_eq_true (by omega)
     clear c7
     by_cases c8 : (((rd_T49 l0 (ji4)).f0) == ((rd_T49 l1 0).f0) && (((rd_T49 l0 (ji4)).f1) == ((rd_T49 l1 0).f1))) = true
     ·rw [if_pos c8] at H
      have c8b0 : (((rd_T49 l0 (ji4)).f0) == ((rd_T49 l1 0).f0) && (((rd_T49 l0 (ji4)).f1) == ((rd_T49 l1 0).f1))) = true := c8
      (try (have c8b1 : decide (((rd_T49 l0 (ji4)).f0) = ((rd_T49 l1 0).f0) && (((rd_T49 l0 (ji4)).f1) == ((rd_T49 l1 0).f1))) = true := by simpa using c8))
      (try (have c8b2 : (((rd_T49 l0 (ji4)).f0) == ((rd_T49 l1 0).f0) && (((rd_T49 l0 (ji4)).f1) == ((rd_T49 l1 0).f1))) = true := by simpa using c8))
      clear c8
      by_cases c9 : 1 ≤ (l1.length : Int)
      ·rw [if_pos c9] at H
       have c9b0 := eq_true c9
       have c9b1 : decide (1 ≤ (l1.length : Int)) = true := decide_eq_true c9
       clear c9
       obtain ⟨y259, hy259⟩ : ∃ y_ : List (S49), y_ = (l1.drop 1) := ⟨_, rfl⟩
       replace H : ((impl_Place_56.f k (([l0, y259] : List (List (S49))))).bind fun t267 => (if 0 < (t267.length : Int) then (some t267) else none)) = some r := by first | (rw [hy259]; with_reducible exact H) | (have H2_ := (Option.bind_some _ _).symm.trans H; rw [hy259]; with_reducible exact H2_) | (have H2_ := (Option.bind_some _ _).symm.trans H; with_reducible exact H2_) | with_reducible exact H | (rw [hy259]; exact H) | exact H
       have Ny259 := Aside0.mk hy259
       clear hy259
       obtain ⟨y264, hy264⟩ : ∃ y_ : List (List (S49)), y_ = (([l0, y259] : List (List (S49)))) := ⟨_, rfl⟩
       replace H : ((impl_Place_56.f k y264).bind fun t267 => (if 0 < (t267.length : Int) then (some t267) else none)) = some r := by first | (rw [hy264]; with_reducible exact H) | (have H2_ := (Option.bind_some _ _).symm.trans H; rw [hy264]; with_reducible exact H2_) | (have H2_ := (Option.bind_some _ _).symm.trans H; with_reducible exact H2_) | with_reducible exact H | (rw [hy264]; exact H) | exact H
       have Ny264 := Aside0.mk hy264
       clear hy264
       replace H := Option.bind_eq_some_iff.mp H
       obtain ⟨t267, A100, H⟩ := H
       replace H : (if 0 < (t267.length : Int) then (some t267) else none) = some r := H
       have hnz_ : 0 < (t267.length : Int) := by
        by_cases hz_ : 0 < (t267.length : Int)
        ·exact hz_
        ·rw [if_neg hz_] at H; cases H
       rw [if_pos hnz_] at H
       have HNZ := Aside0.mk (show t267 ≠ [] from fun h_ => by rw [h_] at hnz_; simp at hnz_)
       clear hnz_
       have A10 := Aside0.mk A100
       clear A100
       obtain rfl := Option.some.inj H
       go_enter Try.func36, Try.ntmps36
       try go_wp2
       have n0_ := Aside0.mk (Kd.V_drew HO0.out)
       have n1_ := Aside0.mk (Kd.V_drew HO1.out)
       have n2_ := Aside0.mk (below_drew1 HB.out)
       clear HO0 HO1 HB
       have HO0 := n0_; have HO1 := n1_; have HB := n2_
       clear n0_ n1_ n2_
       have p254 : 0 ≤ (0 : Int) := (by omega)
       have q254 : 0 < (l0.length : Int) := od_
       obtain ⟨ad254, e254, hx254_0, hx254_1⟩ := at_T49 (Kd.V_reads' HO0.out).2.2 0 p254 q254
       cases e254
       have qi254 : (0 < l0.length) = True := eq_true (by omega)
       (try rw [show ((0 : Int)).toNat = 0 from rfl] at hx254_0)
       (try rw [show 0 * 2 = 0 from rfl] at hx254_0)
       (try rw [Addr.add_zero'] at hx254_0)
       (try rw [show ((0 : Int)).toNat = 0 from rfl] at hx254_1)
       (try rw [show 0 * 2 = 0 from rfl] at hx254_1)
       (try rw [Addr.add_zero'] at hx254_1)
       replace p254 := eq_true p254
       replace q254 := eq_true q254
       have p255 : 0 ≤ ((ji4) : Int) := od_
       have q255 : (ji4) < (l0.length : Int) := od_
       obtain ⟨ad255, e255, hx255_0, hx255_1⟩ := at_T49 (Kd.V_reads' HO0.out).2.2 (ji4) p255 q255
       obtain rfl : ad254 = ad255 := (by injection e255)
       replace p255 := eq_true p255
       replace q255 := eq_true q255
       refine start_ (n := 13) (S := fun w' => w'.cell? ad254 = some (.int .i64 ((rd_T49 l0 0).f0)) ∧ w'.cell? ⟨ad254.block, ad254.off + 1, none⟩ = some (.int .i64 ((rd_T49 l0 0).f1)) ∧ w'.cell? (ad254.add (((ji4)).toNat * 2)) = some (.int .i64 ((rd_T49 l0 (ji4)).f0)) ∧ w'.cell? ⟨(ad254.add (((ji4)).toNat * 2)).block, (ad254.add (((ji4)).toNat * 2)).off + 1, none⟩ = some (.int .i64 ((rd_T49 l0 (ji4)).f1))) (ds := []) #[false, false, false, false, false, false, false, false, false, false, false, false, false] (by kernel_rfl) rfl rfl ⟨hx254_0, hx254_1, hx255_0, hx255_1⟩ (fun hHeld => ?_); refine with_tabW impl_join.tab1 impl_join.bits1 (fun HT_ HW_ => ?_)
       generalize w.drew = w11 at HO0 HO1 HB hx254_0 hx254_1 hx255_0 hx255_1 hHeld ⊢
       refine pure_ (i := 0) (N := some 7) (v := ?_) (a' := ?_) #[true, false, false, false, false, false, false, false, false, false, false, false, false] rfl rfl (any_of HT_.out (by kernel_rfl)) (fun _ _ _ h => h) (Or.inl ⟨by rfl, ?_⟩) ?_ ?_
       rotate_left
       ·intro w'
        go_simp
        with_reducible rfl
       rotate_left
       ·simp only [Act.put, List.setIfInBounds_toArray, List.set_cons_zero, List.set_cons_succ, i64_w, i32_w]
        rfl
       refine pure_ (i := 1) (N := some 8) (v := ?_) (a' := ?_) #[true, true, false, false, false, false, false, false, false, false, false, false, false] rfl rfl (any_of HT_.out (by kernel_rfl)) (fun _ _ _ h => h) (Or.inl ⟨by rfl, ?_⟩) ?_ ?_
       rotate_left
       ·intro w'
        go_simp
        with_reducible rfl
       rotate_left
       ·simp only [Act.put, List.setIfInBounds_toArray, List.set_cons_zero, List.set_cons_succ, i64_w, i32_w]
        rfl
       refine pure_ (i := 3) (N := some 10) (v := ?_) (a' := ?_) #[true, true, false, true, false, false, false, false, false, false, false, false, false] rfl rfl (any_of HT_.out (by kernel_rfl)) (fun _ _ _ h => h) (Or.inl ⟨by rfl, ?_⟩) ?_ ?_
       rotate_left
       ·intro w'
        go_simp
        with_reducible rfl
       rotate_left
       ·simp only [Act.put, List.setIfInBounds_toArray, List.set_cons_zero, List.set_cons_succ, i64_w, i32_w]
        rfl
       refine pure_ (i := 4) (N := some 11) (v := ?_) (a' := ?_) #[true, true, false, true, true, false, false, false, false, false, false, false, false] rfl rfl (any_of HT_.out (by kernel_rfl)) (fun _ _ _ h => h) (Or.inl ⟨by rfl, ?_⟩) ?_ ?_
       rotate_left
       ·intro w'
        go_simp
        with_reducible rfl
       rotate_left
       ·simp only [Act.put, List.setIfInBounds_toArray, List.set_cons_zero, List.set_cons_succ, i64_w, i32_w]
        rfl
       refine pure_ (i := 5) (N := some 12) (v := ?_) (a' := ?_) #[true, true, false, true, true, true, false, false, false, false, false, false, false] rfl rfl (any_of HT_.out (by kernel_rfl)) (fun _ _ _ h => h) (Or.inl ⟨by rfl, ?_⟩) ?_ ?_
       rotate_left
       ·intro w'
        go_simp
        with_reducible rfl
       rotate_left
       ·simp only [Act.put, List.setIfInBounds_toArray, List.set_cons_zero, List.set_cons_succ, i64_w, i32_w]
        rfl
       refine pure_ (i := 6) (N := some 13) (v := ?_) (a' := ?_) #[true, true, false, true, true, true, true, false, false, false, false, false, false] rfl rfl (any_of HT_.out (by kernel_rfl)) (fun _ _ _ h => h) (Or.inl ⟨by rfl, ?_⟩) ?_ ?_
       rotate_left
       ·intro w'
        go_simp
        with_reducible rfl
       rotate_left
       ·simp only [Act.put, List.setIfInBounds_toArray, List.set_cons_zero, List.set_cons_succ, i64_w, i32_w]
        rfl
       refine pure_ (i := 7) (N := some 14) (v := ?_) (a' := ?_) #[true, true, false, true, true, true, true, true, false, false, false, false, false] rfl rfl (any_of HT_.out (by kernel_rfl)) (fun _ _ _ h => h) (Or.inl ⟨by rfl, ?_⟩) ?_ ?_
       rotate_left
       ·intro w'
        go_simp
        with_reducible rfl
       rotate_left
       ·simp only [Act.put, List.setIfInBounds_toArray, List.set_cons_zero, List.set_cons_succ, i64_w, i32_w]
        rfl
       refine take_ (i := 2) (N := some 9) (v := ?_) (a' := ?_) #[true, true, true, true, true, true, true, true, false, false, false, false, false] rfl rfl (take_ofW HT_.out HW_.out (by kernel_rfl)) (fun _ _ _ h => h) (Or.inl ⟨by rfl, ?_⟩) hHeld ?_ ?_
       rotate_left
       ·rintro w' ⟨s0, s1, s2, s3⟩
        go_simp
        with_reducible rfl
       rotate_left
       ·simp only [Act.put, List.setIfInBounds_toArray, List.set_cons_zero, List.set_cons_succ, i64_w, i32_w]
        rfl
       refine take_ (i := 8) (N := some 15) (v := ?_) (a' := ?_) #[true, true, true, true, true, true, true, true, true, false, false, false, false] rfl rfl (take_ofW HT_.out HW_.out (by kernel_rfl)) (fun _ _ _ h => h) (Or.inl ⟨by rfl, ?_⟩) hHeld ?_ ?_
       rotate_left
       ·rintro w' ⟨s0, s1, s2, s3⟩
        go_simp
        with_reducible rfl
       rotate_left
       ·simp only [Act.put, List.setIfInBounds_toArray, List.set_cons_zero, List.set_cons_succ, i64_w, i32_w]
        rfl
       refine join_ (σ := Nat × Nat) 2 #[true, true, true, true, true, true, true, true, true, true, true, false, false] (fun s_ => [(5, .pointer (some ⟨s_.1, 0, none⟩)), (6, .pointer (some ⟨s_.2, 0, none⟩))]) (fun s_ w' => (w'.cell? ad254 = some (.int .i64 ((rd_T49 l0 0).f0)) ∧ w'.cell? ⟨ad254.block, ad254.off + 1, none⟩ = some (.int .i64 ((rd_T49 l0 0).f1)) ∧ w'.cell? (ad254.add (((ji4)).toNat * 2)) = some (.int .i64 ((rd_T49 l0 (ji4)).f0)) ∧ w'.cell? ⟨(ad254.add (((ji4)).toNat * 2)).block, (ad254.add (((ji4)).toNat * 2)).off + 1, none⟩ = some (.int .i64 ((rd_T49 l0 (ji4)).f1))) ∧ (Kd.V k49 49 w' w.heap.size (fun k_ => ((P0_ k_ ∨ P1_ k_) ∨ w.heap.size ≤ k_) ∧ k_ ≠ s_.1 ∧ k_ ≠ s_.2) (.slice (some ad254) l0.length c0) l0) ∧ (Kd.V k49 49 w' w.heap.size (fun k_ => ((P0_ k_ ∨ P1_ k_) ∨ w.heap.size ≤ k_) ∧ k_ ≠ s_.1 ∧ k_ ≠ s_.2) (.slice A1 l1.length c1) l1) ∧ (w'.heap[s_.1]? = some (.cells #[.int .i64 0, .int .i64 0] 49 (0, 0))) ∧ (w'.heap[s_.2]? = some (.cells #[.int .i64 0, .int .i64 0] 49 (0, 0))) ∧ (w.heap.size ≤ s_.1) ∧ (w.heap.size ≤ s_.1) ∧ (s_.2 ≠ s_.1) ∧ (s_.1 ≠ s_.2) ∧ (w.heap.size ≤ s_.2) ∧ (w.heap.size ≤ s_.2) ∧ (Below w.heap.size w w')) ?_ ?_
       rotate_left
       ·intro hCont
        refine two_ (i := 9) (j := 10) (Ni := some 5) (Nj := some 6) #[true, true, true, true, true, true, true, true, true, true, false, false, false] #[true, true, true, true, true, true, true, true, true, false, true, false, false] rfl rfl rfl rfl (two_of HT_.out (by kernel_rfl)) (by decide) (by decide) (fun K hK => ?_) (fun K hK => ?_)
        ·skip
         refine box_step ?hg (N := 5) ?hd (cs := #[.int .i64 0, .int .i64 0]) (t := 49) ?hr ?_; (case hd => rfl); (case hg => rfl); (case hr => first | (go_simp; done) | (go_simp; rfl))
         intro gb256 hg w12 hbox hb
         have HS0_ := hs_ hb hHeld.1
         have HS1_ := hs_ hb hHeld.2.1
         have HS2_ := hs_ hb hHeld.2.2.1
         have HS3_ := hs_ hb hHeld.2.2.2
         have n0_ := Aside0.mk (Kd.V_below (Kd.V_elderB (vk_ HO0.out) gb256 (Nat.le_of_eq hg.symm)) hb)
         have n1_ := Aside0.mk (Kd.V_below (Kd.V_elderB (vk_ HO1.out) gb256 (Nat.le_of_eq hg.symm)) hb)
         have n2_ := Aside0.mk (below_step (bw_ HB.out) hb)
         have n3_ := Aside0.mk (hbox)
         have n4_ := Aside0.mk ((ge_ hg (bw_ HB.out)))
         have n5_ := Aside0.mk ((ge_ hg (bw_ HB.out)))
         clear HO0 HO1 HB
         have HO0 := n0_; have HO1 := n1_; have HB := n2_; have BK256 := n3_; have GW256 := n4_; have GE256 := n5_
         clear n0_ n1_ n2_ n3_ n4_ n5_ hb hbox hg
         refine hK.out _ _ ⟨HS0_, HS1_, HS2_, HS3_⟩ (fun hHeld => ?_)
         clear hK K
         refine norm_ (a' := ?_) ?_ ?_
         rotate_left
         ·show Act.put _ (some 5) _ = _
          simp only [Act.put, List.setIfInBounds_toArray, List.set_cons_zero, List.set_cons_succ, i64_w, i32_w]
          rfl
         refine one_ (i := 10) (N := some 6) #[true, true, true, true, true, true, true, true, true, true, true, false, false] rfl rfl (one_of HT_.out (by kernel_rfl)) (by decide) (fun K hK => ?_)
         refine box_step ?hg (N := 6) ?hd (cs := #[.int .i64 0, .int .i64 0]) (t := 49) ?hr ?_; (case hd => rfl); (case hg => rfl); (case hr => first | (go_simp; done) | (go_simp; rfl))
         intro gb257 hg w13 hbox hb
         have HS0_ := hs_ hb hHeld.1
         have HS1_ := hs_ hb hHeld.2.1
         have HS2_ := hs_ hb hHeld.2.2.1
         have HS3_ := hs_ hb hHeld.2.2.2
         have n0_ := Aside0.mk (Kd.V_below (Kd.V_elderB (vk_ HO0.out) gb257 (Nat.le_of_eq hg.symm)) hb)
         have n1_ := Aside0.mk (Kd.V_below (Kd.V_elderB (vk_ HO1.out) gb257 (Nat.le_of_eq hg.symm)) hb)
         have n2_ := Aside0.mk (blk_below (bk_ BK256.out) hb)
         have n3_ := Aside0.mk (below_step (bwg_ GE256.out HB.out) hb)
         have n4_ := Aside0.mk (hbox)
         have n5_ := Aside0.mk ((by rw [hg]; exact (below_size (bwg_ GE256.out HB.out)) : w.heap.size ≤ gb257))
         have n6_ := Aside0.mk ((by rw [hg]; exact (below_size (bwg_ GE256.out HB.out)) : w.heap.size ≤ gb257))
         have n7_ := Aside0.mk ((ne1_ hg (bk_ BK256.out)))
         have n8_ := Aside0.mk ((ne2_ hg (bk_ BK256.out)))
         clear HO0 HO1 BK256 HB
         have HO0 := n0_; have HO1 := n1_; have BK256 := n2_; have HB := n3_; have BK257 := n4_; have GW257 := n5_; have GE257 := n6_; have NB256_257 := n7_; have NB257_256 := n8_
         clear n0_ n1_ n2_ n3_ n4_ n5_ n6_ n7_ n8_ hb hbox hg
         refine hK.out _ _ ⟨HS0_, HS1_, HS2_, HS3_⟩ (fun hHeld => ?_)
         clear hK K
         refine norm_ (a' := ?_) ?_ ?_
         rotate_left
         ·show Act.put _ (some 6) _ = _
          simp only [Act.put, List.setIfInBounds_toArray, List.set_cons_zero, List.set_cons_succ, i64_w, i32_w]
          rfl
         exact norm_ (by simp only [putAll, Act.put, List.setIfInBounds_toArray, List.set_cons_zero, List.set_cons_succ]) (hCont (gb256, gb257) _ ⟨hHeld, (by (with_reducible repeat (first | apply Kd.V_alloc | apply Kd.V_drewN | apply Kd.V_drew)); exact Kd.V_mono HO0.out (fun _ hk => ⟨hk.1.1, ⟨hk.1.2, hk.2⟩⟩)), (by (with_reducible repeat (first | apply Kd.V_alloc | apply Kd.V_drewN | apply Kd.V_drew)); exact Kd.V_mono HO1.out (fun _ hk => ⟨hk.1.1, ⟨hk.1.2, hk.2⟩⟩)), (bk_ BK256.out), (bk_ BK257.out), GW256.out, GE256.out, NB257_256.out, NB256_257.out, GW257.out, GE257.out, (bws_ HB.out)⟩)
        ·skip
         refine box_step ?hg (N := 6) ?hd (cs := #[.int .i64 0, .int .i64 0]) (t := 49) ?hr ?_; (case hd => rfl); (case hg => rfl); (case hr => first | (go_simp; done) | (go_simp; rfl))
         intro gb257 hg w12 hbox hb
         have HS0_ := hs_ hb hHeld.1
         have HS1_ := hs_ hb hHeld.2.1
         have HS2_ := hs_ hb hHeld.2.2.1
         have HS3_ := hs_ hb hHeld.2.2.2
         have n0_ := Aside0.mk (Kd.V_below (Kd.V_elderB (vk_ HO0.out) gb257 (Nat.le_of_eq hg.symm)) hb)
         have n1_ := Aside0.mk (Kd.V_below (Kd.V_elderB (vk_ HO1.out) gb257 (Nat.le_of_eq hg.symm)) hb)
         have n2_ := Aside0.mk (below_step (bw_ HB.out) hb)
         have n3_ := Aside0.mk (hbox)
         have n4_ := Aside0.mk ((ge_ hg (bw_ HB.out)))
         have n5_ := Aside0.mk ((ge_ hg (bw_ HB.out)))
         clear HO0 HO1 HB
         have HO0 := n0_; have HO1 := n1_; have HB := n2_; have BK257 := n3_; have GW257 := n4_; have GE257 := n5_
         clear n0_ n1_ n2_ n3_ n4_ n5_ hb hbox hg
         refine hK.out _ _ ⟨HS0_, HS1_, HS2_, HS3_⟩ (fun hHeld => ?_)
         clear hK K
         refine norm_ (a' := ?_) ?_ ?_
         rotate_left
         ·show Act.put _ (some 6) _ = _
          simp only [Act.put, List.setIfInBounds_toArray, List.set_cons_zero, List.set_cons_succ, i64_w, i32_w]
          rfl
         refine one_ (i := 9) (N := some 5) #[true, true, true, true, true, true, true, true, true, true, true, false, false] rfl rfl (one_of HT_.out (by kernel_rfl)) (by decide) (fun K hK => ?_)
         refine box_step ?hg (N := 5) ?hd (cs := #[.int .i64 0, .int .i64 0]) (t := 49) ?hr ?_; (case hd => rfl); (case hg => rfl); (case hr => first | (go_simp; done) | (go_simp; rfl))
         intro gb256 hg w13 hbox hb
         have HS0_ := hs_ hb hHeld.1
         have HS1_ := hs_ hb hHeld.2.1
         have HS2_ := hs_ hb hHeld.2.2.1
         have HS3_ := hs_ hb hHeld.2.2.2
         have n0_ := Aside0.mk (Kd.V_below (Kd.V_elderB (vk_ HO0.out) gb256 (Nat.le_of_eq hg.symm)) hb)
         have n1_ := Aside0.mk (Kd.V_below (Kd.V_elderB (vk_ HO1.out) gb256 (Nat.le_of_eq hg.symm)) hb)
         have n2_ := Aside0.mk (blk_below (bk_ BK257.out) hb)
         have n3_ := Aside0.mk (below_step (bwg_ GE257.out HB.out) hb)
         have n4_ := Aside0.mk (hbox)
         have n5_ := Aside0.mk ((by rw [hg]; exact (below_size (bwg_ GE257.out HB.out)) : w.heap.size ≤ gb256))
         have n6_ := Aside0.mk ((by rw [hg]; exact (below_size (bwg_ GE257.out HB.out)) : w.heap.size ≤ gb256))
         have n7_ := Aside0.mk ((ne1_ hg (bk_ BK257.out)))
         have n8_ := Aside0.mk ((ne2_ hg (bk_ BK257.out)))
         clear HO0 HO1 BK257 HB
         have HO0 := n0_; have HO1 := n1_; have BK257 := n2_; have HB := n3_; have BK256 := n4_; have GW256 := n5_; have GE256 := n6_; have NB257_256 := n7_; have NB256_257 := n8_
         clear n0_ n1_ n2_ n3_ n4_ n5_ n6_ n7_ n8_ hb hbox hg
         refine hK.out _ _ ⟨HS0_, HS1_, HS2_, HS3_⟩ (fun hHeld => ?_)
         clear hK K
         refine norm_ (a' := ?_) ?_ ?_
         rotate_left
         ·show Act.put _ (some 5) _ = _
          simp only [Act.put, List.setIfInBounds_toArray, List.set_cons_zero, List.set_cons_succ, i64_w, i32_w]
          rfl
         exact norm_ (by simp only [putAll, Act.put, List.setIfInBounds_toArray, List.set_cons_zero, List.set_cons_succ]) (hCont (gb256, gb257) _ ⟨hHeld, (by (with_reducible repeat (first | apply Kd.V_alloc | apply Kd.V_drewN | apply Kd.V_drew)); exact Kd.V_mono HO0.out (fun _ hk => ⟨hk.1.1, ⟨hk.2, hk.1.2⟩⟩)), (by (with_reducible repeat (first | apply Kd.V_alloc | apply Kd.V_drewN | apply Kd.V_drew)); exact Kd.V_mono HO1.out (fun _ hk => ⟨hk.1.1, ⟨hk.2, hk.1.2⟩⟩)), (bk_ BK256.out), (bk_ BK257.out), GW256.out, GE256.out, NB257_256.out, NB256_257.out, GW257.out, GE257.out, (bws_ HB.out)⟩)
       rintro ⟨gb256, gb257⟩ w14 ⟨hS_, h0_, h1_, h2_, h3_, h4_, h5_, h6_, h7_, h8_, h9_, h10_⟩
       have n0_ : Aside0 (Kd.V k49 49 w14 w.heap.size (fun k_ => ((P0_ k_ ∨ P1_ k_) ∨ w.heap.size ≤ k_) ∧ k_ ≠ gb256 ∧ k_ ≠ gb257) (.slice (some ad254) l0.length c0) l0) := ⟨h0_⟩
       have n1_ : Aside0 (Kd.V k49 49 w14 w.heap.size (fun k_ => ((P0_ k_ ∨ P1_ k_) ∨ w.heap.size ≤ k_) ∧ k_ ≠ gb256 ∧ k_ ≠ gb257) (.slice A1 l1.length c1) l1) := ⟨h1_⟩
       have n2_ : Aside0 (w14.heap[gb256]? = some (.cells #[.int .i64 0, .int .i64 0] 49 (0, 0))) := ⟨h2_⟩
       have n3_ : Aside0 (w14.heap[gb257]? = some (.cells #[.int .i64 0, .int .i64 0] 49 (0, 0))) := ⟨h3_⟩
       have n4_ : Aside0 (w.heap.size ≤ gb256) := ⟨h4_⟩
       have n5_ : Aside0 (w.heap.size ≤ gb256) := ⟨h5_⟩
       have n6_ : Aside0 (gb257 ≠ gb256) := ⟨h6_⟩
       have n7_ : Aside0 (gb256 ≠ gb257) := ⟨h7_⟩
       have n8_ : Aside0 (w.heap.size ≤ gb257) := ⟨h8_⟩
       have n9_ : Aside0 (w.heap.size ≤ gb257) := ⟨h9_⟩
       have n10_ : Aside0 (Below w.heap.size w w14) := ⟨h10_⟩
       clear HO0 HO1 HB h0_ h1_ h2_ h3_ h4_ h5_ h6_ h7_ h8_ h9_ h10_
       have HO0 := n0_; have HO1 := n1_; have BK256 := n2_; have BK257 := n3_; have GW256 := n4_; have GE256 := n5_; have NB257_256 := n6_; have NB256_257 := n7_; have GW257 := n8_; have GE257 := n9_
       have HB := n10_
       clear n0_ n1_ n2_ n3_ n4_ n5_ n6_ n7_ n8_ n9_ n10_
       have hHeld : w14.cell? ad254 = some (.int .i64 ((rd_T49 l0 0).f0)) ∧ w14.cell? ⟨ad254.block, ad254.off + 1, none⟩ = some (.int .i64 ((rd_T49 l0 0).f1)) ∧ w14.cell? (ad254.add (((ji4)).toNat * 2)) = some (.int .i64 ((rd_T49 l0 (ji4)).f0)) ∧ w14.cell? ⟨(ad254.add (((ji4)).toNat * 2)).block, (ad254.add (((ji4)).toNat * 2)).off + 1, none⟩ = some (.int .i64 ((rd_T49 l0 (ji4)).f1)) := hS_
       refine norm_ (a' := ?_) ?_ ?_
       rotate_left
       ·simp only [putAll, Act.put, List.setIfInBounds_toArray, List.set_cons_zero, List.set_cons_succ]
        rfl
       refine one_ (i := 11) (N := none) #[true, true, true, true, true, true, true, true, true, true, true, true, false] rfl rfl (one_of HT_.out (by kernel_rfl)) (by decide) (fun K hK => ?_)
       have hs15 : w14.cell? ⟨gb256, 0, none⟩ = some (.int .i64 0) := (blk_cell BK256.out 0).trans rfl
       have hfs15 := blk_frozen BK256.out 0
       have hns15_1 := NB257_256.out
       have hms15_1 := NB256_257.out
       have hs16 : w14.cell? ⟨gb256, 1, none⟩ = some (.int .i64 0) := (blk_cell BK256.out 1).trans rfl
       have hfs16 := blk_frozen BK256.out 1
       have hns16_1 := NB257_256.out
       have hms16_1 := NB256_257.out
       refine skip_ (w1 := ?_) (by rfl) rfl ?_ ?_
       rotate_left
       ·go_simp
        rfl
       refine hK.out _ _ ⟨(far2_ (by first | (rw [add_block]; exact vaw_ HO0.out (fun _ hk => hk.2.1) od_) | exact vaw_ HO0.out (fun _ hk => hk.2.1) od_ | (dsimp only; exact vaw_ HO0.out (fun _ hk => hk.2.1) od_)) hHeld.1), (far2_ (by first | (rw [add_block]; exact vaw_ HO0.out (fun _ hk => hk.2.1) od_) | exact vaw_ HO0.out (fun _ hk => hk.2.1) od_ | (dsimp only; exact vaw_ HO0.out (fun _ hk => hk.2.1) od_)) hHeld.2.1), (far2_ (by first | (rw [add_block]; exact vaw_ HO0.out (fun _ hk => hk.2.1) od_) | exact vaw_ HO0.out (fun _ hk => hk.2.1) od_ | (dsimp only; exact vaw_ HO0.out (fun _ hk => hk.2.1) od_)) hHeld.2.2.1), (far2_ (by first | (rw [add_block]; exact vaw_ HO0.out (fun _ hk => hk.2.1) od_) | exact vaw_ HO0.out (fun _ hk => hk.2.1) od_ | (dsimp only; exact vaw_ HO0.out (fun _ hk => hk.2.1) od_)) hHeld.2.2.2)⟩ (fun hHeld => ?_)
       clear hK K
       refine one_ (i := 12) (N := none) #[true, true, true, true, true, true, true, true, true, true, true, true, true] rfl rfl (one_of HT_.out (by kernel_rfl)) (by decide) (fun K hK => ?_)
       have hs17 : w14.cell? ⟨gb257, 0, none⟩ = some (.int .i64 0) := (blk_cell BK257.out 0).trans rfl
       have hfs17 := blk_frozen BK257.out 0
       have hns17_0 := NB256_257.out
       have hms17_0 := NB257_256.out
       have hs18 : w14.cell? ⟨gb257, 1, none⟩ = some (.int .i64 0) := (blk_cell BK257.out 1).trans rfl
       have hfs18 := blk_frozen BK257.out 1
       have hns18_0 := NB256_257.out
       have hms18_0 := NB257_256.out
       refine skip_ (w1 := ?_) (by rfl) rfl ?_ ?_
       rotate_left
       ·go_simp
        rfl
       refine hK.out _ _ ⟨(far2_ (by first | (rw [add_block]; exact vaw_ HO0.out (fun _ hk => hk.2.2) od_) | exact vaw_ HO0.out (fun _ hk => hk.2.2) od_ | (dsimp only; exact vaw_ HO0.out (fun _ hk => hk.2.2) od_)) hHeld.1), (far2_ (by first | (rw [add_block]; exact vaw_ HO0.out (fun _ hk => hk.2.2) od_) | exact vaw_ HO0.out (fun _ hk => hk.2.2) od_ | (dsimp only; exact vaw_ HO0.out (fun _ hk => hk.2.2) od_)) hHeld.2.1), (far2_ (by first | (rw [add_block]; exact vaw_ HO0.out (fun _ hk => hk.2.2) od_) | exact vaw_ HO0.out (fun _ hk => hk.2.2) od_ | (dsimp only; exact vaw_ HO0.out (fun _ hk => hk.2.2) od_)) hHeld.2.2.1), (far2_ (by first | (rw [add_block]; exact vaw_ HO0.out (fun _ hk => hk.2.2) od_) | exact vaw_ HO0.out (fun _ hk => hk.2.2) od_ | (dsimp only; exact vaw_ HO0.out (fun _ hk => hk.2.2) od_)) hHeld.2.2.2)⟩ (fun hHeld => ?_)
       clear hK K
       refine done_ (done_of HT_.out (by kernel_rfl)) ?_
       try go_wp2
       have n0_ : Aside0 (Kd.V k49 49 ((((w14.setCell ⟨gb256, 0, none⟩ (.int .i64 ((rd_T49 l0 0).f0))).setCell ⟨gb256, 1, none⟩ (.int .i64 ((rd_T49 l0 0).f1))).setCell ⟨gb257, 0, none⟩ (.int .i64 ((rd_T49 l0 (ji4)).f0))).setCell ⟨gb257, 1, none⟩ (.int .i64 ((rd_T49 l0 (ji4)).f1))) w.heap.size (fun k_ => ((P0_ k_ ∨ P1_ k_) ∨ w.heap.size ≤ k_) ∧ k_ ≠ gb256 ∧ k_ ≠ gb257) (.slice (some ad254) l0.length c0) l0) := ⟨by (with_reducible repeat (first | apply Kd.V_alloc | apply Kd.V_drewN | apply Kd.V_drew)); exact Kd.V_mono (Kd.V_far (p := ⟨gb257, 1, none⟩) (Kd.V_far (p := ⟨gb257, 0, none⟩) (Kd.V_far (p := ⟨gb256, 1, none⟩) (Kd.V_far (p := ⟨gb256, 0, none⟩) (Kd.V_mono (Kd.V_mono HO0.out (fun k_ hk => (⟨hk, hk.2.1⟩ : _ ∧ k_ ≠ gb256))) (fun k_ hk => (⟨hk, hk.1.2.2⟩ : _ ∧ k_ ≠ gb257))) (fun _ hk => hk.1.2) (.int .i64 ((rd_T49 l0 0).f0))) (fun _ hk => hk.1.2) (.int .i64 ((rd_T49 l0 0).f1))) (fun _ hk => hk.2) (.int .i64 ((rd_T49 l0 (ji4)).f0))) (fun _ hk => hk.2) (.int .i64 ((rd_T49 l0 (ji4)).f1))) (fun _ hk => ⟨hk.1.1.1, ⟨hk.1.1.2.1, hk.1.1.2.2⟩⟩)⟩
       have n1_ : Aside0 (Kd.V k49 49 ((((w14.setCell ⟨gb256, 0, none⟩ (.int .i64 ((rd_T49 l0 0).f0))).setCell ⟨gb256, 1, none⟩ (.int .i64 ((rd_T49 l0 0).f1))).setCell ⟨gb257, 0, none⟩ (.int .i64 ((rd_T49 l0 (ji4)).f0))).setCell ⟨gb257, 1, none⟩ (.int .i64 ((rd_T49 l0 (ji4)).f1))) w.heap.size (fun k_ => ((P0_ k_ ∨ P1_ k_) ∨ w.heap.size ≤ k_) ∧ k_ ≠ gb256 ∧ k_ ≠ gb257) (.slice A1 l1.length c1) l1) := ⟨by (with_reducible repeat (first | apply Kd.V_alloc | apply Kd.V_drewN | apply Kd.V_drew)); exact Kd.V_mono (Kd.V_far (p := ⟨gb257, 1, none⟩) (Kd.V_far (p := ⟨gb257, 0, none⟩) (Kd.V_far (p := ⟨gb256, 1, none⟩) (Kd.V_far (p := ⟨gb256, 0, none⟩) (Kd.V_mono (Kd.V_mono HO1.out (fun k_ hk => (⟨hk, hk.2.1⟩ : _ ∧ k_ ≠ gb256))) (fun k_ hk => (⟨hk, hk.1.2.2⟩ : _ ∧ k_ ≠ gb257))) (fun _ hk => hk.1.2) (.int .i64 ((rd_T49 l0 0).f0))) (fun _ hk => hk.1.2) (.int .i64 ((rd_T49 l0 0).f1))) (fun _ hk => hk.2) (.int .i64 ((rd_T49 l0 (ji4)).f0))) (fun _ hk => hk.2) (.int .i64 ((rd_T49 l0 (ji4)).f1))) (fun _ hk => ⟨hk.1.1.1, ⟨hk.1.1.2.1, hk.1.1.2.2⟩⟩)⟩
       have n2_ : Aside0 (((((w14.setCell ⟨gb256, 0, none⟩ (.int .i64 ((rd_T49 l0 0).f0))).setCell ⟨gb256, 1, none⟩ (.int .i64 ((rd_T49 l0 0).f1))).setCell ⟨gb257, 0, none⟩ (.int .i64 ((rd_T49 l0 (ji4)).f0))).setCell ⟨gb257, 1, none⟩ (.int .i64 ((rd_T49 l0 (ji4)).f1))).heap[gb256]? = some (.cells #[.int .i64 ((rd_T49 l0 0).f0), .int .i64 ((rd_T49 l0 0).f1)] 49 (0, 0))) := ⟨by (with_reducible repeat (first | refine blk_drewN ?_ _ | refine blk_drew ?_ | refine blk_alloc ?_ _)); refine blk_far ?_ NB256_257.out _; (with_reducible repeat (first | refine blk_drewN ?_ _ | refine blk_drew ?_ | refine blk_alloc ?_ _)); refine blk_far ?_ NB256_257.out _; (with_reducible repeat (first | refine blk_drewN ?_ _ | refine blk_drew ?_ | refine blk_alloc ?_ _)); refine blk_put (cs := #[.int .i64 ((rd_T49 l0 0).f0), .int .i64 0]) ?_ 1 _ rfl; (with_reducible repeat (first | refine blk_drewN ?_ _ | refine blk_drew ?_ | refine blk_alloc ?_ _)); refine blk_put (cs := #[.int .i64 0, .int .i64 0]) ?_ 0 _ rfl; (with_reducible repeat (first | refine blk_drewN ?_ _ | refine blk_drew ?_ | refine blk_alloc ?_ _)); exact BK256.out⟩
       have n3_ : Aside0 (((((w14.setCell ⟨gb256, 0, none⟩ (.int .i64 ((rd_T49 l0 0).f0))).setCell ⟨gb256, 1, none⟩ (.int .i64 ((rd_T49 l0 0).f1))).setCell ⟨gb257, 0, none⟩ (.int .i64 ((rd_T49 l0 (ji4)).f0))).setCell ⟨gb257, 1, none⟩ (.int .i64 ((rd_T49 l0 (ji4)).f1))).heap[gb257]? = some (.cells #[.int .i64 ((rd_T49 l0 (ji4)).f0), .int .i64 ((rd_T49 l0 (ji4)).f1)] 49 (0, 0))) := ⟨by (with_reducible repeat (first | refine blk_drewN ?_ _ | refine blk_drew ?_ | refine blk_alloc ?_ _)); refine blk_put (cs := #[.int .i64 ((rd_T49 l0 (ji4)).f0), .int .i64 0]) ?_ 1 _ rfl; (with_reducible repeat (first | refine blk_drewN ?_ _ | refine blk_drew ?_ | refine blk_alloc ?_ _)); refine blk_put (cs := #[.int .i64 0, .int .i64 0]) ?_ 0 _ rfl; (with_reducible repeat (first | refine blk_drewN ?_ _ | refine blk_drew ?_ | refine blk_alloc ?_ _)); refine blk_far ?_ NB257_256.out _; (with_reducible repeat (first | refine blk_drewN ?_ _ | refine blk_drew ?_ | refine blk_alloc ?_ _)); refine blk_far ?_ NB257_256.out _; (with_reducible repeat (first | refine blk_drewN ?_ _ | refine blk_drew ?_ | refine blk_alloc ?_ _)); exact BK257.out⟩
       have n4_ : Aside0 (Below w.heap.size w ((((w14.setCell ⟨gb256, 0, none⟩ (.int .i64 ((rd_T49 l0 0).f0))).setCell ⟨gb256, 1, none⟩ (.int .i64 ((rd_T49 l0 0).f1))).setCell ⟨gb257, 0, none⟩ (.int .i64 ((rd_T49 l0 (ji4)).f0))).setCell ⟨gb257, 1, none⟩ (.int .i64 ((rd_T49 l0 (ji4)).f1)))) := ⟨bws_ HB.out⟩
       (try clear HO0)
       (try clear HO1)
       (try clear BK256)
       (try clear BK257)
       (try clear HB)
       generalize ((((w14.setCell ⟨gb256, 0, none⟩ (.int .i64 ((rd_T49 l0 0).f0))).setCell ⟨gb256, 1, none⟩ (.int .i64 ((rd_T49 l0 0).f1))).setCell ⟨gb257, 0, none⟩ (.int .i64 ((rd_T49 l0 (ji4)).f0))).setCell ⟨gb257, 1, none⟩ (.int .i64 ((rd_T49 l0 (ji4)).f1))) = w19 at n0_ n1_ n2_ n3_ n4_ ⊢
       have HO0 := n0_; have HO1 := n1_; have BK256 := n2_; have BK257 := n3_; have HB := n4_
       clear n0_ n1_ n2_ n3_ n4_
       have n0_ := Aside0.mk (Kd.V_drew HO0.out)
       have n1_ := Aside0.mk (Kd.V_drew HO1.out)
       have n2_ := Aside0.mk (blk_drew BK256.out)
       have n3_ := Aside0.mk (blk_drew BK257.out)
       have n4_ := Aside0.mk (below_drew1 HB.out)
       clear HO0 HO1 BK256 BK257 HB
       have HO0 := n0_; have HO1 := n1_; have BK256 := n2_; have BK257 := n3_; have HB := n4_
       clear n0_ n1_ n2_ n3_ n4_
       have p258 : 0 ≤ (0 : Int) := (by omega)
       have q258 : 0 < (l1.length : Int) := od_
       obtain ⟨ad258, e258, hx258_0, hx258_1⟩ := at_T49 (Kd.V_reads' HO1.out).2.2 0 p258 q258
       cases e258
       have qi258 : (0 < l1.length) = True := eq_true (by omega)
       (try rw [show ((0 : Int)).toNat = 0 from rfl] at hx258_0)
       (try rw [show 0 * 2 = 0 from rfl] at hx258_0)
       (try rw [Addr.add_zero'] at hx258_0)
       (try rw [show ((0 : Int)).toNat = 0 from rfl] at hx258_1)
       (try rw [show 0 * 2 = 0 from rfl] at hx258_1)
       (try rw [Addr.add_zero'] at hx258_1)
       replace p258 := eq_true p258
       replace q258 := eq_true q258
       refine start_ (n := 6) (S := fun w' => w'.cell? ⟨gb257, 0, none⟩ = some (.int .i64 ((rd_T49 l0 (ji4)).f0)) ∧ w'.cell? ⟨gb257, 1, none⟩ = some (.int .i64 ((rd_T49 l0 (ji4)).f1)) ∧ w'.cell? ad258 = some (.int .i64 ((rd_T49 l1 0).f0)) ∧ w'.cell? ⟨ad258.block, ad258.off + 1, none⟩ = some (.int .i64 ((rd_T49 l1 0).f1))) (ds := []) #[false, false, false, false, false, false] (by kernel_rfl) rfl rfl ⟨(blk_cell BK257.out 0).trans rfl, (blk_cell BK257.out 1).trans rfl, hx258_0, hx258_1⟩ (fun hHeld => ?_)
       generalize w19.drew = w20 at HO0 HO1 BK256 BK257 HB hx258_0 hx258_1 hHeld ⊢
       refine pure_ (i := 1) (N := some 18) (v := ?_) (a' := ?_) #[false, true, false, false, false, false] rfl rfl (by kernel_rfl) (fun _ _ _ h => h) (Or.inl ⟨by rfl, ?_⟩) ?_ ?_
       rotate_left
       ·intro w'
        go_simp
        with_reducible rfl
       rotate_left
       ·simp only [Act.put, List.setIfInBounds_toArray, List.set_cons_zero, List.set_cons_succ, i64_w, i32_w]
        rfl
       refine pure_ (i := 2) (N := some 19) (v := ?_) (a' := ?_) #[false, true, true, false, false, false] rfl rfl (by kernel_rfl) (fun _ _ _ h => h) (Or.inl ⟨by rfl, ?_⟩) ?_ ?_
       rotate_left
       ·intro w'
        go_simp
        with_reducible rfl
       rotate_left
       ·simp only [Act.put, List.setIfInBounds_toArray, List.set_cons_zero, List.set_cons_succ, i64_w, i32_w]
        rfl
       refine take_ (i := 0) (N := some 17) (v := ?_) (a' := ?_) #[true, true, true, false, false, false] rfl rfl (by kernel_rfl) (fun _ _ _ h => h) (Or.inl ⟨by rfl, ?_⟩) hHeld ?_ ?_
       rotate_left
       ·rintro w' ⟨s0, s1, s2, s3⟩
        go_simp
        with_reducible rfl
       rotate_left
       ·simp only [Act.put, List.setIfInBounds_toArray, List.set_cons_zero, List.set_cons_succ, i64_w, i32_w]
        rfl
       refine take_ (i := 3) (N := some 20) (v := ?_) (a' := ?_) #[true, true, true, true, false, false] rfl rfl (by kernel_rfl) (fun _ _ _ h => h) (Or.inl ⟨by rfl, ?_⟩) hHeld ?_ ?_
       rotate_left
       ·rintro w' ⟨s0, s1, s2, s3⟩
        go_simp
        with_reducible rfl
       rotate_left
       ·simp only [Act.put, List.setIfInBounds_toArray, List.set_cons_zero, List.set_cons_succ, i64_w, i32_w]
        rfl
       refine pure_ (i := 4) (N := some 21) (v := ?_) (a' := ?_) #[true, true, true, true, true, false] rfl rfl (by kernel_rfl) (fun _ _ _ h => h) (Or.inl ⟨by rfl, ?_⟩) ?_ ?_
       rotate_left
       ·intro w'
        go_simp
        with_reducible rfl
       rotate_left
       ·simp only [Act.put, List.setIfInBounds_toArray, List.set_cons_zero, List.set_cons_succ, i64_w, i32_w]
        rfl
       refine pure_ (i := 5) (N := some 16) (v := ?_) (a' := ?_) #[true, true, true, true, true, true] rfl rfl (by kernel_rfl) (fun _ _ _ h => h) (Or.inl ⟨by rfl, ?_⟩) ?_ ?_
       rotate_left
       ·intro w'
        go_simp
        with_reducible rfl
       rotate_left
       ·simp only [Act.put, List.setIfInBounds_toArray, List.set_cons_zero, List.set_cons_succ, i64_w, i32_w]
        rfl
       refine done_ (by kernel_rfl) ?_
       have q21 : (1 : Int) ≤ ((l1.length : Int) : Int) := od_
       obtain ⟨i021, hi021, _, hsz21, _⟩ := info_parts info49
       have hroom21 : l1.length ≤ c1 := (Kd.V_reads' HO1.out).2.1
       have hC21 : Kd.F k49 _ _ (some ad258) l1.length l1 := (Kd.V_at (base := w.heap.size) HO1.out).2.2
       have hcut21 := cut_from (P := Try.prog) 34 49 .i64 Try.underlying34 hi021 2 hsz21 (some ad258) l1.length c1 1 (by omega) q21
       have hr21 := Kd.F_cut (m := (1 : Int).toNat) (c := c1) hC21 (by omega) hroom21
       obtain ⟨A21, hA21⟩ : ∃ A_z, A_z = (if c1 = (1 : Int).toNat then (some ad258) else ((some ad258) : Option Addr).map (·.add ((1 : Int).toNat * 2))) := ⟨_, rfl⟩
       obtain ⟨c21, hc21⟩ : ∃ c_z, c_z = c1 - (1 : Int).toNat := ⟨_, rfl⟩
       have hy21 : y259.length = l1.length - (1 : Int).toNat := (by rw [Ny259.out, List.length_drop] <;> omega)
       rw [show (l1).drop (1 : Int).toNat = y259 from Ny259.out.symm] at hr21
       replace hr21 : Kd.F k49 _ _ A21 y259.length y259 := (by rw [hA21]; exact hr21)
       rw [← hy21, ← hA21, ← hc21] at hcut21
       have HO263 := Aside0.mk (show Kd.V k49 49 _ w.heap.size _ (.slice A21 y259.length c21) y259 from Kd.V_mk (by rw [hy21, hc21]; exact Nat.sub_le_sub_right hroom21 _) hr21)
       have HC263 := Aside0.mk (show y259.length ≤ c21 from by rw [hy21, hc21]; exact Nat.sub_le_sub_right hroom21 _)
       clear hr21 hC21 hroom21 hi021 hsz21 hc21
       have KY21 := Aside0.mk hy21
       have KA21 := Aside0.mk hA21
       clear hy21 hA21
       replace q21 := eq_true q21
       try go_wp2_with (first | ((with_reducible refine gate_dst (N := 25) rfl ?_); refine Kd.N_lit (Kd.slice 49 k49) _ 34 ?hg (N' := 25) ?hd (xs := ([l0, y259] : List (List (S49)))) (inner := [.slice (some ad254) l0.length c0, .slice A21 y259.length c21]) (ok := (fun k_ => ((P0_ k_ ∨ P1_ k_) ∨ w.heap.size ≤ k_) ∧ k_ ≠ gb256 ∧ k_ ≠ gb257)) (okp := (fun k_ => ((P0_ k_ ∨ P1_ k_) ∨ w.heap.size ≤ k_) ∧ k_ ≠ gb256 ∧ k_ ≠ gb257)) ?hr ?hp (fun _ hk => hk) ((show ∀ k_, w20.heap.size ≤ k_ → (fun k_ => ((P0_ k_ ∨ P1_ k_) ∨ w.heap.size ≤ k_) ∧ k_ ≠ gb256 ∧ k_ ≠ gb257) k_ from fun k_ hk => ⟨(.inr (Nat.le_trans (below_size (bws_ HB.out)) hk)), Kd.freshB (g := gb256) (o := .cells #[.int .i64 ((rd_T49 l0 0).f0), .int .i64 ((rd_T49 l0 0).f1)] 49 (0, 0)) (bk_ BK256.out) k_ hk, Kd.freshB (g := gb257) (o := .cells #[.int .i64 ((rd_T49 l0 (ji4)).f0), .int .i64 ((rd_T49 l0 (ji4)).f1)] 49 (0, 0)) (bk_ BK257.out) k_ hk⟩) _ (Nat.le_refl _)) (Below.refl _ _) (Nat.le_refl _) (by simp) ?_; (case hd => rfl); (case hg => rfl); (case hr => first | (go_simp; done) | (go_simp; rfl)); (case hp => exact (Reps.one (show Kd.FK (Kd.slice 49 k49) _ _ l0 [.slice (some ad254) l0.length c0] from (Kd.FK_slice_mk (Kd.V_reads' (Kd.V_mono (ok' := (fun k_ => ((P0_ k_ ∨ P1_ k_) ∨ w.heap.size ≤ k_) ∧ k_ ≠ gb256 ∧ k_ ≠ gb257)) (HO0.out) (fun k_ hk => ⟨hk.1, ⟨hk.2.1, hk.2.2⟩⟩))).2.1 (Kd.V_F (Kd.V_mono (ok' := (fun k_ => ((P0_ k_ ∨ P1_ k_) ∨ w.heap.size ≤ k_) ∧ k_ ≠ gb256 ∧ k_ ≠ gb257)) (HO0.out) (fun k_ hk => ⟨hk.1, ⟨hk.2.1, hk.2.2⟩⟩))))) (Reps.one (show Kd.FK (Kd.slice 49 k49) _ _ y259 [.slice A21 y259.length c21] from (Kd.FK_slice_mk (Kd.V_reads' (Kd.V_mono (ok' := (fun k_ => ((P0_ k_ ∨ P1_ k_) ∨ w.heap.size ≤ k_) ∧ k_ ≠ gb256 ∧ k_ ≠ gb257)) (HO263.out) (fun k_ hk => ⟨hk.1, ⟨hk.2.1, hk.2.2⟩⟩))).2.1 (Kd.V_F (Kd.V_mono (ok' := (fun k_ => ((P0_ k_ ∨ P1_ k_) ∨ w.heap.size ≤ k_) ∧ k_ ≠ gb256 ∧ k_ ≠ gb257)) (HO263.out) (fun k_ hk => ⟨hk.1, ⟨hk.2.1, hk.2.2⟩⟩))))) (Reps.none _ _)))); intro v265 w22 ho23 hb hg_ hnew_; clear hg_ hnew_; (first | rw [← Ny264.out] at ho23 | (simp only [Int.reduceToNat] at ho23; rw [← Ny264.out] at ho23)); have n0_ := Aside0.mk (Kd.V_elder' (vk_ HO0.out) (Kd.N_base ho23) hb); have n1_ := Aside0.mk (Kd.V_elder' (vk_ HO1.out) (Kd.N_base ho23) hb); have n2_ := Aside0.mk (Kd.V_elder' (vk_ HO263.out) (Kd.N_base ho23) hb); have n3_ := Aside0.mk (Kd.N_lower ho23 (below_size (bws_ HB.out))); have n4_ := Aside0.mk (blk_below (bk_ BK256.out) hb); have n5_ := Aside0.mk (blk_below (bk_ BK257.out) hb); have n6_ := Aside0.mk (below_step (bws_ HB.out) hb); clear HO0; clear HO1; clear HO263; clear BK256; clear BK257; clear HB; have HO0 := n0_; have HO1 := n1_; have HO263 := n2_; have HO266 := n3_; have BK256 := n4_; have BK257 := n5_; have HB := n6_; clear n0_ n1_ n2_ n3_ n4_ n5_ n6_; clear hb ho23; obtain ⟨Ao24, co24, eo24⟩ := Kd.N_slice HO266.out; subst eo24) | ((with_reducible refine gate_callee (f := 56) rfl ?_); refine goesL_ (some 26) rfl rfl Try.func56 (by kernel_rfl) rfl #[.slice Ao24 y264.length co24] rfl gl_ ?_; (with_reducible refine (impl_Place_56.calls k _ _ y264 t267 _ ?side1 ?side2 A10.out).mono ?_); (case side1 => repeat (first | exact (Kd.N_reads' HO266.out).2.2 | (with_reducible refine Kd.C_alloc ?_ _) | (with_reducible refine Kd.C_drewN ?_ _) | (with_reducible refine Kd.C_drew ?_))); (case side2 => exact (Kd.N_reads' HO266.out).2.1); rintro e w25 ⟨v268, rfl, ho0, hb⟩; refine ⟨_, rfl, ?_⟩; have n0_ := Aside0.mk (Kd.V_elder' (vk_ HO0.out) (Kd.R_base ho0) hb); have n1_ := Aside0.mk (Kd.V_elder' (vk_ HO1.out) (Kd.R_base ho0) hb); have n2_ := Aside0.mk (Kd.V_elder' (vk_ HO263.out) (Kd.R_base ho0) hb); have n3_ := Aside0.mk (Kd.N_elder' (by (with_reducible repeat (first | apply Kd.N_alloc | apply Kd.N_drewN | apply Kd.N_drew)); exact HO266.out) (Kd.R_base ho0) hb); have n4_ := Aside0.mk (Kd.R_lower (Kd.R_newB (Kd.R_newB (Kd.R_newM (M := fun k_ => (w.heap.size ≤ k_)) ho0 (below_size (bws_ HB.out)) (fun k_ h_ => h_)) (g := gb256) (o := .cells #[.int .i64 ((rd_T49 l0 0).f0), .int .i64 ((rd_T49 l0 0).f1)] 49 (0, 0)) (bk_ BK256.out)) (g := gb257) (o := .cells #[.int .i64 ((rd_T49 l0 (ji4)).f0), .int .i64 ((rd_T49 l0 (ji4)).f1)] 49 (0, 0)) (bk_ BK257.out)) (below_size (bws_ HB.out))); have n5_ := Aside0.mk (blk_below (bk_ BK256.out) hb); have n6_ := Aside0.mk (blk_below (bk_ BK257.out) hb); have n7_ := Aside0.mk (below_step (bws_ HB.out) hb); clear HO0; clear HO1; clear HO263; clear HO266; clear BK256; clear BK257; clear HB; have HO0 := n0_; have HO1 := n1_; have HO263 := n2_; have HO266 := n3_; have HO269 := n4_; have BK256 := n5_; have BK257 := n6_; have HB := n7_; clear n0_ n1_ n2_ n3_ n4_ n5_ n6_ n7_; (try clear hb); (try clear hb2); (try clear hk); (try clear hi); (try clear ho0)))
       go_ret
       exact ⟨_, by first | rfl | (simp [errW_none, errW_some] <;> rfl) | (simp only [← hji4]; first | rfl | (simp [errW_none, errW_some] <;> rfl)) | (simp [*, errW_none, errW_some] <;> rfl), by (with_reducible repeat (first | apply Kd.R_alloc | apply Kd.R_drewN | apply Kd.R_drew)); exact Kd.R_mono HO269.out (fun _ hk => hk.1.1.1), by repeat (first | (with_reducible first | exact HB.out | apply below_alloc | apply pw_below_drewN | apply below_drew1 | refine below_set ?_ GE256.out | refine below_set ?_ GE257.out) | exact HB.out), by first | exact fun hr_ => absurd hr_ HNZ.out | exact fun hr_ => absurd hr_ NZ_.out | exact fun _ => rfl | rfl | (simp; done) | (intro _; first | rfl | (simp; done))⟩
      ·rw [if_neg c9] at H
       exact absurd H (by simp)
     ·rw [if_neg c8] at H
      have c8b0 : (((rd_T49 l0 (ji4)).f0) == ((rd_T49 l1 0).f0) && (((rd_T49 l0 (ji4)).f1) == ((rd_T49 l1 0).f1))) = false := by simpa using c8
      (try (have c8b1 : decide (((rd_T49 l0 (ji4)).f0) = ((rd_T49 l1 0).f0) && (((rd_T49 l0 (ji4)).f1) == ((rd_T49 l1 0).f1))) = false := by simpa using c8))
      (try (have c8b2 : (((rd_T49 l0 (ji4)).f0) == ((rd_T49 l1 0).f0) && (((rd_T49 l0 (ji4)).f1) == ((rd_T49 l1 0).f1))) = false := by simpa using c8))
      (try (have c8b3 : ¬ (((rd_T49 l0 (ji4)).f0) = ((rd_T49 l1 0).f0) && (((rd_T49 l0 (ji4)).f1) == ((rd_T49 l1 0).f1))) := by simpa using c8))
      clear c8
      obtain ⟨ji26, hji26⟩ : ∃ j_ : Int, (wrap64 ((l1.length : Int) - 1)) = j_ := ⟨_, rfl⟩
      replace H : (if 0 ≤ (ji26) then (if (ji26) < (l1.length : Int) then (if (((rd_T49 l0 (ji4)).f0) == ((rd_T49 l1 (ji26)).f0) && (((rd_T49 l0 (ji4)).f1) == ((rd_T49 l1 (ji26)).f1))) = true then ((impl_reversed.f k l1).bind fun t271 => (if 1 ≤ (t271.length : Int) then ((impl_Place_56.f k (([l0, (t271.drop 1)] : List (List (S49))))).bind fun t282 => (if 0 < (t282.length : Int) then (some t282) else none)) else (none))) else (if (((rd_T49 l0 0).f0) == ((rd_T49 l1 (ji26)).f0) && (((rd_T49 l0 0).f1) == ((rd_T49 l1 (ji26)).f1))) = true then (if 1 ≤ (l0.length : Int) then ((impl_Place_56.f k (([l1, (l0.drop 1)] : List (List (S49))))).bind fun t294 => (if 0 < (t294.length : Int) then (some t294) else none)) else (none)) else (if (((rd_T49 l0 0).f0) == ((rd_T49 l1 0).f0) && (((rd_T49 l0 0).f1) == ((rd_T49 l1 0).f1))) = true then ((impl_reversed.f k l1).bind fun t298 => (if 1 ≤ (l0.length : Int) then ((impl_Place_56.f k (([t298, (l0.drop 1)] : List (List (S49))))).bind fun t309 => (if 0 < (t309.length : Int) then (some t309) else none)) else (none))) else (some ([] : List (S49)))))) else (none)) else (none)) = some r := by first | (rw [hji26] at H; exact H) | (simp only [hji26] at H ⊢; exact H)
      (try rw [hji26] at hji25)
      (try rw [hji26] at hji25w)
      have hji26w : (IntKind.i64.wrap ((l1.length : Int) - 1)) = ji26 := (i64_w _).trans hji26
      by_cases c27 : 0 ≤ (ji26)
      ·rw [if_pos c27] at H
       have c27b0 : decide (0 ≤ (ji26)) = true := decide_eq_true c27
       clear c27
       by_cases c28 : (ji26) < (l1.length : Int)
       ·rw [if_pos c28] at H
        have c28b0 : decide ((ji26) < (l1.length : Int)) = true := decide_eq_true c28
        clear c28
        by_cases c29 : (((rd_T49 l0 (ji4)).f0) == ((rd_T49 l1 (ji26)).f0) && (((rd_T49 l0 (ji4)).f1) == ((rd_T49 l1 (ji26)).f1))) = true
        ·rw [if_pos c29] at H
         have c29b0 : (((rd_T49 l0 (ji4)).f0) == ((rd_T49 l1 (ji26)).f0) && (((rd_T49 l0 (ji4)).f1) == ((rd_T49 l1 (ji26)).f1))) = true := c29
         (try (have c29b1 : decide (((rd_T49 l0 (ji4)).f0) = ((rd_T49 l1 (ji26)).f0) && (((rd_T49 l0 (ji4)).f1) == ((rd_T49 l1 (ji26)).f1))) = true := by simpa using c29))
         (try (have c29b2 : (((rd_T49 l0 (ji4)).f0) == ((rd_T49 l1 (ji26)).f0) && (((rd_T49 l0 (ji4)).f1) == ((rd_T49 l1 (ji26)).f1))) = true := by simpa using c29))
         clear c29
         replace H := Option.bind_eq_some_iff.mp H
         obtain ⟨t271, A300, H⟩ := H
         replace H : (if 1 ≤ (t271.length : Int) then ((impl_Place_56.f k (([l0, (t271.drop 1)] : List (List (S49))))).bind fun t282 => (if 0 < (t282.length : Int) then (some t282) else none)) else (none)) = some r := H
         have A30 := Aside0.mk A300
         clear A300
         by_cases c31 : 1 ≤ (t271.length : Int)
         ·rw [if_pos c31] at H
          have c31b0 := eq_true c31
          have c31b1 : decide (1 ≤ (t271.length : Int)) = true := decide_eq_true c31
          clear c31
          obtain ⟨y274, hy274⟩ : ∃ y_ : List (S49), y_ = (t271.drop 1) := ⟨_, rfl⟩
          replace H : ((impl_Place_56.f k (([l0, y274] : List (List (S49))))).bind fun t282 => (if 0 < (t282.length : Int) then (some t282) else none)) = some r := by first | (rw [hy274]; with_reducible exact H) | (have H2_ := (Option.bind_some _ _).symm.trans H; rw [hy274]; with_reducible exact H2_) | (have H2_ := (Option.bind_some _ _).symm.trans H; with_reducible exact H2_) | with_reducible exact H | (rw [hy274]; exact H) | exact H
          have Ny274 := Aside0.mk hy274
          clear hy274
          obtain ⟨y279, hy279⟩ : ∃ y_ : List (List (S49)), y_ = (([l0, y274] : List (List (S49)))) := ⟨_, rfl⟩
          replace H : ((impl_Place_56.f k y279).bind fun t282 => (if 0 < (t282.length : Int) then (some t282) else none)) = some r := by first | (rw [hy279]; with_reducible exact H) | (have H2_ := (Option.bind_some _ _).symm.trans H; rw [hy279]; with_reducible exact H2_) | (have H2_ := (Option.bind_some _ _).symm.trans H; with_reducible exact H2_) | with_reducible exact H | (rw [hy279]; exact H) | exact H
          have Ny279 := Aside0.mk hy279
          clear hy279
          replace H := Option.bind_eq_some_iff.mp H
          obtain ⟨t282, A320, H⟩ := H
          replace H : (if 0 < (t282.length : Int) then (some t282) else none) = some r := H
          have hnz_ : 0 < (t282.length : Int) := by
           by_cases hz_ : 0 < (t282.length : Int)
           ·exact hz_
           ·rw [if_neg hz_] at H; cases H
          rw [if_pos hnz_] at H
          have HNZ := Aside0.mk (show t282 ≠ [] from fun h_ => by rw [h_] at hnz_; simp at hnz_)
          clear hnz_
          have A32 := Aside0.mk A320
          clear A320
          obtain rfl := Option.some.inj H
          go_enter Try.func36, Try.ntmps36
          try go_wp2
          have n0_ := Aside0.mk (Kd.V_drew HO0.out)
          have n1_ := Aside0.mk (Kd.V_drew HO1.out)
          have n2_ := Aside0.mk (below_drew1 HB.out)
          clear HO0 HO1 HB
          have HO0 := n0_; have HO1 := n1_; have HB := n2_
          clear n0_ n1_ n2_
          have p254 : 0 ≤ (0 : Int) := (by omega)
          have q254 : 0 < (l0.length : Int) := od_
          obtain ⟨ad254, e254, hx254_0, hx254_1⟩ := at_T49 (Kd.V_reads' HO0.out).2.2 0 p254 q254
          cases e254
          have qi254 : (0 < l0.length) = True := eq_true (by omega)
          (try rw [show ((0 : Int)).toNat = 0 from rfl] at hx254_0)
          (try rw [show 0 * 2 = 0 from rfl] at hx254_0)
          (try rw [Addr.add_zero'] at hx254_0)
          (try rw [show ((0 : Int)).toNat = 0 from rfl] at hx254_1)
          (try rw [show 0 * 2 = 0 from rfl] at hx254_1)
          (try rw [Addr.add_zero'] at hx254_1)
          replace p254 := eq_true p254
          replace q254 := eq_true q254
          have p255 : 0 ≤ ((ji4) : Int) := od_
          have q255 : (ji4) < (l0.length : Int) := od_
          obtain ⟨ad255, e255, hx255_0, hx255_1⟩ := at_T49 (Kd.V_reads' HO0.out).2.2 (ji4) p255 q255
          obtain rfl : ad254 = ad255 := (by injection e255)
          replace p255 := eq_true p255
          replace q255 := eq_true q255
          refine start_ (n := 13) (S := fun w' => w'.cell? ad254 = some (.int .i64 ((rd_T49 l0 0).f0)) ∧ w'.cell? ⟨ad254.block, ad254.off + 1, none⟩ = some (.int .i64 ((rd_T49 l0 0).f1)) ∧ w'.cell? (ad254.add (((ji4)).toNat * 2)) = some (.int .i64 ((rd_T49 l0 (ji4)).f0)) ∧ w'.cell? ⟨(ad254.add (((ji4)).toNat * 2)).block, (ad254.add (((ji4)).toNat * 2)).off + 1, none⟩ = some (.int .i64 ((rd_T49 l0 (ji4)).f1))) (ds := []) #[false, false, false, false, false, false, false, false, false, false, false, false, false] (by kernel_rfl) rfl rfl ⟨hx254_0, hx254_1, hx255_0, hx255_1⟩ (fun hHeld => ?_); refine with_tabW impl_join.tab1 impl_join.bits1 (fun HT_ HW_ => ?_)
          generalize w.drew = w33 at HO0 HO1 HB hx254_0 hx254_1 hx255_0 hx255_1 hHeld ⊢
          refine pure_ (i := 0) (N := some 7) (v := ?_) (a' := ?_) #[true, false, false, false, false, false, false, false, false, false, false, false, false] rfl rfl (any_of HT_.out (by kernel_rfl)) (fun _ _ _ h => h) (Or.inl ⟨by rfl, ?_⟩) ?_ ?_
          rotate_left
          ·intro w'
           go_simp
           with_reducible rfl
          rotate_left
          ·simp only [Act.put, List.setIfInBounds_toArray, List.set_cons_zero, List.set_cons_succ, i64_w, i32_w]
           rfl
          refine pure_ (i := 1) (N := some 8) (v := ?_) (a' := ?_) #[true, true, false, false, false, false, false, false, false, false, false, false, false] rfl rfl (any_of HT_.out (by kernel_rfl)) (fun _ _ _ h => h) (Or.inl ⟨by rfl, ?_⟩) ?_ ?_
          rotate_left
          ·intro w'
           go_simp
           with_reducible rfl
          rotate_left
          ·simp only [Act.put, List.setIfInBounds_toArray, List.set_cons_zero, List.set_cons_succ, i64_w, i32_w]
           rfl
          refine pure_ (i := 3) (N := some 10) (v := ?_) (a' := ?_) #[true, true, false, true, false, false, false, false, false, false, false, false, false] rfl rfl (any_of HT_.out (by kernel_rfl)) (fun _ _ _ h => h) (Or.inl ⟨by rfl, ?_⟩) ?_ ?_
          rotate_left
          ·intro w'
           go_simp
           with_reducible rfl
          rotate_left
          ·simp only [Act.put, List.setIfInBounds_toArray, List.set_cons_zero, List.set_cons_succ, i64_w, i32_w]
           rfl
          refine pure_ (i := 4) (N := some 11) (v := ?_) (a' := ?_) #[true, true, false, true, true, false, false, false, false, false, false, false, false] rfl rfl (any_of HT_.out (by kernel_rfl)) (fun _ _ _ h => h) (Or.inl ⟨by rfl, ?_⟩) ?_ ?_
          rotate_left
          ·intro w'
           go_simp
           with_reducible rfl
          rotate_left
          ·simp only [Act.put, List.setIfInBounds_toArray, List.set_cons_zero, List.set_cons_succ, i64_w, i32_w]
           rfl
          refine pure_ (i := 5) (N := some 12) (v := ?_) (a' := ?_) #[true, true, false, true, true, true, false, false, false, false, false, false, false] rfl rfl (any_of HT_.out (by kernel_rfl)) (fun _ _ _ h => h) (Or.inl ⟨by rfl, ?_⟩) ?_ ?_
          rotate_left
          ·intro w'
           go_simp
           with_reducible rfl
          rotate_left
          ·simp only [Act.put, List.setIfInBounds_toArray, List.set_cons_zero, List.set_cons_succ, i64_w, i32_w]
           rfl
          refine pure_ (i := 6) (N := some 13) (v := ?_) (a' := ?_) #[true, true, false, true, true, true, true, false, false, false, false, false, false] rfl rfl (any_of HT_.out (by kernel_rfl)) (fun _ _ _ h => h) (Or.inl ⟨by rfl, ?_⟩) ?_ ?_
          rotate_left
          ·intro w'
           go_simp
           with_reducible rfl
          rotate_left
          ·simp only [Act.put, List.setIfInBounds_toArray, List.set_cons_zero, List.set_cons_succ, i64_w, i32_w]
           rfl
          refine pure_ (i := 7) (N := some 14) (v := ?_) (a' := ?_) #[true, true, false, true, true, true, true, true, false, false, false, false, false] rfl rfl (any_of HT_.out (by kernel_rfl)) (fun _ _ _ h => h) (Or.inl ⟨by rfl, ?_⟩) ?_ ?_
          rotate_left
          ·intro w'
           go_simp
           with_reducible rfl
          rotate_left
          ·simp only [Act.put, List.setIfInBounds_toArray, List.set_cons_zero, List.set_cons_succ, i64_w, i32_w]
           rfl
          refine take_ (i := 2) (N := some 9) (v := ?_) (a' := ?_) #[true, true, true, true, true, true, true, true, false, false, false, false, false] rfl rfl (take_ofW HT_.out HW_.out (by kernel_rfl)) (fun _ _ _ h => h) (Or.inl ⟨by rfl, ?_⟩) hHeld ?_ ?_
          rotate_left
          ·rintro w' ⟨s0, s1, s2, s3⟩
           go_simp
           with_reducible rfl
          rotate_left
          ·simp only [Act.put, List.setIfInBounds_toArray, List.set_cons_zero, List.set_cons_succ, i64_w, i32_w]
           rfl
          refine take_ (i := 8) (N := some 15) (v := ?_) (a' := ?_) #[true, true, true, true, true, true, true, true, true, false, false, false, false] rfl rfl (take_ofW HT_.out HW_.out (by kernel_rfl)) (fun _ _ _ h => h) (Or.inl ⟨by rfl, ?_⟩) hHeld ?_ ?_
          rotate_left
          ·rintro w' ⟨s0, s1, s2, s3⟩
           go_simp
           with_reducible rfl
          rotate_left
          ·simp only [Act.put, List.setIfInBounds_toArray, List.set_cons_zero, List.set_cons_succ, i64_w, i32_w]
           rfl
          refine join_ (σ := Nat × Nat) 2 #[true, true, true, true, true, true, true, true, true, true, true, false, false] (fun s_ => [(5, .pointer (some ⟨s_.1, 0, none⟩)), (6, .pointer (some ⟨s_.2, 0, none⟩))]) (fun s_ w' => (w'.cell? ad254 = some (.int .i64 ((rd_T49 l0 0).f0)) ∧ w'.cell? ⟨ad254.block, ad254.off + 1, none⟩ = some (.int .i64 ((rd_T49 l0 0).f1)) ∧ w'.cell? (ad254.add (((ji4)).toNat * 2)) = some (.int .i64 ((rd_T49 l0 (ji4)).f0)) ∧ w'.cell? ⟨(ad254.add (((ji4)).toNat * 2)).block, (ad254.add (((ji4)).toNat * 2)).off + 1, none⟩ = some (.int .i64 ((rd_T49 l0 (ji4)).f1))) ∧ (Kd.V k49 49 w' w.heap.size (fun k_ => ((P0_ k_ ∨ P1_ k_) ∨ w.heap.size ≤ k_) ∧ k_ ≠ s_.1 ∧ k_ ≠ s_.2) (.slice (some ad254) l0.length c0) l0) ∧ (Kd.V k49 49 w' w.heap.size (fun k_ => ((P0_ k_ ∨ P1_ k_) ∨ w.heap.size ≤ k_) ∧ k_ ≠ s_.1 ∧ k_ ≠ s_.2) (.slice A1 l1.length c1) l1) ∧ (w'.heap[s_.1]? = some (.cells #[.int .i64 0, .int .i64 0] 49 (0, 0))) ∧ (w'.heap[s_.2]? = some (.cells #[.int .i64 0, .int .i64 0] 49 (0, 0))) ∧ (w.heap.size ≤ s_.1) ∧ (w.heap.size ≤ s_.1) ∧ (s_.2 ≠ s_.1) ∧ (s_.1 ≠ s_.2) ∧ (w.heap.size ≤ s_.2) ∧ (w.heap.size ≤ s_.2) ∧ (Below w.heap.size w w')) ?_ ?_
          rotate_left
          ·intro hCont
           refine two_ (i := 9) (j := 10) (Ni := some 5) (Nj := some 6) #[true, true, true, true, true, true, true, true, true, true, false, false, false] #[true, true, true, true, true, true, true, true, true, false, true, false, false] rfl rfl rfl rfl (two_of HT_.out (by kernel_rfl)) (by decide) (by decide) (fun K hK => ?_) (fun K hK => ?_)
           ·skip
            refine box_step ?hg (N := 5) ?hd (cs := #[.int .i64 0, .int .i64 0]) (t := 49) ?hr ?_; (case hd => rfl); (case hg => rfl); (case hr => first | (go_simp; done) | (go_simp; rfl))
            intro gb256 hg w34 hbox hb
            have HS0_ := hs_ hb hHeld.1
            have HS1_ := hs_ hb hHeld.2.1
            have HS2_ := hs_ hb hHeld.2.2.1
            have HS3_ := hs_ hb hHeld.2.2.2
            have n0_ := Aside0.mk (Kd.V_below (Kd.V_elderB (vk_ HO0.out) gb256 (Nat.le_of_eq hg.symm)) hb)
            have n1_ := Aside0.mk (Kd.V_below (Kd.V_elderB (vk_ HO1.out) gb256 (Nat.le_of_eq hg.symm)) hb)
            have n2_ := Aside0.mk (below_step (bw_ HB.out) hb)
            have n3_ := Aside0.mk (hbox)
            have n4_ := Aside0.mk ((ge_ hg (bw_ HB.out)))
            have n5_ := Aside0.mk ((ge_ hg (bw_ HB.out)))
            clear HO0 HO1 HB
            have HO0 := n0_; have HO1 := n1_; have HB := n2_; have BK256 := n3_; have GW256 := n4_; have GE256 := n5_
            clear n0_ n1_ n2_ n3_ n4_ n5_ hb hbox hg
            refine hK.out _ _ ⟨HS0_, HS1_, HS2_, HS3_⟩ (fun hHeld => ?_)
            clear hK K
            refine norm_ (a' := ?_) ?_ ?_
            rotate_left
            ·show Act.put _ (some 5) _ = _
             simp only [Act.put, List.setIfInBounds_toArray, List.set_cons_zero, List.set_cons_succ, i64_w, i32_w]
             rfl
            refine one_ (i := 10) (N := some 6) #[true, true, true, true, true, true, true, true, true, true, true, false, false] rfl rfl (one_of HT_.out (by kernel_rfl)) (by decide) (fun K hK => ?_)
            refine box_step ?hg (N := 6) ?hd (cs := #[.int .i64 0, .int .i64 0]) (t := 49) ?hr ?_; (case hd => rfl); (case hg => rfl); (case hr => first | (go_simp; done) | (go_simp; rfl))
            intro gb257 hg w35 hbox hb
            have HS0_ := hs_ hb hHeld.1
            have HS1_ := hs_ hb hHeld.2.1
            have HS2_ := hs_ hb hHeld.2.2.1
            have HS3_ := hs_ hb hHeld.2.2.2
            have n0_ := Aside0.mk (Kd.V_below (Kd.V_elderB (vk_ HO0.out) gb257 (Nat.le_of_eq hg.symm)) hb)
            have n1_ := Aside0.mk (Kd.V_below (Kd.V_elderB (vk_ HO1.out) gb257 (Nat.le_of_eq hg.symm)) hb)
            have n2_ := Aside0.mk (blk_below (bk_ BK256.out) hb)
            have n3_ := Aside0.mk (below_step (bwg_ GE256.out HB.out) hb)
            have n4_ := Aside0.mk (hbox)
            have n5_ := Aside0.mk ((by rw [hg]; exact (below_size (bwg_ GE256.out HB.out)) : w.heap.size ≤ gb257))
            have n6_ := Aside0.mk ((by rw [hg]; exact (below_size (bwg_ GE256.out HB.out)) : w.heap.size ≤ gb257))
            have n7_ := Aside0.mk ((ne1_ hg (bk_ BK256.out)))
            have n8_ := Aside0.mk ((ne2_ hg (bk_ BK256.out)))
            clear HO0 HO1 BK256 HB
            have HO0 := n0_; have HO1 := n1_; have BK256 := n2_; have HB := n3_; have BK257 := n4_; have GW257 := n5_; have GE257 := n6_; have NB256_257 := n7_; have NB257_256 := n8_
            clear n0_ n1_ n2_ n3_ n4_ n5_ n6_ n7_ n8_ hb hbox hg
            refine hK.out _ _ ⟨HS0_, HS1_, HS2_, HS3_⟩ (fun hHeld => ?_)
            clear hK K
            refine norm_ (a' := ?_) ?_ ?_
            rotate_left
            ·show Act.put _ (some 6) _ = _
             simp only [Act.put, List.setIfInBounds_toArray, List.set_cons_zero, List.set_cons_succ, i64_w, i32_w]
             rfl
            exact norm_ (by simp only [putAll, Act.put, List.setIfInBounds_toArray, List.set_cons_zero, List.set_cons_succ]) (hCont (gb256, gb257) _ ⟨hHeld, (by (with_reducible repeat (first | apply Kd.V_alloc | apply Kd.V_drewN | apply Kd.V_drew)); exact Kd.V_mono HO0.out (fun _ hk => ⟨hk.1.1, ⟨hk.1.2, hk.2⟩⟩)), (by (with_reducible repeat (first | apply Kd.V_alloc | apply Kd.V_drewN | apply Kd.V_drew)); exact Kd.V_mono HO1.out (fun _ hk => ⟨hk.1.1, ⟨hk.1.2, hk.2⟩⟩)), (bk_ BK256.out), (bk_ BK257.out), GW256.out, GE256.out, NB257_256.out, NB256_257.out, GW257.out, GE257.out, (bws_ HB.out)⟩)
           ·skip
            refine box_step ?hg (N := 6) ?hd (cs := #[.int .i64 0, .int .i64 0]) (t := 49) ?hr ?_; (case hd => rfl); (case hg => rfl); (case hr => first | (go_simp; done) | (go_simp; rfl))
            intro gb257 hg w34 hbox hb
            have HS0_ := hs_ hb hHeld.1
            have HS1_ := hs_ hb hHeld.2.1
            have HS2_ := hs_ hb hHeld.2.2.1
            have HS3_ := hs_ hb hHeld.2.2.2
            have n0_ := Aside0.mk (Kd.V_below (Kd.V_elderB (vk_ HO0.out) gb257 (Nat.le_of_eq hg.symm)) hb)
            have n1_ := Aside0.mk (Kd.V_below (Kd.V_elderB (vk_ HO1.out) gb257 (Nat.le_of_eq hg.symm)) hb)
            have n2_ := Aside0.mk (below_step (bw_ HB.out) hb)
            have n3_ := Aside0.mk (hbox)
            have n4_ := Aside0.mk ((ge_ hg (bw_ HB.out)))
            have n5_ := Aside0.mk ((ge_ hg (bw_ HB.out)))
            clear HO0 HO1 HB
            have HO0 := n0_; have HO1 := n1_; have HB := n2_; have BK257 := n3_; have GW257 := n4_; have GE257 := n5_
            clear n0_ n1_ n2_ n3_ n4_ n5_ hb hbox hg
            refine hK.out _ _ ⟨HS0_, HS1_, HS2_, HS3_⟩ (fun hHeld => ?_)
            clear hK K
            refine norm_ (a' := ?_) ?_ ?_
            rotate_left
            ·show Act.put _ (some 6) _ = _
             simp only [Act.put, List.setIfInBounds_toArray, List.set_cons_zero, List.set_cons_succ, i64_w, i32_w]
             rfl
            refine one_ (i := 9) (N := some 5) #[true, true, true, true, true, true, true, true, true, true, true, false, false] rfl rfl (one_of HT_.out (by kernel_rfl)) (by decide) (fun K hK => ?_)
            refine box_step ?hg (N := 5) ?hd (cs := #[.int .i64 0, .int .i64 0]) (t := 49) ?hr ?_; (case hd => rfl); (case hg => rfl); (case hr => first | (go_simp; done) | (go_simp; rfl))
            intro gb256 hg w35 hbox hb
            have HS0_ := hs_ hb hHeld.1
            have HS1_ := hs_ hb hHeld.2.1
            have HS2_ := hs_ hb hHeld.2.2.1
            have HS3_ := hs_ hb hHeld.2.2.2
            have n0_ := Aside0.mk (Kd.V_below (Kd.V_elderB (vk_ HO0.out) gb256 (Nat.le_of_eq hg.symm)) hb)
            have n1_ := Aside0.mk (Kd.V_below (Kd.V_elderB (vk_ HO1.out) gb256 (Nat.le_of_eq hg.symm)) hb)
            have n2_ := Aside0.mk (blk_below (bk_ BK257.out) hb)
            have n3_ := Aside0.mk (below_step (bwg_ GE257.out HB.out) hb)
            have n4_ := Aside0.mk (hbox)
            have n5_ := Aside0.mk ((by rw [hg]; exact (below_size (bwg_ GE257.out HB.out)) : w.heap.size ≤ gb256))
            have n6_ := Aside0.mk ((by rw [hg]; exact (below_size (bwg_ GE257.out HB.out)) : w.heap.size ≤ gb256))
            have n7_ := Aside0.mk ((ne1_ hg (bk_ BK257.out)))
            have n8_ := Aside0.mk ((ne2_ hg (bk_ BK257.out)))
            clear HO0 HO1 BK257 HB
            have HO0 := n0_; have HO1 := n1_; have BK257 := n2_; have HB := n3_; have BK256 := n4_; have GW256 := n5_; have GE256 := n6_; have NB257_256 := n7_; have NB256_257 := n8_
            clear n0_ n1_ n2_ n3_ n4_ n5_ n6_ n7_ n8_ hb hbox hg
            refine hK.out _ _ ⟨HS0_, HS1_, HS2_, HS3_⟩ (fun hHeld => ?_)
            clear hK K
            refine norm_ (a' := ?_) ?_ ?_
            rotate_left
            ·show Act.put _ (some 5) _ = _
             simp only [Act.put, List.setIfInBounds_toArray, List.set_cons_zero, List.set_cons_succ, i64_w, i32_w]
             rfl
            exact norm_ (by simp only [putAll, Act.put, List.setIfInBounds_toArray, List.set_cons_zero, List.set_cons_succ]) (hCont (gb256, gb257) _ ⟨hHeld, (by (with_reducible repeat (first | apply Kd.V_alloc | apply Kd.V_drewN | apply Kd.V_drew)); exact Kd.V_mono HO0.out (fun _ hk => ⟨hk.1.1, ⟨hk.2, hk.1.2⟩⟩)), (by (with_reducible repeat (first | apply Kd.V_alloc | apply Kd.V_drewN | apply Kd.V_drew)); exact Kd.V_mono HO1.out (fun _ hk => ⟨hk.1.1, ⟨hk.2, hk.1.2⟩⟩)), (bk_ BK256.out), (bk_ BK257.out), GW256.out, GE256.out, NB257_256.out, NB256_257.out, GW257.out, GE257.out, (bws_ HB.out)⟩)
          rintro ⟨gb256, gb257⟩ w36 ⟨hS_, h0_, h1_, h2_, h3_, h4_, h5_, h6_, h7_, h8_, h9_, h10_⟩
          have n0_ : Aside0 (Kd.V k49 49 w36 w.heap.size (fun k_ => ((P0_ k_ ∨ P1_ k_) ∨ w.heap.size ≤ k_) ∧ k_ ≠ gb256 ∧ k_ ≠ gb257) (.slice (some ad254) l0.length c0) l0) := ⟨h0_⟩
          have n1_ : Aside0 (Kd.V k49 49 w36 w.heap.size (fun k_ => ((P0_ k_ ∨ P1_ k_) ∨ w.heap.size ≤ k_) ∧ k_ ≠ gb256 ∧ k_ ≠ gb257) (.slice A1 l1.length c1) l1) := ⟨h1_⟩
          have n2_ : Aside0 (w36.heap[gb256]? = some (.cells #[.int .i64 0, .int .i64 0] 49 (0, 0))) := ⟨h2_⟩
          have n3_ : Aside0 (w36.heap[gb257]? = some (.cells #[.int .i64 0, .int .i64 0] 49 (0, 0))) := ⟨h3_⟩
          have n4_ : Aside0 (w.heap.size ≤ gb256) := ⟨h4_⟩
          have n5_ : Aside0 (w.heap.size ≤ gb256) := ⟨h5_⟩
          have n6_ : Aside0 (gb257 ≠ gb256) := ⟨h6_⟩
          have n7_ : Aside0 (gb256 ≠ gb257) := ⟨h7_⟩
          have n8_ : Aside0 (w.heap.size ≤ gb257) := ⟨h8_⟩
          have n9_ : Aside0 (w.heap.size ≤ gb257) := ⟨h9_⟩
          have n10_ : Aside0 (Below w.heap.size w w36) := ⟨h10_⟩
          clear HO0 HO1 HB h0_ h1_ h2_ h3_ h4_ h5_ h6_ h7_ h8_ h9_ h10_
          have HO0 := n0_; have HO1 := n1_; have BK256 := n2_; have BK257 := n3_; have GW256 := n4_; have GE256 := n5_; have NB257_256 := n6_; have NB256_257 := n7_; have GW257 := n8_; have GE257 := n9_
          have HB := n10_
          clear n0_ n1_ n2_ n3_ n4_ n5_ n6_ n7_ n8_ n9_ n10_
          have hHeld : w36.cell? ad254 = some (.int .i64 ((rd_T49 l0 0).f0)) ∧ w36.cell? ⟨ad254.block, ad254.off + 1, none⟩ = some (.int .i64 ((rd_T49 l0 0).f1)) ∧ w36.cell? (ad254.add (((ji4)).toNat * 2)) = some (.int .i64 ((rd_T49 l0 (ji4)).f0)) ∧ w36.cell? ⟨(ad254.add (((ji4)).toNat * 2)).block, (ad254.add (((ji4)).toNat * 2)).off + 1, none⟩ = some (.int .i64 ((rd_T49 l0 (ji4)).f1)) := hS_
          refine norm_ (a' := ?_) ?_ ?_
          rotate_left
          ·simp only [putAll, Act.put, List.setIfInBounds_toArray, List.set_cons_zero, List.set_cons_succ]
           rfl
          refine one_ (i := 11) (N := none) #[true, true, true, true, true, true, true, true, true, true, true, true, false] rfl rfl (one_of HT_.out (by kernel_rfl)) (by decide) (fun K hK => ?_)
          have hs37 : w36.cell? ⟨gb256, 0, none⟩ = some (.int .i64 0) := (blk_cell BK256.out 0).trans rfl
          have hfs37 := blk_frozen BK256.out 0
          have hns37_1 := NB257_256.out
          have hms37_1 := NB256_257.out
          have hs38 : w36.cell? ⟨gb256, 1, none⟩ = some (.int .i64 0) := (blk_cell BK256.out 1).trans rfl
          have hfs38 := blk_frozen BK256.out 1
          have hns38_1 := NB257_256.out
          have hms38_1 := NB256_257.out
          refine skip_ (w1 := ?_) (by rfl) rfl ?_ ?_
          rotate_left
          ·go_simp
           rfl
          refine hK.out _ _ ⟨(far2_ (by first | (rw [add_block]; exact vaw_ HO0.out (fun _ hk => hk.2.1) od_) | exact vaw_ HO0.out (fun _ hk => hk.2.1) od_ | (dsimp only; exact vaw_ HO0.out (fun _ hk => hk.2.1) od_)) hHeld.1), (far2_ (by first | (rw [add_block]; exact vaw_ HO0.out (fun _ hk => hk.2.1) od_) | exact vaw_ HO0.out (fun _ hk => hk.2.1) od_ | (dsimp only; exact vaw_ HO0.out (fun _ hk => hk.2.1) od_)) hHeld.2.1), (far2_ (by first | (rw [add_block]; exact vaw_ HO0.out (fun _ hk => hk.2.1) od_) | exact vaw_ HO0.out (fun _ hk => hk.2.1) od_ | (dsimp only; exact vaw_ HO0.out (fun _ hk => hk.2.1) od_)) hHeld.2.2.1), (far2_ (by first | (rw [add_block]; exact vaw_ HO0.out (fun _ hk => hk.2.1) od_) | exact vaw_ HO0.out (fun _ hk => hk.2.1) od_ | (dsimp only; exact vaw_ HO0.out (fun _ hk => hk.2.1) od_)) hHeld.2.2.2)⟩ (fun hHeld => ?_)
          clear hK K
          refine one_ (i := 12) (N := none) #[true, true, true, true, true, true, true, true, true, true, true, true, true] rfl rfl (one_of HT_.out (by kernel_rfl)) (by decide) (fun K hK => ?_)
          have hs39 : w36.cell? ⟨gb257, 0, none⟩ = some (.int .i64 0) := (blk_cell BK257.out 0).trans rfl
          have hfs39 := blk_frozen BK257.out 0
          have hns39_0 := NB256_257.out
          have hms39_0 := NB257_256.out
          have hs40 : w36.cell? ⟨gb257, 1, none⟩ = some (.int .i64 0) := (blk_cell BK257.out 1).trans rfl
          have hfs40 := blk_frozen BK257.out 1
          have hns40_0 := NB256_257.out
          have hms40_0 := NB257_256.out
          refine skip_ (w1 := ?_) (by rfl) rfl ?_ ?_
          rotate_left
          ·go_simp
           rfl
          refine hK.out _ _ ⟨(far2_ (by first | (rw [add_block]; exact vaw_ HO0.out (fun _ hk => hk.2.2) od_) | exact vaw_ HO0.out (fun _ hk => hk.2.2) od_ | (dsimp only; exact vaw_ HO0.out (fun _ hk => hk.2.2) od_)) hHeld.1), (far2_ (by first | (rw [add_block]; exact vaw_ HO0.out (fun _ hk => hk.2.2) od_) | exact vaw_ HO0.out (fun _ hk => hk.2.2) od_ | (dsimp only; exact vaw_ HO0.out (fun _ hk => hk.2.2) od_)) hHeld.2.1), (far2_ (by first | (rw [add_block]; exact vaw_ HO0.out (fun _ hk => hk.2.2) od_) | exact vaw_ HO0.out (fun _ hk => hk.2.2) od_ | (dsimp only; exact vaw_ HO0.out (fun _ hk => hk.2.2) od_)) hHeld.2.2.1), (far2_ (by first | (rw [add_block]; exact vaw_ HO0.out (fun _ hk => hk.2.2) od_) | exact vaw_ HO0.out (fun _ hk => hk.2.2) od_ | (dsimp only; exact vaw_ HO0.out (fun _ hk => hk.2.2) od_)) hHeld.2.2.2)⟩ (fun hHeld => ?_)
          clear hK K
          refine done_ (done_of HT_.out (by kernel_rfl)) ?_
          try go_wp2
          have n0_ : Aside0 (Kd.V k49 49 ((((w36.setCell ⟨gb256, 0, none⟩ (.int .i64 ((rd_T49 l0 0).f0))).setCell ⟨gb256, 1, none⟩ (.int .i64 ((rd_T49 l0 0).f1))).setCell ⟨gb257, 0, none⟩ (.int .i64 ((rd_T49 l0 (ji4)).f0))).setCell ⟨gb257, 1, none⟩ (.int .i64 ((rd_T49 l0 (ji4)).f1))) w.heap.size (fun k_ => ((P0_ k_ ∨ P1_ k_) ∨ w.heap.size ≤ k_) ∧ k_ ≠ gb256 ∧ k_ ≠ gb257) (.slice (some ad254) l0.length c0) l0) := ⟨by (with_reducible repeat (first | apply Kd.V_alloc | apply Kd.V_drewN | apply Kd.V_drew)); exact Kd.V_mono (Kd.V_far (p := ⟨gb257, 1, none⟩) (Kd.V_far (p := ⟨gb257, 0, none⟩) (Kd.V_far (p := ⟨gb256, 1, none⟩) (Kd.V_far (p := ⟨gb256, 0, none⟩) (Kd.V_mono (Kd.V_mono HO0.out (fun k_ hk => (⟨hk, hk.2.1⟩ : _ ∧ k_ ≠ gb256))) (fun k_ hk => (⟨hk, hk.1.2.2⟩ : _ ∧ k_ ≠ gb257))) (fun _ hk => hk.1.2) (.int .i64 ((rd_T49 l0 0).f0))) (fun _ hk => hk.1.2) (.int .i64 ((rd_T49 l0 0).f1))) (fun _ hk => hk.2) (.int .i64 ((rd_T49 l0 (ji4)).f0))) (fun _ hk => hk.2) (.int .i64 ((rd_T49 l0 (ji4)).f1))) (fun _ hk => ⟨hk.1.1.1, ⟨hk.1.1.2.1, hk.1.1.2.2⟩⟩)⟩
          have n1_ : Aside0 (Kd.V k49 49 ((((w36.setCell ⟨gb256, 0, none⟩ (.int .i64 ((rd_T49 l0 0).f0))).setCell ⟨gb256, 1, none⟩ (.int .i64 ((rd_T49 l0 0).f1))).setCell ⟨gb257, 0, none⟩ (.int .i64 ((rd_T49 l0 (ji4)).f0))).setCell ⟨gb257, 1, none⟩ (.int .i64 ((rd_T49 l0 (ji4)).f1))) w.heap.size (fun k_ => ((P0_ k_ ∨ P1_ k_) ∨ w.heap.size ≤ k_) ∧ k_ ≠ gb256 ∧ k_ ≠ gb257) (.slice A1 l1.length c1) l1) := ⟨by (with_reducible repeat (first | apply Kd.V_alloc | apply Kd.V_drewN | apply Kd.V_drew)); exact Kd.V_mono (Kd.V_far (p := ⟨gb257, 1, none⟩) (Kd.V_far (p := ⟨gb257, 0, none⟩) (Kd.V_far (p := ⟨gb256, 1, none⟩) (Kd.V_far (p := ⟨gb256, 0, none⟩) (Kd.V_mono (Kd.V_mono HO1.out (fun k_ hk => (⟨hk, hk.2.1⟩ : _ ∧ k_ ≠ gb256))) (fun k_ hk => (⟨hk, hk.1.2.2⟩ : _ ∧ k_ ≠ gb257))) (fun _ hk => hk.1.2) (.int .i64 ((rd_T49 l0 0).f0))) (fun _ hk => hk.1.2) (.int .i64 ((rd_T49 l0 0).f1))) (fun _ hk => hk.2) (.int .i64 ((rd_T49 l0 (ji4)).f0))) (fun _ hk => hk.2) (.int .i64 ((rd_T49 l0 (ji4)).f1))) (fun _ hk => ⟨hk.1.1.1, ⟨hk.1.1.2.1, hk.1.1.2.2⟩⟩)⟩
          have n2_ : Aside0 (((((w36.setCell ⟨gb256, 0, none⟩ (.int .i64 ((rd_T49 l0 0).f0))).setCell ⟨gb256, 1, none⟩ (.int .i64 ((rd_T49 l0 0).f1))).setCell ⟨gb257, 0, none⟩ (.int .i64 ((rd_T49 l0 (ji4)).f0))).setCell ⟨gb257, 1, none⟩ (.int .i64 ((rd_T49 l0 (ji4)).f1))).heap[gb256]? = some (.cells #[.int .i64 ((rd_T49 l0 0).f0), .int .i64 ((rd_T49 l0 0).f1)] 49 (0, 0))) := ⟨by (with_reducible repeat (first | refine blk_drewN ?_ _ | refine blk_drew ?_ | refine blk_alloc ?_ _)); refine blk_far ?_ NB256_257.out _; (with_reducible repeat (first | refine blk_drewN ?_ _ | refine blk_drew ?_ | refine blk_alloc ?_ _)); refine blk_far ?_ NB256_257.out _; (with_reducible repeat (first | refine blk_drewN ?_ _ | refine blk_drew ?_ | refine blk_alloc ?_ _)); refine blk_put (cs := #[.int .i64 ((rd_T49 l0 0).f0), .int .i64 0]) ?_ 1 _ rfl; (with_reducible repeat (first | refine blk_drewN ?_ _ | refine blk_drew ?_ | refine blk_alloc ?_ _)); refine blk_put (cs := #[.int .i64 0, .int .i64 0]) ?_ 0 _ rfl; (with_reducible repeat (first | refine blk_drewN ?_ _ | refine blk_drew ?_ | refine blk_alloc ?_ _)); exact BK256.out⟩
          have n3_ : Aside0 (((((w36.setCell ⟨gb256, 0, none⟩ (.int .i64 ((rd_T49 l0 0).f0))).setCell ⟨gb256, 1, none⟩ (.int .i64 ((rd_T49 l0 0).f1))).setCell ⟨gb257, 0, none⟩ (.int .i64 ((rd_T49 l0 (ji4)).f0))).setCell ⟨gb257, 1, none⟩ (.int .i64 ((rd_T49 l0 (ji4)).f1))).heap[gb257]? = some (.cells #[.int .i64 ((rd_T49 l0 (ji4)).f0), .int .i64 ((rd_T49 l0 (ji4)).f1)] 49 (0, 0))) := ⟨by (with_reducible repeat (first | refine blk_drewN ?_ _ | refine blk_drew ?_ | refine blk_alloc ?_ _)); refine blk_put (cs := #[.int .i64 ((rd_T49 l0 (ji4)).f0), .int .i64 0]) ?_ 1 _ rfl; (with_reducible repeat (first | refine blk_drewN ?_ _ | refine blk_drew ?_ | refine blk_alloc ?_ _)); refine blk_put (cs := #[.int .i64 0, .int .i64 0]) ?_ 0 _ rfl; (with_reducible repeat (first | refine blk_drewN ?_ _ | refine blk_drew ?_ | refine blk_alloc ?_ _)); refine blk_far ?_ NB257_256.out _; (with_reducible repeat (first | refine blk_drewN ?_ _ | refine blk_drew ?_ | refine blk_alloc ?_ _)); refine blk_far ?_ NB257_256.out _; (with_reducible repeat (first | refine blk_drewN ?_ _ | refine blk_drew ?_ | refine blk_alloc ?_ _)); exact BK257.out⟩
          have n4_ : Aside0 (Below w.heap.size w ((((w36.setCell ⟨gb256, 0, none⟩ (.int .i64 ((rd_T49 l0 0).f0))).setCell ⟨gb256, 1, none⟩ (.int .i64 ((rd_T49 l0 0).f1))).setCell ⟨gb257, 0, none⟩ (.int .i64 ((rd_T49 l0 (ji4)).f0))).setCell ⟨gb257, 1, none⟩ (.int .i64 ((rd_T49 l0 (ji4)).f1)))) := ⟨bws_ HB.out⟩
          (try clear HO0)
          (try clear HO1)
          (try clear BK256)
          (try clear BK257)
          (try clear HB)
          generalize ((((w36.setCell ⟨gb256, 0, none⟩ (.int .i64 ((rd_T49 l0 0).f0))).setCell ⟨gb256, 1, none⟩ (.int .i64 ((rd_T49 l0 0).f1))).setCell ⟨gb257, 0, none⟩ (.int .i64 ((rd_T49 l0 (ji4)).f0))).setCell ⟨gb257, 1, none⟩ (.int .i64 ((rd_T49 l0 (ji4)).f1))) = w41 at n0_ n1_ n2_ n3_ n4_ ⊢
          have HO0 := n0_; have HO1 := n1_; have BK256 := n2_; have BK257 := n3_; have HB := n4_
          clear n0_ n1_ n2_ n3_ n4_
          have n0_ := Aside0.mk (Kd.V_drew HO0.out)
          have n1_ := Aside0.mk (Kd.V_drew HO1.out)
          have n2_ := Aside0.mk (blk_drew BK256.out)
          have n3_ := Aside0.mk (blk_drew BK257.out)
          have n4_ := Aside0.mk (below_drew1 HB.out)
          clear HO0 HO1 BK256 BK257 HB
          have HO0 := n0_; have HO1 := n1_; have BK256 := n2_; have BK257 := n3_; have HB := n4_
          clear n0_ n1_ n2_ n3_ n4_
          have p258 : 0 ≤ (0 : Int) := (by omega)
          have q258 : 0 < (l1.length : Int) := od_
          obtain ⟨ad258, e258, hx258_0, hx258_1⟩ := at_T49 (Kd.V_reads' HO1.out).2.2 0 p258 q258
          cases e258
          have qi258 : (0 < l1.length) = True := eq_true (by omega)
          (try rw [show ((0 : Int)).toNat = 0 from rfl] at hx258_0)
          (try rw [show 0 * 2 = 0 from rfl] at hx258_0)
          (try rw [Addr.add_zero'] at hx258_0)
          (try rw [show ((0 : Int)).toNat = 0 from rfl] at hx258_1)
          (try rw [show 0 * 2 = 0 from rfl] at hx258_1)
          (try rw [Addr.add_zero'] at hx258_1)
          replace p258 := eq_true p258
          replace q258 := eq_true q258
          refine start_ (n := 6) (S := fun w' => w'.cell? ⟨gb257, 0, none⟩ = some (.int .i64 ((rd_T49 l0 (ji4)).f0)) ∧ w'.cell? ⟨gb257, 1, none⟩ = some (.int .i64 ((rd_T49 l0 (ji4)).f1)) ∧ w'.cell? ad258 = some (.int .i64 ((rd_T49 l1 0).f0)) ∧ w'.cell? ⟨ad258.block, ad258.off + 1, none⟩ = some (.int .i64 ((rd_T49 l1 0).f1))) (ds := []) #[false, false, false, false, false, false] (by kernel_rfl) rfl rfl ⟨(blk_cell BK257.out 0).trans rfl, (blk_cell BK257.out 1).trans rfl, hx258_0, hx258_1⟩ (fun hHeld => ?_)
          generalize w41.drew = w42 at HO0 HO1 BK256 BK257 HB hx258_0 hx258_1 hHeld ⊢
          refine pure_ (i := 1) (N := some 18) (v := ?_) (a' := ?_) #[false, true, false, false, false, false] rfl rfl (by kernel_rfl) (fun _ _ _ h => h) (Or.inl ⟨by rfl, ?_⟩) ?_ ?_
          rotate_left
          ·intro w'
           go_simp
           with_reducible rfl
          rotate_left
          ·simp only [Act.put, List.setIfInBounds_toArray, List.set_cons_zero, List.set_cons_succ, i64_w, i32_w]
           rfl
          refine pure_ (i := 2) (N := some 19) (v := ?_) (a' := ?_) #[false, true, true, false, false, false] rfl rfl (by kernel_rfl) (fun _ _ _ h => h) (Or.inl ⟨by rfl, ?_⟩) ?_ ?_
          rotate_left
          ·intro w'
           go_simp
           with_reducible rfl
          rotate_left
          ·simp only [Act.put, List.setIfInBounds_toArray, List.set_cons_zero, List.set_cons_succ, i64_w, i32_w]
           rfl
          refine take_ (i := 0) (N := some 17) (v := ?_) (a' := ?_) #[true, true, true, false, false, false] rfl rfl (by kernel_rfl) (fun _ _ _ h => h) (Or.inl ⟨by rfl, ?_⟩) hHeld ?_ ?_
          rotate_left
          ·rintro w' ⟨s0, s1, s2, s3⟩
           go_simp
           with_reducible rfl
          rotate_left
          ·simp only [Act.put, List.setIfInBounds_toArray, List.set_cons_zero, List.set_cons_succ, i64_w, i32_w]
           rfl
          refine take_ (i := 3) (N := some 20) (v := ?_) (a' := ?_) #[true, true, true, true, false, false] rfl rfl (by kernel_rfl) (fun _ _ _ h => h) (Or.inl ⟨by rfl, ?_⟩) hHeld ?_ ?_
          rotate_left
          ·rintro w' ⟨s0, s1, s2, s3⟩
           go_simp
           with_reducible rfl
          rotate_left
          ·simp only [Act.put, List.setIfInBounds_toArray, List.set_cons_zero, List.set_cons_succ, i64_w, i32_w]
           rfl
          refine pure_ (i := 4) (N := some 21) (v := ?_) (a' := ?_) #[true, true, true, true, true, false] rfl rfl (by kernel_rfl) (fun _ _ _ h => h) (Or.inl ⟨by rfl, ?_⟩) ?_ ?_
          rotate_left
          ·intro w'
           go_simp
           with_reducible rfl
          rotate_left
          ·simp only [Act.put, List.setIfInBounds_toArray, List.set_cons_zero, List.set_cons_succ, i64_w, i32_w]
           rfl
          refine pure_ (i := 5) (N := some 16) (v := ?_) (a' := ?_) #[true, true, true, true, true, true] rfl rfl (by kernel_rfl) (fun _ _ _ h => h) (Or.inl ⟨by rfl, ?_⟩) ?_ ?_
          rotate_left
          ·intro w'
           go_simp
           with_reducible rfl
          rotate_left
          ·simp only [Act.put, List.setIfInBounds_toArray, List.set_cons_zero, List.set_cons_succ, i64_w, i32_w]
           rfl
          refine done_ (by kernel_rfl) ?_
          try go_wp2
          have n0_ := Aside0.mk (Kd.V_drew HO0.out)
          have n1_ := Aside0.mk (Kd.V_drew HO1.out)
          have n2_ := Aside0.mk (blk_drew BK256.out)
          have n3_ := Aside0.mk (blk_drew BK257.out)
          have n4_ := Aside0.mk (below_drew1 HB.out)
          clear HO0 HO1 BK256 BK257 HB
          have HO0 := n0_; have HO1 := n1_; have BK256 := n2_; have BK257 := n3_; have HB := n4_
          clear n0_ n1_ n2_ n3_ n4_
          have p270 : 0 ≤ ((ji26) : Int) := od_
          have q270 : (ji26) < (l1.length : Int) := od_
          obtain ⟨ad270, e270, hx270_0, hx270_1⟩ := at_T49 (Kd.V_reads' HO1.out).2.2 (ji26) p270 q270
          obtain rfl : ad258 = ad270 := (by injection e270)
          replace p270 := eq_true p270
          replace q270 := eq_true q270
          refine start_ (n := 9) (S := fun w' => w'.cell? ⟨gb257, 0, none⟩ = some (.int .i64 ((rd_T49 l0 (ji4)).f0)) ∧ w'.cell? ⟨gb257, 1, none⟩ = some (.int .i64 ((rd_T49 l0 (ji4)).f1)) ∧ w'.cell? (ad258.add (((ji26)).toNat * 2)) = some (.int .i64 ((rd_T49 l1 (ji26)).f0)) ∧ w'.cell? ⟨(ad258.add (((ji26)).toNat * 2)).block, (ad258.add (((ji26)).toNat * 2)).off + 1, none⟩ = some (.int .i64 ((rd_T49 l1 (ji26)).f1))) (ds := []) #[false, false, false, false, false, false, false, false, false] (by kernel_rfl) rfl rfl ⟨(blk_cell BK257.out 0).trans rfl, (blk_cell BK257.out 1).trans rfl, hx270_0, hx270_1⟩ (fun hHeld => ?_); refine with_tabW impl_join.tab4 impl_join.bits4 (fun HT_ HW_ => ?_)
          generalize w42.drew = w43 at HO0 HO1 BK256 BK257 HB hx270_0 hx270_1 hHeld ⊢
          refine pure_ (i := 1) (N := some 29) (v := ?_) (a' := ?_) #[false, true, false, false, false, false, false, false, false] rfl rfl (any_of HT_.out (by kernel_rfl)) (fun _ _ _ h => h) (Or.inl ⟨by rfl, ?_⟩) ?_ ?_
          rotate_left
          ·intro w'
           go_simp
           with_reducible rfl
          rotate_left
          ·simp only [Act.put, List.setIfInBounds_toArray, List.set_cons_zero, List.set_cons_succ, i64_w, i32_w]
           rfl
          refine pure_ (i := 2) (N := some 30) (v := ?_) (a' := ?_) #[false, true, true, false, false, false, false, false, false] rfl rfl (any_of HT_.out (by kernel_rfl)) (fun _ _ _ h => h) (Or.inl ⟨by rfl, ?_⟩) ?_ ?_
          rotate_left
          ·intro w'
           go_simp
           with_reducible rfl
          rotate_left
          ·simp only [Act.put, List.setIfInBounds_toArray, List.set_cons_zero, List.set_cons_succ, i64_w, i32_w]
           rfl
          refine pure_ (i := 3) (N := some 31) (v := ?_) (a' := ?_) #[false, true, true, true, false, false, false, false, false] rfl rfl (any_of HT_.out (by kernel_rfl)) (fun _ _ _ h => h) (Or.inl ⟨by rfl, ?_⟩) ?_ ?_
          rotate_left
          ·intro w'
           go_simp
           with_reducible rfl
          rotate_left
          ·simp only [Act.put, List.setIfInBounds_toArray, List.set_cons_zero, List.set_cons_succ, i64_w, i32_w]
           rfl
          refine pure_ (i := 4) (N := some 32) (v := ?_) (a' := ?_) #[false, true, true, true, true, false, false, false, false] rfl rfl (any_of HT_.out (by kernel_rfl)) (fun _ _ _ h => h) (Or.inl ⟨by rfl, ?_⟩) ?_ ?_
          rotate_left
          ·intro w'
           go_simp
           with_reducible rfl
          rotate_left
          ·simp only [Act.put, List.setIfInBounds_toArray, List.set_cons_zero, List.set_cons_succ, i64_w, i32_w]
           rfl
          refine pure_ (i := 5) (N := some 33) (v := ?_) (a' := ?_) #[false, true, true, true, true, true, false, false, false] rfl rfl (any_of HT_.out (by kernel_rfl)) (fun _ _ _ h => h) (Or.inl ⟨by rfl, ?_⟩) ?_ ?_
          rotate_left
          ·intro w'
           go_simp
           with_reducible rfl
          rotate_left
          ·simp only [Act.put, List.setIfInBounds_toArray, List.set_cons_zero, List.set_cons_succ, i64_w, i32_w]
           rfl
          refine take_ (i := 0) (N := some 28) (v := ?_) (a' := ?_) #[true, true, true, true, true, true, false, false, false] rfl rfl (take_ofW HT_.out HW_.out (by kernel_rfl)) (fun _ _ _ h => h) (Or.inl ⟨by rfl, ?_⟩) hHeld ?_ ?_
          rotate_left
          ·rintro w' ⟨s0, s1, s2, s3⟩
           go_simp
           with_reducible rfl
          rotate_left
          ·simp only [Act.put, List.setIfInBounds_toArray, List.set_cons_zero, List.set_cons_succ, i64_w, i32_w]
           rfl
          refine take_ (i := 6) (N := some 34) (v := ?_) (a' := ?_) #[true, true, true, true, true, true, true, false, false] rfl rfl (take_ofW HT_.out HW_.out (by kernel_rfl)) (fun _ _ _ h => h) (Or.inl ⟨by rfl, ?_⟩) hHeld ?_ ?_
          rotate_left
          ·rintro w' ⟨s0, s1, s2, s3⟩
           go_simp
           with_reducible rfl
          rotate_left
          ·simp only [Act.put, List.setIfInBounds_toArray, List.set_cons_zero, List.set_cons_succ, i64_w, i32_w]
           rfl
          refine pure_ (i := 7) (N := some 35) (v := ?_) (a' := ?_) #[true, true, true, true, true, true, true, true, false] rfl rfl (any_of HT_.out (by kernel_rfl)) (fun _ _ _ h => h) (Or.inl ⟨by rfl, ?_⟩) ?_ ?_
          rotate_left
          ·intro w'
           go_simp
           with_reducible rfl
          rotate_left
          ·simp only [Act.put, List.setIfInBounds_toArray, List.set_cons_zero, List.set_cons_succ, i64_w, i32_w]
           rfl
          refine pure_ (i := 8) (N := some 27) (v := ?_) (a' := ?_) #[true, true, true, true, true, true, true, true, true] rfl rfl (any_of HT_.out (by kernel_rfl)) (fun _ _ _ h => h) (Or.inl ⟨by rfl, ?_⟩) ?_ ?_
          rotate_left
          ·intro w'
           go_simp
           with_reducible rfl
          rotate_left
          ·simp only [Act.put, List.setIfInBounds_toArray, List.set_cons_zero, List.set_cons_succ, i64_w, i32_w]
           rfl
          refine done_ (done_of HT_.out (by kernel_rfl)) ?_
          try go_wp2_with (first | ((with_reducible refine gate_callee (f := 57) rfl ?_); refine goesL_ (some 38) rfl rfl Try.func57 (by kernel_rfl) rfl #[.slice (some ad258) l1.length c1] rfl gl_ ?_; (with_reducible refine (impl_reversed.calls k _ _ l1 t271 _ ?side1 ?side2 A30.out).mono ?_); (case side1 => repeat (first | exact (Kd.V_reads' HO1.out).2.2 | (with_reducible refine Kd.C_alloc ?_ _) | (with_reducible refine Kd.C_drewN ?_ _) | (with_reducible refine Kd.C_drew ?_))); (case side2 => exact (Kd.V_reads' HO1.out).2.1); rintro e w44 ⟨v272, rfl, ho0, hb⟩; refine ⟨_, rfl, ?_⟩; have n0_ := Aside0.mk (Kd.V_elder' (vk_ HO0.out) (Kd.R_base ho0) hb); have n1_ := Aside0.mk (Kd.V_elder' (vk_ HO1.out) (Kd.R_base ho0) hb); have n2_ := Aside0.mk (Kd.R_lower (Kd.R_newB (Kd.R_newB (Kd.R_newM (M := fun k_ => (w.heap.size ≤ k_)) ho0 (below_size (bws_ HB.out)) (fun k_ h_ => h_)) (g := gb256) (o := .cells #[.int .i64 ((rd_T49 l0 0).f0), .int .i64 ((rd_T49 l0 0).f1)] 49 (0, 0)) (bk_ BK256.out)) (g := gb257) (o := .cells #[.int .i64 ((rd_T49 l0 (ji4)).f0), .int .i64 ((rd_T49 l0 (ji4)).f1)] 49 (0, 0)) (bk_ BK257.out)) (below_size (bws_ HB.out))); have n3_ := Aside0.mk (blk_below (bk_ BK256.out) hb); have n4_ := Aside0.mk (blk_below (bk_ BK257.out) hb); have n5_ := Aside0.mk (below_step (bws_ HB.out) hb); clear HO0; clear HO1; clear BK256; clear BK257; clear HB; have HO0 := n0_; have HO1 := n1_; have HO273 := n2_; have BK256 := n3_; have BK257 := n4_; have HB := n5_; clear n0_ n1_ n2_ n3_ n4_ n5_; (try clear hb); (try clear hb2); (try clear hk); (try clear hi); (try clear ho0); obtain ⟨Ao46, co46, eo46⟩ := Kd.R_slice HO273.out; subst eo46; have q45 : (1 : Int) ≤ ((t271.length : Int) : Int) := od_; obtain ⟨i045, hi045, _, hsz45, _⟩ := info_parts info49; have hroom45 : t271.length ≤ co46 := (Kd.R_reads' HO273.out).2.1; have hC45 : Kd.F k49 _ _ Ao46 t271.length t271 := (Kd.V_at (base := w.heap.size) (Kd.V_mono (ok' := (fun k_ => (((((P0_ k_ ∨ P1_ k_) ∨ w.heap.size ≤ k_) ∧ True) ∧ k_ ≠ gb256) ∧ k_ ≠ gb257))) (Kd.R_V HO273.out) (fun k_ hk => ⟨⟨⟨(.inr (hk.1.1.1)), trivial⟩, hk.1.2⟩, hk.2⟩))).2.2; have hcut45 := cut_from (P := Try.prog) 34 49 .i64 Try.underlying34 hi045 2 hsz45 Ao46 t271.length co46 1 (by omega) q45; have hr45 := Kd.F_cut (m := (1 : Int).toNat) (c := co46) hC45 (by omega) hroom45; obtain ⟨A45, hA45⟩ : ∃ A_z, A_z = (if co46 = (1 : Int).toNat then Ao46 else (Ao46 : Option Addr).map (·.add ((1 : Int).toNat * 2))) := ⟨_, rfl⟩; obtain ⟨c45, hc45⟩ : ∃ c_z, c_z = co46 - (1 : Int).toNat := ⟨_, rfl⟩; have hy45 : y274.length = t271.length - (1 : Int).toNat := (by rw [Ny274.out, List.length_drop] <;> omega); rw [show (t271).drop (1 : Int).toNat = y274 from Ny274.out.symm] at hr45; replace hr45 : Kd.F k49 _ _ A45 y274.length y274 := (by rw [hA45]; exact hr45); rw [← hy45, ← hA45, ← hc45] at hcut45; have HO278 := Aside0.mk (show Kd.V k49 49 _ w.heap.size _ (.slice A45 y274.length c45) y274 from Kd.V_mk (by rw [hy45, hc45]; exact Nat.sub_le_sub_right hroom45 _) hr45); have HC278 := Aside0.mk (show y274.length ≤ c45 from by rw [hy45, hc45]; exact Nat.sub_le_sub_right hroom45 _); clear hr45 hC45 hroom45 hi045 hsz45 hc45; have KY45 := Aside0.mk hy45; have KA45 := Aside0.mk hA45; clear hy45 hA45; replace q45 := eq_true q45) | ((with_reducible refine gate_dst (N := 40) rfl ?_); refine Kd.N_lit (Kd.slice 49 k49) _ 34 ?hg (N' := 40) ?hd (xs := ([l0, y274] : List (List (S49)))) (inner := [.slice (some ad254) l0.length c0, .slice A45 y274.length c45]) (ok := (fun k_ => ((P0_ k_ ∨ P1_ k_) ∨ w.heap.size ≤ k_) ∧ k_ ≠ gb256 ∧ k_ ≠ gb257)) (okp := (fun k_ => ((P0_ k_ ∨ P1_ k_) ∨ w.heap.size ≤ k_) ∧ k_ ≠ gb256 ∧ k_ ≠ gb257)) ?hr ?hp (fun _ hk => hk) ((show ∀ k_, w44.heap.size ≤ k_ → (fun k_ => ((P0_ k_ ∨ P1_ k_) ∨ w.heap.size ≤ k_) ∧ k_ ≠ gb256 ∧ k_ ≠ gb257) k_ from fun k_ hk => ⟨(.inr (Nat.le_trans (below_size (bws_ HB.out)) hk)), Kd.freshB (g := gb256) (o := .cells #[.int .i64 ((rd_T49 l0 0).f0), .int .i64 ((rd_T49 l0 0).f1)] 49 (0, 0)) (bk_ BK256.out) k_ hk, Kd.freshB (g := gb257) (o := .cells #[.int .i64 ((rd_T49 l0 (ji4)).f0), .int .i64 ((rd_T49 l0 (ji4)).f1)] 49 (0, 0)) (bk_ BK257.out) k_ hk⟩) _ (Nat.le_refl _)) (Below.refl _ _) (Nat.le_refl _) (by simp) ?_; (case hd => rfl); (case hg => rfl); (case hr => first | (go_simp; done) | (go_simp; rfl)); (case hp => exact (Reps.one (show Kd.FK (Kd.slice 49 k49) _ _ l0 [.slice (some ad254) l0.length c0] from (Kd.FK_slice_mk (Kd.V_reads' (Kd.V_mono (ok' := (fun k_ => ((P0_ k_ ∨ P1_ k_) ∨ w.heap.size ≤ k_) ∧ k_ ≠ gb256 ∧ k_ ≠ gb257)) (HO0.out) (fun k_ hk => ⟨hk.1.1, ⟨hk.1.2.1, hk.1.2.2⟩⟩))).2.1 (Kd.V_F (Kd.V_mono (ok' := (fun k_ => ((P0_ k_ ∨ P1_ k_) ∨ w.heap.size ≤ k_) ∧ k_ ≠ gb256 ∧ k_ ≠ gb257)) (HO0.out) (fun k_ hk => ⟨hk.1.1, ⟨hk.1.2.1, hk.1.2.2⟩⟩))))) (Reps.one (show Kd.FK (Kd.slice 49 k49) _ _ y274 [.slice A45 y274.length c45] from (Kd.FK_slice_mk (Kd.V_reads' (Kd.V_mono (ok' := (fun k_ => ((P0_ k_ ∨ P1_ k_) ∨ w.heap.size ≤ k_) ∧ k_ ≠ gb256 ∧ k_ ≠ gb257)) (HO278.out) (fun k_ hk => ⟨hk.1.1.1, ⟨hk.1.2, hk.2⟩⟩))).2.1 (Kd.V_F (Kd.V_mono (ok' := (fun k_ => ((P0_ k_ ∨ P1_ k_) ∨ w.heap.size ≤ k_) ∧ k_ ≠ gb256 ∧ k_ ≠ gb257)) (HO278.out) (fun k_ hk => ⟨hk.1.1.1, ⟨hk.1.2, hk.2⟩⟩))))) (Reps.none _ _)))); intro v280 w47 ho48 hb hg_ hnew_; clear hg_ hnew_; (first | rw [← Ny279.out] at ho48 | (simp only [Int.reduceToNat] at ho48; rw [← Ny279.out] at ho48)); have n0_ := Aside0.mk (Kd.V_elder' (vk_ HO0.out) (Kd.N_base ho48) hb); have n1_ := Aside0.mk (Kd.V_elder' (vk_ HO1.out) (Kd.N_base ho48) hb); have n2_ := Aside0.mk (Kd.R_below (by (with_reducible repeat (first | apply Kd.R_alloc | apply Kd.R_drewN | apply Kd.R_drew)); exact HO273.out) hb); have n3_ := Aside0.mk (Kd.V_elder' (vk_ HO278.out) (Kd.N_base ho48) hb); have n4_ := Aside0.mk (Kd.N_lower ho48 (below_size (bws_ HB.out))); have n5_ := Aside0.mk (blk_below (bk_ BK256.out) hb); have n6_ := Aside0.mk (blk_below (bk_ BK257.out) hb); have n7_ := Aside0.mk (below_step (bws_ HB.out) hb); clear HO0; clear HO1; clear HO273; clear HO278; clear BK256; clear BK257; clear HB; have HO0 := n0_; have HO1 := n1_; have HO273 := n2_; have HO278 := n3_; have HO281 := n4_; have BK256 := n5_; have BK257 := n6_; have HB := n7_; clear n0_ n1_ n2_ n3_ n4_ n5_ n6_ n7_; clear hb ho48; obtain ⟨Ao49, co49, eo49⟩ := Kd.N_slice HO281.out; subst eo49) | ((with_reducible refine gate_callee (f := 56) rfl ?_); refine goesL_ (some 41) rfl rfl Try.func56 (by kernel_rfl) rfl #[.slice Ao49 y279.length co49] rfl gl_ ?_; (with_reducible refine (impl_Place_56.calls k _ _ y279 t282 _ ?side1 ?side2 A32.out).mono ?_); (case side1 => repeat (first | exact (Kd.N_reads' HO281.out).2.2 | (with_reducible refine Kd.C_alloc ?_ _) | (with_reducible refine Kd.C_drewN ?_ _) | (with_reducible refine Kd.C_drew ?_))); (case side2 => exact (Kd.N_reads' HO281.out).2.1); rintro e w50 ⟨v283, rfl, ho0, hb⟩; refine ⟨_, rfl, ?_⟩; have n0_ := Aside0.mk (Kd.V_elder' (vk_ HO0.out) (Kd.R_base ho0) hb); have n1_ := Aside0.mk (Kd.V_elder' (vk_ HO1.out) (Kd.R_base ho0) hb); have n2_ := Aside0.mk (Kd.R_elder' (by (with_reducible repeat (first | apply Kd.R_alloc | apply Kd.R_drewN | apply Kd.R_drew)); exact HO273.out) (Kd.R_base ho0) hb); have n3_ := Aside0.mk (Kd.V_elder' (vk_ HO278.out) (Kd.R_base ho0) hb); have n4_ := Aside0.mk (Kd.N_elder' (by (with_reducible repeat (first | apply Kd.N_alloc | apply Kd.N_drewN | apply Kd.N_drew)); exact HO281.out) (Kd.R_base ho0) hb); have n5_ := Aside0.mk (Kd.R_lower (Kd.R_newB (Kd.R_newB (Kd.R_new' (Kd.R_newM (M := fun k_ => (w.heap.size ≤ k_)) ho0 (below_size (bws_ HB.out)) (fun k_ h_ => h_)) (Kd.R_lt (by (with_reducible repeat (first | apply Kd.R_alloc | apply Kd.R_drewN | apply Kd.R_drew)); exact HO273.out))) (g := gb256) (o := .cells #[.int .i64 ((rd_T49 l0 0).f0), .int .i64 ((rd_T49 l0 0).f1)] 49 (0, 0)) (bk_ BK256.out)) (g := gb257) (o := .cells #[.int .i64 ((rd_T49 l0 (ji4)).f0), .int .i64 ((rd_T49 l0 (ji4)).f1)] 49 (0, 0)) (bk_ BK257.out)) (below_size (bws_ HB.out))); have n6_ := Aside0.mk (blk_below (bk_ BK256.out) hb); have n7_ := Aside0.mk (blk_below (bk_ BK257.out) hb); have n8_ := Aside0.mk (below_step (bws_ HB.out) hb); clear HO0; clear HO1; clear HO273; clear HO278; clear HO281; clear BK256; clear BK257; clear HB; have HO0 := n0_; have HO1 := n1_; have HO273 := n2_; have HO278 := n3_; have HO281 := n4_; have HO284 := n5_; have BK256 := n6_; have BK257 := n7_; have HB := n8_; clear n0_ n1_ n2_ n3_ n4_ n5_ n6_ n7_ n8_; (try clear hb); (try clear hb2); (try clear hk); (try clear hi); (try clear ho0)))
          go_ret
          exact ⟨_, by first | rfl | (simp [errW_none, errW_some] <;> rfl) | (simp only [← hji4, ← hji26]; first | rfl | (simp [errW_none, errW_some] <;> rfl)) | (simp [*, errW_none, errW_some] <;> rfl), by (with_reducible repeat (first | apply Kd.R_alloc | apply Kd.R_drewN | apply Kd.R_drew)); exact Kd.R_mono HO284.out (fun _ hk => hk.1.1.1.1), by repeat (first | (with_reducible first | exact HB.out | apply below_alloc | apply pw_below_drewN | apply below_drew1 | refine below_set ?_ GE256.out | refine below_set ?_ GE257.out) | exact HB.out), by first | exact fun hr_ => absurd hr_ HNZ.out | exact fun hr_ => absurd hr_ NZ_.out | exact fun _ => rfl | rfl | (simp; done) | (intro _; first | rfl | (simp; done))⟩
         ·rw [if_neg c31] at H
          exact absurd H (by simp)
        ·rw [if_neg c29] at H
         have c29b0 : (((rd_T49 l0 (ji4)).f0) == ((rd_T49 l1 (ji26)).f0) && (((rd_T49 l0 (ji4)).f1) == ((rd_T49 l1 (ji26)).f1))) = false := by simpa using c29
         (try (have c29b1 : decide (((rd_T49 l0 (ji4)).f0) = ((rd_T49 l1 (ji26)).f0) && (((rd_T49 l0 (ji4)).f1) == ((rd_T49 l1 (ji26)).f1))) = false := by simpa using c29))
         (try (have c29b2 : (((rd_T49 l0 (ji4)).f0) == ((rd_T49 l1 (ji26)).f0) && (((rd_T49 l0 (ji4)).f1) == ((rd_T49 l1 (ji26)).f1))) = false := by simpa using c29))
         (try (have c29b3 : ¬ (((rd_T49 l0 (ji4)).f0) = ((rd_T49 l1 (ji26)).f0) && (((rd_T49 l0 (ji4)).f1) == ((rd_T49 l1 (ji26)).f1))) := by simpa using c29))
         clear c29
         by_cases c51 : (((rd_T49 l0 0).f0) == ((rd_T49 l1 (ji26)).f0) && (((rd_T49 l0 0).f1) == ((rd_T49 l1 (ji26)).f1))) = true
         ·rw [if_pos c51] at H
          have c51b0 : (((rd_T49 l0 0).f0) == ((rd_T49 l1 (ji26)).f0) && (((rd_T49 l0 0).f1) == ((rd_T49 l1 (ji26)).f1))) = true := c51
          (try (have c51b1 : decide (((rd_T49 l0 0).f0) = ((rd_T49 l1 (ji26)).f0) && (((rd_T49 l0 0).f1) == ((rd_T49 l1 (ji26)).f1))) = true := by simpa using c51))
          (try (have c51b2 : (((rd_T49 l0 0).f0) == ((rd_T49 l1 (ji26)).f0) && (((rd_T49 l0 0).f1) == ((rd_T49 l1 (ji26)).f1))) = true := by simpa using c51))
          clear c51
          by_cases c52 : 1 ≤ (l0.length : Int)
          ·rw [if_pos c52] at H
           have c52b0 := eq_true c52
           have c52b1 : decide (1 ≤ (l0.length : Int)) = true := decide_eq_true c52
           clear c52
           obtain ⟨y286, hy286⟩ : ∃ y_ : List (S49), y_ = (l0.drop 1) := ⟨_, rfl⟩
           replace H : ((impl_Place_56.f k (([l1, y286] : List (List (S49))))).bind fun t294 => (if 0 < (t294.length : Int) then (some t294) else none)) = some r := by first | (rw [hy286]; with_reducible exact H) | (have H2_ := (Option.bind_some _ _).symm.trans H; rw [hy286]; with_reducible exact H2_) | (have H2_ := (Option.bind_some _ _).symm.trans H; with_reducible exact H2_) | with_reducible exact H | (rw [hy286]; exact H) | exact H
           have Ny286 := Aside0.mk hy286
           clear hy286
           obtain ⟨y291, hy291⟩ : ∃ y_ : List (List (S49)), y_ = (([l1, y286] : List (List (S49)))) := ⟨_, rfl⟩
           replace H : ((impl_Place_56.f k y291).bind fun t294 => (if 0 < (t294.length : Int) then (some t294) else none)) = some r := by first | (rw [hy291]; with_reducible exact H) | (have H2_ := (Option.bind_some _ _).symm.trans H; rw [hy291]; with_reducible exact H2_) | (have H2_ := (Option.bind_some _ _).symm.trans H; with_reducible exact H2_) | with_reducible exact H | (rw [hy291]; exact H) | exact H
           have Ny291 := Aside0.mk hy291
           clear hy291
           replace H := Option.bind_eq_some_iff.mp H
           obtain ⟨t294, A530, H⟩ := H
           replace H : (if 0 < (t294.length : Int) then (some t294) else none) = some r := H
           have hnz_ : 0 < (t294.length : Int) := by
            by_cases hz_ : 0 < (t294.length : Int)
            ·exact hz_
            ·rw [if_neg hz_] at H; cases H
           rw [if_pos hnz_] at H
           have HNZ := Aside0.mk (show t294 ≠ [] from fun h_ => by rw [h_] at hnz_; simp at hnz_)
           clear hnz_
           have A53 := Aside0.mk A530
           clear A530
           obtain rfl := Option.some.inj H
           go_enter Try.func36, Try.ntmps36
           try go_wp2
           have n0_ := Aside0.mk (Kd.V_drew HO0.out)
           have n1_ := Aside0.mk (Kd.V_drew HO1.out)
           have n2_ := Aside0.mk (below_drew1 HB.out)
           clear HO0 HO1 HB
           have HO0 := n0_; have HO1 := n1_; have HB := n2_
           clear n0_ n1_ n2_
           have p254 : 0 ≤ (0 : Int) := (by omega)
           have q254 : 0 < (l0.length : Int) := od_
           obtain ⟨ad254, e254, hx254_0, hx254_1⟩ := at_T49 (Kd.V_reads' HO0.out).2.2 0 p254 q254
           cases e254
           have qi254 : (0 < l0.length) = True := eq_true (by omega)
           (try rw [show ((0 : Int)).toNat = 0 from rfl] at hx254_0)
           (try rw [show 0 * 2 = 0 from rfl] at hx254_0)
           (try rw [Addr.add_zero'] at hx254_0)
           (try rw [show ((0 : Int)).toNat = 0 from rfl] at hx254_1)
           (try rw [show 0 * 2 = 0 from rfl] at hx254_1)
           (try rw [Addr.add_zero'] at hx254_1)
           replace p254 := eq_true p254
           replace q254 := eq_true q254
           have p255 : 0 ≤ ((ji4) : Int) := od_
           have q255 : (ji4) < (l0.length : Int) := od_
           obtain ⟨ad255, e255, hx255_0, hx255_1⟩ := at_T49 (Kd.V_reads' HO0.out).2.2 (ji4) p255 q255
           obtain rfl : ad254 = ad255 := (by injection e255)
           replace p255 := eq_true p255
           replace q255 := eq_true q255
           refine start_ (n := 13) (S := fun w' => w'.cell? ad254 = some (.int .i64 ((rd_T49 l0 0).f0)) ∧ w'.cell? ⟨ad254.block, ad254.off + 1, none⟩ = some (.int .i64 ((rd_T49 l0 0).f1)) ∧ w'.cell? (ad254.add (((ji4)).toNat * 2)) = some (.int .i64 ((rd_T49 l0 (ji4)).f0)) ∧ w'.cell? ⟨(ad254.add (((ji4)).toNat * 2)).block, (ad254.add (((ji4)).toNat * 2)).off + 1, none⟩ = some (.int .i64 ((rd_T49 l0 (ji4)).f1))) (ds := []) #[false, false, false, false, false, false, false, false, false, false, false, false, false] (by kernel_rfl) rfl rfl ⟨hx254_0, hx254_1, hx255_0, hx255_1⟩ (fun hHeld => ?_); refine with_tabW impl_join.tab1 impl_join.bits1 (fun HT_ HW_ => ?_)
           generalize w.drew = w54 at HO0 HO1 HB hx254_0 hx254_1 hx255_0 hx255_1 hHeld ⊢
           refine pure_ (i := 0) (N := some 7) (v := ?_) (a' := ?_) #[true, false, false, false, false, false, false, false, false, false, false, false, false] rfl rfl (any_of HT_.out (by kernel_rfl)) (fun _ _ _ h => h) (Or.inl ⟨by rfl, ?_⟩) ?_ ?_
           rotate_left
           ·intro w'
            go_simp
            with_reducible rfl
           rotate_left
           ·simp only [Act.put, List.setIfInBounds_toArray, List.set_cons_zero, List.set_cons_succ, i64_w, i32_w]
            rfl
           refine pure_ (i := 1) (N := some 8) (v := ?_) (a' := ?_) #[true, true, false, false, false, false, false, false, false, false, false, false, false] rfl rfl (any_of HT_.out (by kernel_rfl)) (fun _ _ _ h => h) (Or.inl ⟨by rfl, ?_⟩) ?_ ?_
           rotate_left
           ·intro w'
            go_simp
            with_reducible rfl
           rotate_left
           ·simp only [Act.put, List.setIfInBounds_toArray, List.set_cons_zero, List.set_cons_succ, i64_w, i32_w]
            rfl
           refine pure_ (i := 3) (N := some 10) (v := ?_) (a' := ?_) #[true, true, false, true, false, false, false, false, false, false, false, false, false] rfl rfl (any_of HT_.out (by kernel_rfl)) (fun _ _ _ h => h) (Or.inl ⟨by rfl, ?_⟩) ?_ ?_
           rotate_left
           ·intro w'
            go_simp
            with_reducible rfl
           rotate_left
           ·simp only [Act.put, List.setIfInBounds_toArray, List.set_cons_zero, List.set_cons_succ, i64_w, i32_w]
            rfl
           refine pure_ (i := 4) (N := some 11) (v := ?_) (a' := ?_) #[true, true, false, true, true, false, false, false, false, false, false, false, false] rfl rfl (any_of HT_.out (by kernel_rfl)) (fun _ _ _ h => h) (Or.inl ⟨by rfl, ?_⟩) ?_ ?_
           rotate_left
           ·intro w'
            go_simp
            with_reducible rfl
           rotate_left
           ·simp only [Act.put, List.setIfInBounds_toArray, List.set_cons_zero, List.set_cons_succ, i64_w, i32_w]
            rfl
           refine pure_ (i := 5) (N := some 12) (v := ?_) (a' := ?_) #[true, true, false, true, true, true, false, false, false, false, false, false, false] rfl rfl (any_of HT_.out (by kernel_rfl)) (fun _ _ _ h => h) (Or.inl ⟨by rfl, ?_⟩) ?_ ?_
           rotate_left
           ·intro w'
            go_simp
            with_reducible rfl
           rotate_left
           ·simp only [Act.put, List.setIfInBounds_toArray, List.set_cons_zero, List.set_cons_succ, i64_w, i32_w]
            rfl
           refine pure_ (i := 6) (N := some 13) (v := ?_) (a' := ?_) #[true, true, false, true, true, true, true, false, false, false, false, false, false] rfl rfl (any_of HT_.out (by kernel_rfl)) (fun _ _ _ h => h) (Or.inl ⟨by rfl, ?_⟩) ?_ ?_
           rotate_left
           ·intro w'
            go_simp
            with_reducible rfl
           rotate_left
           ·simp only [Act.put, List.setIfInBounds_toArray, List.set_cons_zero, List.set_cons_succ, i64_w, i32_w]
            rfl
           refine pure_ (i := 7) (N := some 14) (v := ?_) (a' := ?_) #[true, true, false, true, true, true, true, true, false, false, false, false, false] rfl rfl (any_of HT_.out (by kernel_rfl)) (fun _ _ _ h => h) (Or.inl ⟨by rfl, ?_⟩) ?_ ?_
           rotate_left
           ·intro w'
            go_simp
            with_reducible rfl
           rotate_left
           ·simp only [Act.put, List.setIfInBounds_toArray, List.set_cons_zero, List.set_cons_succ, i64_w, i32_w]
            rfl
           refine take_ (i := 2) (N := some 9) (v := ?_) (a' := ?_) #[true, true, true, true, true, true, true, true, false, false, false, false, false] rfl rfl (take_ofW HT_.out HW_.out (by kernel_rfl)) (fun _ _ _ h => h) (Or.inl ⟨by rfl, ?_⟩) hHeld ?_ ?_
           rotate_left
           ·rintro w' ⟨s0, s1, s2, s3⟩
            go_simp
            with_reducible rfl
           rotate_left
           ·simp only [Act.put, List.setIfInBounds_toArray, List.set_cons_zero, List.set_cons_succ, i64_w, i32_w]
            rfl
           refine take_ (i := 8) (N := some 15) (v := ?_) (a' := ?_) #[true, true, true, true, true, true, true, true, true, false, false, false, false] rfl rfl (take_ofW HT_.out HW_.out (by kernel_rfl)) (fun _ _ _ h => h) (Or.inl ⟨by rfl, ?_⟩) hHeld ?_ ?_
           rotate_left
           ·rintro w' ⟨s0, s1, s2, s3⟩
            go_simp
            with_reducible rfl
           rotate_left
           ·simp only [Act.put, List.setIfInBounds_toArray, List.set_cons_zero, List.set_cons_succ, i64_w, i32_w]
            rfl
           refine join_ (σ := Nat × Nat) 2 #[true, true, true, true, true, true, true, true, true, true, true, false, false] (fun s_ => [(5, .pointer (some ⟨s_.1, 0, none⟩)), (6, .pointer (some ⟨s_.2, 0, none⟩))]) (fun s_ w' => (w'.cell? ad254 = some (.int .i64 ((rd_T49 l0 0).f0)) ∧ w'.cell? ⟨ad254.block, ad254.off + 1, none⟩ = some (.int .i64 ((rd_T49 l0 0).f1)) ∧ w'.cell? (ad254.add (((ji4)).toNat * 2)) = some (.int .i64 ((rd_T49 l0 (ji4)).f0)) ∧ w'.cell? ⟨(ad254.add (((ji4)).toNat * 2)).block, (ad254.add (((ji4)).toNat * 2)).off + 1, none⟩ = some (.int .i64 ((rd_T49 l0 (ji4)).f1))) ∧ (Kd.V k49 49 w' w.heap.size (fun k_ => ((P0_ k_ ∨ P1_ k_) ∨ w.heap.size ≤ k_) ∧ k_ ≠ s_.1 ∧ k_ ≠ s_.2) (.slice (some ad254) l0.length c0) l0) ∧ (Kd.V k49 49 w' w.heap.size (fun k_ => ((P0_ k_ ∨ P1_ k_) ∨ w.heap.size ≤ k_) ∧ k_ ≠ s_.1 ∧ k_ ≠ s_.2) (.slice A1 l1.length c1) l1) ∧ (w'.heap[s_.1]? = some (.cells #[.int .i64 0, .int .i64 0] 49 (0, 0))) ∧ (w'.heap[s_.2]? = some (.cells #[.int .i64 0, .int .i64 0] 49 (0, 0))) ∧ (w.heap.size ≤ s_.1) ∧ (w.heap.size ≤ s_.1) ∧ (s_.2 ≠ s_.1) ∧ (s_.1 ≠ s_.2) ∧ (w.heap.size ≤ s_.2) ∧ (w.heap.size ≤ s_.2) ∧ (Below w.heap.size w w')) ?_ ?_
           rotate_left
           ·intro hCont
            refine two_ (i := 9) (j := 10) (Ni := some 5) (Nj := some 6) #[true, true, true, true, true, true, true, true, true, true, false, false, false] #[true, true, true, true, true, true, true, true, true, false, true, false, false] rfl rfl rfl rfl (two_of HT_.out (by kernel_rfl)) (by decide) (by decide) (fun K hK => ?_) (fun K hK => ?_)
            ·skip
             refine box_step ?hg (N := 5) ?hd (cs := #[.int .i64 0, .int .i64 0]) (t := 49) ?hr ?_; (case hd => rfl); (case hg => rfl); (case hr => first | (go_simp; done) | (go_simp; rfl))
             intro gb256 hg w55 hbox hb
             have HS0_ := hs_ hb hHeld.1
             have HS1_ := hs_ hb hHeld.2.1
             have HS2_ := hs_ hb hHeld.2.2.1
             have HS3_ := hs_ hb hHeld.2.2.2
             have n0_ := Aside0.mk (Kd.V_below (Kd.V_elderB (vk_ HO0.out) gb256 (Nat.le_of_eq hg.symm)) hb)
             have n1_ := Aside0.mk (Kd.V_below (Kd.V_elderB (vk_ HO1.out) gb256 (Nat.le_of_eq hg.symm)) hb)
             have n2_ := Aside0.mk (below_step (bw_ HB.out) hb)
             have n3_ := Aside0.mk (hbox)
             have n4_ := Aside0.mk ((ge_ hg (bw_ HB.out)))
             have n5_ := Aside0.mk ((ge_ hg (bw_ HB.out)))
             clear HO0 HO1 HB
             have HO0 := n0_; have HO1 := n1_; have HB := n2_; have BK256 := n3_; have GW256 := n4_; have GE256 := n5_
             clear n0_ n1_ n2_ n3_ n4_ n5_ hb hbox hg
             refine hK.out _ _ ⟨HS0_, HS1_, HS2_, HS3_⟩ (fun hHeld => ?_)
             clear hK K
             refine norm_ (a' := ?_) ?_ ?_
             rotate_left
             ·show Act.put _ (some 5) _ = _
              simp only [Act.put, List.setIfInBounds_toArray, List.set_cons_zero, List.set_cons_succ, i64_w, i32_w]
              rfl
             refine one_ (i := 10) (N := some 6) #[true, true, true, true, true, true, true, true, true, true, true, false, false] rfl rfl (one_of HT_.out (by kernel_rfl)) (by decide) (fun K hK => ?_)
             refine box_step ?hg (N := 6) ?hd (cs := #[.int .i64 0, .int .i64 0]) (t := 49) ?hr ?_; (case hd => rfl); (case hg => rfl); (case hr => first | (go_simp; done) | (go_simp; rfl))
             intro gb257 hg w56 hbox hb
             have HS0_ := hs_ hb hHeld.1
             have HS1_ := hs_ hb hHeld.2.1
             have HS2_ := hs_ hb hHeld.2.2.1
             have HS3_ := hs_ hb hHeld.2.2.2
             have n0_ := Aside0.mk (Kd.V_below (Kd.V_elderB (vk_ HO0.out) gb257 (Nat.le_of_eq hg.symm)) hb)
             have n1_ := Aside0.mk (Kd.V_below (Kd.V_elderB (vk_ HO1.out) gb257 (Nat.le_of_eq hg.symm)) hb)
             have n2_ := Aside0.mk (blk_below (bk_ BK256.out) hb)
             have n3_ := Aside0.mk (below_step (bwg_ GE256.out HB.out) hb)
             have n4_ := Aside0.mk (hbox)
             have n5_ := Aside0.mk ((by rw [hg]; exact (below_size (bwg_ GE256.out HB.out)) : w.heap.size ≤ gb257))
             have n6_ := Aside0.mk ((by rw [hg]; exact (below_size (bwg_ GE256.out HB.out)) : w.heap.size ≤ gb257))
             have n7_ := Aside0.mk ((ne1_ hg (bk_ BK256.out)))
             have n8_ := Aside0.mk ((ne2_ hg (bk_ BK256.out)))
             clear HO0 HO1 BK256 HB
             have HO0 := n0_; have HO1 := n1_; have BK256 := n2_; have HB := n3_; have BK257 := n4_; have GW257 := n5_; have GE257 := n6_; have NB256_257 := n7_; have NB257_256 := n8_
             clear n0_ n1_ n2_ n3_ n4_ n5_ n6_ n7_ n8_ hb hbox hg
             refine hK.out _ _ ⟨HS0_, HS1_, HS2_, HS3_⟩ (fun hHeld => ?_)
             clear hK K
             refine norm_ (a' := ?_) ?_ ?_
             rotate_left
             ·show Act.put _ (some 6) _ = _
              simp only [Act.put, List.setIfInBounds_toArray, List.set_cons_zero, List.set_cons_succ, i64_w, i32_w]
              rfl
             exact norm_ (by simp only [putAll, Act.put, List.setIfInBounds_toArray, List.set_cons_zero, List.set_cons_succ]) (hCont (gb256, gb257) _ ⟨hHeld, (by (with_reducible repeat (first | apply Kd.V_alloc | apply Kd.V_drewN | apply Kd.V_drew)); exact Kd.V_mono HO0.out (fun _ hk => ⟨hk.1.1, ⟨hk.1.2, hk.2⟩⟩)), (by (with_reducible repeat (first | apply Kd.V_alloc | apply Kd.V_drewN | apply Kd.V_drew)); exact Kd.V_mono HO1.out (fun _ hk => ⟨hk.1.1, ⟨hk.1.2, hk.2⟩⟩)), (bk_ BK256.out), (bk_ BK257.out), GW256.out, GE256.out, NB257_256.out, NB256_257.out, GW257.out, GE257.out, (bws_ HB.out)⟩)
            ·skip
             refine box_step ?hg (N := 6) ?hd (cs := #[.int .i64 0, .int .i64 0]) (t := 49) ?hr ?_; (case hd => rfl); (case hg => rfl); (case hr => first | (go_simp; done) | (go_simp; rfl))
             intro gb257 hg w55 hbox hb
             have HS0_ := hs_ hb hHeld.1
             have HS1_ := hs_ hb hHeld.2.1
             have HS2_ := hs_ hb hHeld.2.2.1
             have HS3_ := hs_ hb hHeld.2.2.2
             have n0_ := Aside0.mk (Kd.V_below (Kd.V_elderB (vk_ HO0.out) gb257 (Nat.le_of_eq hg.symm)) hb)
             have n1_ := Aside0.mk (Kd.V_below (Kd.V_elderB (vk_ HO1.out) gb257 (Nat.le_of_eq hg.symm)) hb)
             have n2_ := Aside0.mk (below_step (bw_ HB.out) hb)
             have n3_ := Aside0.mk (hbox)
             have n4_ := Aside0.mk ((ge_ hg (bw_ HB.out)))
             have n5_ := Aside0.mk ((ge_ hg (bw_ HB.out)))
             clear HO0 HO1 HB
             have HO0 := n0_; have HO1 := n1_; have HB := n2_; have BK257 := n3_; have GW257 := n4_; have GE257 := n5_
             clear n0_ n1_ n2_ n3_ n4_ n5_ hb hbox hg
             refine hK.out _ _ ⟨HS0_, HS1_, HS2_, HS3_⟩ (fun hHeld => ?_)
             clear hK K
             refine norm_ (a' := ?_) ?_ ?_
             rotate_left
             ·show Act.put _ (some 6) _ = _
              simp only [Act.put, List.setIfInBounds_toArray, List.set_cons_zero, List.set_cons_succ, i64_w, i32_w]
              rfl
             refine one_ (i := 9) (N := some 5) #[true, true, true, true, true, true, true, true, true, true, true, false, false] rfl rfl (one_of HT_.out (by kernel_rfl)) (by decide) (fun K hK => ?_)
             refine box_step ?hg (N := 5) ?hd (cs := #[.int .i64 0, .int .i64 0]) (t := 49) ?hr ?_; (case hd => rfl); (case hg => rfl); (case hr => first | (go_simp; done) | (go_simp; rfl))
             intro gb256 hg w56 hbox hb
             have HS0_ := hs_ hb hHeld.1
             have HS1_ := hs_ hb hHeld.2.1
             have HS2_ := hs_ hb hHeld.2.2.1
             have HS3_ := hs_ hb hHeld.2.2.2
             have n0_ := Aside0.mk (Kd.V_below (Kd.V_elderB (vk_ HO0.out) gb256 (Nat.le_of_eq hg.symm)) hb)
             have n1_ := Aside0.mk (Kd.V_below (Kd.V_elderB (vk_ HO1.out) gb256 (Nat.le_of_eq hg.symm)) hb)
             have n2_ := Aside0.mk (blk_below (bk_ BK257.out) hb)
             have n3_ := Aside0.mk (below_step (bwg_ GE257.out HB.out) hb)
             have n4_ := Aside0.mk (hbox)
             have n5_ := Aside0.mk ((by rw [hg]; exact (below_size (bwg_ GE257.out HB.out)) : w.heap.size ≤ gb256))
             have n6_ := Aside0.mk ((by rw [hg]; exact (below_size (bwg_ GE257.out HB.out)) : w.heap.size ≤ gb256))
             have n7_ := Aside0.mk ((ne1_ hg (bk_ BK257.out)))
             have n8_ := Aside0.mk ((ne2_ hg (bk_ BK257.out)))
             clear HO0 HO1 BK257 HB
             have HO0 := n0_; have HO1 := n1_; have BK257 := n2_; have HB := n3_; have BK256 := n4_; have GW256 := n5_; have GE256 := n6_; have NB257_256 := n7_; have NB256_257 := n8_
             clear n0_ n1_ n2_ n3_ n4_ n5_ n6_ n7_ n8_ hb hbox hg
             refine hK.out _ _ ⟨HS0_, HS1_, HS2_, HS3_⟩ (fun hHeld => ?_)
             clear hK K
             refine norm_ (a' := ?_) ?_ ?_
             rotate_left
             ·show Act.put _ (some 5) _ = _
              simp only [Act.put, List.setIfInBounds_toArray, List.set_cons_zero, List.set_cons_succ, i64_w, i32_w]
              rfl
             exact norm_ (by simp only [putAll, Act.put, List.setIfInBounds_toArray, List.set_cons_zero, List.set_cons_succ]) (hCont (gb256, gb257) _ ⟨hHeld, (by (with_reducible repeat (first | apply Kd.V_alloc | apply Kd.V_drewN | apply Kd.V_drew)); exact Kd.V_mono HO0.out (fun _ hk => ⟨hk.1.1, ⟨hk.2, hk.1.2⟩⟩)), (by (with_reducible repeat (first | apply Kd.V_alloc | apply Kd.V_drewN | apply Kd.V_drew)); exact Kd.V_mono HO1.out (fun _ hk => ⟨hk.1.1, ⟨hk.2, hk.1.2⟩⟩)), (bk_ BK256.out), (bk_ BK257.out), GW256.out, GE256.out, NB257_256.out, NB256_257.out, GW257.out, GE257.out, (bws_ HB.out)⟩)
           rintro ⟨gb256, gb257⟩ w57 ⟨hS_, h0_, h1_, h2_, h3_, h4_, h5_, h6_, h7_, h8_, h9_, h10_⟩
           have n0_ : Aside0 (Kd.V k49 49 w57 w.heap.size (fun k_ => ((P0_ k_ ∨ P1_ k_) ∨ w.heap.size ≤ k_) ∧ k_ ≠ gb256 ∧ k_ ≠ gb257) (.slice (some ad254) l0.length c0) l0) := ⟨h0_⟩
           have n1_ : Aside0 (Kd.V k49 49 w57 w.heap.size (fun k_ => ((P0_ k_ ∨ P1_ k_) ∨ w.heap.size ≤ k_) ∧ k_ ≠ gb256 ∧ k_ ≠ gb257) (.slice A1 l1.length c1) l1) := ⟨h1_⟩
           have n2_ : Aside0 (w57.heap[gb256]? = some (.cells #[.int .i64 0, .int .i64 0] 49 (0, 0))) := ⟨h2_⟩
           have n3_ : Aside0 (w57.heap[gb257]? = some (.cells #[.int .i64 0, .int .i64 0] 49 (0, 0))) := ⟨h3_⟩
           have n4_ : Aside0 (w.heap.size ≤ gb256) := ⟨h4_⟩
           have n5_ : Aside0 (w.heap.size ≤ gb256) := ⟨h5_⟩
           have n6_ : Aside0 (gb257 ≠ gb256) := ⟨h6_⟩
           have n7_ : Aside0 (gb256 ≠ gb257) := ⟨h7_⟩
           have n8_ : Aside0 (w.heap.size ≤ gb257) := ⟨h8_⟩
           have n9_ : Aside0 (w.heap.size ≤ gb257) := ⟨h9_⟩
           have n10_ : Aside0 (Below w.heap.size w w57) := ⟨h10_⟩
           clear HO0 HO1 HB h0_ h1_ h2_ h3_ h4_ h5_ h6_ h7_ h8_ h9_ h10_
           have HO0 := n0_; have HO1 := n1_; have BK256 := n2_; have BK257 := n3_; have GW256 := n4_; have GE256 := n5_; have NB257_256 := n6_; have NB256_257 := n7_; have GW257 := n8_; have GE257 := n9_
           have HB := n10_
           clear n0_ n1_ n2_ n3_ n4_ n5_ n6_ n7_ n8_ n9_ n10_
           have hHeld : w57.cell? ad254 = some (.int .i64 ((rd_T49 l0 0).f0)) ∧ w57.cell? ⟨ad254.block, ad254.off + 1, none⟩ = some (.int .i64 ((rd_T49 l0 0).f1)) ∧ w57.cell? (ad254.add (((ji4)).toNat * 2)) = some (.int .i64 ((rd_T49 l0 (ji4)).f0)) ∧ w57.cell? ⟨(ad254.add (((ji4)).toNat * 2)).block, (ad254.add (((ji4)).toNat * 2)).off + 1, none⟩ = some (.int .i64 ((rd_T49 l0 (ji4)).f1)) := hS_
           refine norm_ (a' := ?_) ?_ ?_
           rotate_left
           ·simp only [putAll, Act.put, List.setIfInBounds_toArray, List.set_cons_zero, List.set_cons_succ]
            rfl
           refine one_ (i := 11) (N := none) #[true, true, true, true, true, true, true, true, true, true, true, true, false] rfl rfl (one_of HT_.out (by kernel_rfl)) (by decide) (fun K hK => ?_)
           have hs58 : w57.cell? ⟨gb256, 0, none⟩ = some (.int .i64 0) := (blk_cell BK256.out 0).trans rfl
           have hfs58 := blk_frozen BK256.out 0
           have hns58_1 := NB257_256.out
           have hms58_1 := NB256_257.out
           have hs59 : w57.cell? ⟨gb256, 1, none⟩ = some (.int .i64 0) := (blk_cell BK256.out 1).trans rfl
           have hfs59 := blk_frozen BK256.out 1
           have hns59_1 := NB257_256.out
           have hms59_1 := NB256_257.out
           refine skip_ (w1 := ?_) (by rfl) rfl ?_ ?_
           rotate_left
           ·go_simp
            rfl
           refine hK.out _ _ ⟨(far2_ (by first | (rw [add_block]; exact vaw_ HO0.out (fun _ hk => hk.2.1) od_) | exact vaw_ HO0.out (fun _ hk => hk.2.1) od_ | (dsimp only; exact vaw_ HO0.out (fun _ hk => hk.2.1) od_)) hHeld.1), (far2_ (by first | (rw [add_block]; exact vaw_ HO0.out (fun _ hk => hk.2.1) od_) | exact vaw_ HO0.out (fun _ hk => hk.2.1) od_ | (dsimp only; exact vaw_ HO0.out (fun _ hk => hk.2.1) od_)) hHeld.2.1), (far2_ (by first | (rw [add_block]; exact vaw_ HO0.out (fun _ hk => hk.2.1) od_) | exact vaw_ HO0.out (fun _ hk => hk.2.1) od_ | (dsimp only; exact vaw_ HO0.out (fun _ hk => hk.2.1) od_)) hHeld.2.2.1), (far2_ (by first | (rw [add_block]; exact vaw_ HO0.out (fun _ hk => hk.2.1) od_) | exact vaw_ HO0.out (fun _ hk => hk.2.1) od_ | (dsimp only; exact vaw_ HO0.out (fun _ hk => hk.2.1) od_)) hHeld.2.2.2)⟩ (fun hHeld => ?_)
           clear hK K
           refine one_ (i := 12) (N := none) #[true, true, true, true, true, true, true, true, true, true, true, true, true] rfl rfl (one_of HT_.out (by kernel_rfl)) (by decide) (fun K hK => ?_)
           have hs60 : w57.cell? ⟨gb257, 0, none⟩ = some (.int .i64 0) := (blk_cell BK257.out 0).trans rfl
           have hfs60 := blk_frozen BK257.out 0
           have hns60_0 := NB256_257.out
           have hms60_0 := NB257_256.out
           have hs61 : w57.cell? ⟨gb257, 1, none⟩ = some (.int .i64 0) := (blk_cell BK257.out 1).trans rfl
           have hfs61 := blk_frozen BK257.out 1
           have hns61_0 := NB256_257.out
           have hms61_0 := NB257_256.out
           refine skip_ (w1 := ?_) (by rfl) rfl ?_ ?_
           rotate_left
           ·go_simp
            rfl
           refine hK.out _ _ ⟨(far2_ (by first | (rw [add_block]; exact vaw_ HO0.out (fun _ hk => hk.2.2) od_) | exact vaw_ HO0.out (fun _ hk => hk.2.2) od_ | (dsimp only; exact vaw_ HO0.out (fun _ hk => hk.2.2) od_)) hHeld.1), (far2_ (by first | (rw [add_block]; exact vaw_ HO0.out (fun _ hk => hk.2.2) od_) | exact vaw_ HO0.out (fun _ hk => hk.2.2) od_ | (dsimp only; exact vaw_ HO0.out (fun _ hk => hk.2.2) od_)) hHeld.2.1), (far2_ (by first | (rw [add_block]; exact vaw_ HO0.out (fun _ hk => hk.2.2) od_) | exact vaw_ HO0.out (fun _ hk => hk.2.2) od_ | (dsimp only; exact vaw_ HO0.out (fun _ hk => hk.2.2) od_)) hHeld.2.2.1), (far2_ (by first | (rw [add_block]; exact vaw_ HO0.out (fun _ hk => hk.2.2) od_) | exact vaw_ HO0.out (fun _ hk => hk.2.2) od_ | (dsimp only; exact vaw_ HO0.out (fun _ hk => hk.2.2) od_)) hHeld.2.2.2)⟩ (fun hHeld => ?_)
           clear hK K
           refine done_ (done_of HT_.out (by kernel_rfl)) ?_
           try go_wp2
           have n0_ : Aside0 (Kd.V k49 49 ((((w57.setCell ⟨gb256, 0, none⟩ (.int .i64 ((rd_T49 l0 0).f0))).setCell ⟨gb256, 1, none⟩ (.int .i64 ((rd_T49 l0 0).f1))).setCell ⟨gb257, 0, none⟩ (.int .i64 ((rd_T49 l0 (ji4)).f0))).setCell ⟨gb257, 1, none⟩ (.int .i64 ((rd_T49 l0 (ji4)).f1))) w.heap.size (fun k_ => ((P0_ k_ ∨ P1_ k_) ∨ w.heap.size ≤ k_) ∧ k_ ≠ gb256 ∧ k_ ≠ gb257) (.slice (some ad254) l0.length c0) l0) := ⟨by (with_reducible repeat (first | apply Kd.V_alloc | apply Kd.V_drewN | apply Kd.V_drew)); exact Kd.V_mono (Kd.V_far (p := ⟨gb257, 1, none⟩) (Kd.V_far (p := ⟨gb257, 0, none⟩) (Kd.V_far (p := ⟨gb256, 1, none⟩) (Kd.V_far (p := ⟨gb256, 0, none⟩) (Kd.V_mono (Kd.V_mono HO0.out (fun k_ hk => (⟨hk, hk.2.1⟩ : _ ∧ k_ ≠ gb256))) (fun k_ hk => (⟨hk, hk.1.2.2⟩ : _ ∧ k_ ≠ gb257))) (fun _ hk => hk.1.2) (.int .i64 ((rd_T49 l0 0).f0))) (fun _ hk => hk.1.2) (.int .i64 ((rd_T49 l0 0).f1))) (fun _ hk => hk.2) (.int .i64 ((rd_T49 l0 (ji4)).f0))) (fun _ hk => hk.2) (.int .i64 ((rd_T49 l0 (ji4)).f1))) (fun _ hk => ⟨hk.1.1.1, ⟨hk.1.1.2.1, hk.1.1.2.2⟩⟩)⟩
           have n1_ : Aside0 (Kd.V k49 49 ((((w57.setCell ⟨gb256, 0, none⟩ (.int .i64 ((rd_T49 l0 0).f0))).setCell ⟨gb256, 1, none⟩ (.int .i64 ((rd_T49 l0 0).f1))).setCell ⟨gb257, 0, none⟩ (.int .i64 ((rd_T49 l0 (ji4)).f0))).setCell ⟨gb257, 1, none⟩ (.int .i64 ((rd_T49 l0 (ji4)).f1))) w.heap.size (fun k_ => ((P0_ k_ ∨ P1_ k_) ∨ w.heap.size ≤ k_) ∧ k_ ≠ gb256 ∧ k_ ≠ gb257) (.slice A1 l1.length c1) l1) := ⟨by (with_reducible repeat (first | apply Kd.V_alloc | apply Kd.V_drewN | apply Kd.V_drew)); exact Kd.V_mono (Kd.V_far (p := ⟨gb257, 1, none⟩) (Kd.V_far (p := ⟨gb257, 0, none⟩) (Kd.V_far (p := ⟨gb256, 1, none⟩) (Kd.V_far (p := ⟨gb256, 0, none⟩) (Kd.V_mono (Kd.V_mono HO1.out (fun k_ hk => (⟨hk, hk.2.1⟩ : _ ∧ k_ ≠ gb256))) (fun k_ hk => (⟨hk, hk.1.2.2⟩ : _ ∧ k_ ≠ gb257))) (fun _ hk => hk.1.2) (.int .i64 ((rd_T49 l0 0).f0))) (fun _ hk => hk.1.2) (.int .i64 ((rd_T49 l0 0).f1))) (fun _ hk => hk.2) (.int .i64 ((rd_T49 l0 (ji4)).f0))) (fun _ hk => hk.2) (.int .i64 ((rd_T49 l0 (ji4)).f1))) (fun _ hk => ⟨hk.1.1.1, ⟨hk.1.1.2.1, hk.1.1.2.2⟩⟩)⟩
           have n2_ : Aside0 (((((w57.setCell ⟨gb256, 0, none⟩ (.int .i64 ((rd_T49 l0 0).f0))).setCell ⟨gb256, 1, none⟩ (.int .i64 ((rd_T49 l0 0).f1))).setCell ⟨gb257, 0, none⟩ (.int .i64 ((rd_T49 l0 (ji4)).f0))).setCell ⟨gb257, 1, none⟩ (.int .i64 ((rd_T49 l0 (ji4)).f1))).heap[gb256]? = some (.cells #[.int .i64 ((rd_T49 l0 0).f0), .int .i64 ((rd_T49 l0 0).f1)] 49 (0, 0))) := ⟨by (with_reducible repeat (first | refine blk_drewN ?_ _ | refine blk_drew ?_ | refine blk_alloc ?_ _)); refine blk_far ?_ NB256_257.out _; (with_reducible repeat (first | refine blk_drewN ?_ _ | refine blk_drew ?_ | refine blk_alloc ?_ _)); refine blk_far ?_ NB256_257.out _; (with_reducible repeat (first | refine blk_drewN ?_ _ | refine blk_drew ?_ | refine blk_alloc ?_ _)); refine blk_put (cs := #[.int .i64 ((rd_T49 l0 0).f0), .int .i64 0]) ?_ 1 _ rfl; (with_reducible repeat (first | refine blk_drewN ?_ _ | refine blk_drew ?_ | refine blk_alloc ?_ _)); refine blk_put (cs := #[.int .i64 0, .int .i64 0]) ?_ 0 _ rfl; (with_reducible repeat (first | refine blk_drewN ?_ _ | refine blk_drew ?_ | refine blk_alloc ?_ _)); exact BK256.out⟩
           have n3_ : Aside0 (((((w57.setCell ⟨gb256, 0, none⟩ (.int .i64 ((rd_T49 l0 0).f0))).setCell ⟨gb256, 1, none⟩ (.int .i64 ((rd_T49 l0 0).f1))).setCell ⟨gb257, 0, none⟩ (.int .i64 ((rd_T49 l0 (ji4)).f0))).setCell ⟨gb257, 1, none⟩ (.int .i64 ((rd_T49 l0 (ji4)).f1))).heap[gb257]? = some (.cells #[.int .i64 ((rd_T49 l0 (ji4)).f0), .int .i64 ((rd_T49 l0 (ji4)).f1)] 49 (0, 0))) := ⟨by (with_reducible repeat (first | refine blk_drewN ?_ _ | refine blk_drew ?_ | refine blk_alloc ?_ _)); refine blk_put (cs := #[.int .i64 ((rd_T49 l0 (ji4)).f0), .int .i64 0]) ?_ 1 _ rfl; (with_reducible repeat (first | refine blk_drewN ?_ _ | refine blk_drew ?_ | refine blk_alloc ?_ _)); refine blk_put (cs := #[.int .i64 0, .int .i64 0]) ?_ 0 _ rfl; (with_reducible repeat (first | refine blk_drewN ?_ _ | refine blk_drew ?_ | refine blk_alloc ?_ _)); refine blk_far ?_ NB257_256.out _; (with_reducible repeat (first | refine blk_drewN ?_ _ | refine blk_drew ?_ | refine blk_alloc ?_ _)); refine blk_far ?_ NB257_256.out _; (with_reducible repeat (first | refine blk_drewN ?_ _ | refine blk_drew ?_ | refine blk_alloc ?_ _)); exact BK257.out⟩
           have n4_ : Aside0 (Below w.heap.size w ((((w57.setCell ⟨gb256, 0, none⟩ (.int .i64 ((rd_T49 l0 0).f0))).setCell ⟨gb256, 1, none⟩ (.int .i64 ((rd_T49 l0 0).f1))).setCell ⟨gb257, 0, none⟩ (.int .i64 ((rd_T49 l0 (ji4)).f0))).setCell ⟨gb257, 1, none⟩ (.int .i64 ((rd_T49 l0 (ji4)).f1)))) := ⟨bws_ HB.out⟩
           (try clear HO0)
           (try clear HO1)
           (try clear BK256)
           (try clear BK257)
           (try clear HB)
           generalize ((((w57.setCell ⟨gb256, 0, none⟩ (.int .i64 ((rd_T49 l0 0).f0))).setCell ⟨gb256, 1, none⟩ (.int .i64 ((rd_T49 l0 0).f1))).setCell ⟨gb257, 0, none⟩ (.int .i64 ((rd_T49 l0 (ji4)).f0))).setCell ⟨gb257, 1, none⟩ (.int .i64 ((rd_T49 l0 (ji4)).f1))) = w62 at n0_ n1_ n2_ n3_ n4_ ⊢
           have HO0 := n0_; have HO1 := n1_; have BK256 := n2_; have BK257 := n3_; have HB := n4_
           clear n0_ n1_ n2_ n3_ n4_
           have n0_ := Aside0.mk (Kd.V_drew HO0.out)
           have n1_ := Aside0.mk (Kd.V_drew HO1.out)
           have n2_ := Aside0.mk (blk_drew BK256.out)
           have n3_ := Aside0.mk (blk_drew BK257.out)
           have n4_ := Aside0.mk (below_drew1 HB.out)
           clear HO0 HO1 BK256 BK257 HB
           have HO0 := n0_; have HO1 := n1_; have BK256 := n2_; have BK257 := n3_; have HB := n4_
           clear n0_ n1_ n2_ n3_ n4_
           have p258 : 0 ≤ (0 : Int) := (by omega)
           have q258 : 0 < (l1.length : Int) := od_
           obtain ⟨ad258, e258, hx258_0, hx258_1⟩ := at_T49 (Kd.V_reads' HO1.out).2.2 0 p258 q258
           cases e258
           have qi258 : (0 < l1.length) = True := eq_true (by omega)
           (try rw [show ((0 : Int)).toNat = 0 from rfl] at hx258_0)
           (try rw [show 0 * 2 = 0 from rfl] at hx258_0)
           (try rw [Addr.add_zero'] at hx258_0)
           (try rw [show ((0 : Int)).toNat = 0 from rfl] at hx258_1)
           (try rw [show 0 * 2 = 0 from rfl] at hx258_1)
           (try rw [Addr.add_zero'] at hx258_1)
           replace p258 := eq_true p258
           replace q258 := eq_true q258
           refine start_ (n := 6) (S := fun w' => w'.cell? ⟨gb257, 0, none⟩ = some (.int .i64 ((rd_T49 l0 (ji4)).f0)) ∧ w'.cell? ⟨gb257, 1, none⟩ = some (.int .i64 ((rd_T49 l0 (ji4)).f1)) ∧ w'.cell? ad258 = some (.int .i64 ((rd_T49 l1 0).f0)) ∧ w'.cell? ⟨ad258.block, ad258.off + 1, none⟩ = some (.int .i64 ((rd_T49 l1 0).f1))) (ds := []) #[false, false, false, false, false, false] (by kernel_rfl) rfl rfl ⟨(blk_cell BK257.out 0).trans rfl, (blk_cell BK257.out 1).trans rfl, hx258_0, hx258_1⟩ (fun hHeld => ?_)
           generalize w62.drew = w63 at HO0 HO1 BK256 BK257 HB hx258_0 hx258_1 hHeld ⊢
           refine pure_ (i := 1) (N := some 18) (v := ?_) (a' := ?_) #[false, true, false, false, false, false] rfl rfl (by kernel_rfl) (fun _ _ _ h => h) (Or.inl ⟨by rfl, ?_⟩) ?_ ?_
           rotate_left
           ·intro w'
            go_simp
            with_reducible rfl
           rotate_left
           ·simp only [Act.put, List.setIfInBounds_toArray, List.set_cons_zero, List.set_cons_succ, i64_w, i32_w]
            rfl
           refine pure_ (i := 2) (N := some 19) (v := ?_) (a' := ?_) #[false, true, true, false, false, false] rfl rfl (by kernel_rfl) (fun _ _ _ h => h) (Or.inl ⟨by rfl, ?_⟩) ?_ ?_
           rotate_left
           ·intro w'
            go_simp
            with_reducible rfl
           rotate_left
           ·simp only [Act.put, List.setIfInBounds_toArray, List.set_cons_zero, List.set_cons_succ, i64_w, i32_w]
            rfl
           refine take_ (i := 0) (N := some 17) (v := ?_) (a' := ?_) #[true, true, true, false, false, false] rfl rfl (by kernel_rfl) (fun _ _ _ h => h) (Or.inl ⟨by rfl, ?_⟩) hHeld ?_ ?_
           rotate_left
           ·rintro w' ⟨s0, s1, s2, s3⟩
            go_simp
            with_reducible rfl
           rotate_left
           ·simp only [Act.put, List.setIfInBounds_toArray, List.set_cons_zero, List.set_cons_succ, i64_w, i32_w]
            rfl
           refine take_ (i := 3) (N := some 20) (v := ?_) (a' := ?_) #[true, true, true, true, false, false] rfl rfl (by kernel_rfl) (fun _ _ _ h => h) (Or.inl ⟨by rfl, ?_⟩) hHeld ?_ ?_
           rotate_left
           ·rintro w' ⟨s0, s1, s2, s3⟩
            go_simp
            with_reducible rfl
           rotate_left
           ·simp only [Act.put, List.setIfInBounds_toArray, List.set_cons_zero, List.set_cons_succ, i64_w, i32_w]
            rfl
           refine pure_ (i := 4) (N := some 21) (v := ?_) (a' := ?_) #[true, true, true, true, true, false] rfl rfl (by kernel_rfl) (fun _ _ _ h => h) (Or.inl ⟨by rfl, ?_⟩) ?_ ?_
           rotate_left
           ·intro w'
            go_simp
            with_reducible rfl
           rotate_left
           ·simp only [Act.put, List.setIfInBounds_toArray, List.set_cons_zero, List.set_cons_succ, i64_w, i32_w]
            rfl
           refine pure_ (i := 5) (N := some 16) (v := ?_) (a' := ?_) #[true, true, true, true, true, true] rfl rfl (by kernel_rfl) (fun _ _ _ h => h) (Or.inl ⟨by rfl, ?_⟩) ?_ ?_
           rotate_left
           ·intro w'
            go_simp
            with_reducible rfl
           rotate_left
           ·simp only [Act.put, List.setIfInBounds_toArray, List.set_cons_zero, List.set_cons_succ, i64_w, i32_w]
            rfl
           refine done_ (by kernel_rfl) ?_
           try go_wp2
           have n0_ := Aside0.mk (Kd.V_drew HO0.out)
           have n1_ := Aside0.mk (Kd.V_drew HO1.out)
           have n2_ := Aside0.mk (blk_drew BK256.out)
           have n3_ := Aside0.mk (blk_drew BK257.out)
           have n4_ := Aside0.mk (below_drew1 HB.out)
           clear HO0 HO1 BK256 BK257 HB
           have HO0 := n0_; have HO1 := n1_; have BK256 := n2_; have BK257 := n3_; have HB := n4_
           clear n0_ n1_ n2_ n3_ n4_
           have p270 : 0 ≤ ((ji26) : Int) := od_
           have q270 : (ji26) < (l1.length : Int) := od_
           obtain ⟨ad270, e270, hx270_0, hx270_1⟩ := at_T49 (Kd.V_reads' HO1.out).2.2 (ji26) p270 q270
           obtain rfl : ad258 = ad270 := (by injection e270)
           replace p270 := eq_true p270
           replace q270 := eq_true q270
           refine start_ (n := 9) (S := fun w' => w'.cell? ⟨gb257, 0, none⟩ = some (.int .i64 ((rd_T49 l0 (ji4)).f0)) ∧ w'.cell? ⟨gb257, 1, none⟩ = some (.int .i64 ((rd_T49 l0 (ji4)).f1)) ∧ w'.cell? (ad258.add (((ji26)).toNat * 2)) = some (.int .i64 ((rd_T49 l1 (ji26)).f0)) ∧ w'.cell? ⟨(ad258.add (((ji26)).toNat * 2)).block, (ad258.add (((ji26)).toNat * 2)).off + 1, none⟩ = some (.int .i64 ((rd_T49 l1 (ji26)).f1))) (ds := []) #[false, false, false, false, false, false, false, false, false] (by kernel_rfl) rfl rfl ⟨(blk_cell BK257.out 0).trans rfl, (blk_cell BK257.out 1).trans rfl, hx270_0, hx270_1⟩ (fun hHeld => ?_); refine with_tabW impl_join.tab4 impl_join.bits4 (fun HT_ HW_ => ?_)
           generalize w63.drew = w64 at HO0 HO1 BK256 BK257 HB hx270_0 hx270_1 hHeld ⊢
           refine pure_ (i := 1) (N := some 29) (v := ?_) (a' := ?_) #[false, true, false, false, false, false, false, false, false] rfl rfl (any_of HT_.out (by kernel_rfl)) (fun _ _ _ h => h) (Or.inl ⟨by rfl, ?_⟩) ?_ ?_
           rotate_left
           ·intro w'
            go_simp
            with_reducible rfl
           rotate_left
           ·simp only [Act.put, List.setIfInBounds_toArray, List.set_cons_zero, List.set_cons_succ, i64_w, i32_w]
            rfl
           refine pure_ (i := 2) (N := some 30) (v := ?_) (a' := ?_) #[false, true, true, false, false, false, false, false, false] rfl rfl (any_of HT_.out (by kernel_rfl)) (fun _ _ _ h => h) (Or.inl ⟨by rfl, ?_⟩) ?_ ?_
           rotate_left
           ·intro w'
            go_simp
            with_reducible rfl
           rotate_left
           ·simp only [Act.put, List.setIfInBounds_toArray, List.set_cons_zero, List.set_cons_succ, i64_w, i32_w]
            rfl
           refine pure_ (i := 3) (N := some 31) (v := ?_) (a' := ?_) #[false, true, true, true, false, false, false, false, false] rfl rfl (any_of HT_.out (by kernel_rfl)) (fun _ _ _ h => h) (Or.inl ⟨by rfl, ?_⟩) ?_ ?_
           rotate_left
           ·intro w'
            go_simp
            with_reducible rfl
           rotate_left
           ·simp only [Act.put, List.setIfInBounds_toArray, List.set_cons_zero, List.set_cons_succ, i64_w, i32_w]
            rfl
           refine pure_ (i := 4) (N := some 32) (v := ?_) (a' := ?_) #[false, true, true, true, true, false, false, false, false] rfl rfl (any_of HT_.out (by kernel_rfl)) (fun _ _ _ h => h) (Or.inl ⟨by rfl, ?_⟩) ?_ ?_
           rotate_left
           ·intro w'
            go_simp
            with_reducible rfl
           rotate_left
           ·simp only [Act.put, List.setIfInBounds_toArray, List.set_cons_zero, List.set_cons_succ, i64_w, i32_w]
            rfl
           refine pure_ (i := 5) (N := some 33) (v := ?_) (a' := ?_) #[false, true, true, true, true, true, false, false, false] rfl rfl (any_of HT_.out (by kernel_rfl)) (fun _ _ _ h => h) (Or.inl ⟨by rfl, ?_⟩) ?_ ?_
           rotate_left
           ·intro w'
            go_simp
            with_reducible rfl
           rotate_left
           ·simp only [Act.put, List.setIfInBounds_toArray, List.set_cons_zero, List.set_cons_succ, i64_w, i32_w]
            rfl
           refine take_ (i := 0) (N := some 28) (v := ?_) (a' := ?_) #[true, true, true, true, true, true, false, false, false] rfl rfl (take_ofW HT_.out HW_.out (by kernel_rfl)) (fun _ _ _ h => h) (Or.inl ⟨by rfl, ?_⟩) hHeld ?_ ?_
           rotate_left
           ·rintro w' ⟨s0, s1, s2, s3⟩
            go_simp
            with_reducible rfl
           rotate_left
           ·simp only [Act.put, List.setIfInBounds_toArray, List.set_cons_zero, List.set_cons_succ, i64_w, i32_w]
            rfl
           refine take_ (i := 6) (N := some 34) (v := ?_) (a' := ?_) #[true, true, true, true, true, true, true, false, false] rfl rfl (take_ofW HT_.out HW_.out (by kernel_rfl)) (fun _ _ _ h => h) (Or.inl ⟨by rfl, ?_⟩) hHeld ?_ ?_
           rotate_left
           ·rintro w' ⟨s0, s1, s2, s3⟩
            go_simp
            with_reducible rfl
           rotate_left
           ·simp only [Act.put, List.setIfInBounds_toArray, List.set_cons_zero, List.set_cons_succ, i64_w, i32_w]
            rfl
           refine pure_ (i := 7) (N := some 35) (v := ?_) (a' := ?_) #[true, true, true, true, true, true, true, true, false] rfl rfl (any_of HT_.out (by kernel_rfl)) (fun _ _ _ h => h) (Or.inl ⟨by rfl, ?_⟩) ?_ ?_
           rotate_left
           ·intro w'
            go_simp
            with_reducible rfl
           rotate_left
           ·simp only [Act.put, List.setIfInBounds_toArray, List.set_cons_zero, List.set_cons_succ, i64_w, i32_w]
            rfl
           refine pure_ (i := 8) (N := some 27) (v := ?_) (a' := ?_) #[true, true, true, true, true, true, true, true, true] rfl rfl (any_of HT_.out (by kernel_rfl)) (fun _ _ _ h => h) (Or.inl ⟨by rfl, ?_⟩) ?_ ?_
           rotate_left
           ·intro w'
            go_simp
            with_reducible rfl
           rotate_left
           ·simp only [Act.put, List.setIfInBounds_toArray, List.set_cons_zero, List.set_cons_succ, i64_w, i32_w]
            rfl
           refine done_ (done_of HT_.out (by kernel_rfl)) ?_
           try go_wp2
           have n0_ := Aside0.mk (Kd.V_drew HO0.out)
           have n1_ := Aside0.mk (Kd.V_drew HO1.out)
           have n2_ := Aside0.mk (blk_drew BK256.out)
           have n3_ := Aside0.mk (blk_drew BK257.out)
           have n4_ := Aside0.mk (below_drew1 HB.out)
           clear HO0 HO1 BK256 BK257 HB
           have HO0 := n0_; have HO1 := n1_; have BK256 := n2_; have BK257 := n3_; have HB := n4_
           clear n0_ n1_ n2_ n3_ n4_
           have p285 : 0 ≤ ((ji26) : Int) := od_
           have q285 : (ji26) < (l1.length : Int) := od_
           obtain ⟨ad285, e285, hx285_0, hx285_1⟩ := at_T49 (Kd.V_reads' HO1.out).2.2 (ji26) p285 q285
           obtain rfl : ad258 = ad285 := (by injection e285)
           replace p285 := eq_true p285
           replace q285 := eq_true q285
           refine start_ (n := 9) (S := fun w' => w'.cell? ⟨gb256, 0, none⟩ = some (.int .i64 ((rd_T49 l0 0).f0)) ∧ w'.cell? ⟨gb256, 1, none⟩ = some (.int .i64 ((rd_T49 l0 0).f1)) ∧ w'.cell? (ad258.add (((ji26)).toNat * 2)) = some (.int .i64 ((rd_T49 l1 (ji26)).f0)) ∧ w'.cell? ⟨(ad258.add (((ji26)).toNat * 2)).block, (ad258.add (((ji26)).toNat * 2)).off + 1, none⟩ = some (.int .i64 ((rd_T49 l1 (ji26)).f1))) (ds := []) #[false, false, false, false, false, false, false, false, false] (by kernel_rfl) rfl rfl ⟨(blk_cell BK256.out 0).trans rfl, (blk_cell BK256.out 1).trans rfl, hx285_0, hx285_1⟩ (fun hHeld => ?_); refine with_tabW impl_join.tab6 impl_join.bits6 (fun HT_ HW_ => ?_)
           generalize w64.drew = w65 at HO0 HO1 BK256 BK257 HB hx285_0 hx285_1 hHeld ⊢
           refine pure_ (i := 1) (N := some 44) (v := ?_) (a' := ?_) #[false, true, false, false, false, false, false, false, false] rfl rfl (any_of HT_.out (by kernel_rfl)) (fun _ _ _ h => h) (Or.inl ⟨by rfl, ?_⟩) ?_ ?_
           rotate_left
           ·intro w'
            go_simp
            with_reducible rfl
           rotate_left
           ·simp only [Act.put, List.setIfInBounds_toArray, List.set_cons_zero, List.set_cons_succ, i64_w, i32_w]
            rfl
           refine pure_ (i := 2) (N := some 45) (v := ?_) (a' := ?_) #[false, true, true, false, false, false, false, false, false] rfl rfl (any_of HT_.out (by kernel_rfl)) (fun _ _ _ h => h) (Or.inl ⟨by rfl, ?_⟩) ?_ ?_
           rotate_left
           ·intro w'
            go_simp
            with_reducible rfl
           rotate_left
           ·simp only [Act.put, List.setIfInBounds_toArray, List.set_cons_zero, List.set_cons_succ, i64_w, i32_w]
            rfl
           refine pure_ (i := 3) (N := some 46) (v := ?_) (a' := ?_) #[false, true, true, true, false, false, false, false, false] rfl rfl (any_of HT_.out (by kernel_rfl)) (fun _ _ _ h => h) (Or.inl ⟨by rfl, ?_⟩) ?_ ?_
           rotate_left
           ·intro w'
            go_simp
            with_reducible rfl
           rotate_left
           ·simp only [Act.put, List.setIfInBounds_toArray, List.set_cons_zero, List.set_cons_succ, i64_w, i32_w]
            rfl
           refine pure_ (i := 4) (N := some 47) (v := ?_) (a' := ?_) #[false, true, true, true, true, false, false, false, false] rfl rfl (any_of HT_.out (by kernel_rfl)) (fun _ _ _ h => h) (Or.inl ⟨by rfl, ?_⟩) ?_ ?_
           rotate_left
           ·intro w'
            go_simp
            with_reducible rfl
           rotate_left
           ·simp only [Act.put, List.setIfInBounds_toArray, List.set_cons_zero, List.set_cons_succ, i64_w, i32_w]
            rfl
           refine pure_ (i := 5) (N := some 48) (v := ?_) (a' := ?_) #[false, true, true, true, true, true, false, false, false] rfl rfl (any_of HT_.out (by kernel_rfl)) (fun _ _ _ h => h) (Or.inl ⟨by rfl, ?_⟩) ?_ ?_
           rotate_left
           ·intro w'
            go_simp
            with_reducible rfl
           rotate_left
           ·simp only [Act.put, List.setIfInBounds_toArray, List.set_cons_zero, List.set_cons_succ, i64_w, i32_w]
            rfl
           refine take_ (i := 0) (N := some 43) (v := ?_) (a' := ?_) #[true, true, true, true, true, true, false, false, false] rfl rfl (take_ofW HT_.out HW_.out (by kernel_rfl)) (fun _ _ _ h => h) (Or.inl ⟨by rfl, ?_⟩) hHeld ?_ ?_
           rotate_left
           ·rintro w' ⟨s0, s1, s2, s3⟩
            go_simp
            with_reducible rfl
           rotate_left
           ·simp only [Act.put, List.setIfInBounds_toArray, List.set_cons_zero, List.set_cons_succ, i64_w, i32_w]
            rfl
           refine take_ (i := 6) (N := some 49) (v := ?_) (a' := ?_) #[true, true, true, true, true, true, true, false, false] rfl rfl (take_ofW HT_.out HW_.out (by kernel_rfl)) (fun _ _ _ h => h) (Or.inl ⟨by rfl, ?_⟩) hHeld ?_ ?_
           rotate_left
           ·rintro w' ⟨s0, s1, s2, s3⟩
            go_simp
            with_reducible rfl
           rotate_left
           ·simp only [Act.put, List.setIfInBounds_toArray, List.set_cons_zero, List.set_cons_succ, i64_w, i32_w]
            rfl
           refine pure_ (i := 7) (N := some 50) (v := ?_) (a' := ?_) #[true, true, true, true, true, true, true, true, false] rfl rfl (any_of HT_.out (by kernel_rfl)) (fun _ _ _ h => h) (Or.inl ⟨by rfl, ?_⟩) ?_ ?_
           rotate_left
           ·intro w'
            go_simp
            with_reducible rfl
           rotate_left
           ·simp only [Act.put, List.setIfInBounds_toArray, List.set_cons_zero, List.set_cons_succ, i64_w, i32_w]
            rfl
           refine pure_ (i := 8) (N := some 42) (v := ?_) (a' := ?_) #[true, true, true, true, true, true, true, true, true] rfl rfl (any_of HT_.out (by kernel_rfl)) (fun _ _ _ h => h) (Or.inl ⟨by rfl, ?_⟩) ?_ ?_
           rotate_left
           ·intro w'
            go_simp
            with_reducible rfl
           rotate_left
           ·simp only [Act.put, List.setIfInBounds_toArray, List.set_cons_zero, List.set_cons_succ, i64_w, i32_w]
            rfl
           refine done_ (done_of HT_.out (by kernel_rfl)) ?_
           have q66 : (1 : Int) ≤ ((l0.length : Int) : Int) := od_
           obtain ⟨i066, hi066, _, hsz66, _⟩ := info_parts info49
           have hroom66 : l0.length ≤ c0 := (Kd.V_reads' HO0.out).2.1
           have hC66 : Kd.F k49 _ _ (some ad254) l0.length l0 := (Kd.V_at (base := w.heap.size) HO0.out).2.2
           have hcut66 := cut_from (P := Try.prog) 34 49 .i64 Try.underlying34 hi066 2 hsz66 (some ad254) l0.length c0 1 (by omega) q66
           have hr66 := Kd.F_cut (m := (1 : Int).toNat) (c := c0) hC66 (by omega) hroom66
           obtain ⟨A66, hA66⟩ : ∃ A_z, A_z = (if c0 = (1 : Int).toNat then (some ad254) else ((some ad254) : Option Addr).map (·.add ((1 : Int).toNat * 2))) := ⟨_, rfl⟩
           obtain ⟨c66, hc66⟩ : ∃ c_z, c_z = c0 - (1 : Int).toNat := ⟨_, rfl⟩
           have hy66 : y286.length = l0.length - (1 : Int).toNat := (by rw [Ny286.out, List.length_drop] <;> omega)
           rw [show (l0).drop (1 : Int).toNat = y286 from Ny286.out.symm] at hr66
           replace hr66 : Kd.F k49 _ _ A66 y286.length y286 := (by rw [hA66]; exact hr66)
           rw [← hy66, ← hA66, ← hc66] at hcut66
           have HO290 := Aside0.mk (show Kd.V k49 49 _ w.heap.size _ (.slice A66 y286.length c66) y286 from Kd.V_mk (by rw [hy66, hc66]; exact Nat.sub_le_sub_right hroom66 _) hr66)
           have HC290 := Aside0.mk (show y286.length ≤ c66 from by rw [hy66, hc66]; exact Nat.sub_le_sub_right hroom66 _)
           clear hr66 hC66 hroom66 hi066 hsz66 hc66
           have KY66 := Aside0.mk hy66
           have KA66 := Aside0.mk hA66
           clear hy66 hA66
           replace q66 := eq_true q66
           try go_wp2_with (first | ((with_reducible refine gate_dst (N := 54) rfl ?_); refine Kd.N_lit (Kd.slice 49 k49) _ 34 ?hg (N' := 54) ?hd (xs := ([l1, y286] : List (List (S49)))) (inner := [.slice (some ad258) l1.length c1, .slice A66 y286.length c66]) (ok := (fun k_ => ((P0_ k_ ∨ P1_ k_) ∨ w.heap.size ≤ k_) ∧ k_ ≠ gb256 ∧ k_ ≠ gb257)) (okp := (fun k_ => ((P0_ k_ ∨ P1_ k_) ∨ w.heap.size ≤ k_) ∧ k_ ≠ gb256 ∧ k_ ≠ gb257)) ?hr ?hp (fun _ hk => hk) ((show ∀ k_, w65.heap.size ≤ k_ → (fun k_ => ((P0_ k_ ∨ P1_ k_) ∨ w.heap.size ≤ k_) ∧ k_ ≠ gb256 ∧ k_ ≠ gb257) k_ from fun k_ hk => ⟨(.inr (Nat.le_trans (below_size (bws_ HB.out)) hk)), Kd.freshB (g := gb256) (o := .cells #[.int .i64 ((rd_T49 l0 0).f0), .int .i64 ((rd_T49 l0 0).f1)] 49 (0, 0)) (bk_ BK256.out) k_ hk, Kd.freshB (g := gb257) (o := .cells #[.int .i64 ((rd_T49 l0 (ji4)).f0), .int .i64 ((rd_T49 l0 (ji4)).f1)] 49 (0, 0)) (bk_ BK257.out) k_ hk⟩) _ (Nat.le_refl _)) (Below.refl _ _) (Nat.le_refl _) (by simp) ?_; (case hd => rfl); (case hg => rfl); (case hr => first | (go_simp; done) | (go_simp; rfl)); (case hp => exact (Reps.one (show Kd.FK (Kd.slice 49 k49) _ _ l1 [.slice (some ad258) l1.length c1] from (Kd.FK_slice_mk (Kd.V_reads' (Kd.V_mono (ok' := (fun k_ => ((P0_ k_ ∨ P1_ k_) ∨ w.heap.size ≤ k_) ∧ k_ ≠ gb256 ∧ k_ ≠ gb257)) (HO1.out) (fun k_ hk => ⟨hk.1, ⟨hk.2.1, hk.2.2⟩⟩))).2.1 (Kd.V_F (Kd.V_mono (ok' := (fun k_ => ((P0_ k_ ∨ P1_ k_) ∨ w.heap.size ≤ k_) ∧ k_ ≠ gb256 ∧ k_ ≠ gb257)) (HO1.out) (fun k_ hk => ⟨hk.1, ⟨hk.2.1, hk.2.2⟩⟩))))) (Reps.one (show Kd.FK (Kd.slice 49 k49) _ _ y286 [.slice A66 y286.length c66] from (Kd.FK_slice_mk (Kd.V_reads' (Kd.V_mono (ok' := (fun k_ => ((P0_ k_ ∨ P1_ k_) ∨ w.heap.size ≤ k_) ∧ k_ ≠ gb256 ∧ k_ ≠ gb257)) (HO290.out) (fun k_ hk => ⟨hk.1, ⟨hk.2.1, hk.2.2⟩⟩))).2.1 (Kd.V_F (Kd.V_mono (ok' := (fun k_ => ((P0_ k_ ∨ P1_ k_) ∨ w.heap.size ≤ k_) ∧ k_ ≠ gb256 ∧ k_ ≠ gb257)) (HO290.out) (fun k_ hk => ⟨hk.1, ⟨hk.2.1, hk.2.2⟩⟩))))) (Reps.none _ _)))); intro v292 w67 ho68 hb hg_ hnew_; clear hg_ hnew_; (first | rw [← Ny291.out] at ho68 | (simp only [Int.reduceToNat] at ho68; rw [← Ny291.out] at ho68)); have n0_ := Aside0.mk (Kd.V_elder' (vk_ HO0.out) (Kd.N_base ho68) hb); have n1_ := Aside0.mk (Kd.V_elder' (vk_ HO1.out) (Kd.N_base ho68) hb); have n2_ := Aside0.mk (Kd.V_elder' (vk_ HO290.out) (Kd.N_base ho68) hb); have n3_ := Aside0.mk (Kd.N_lower ho68 (below_size (bws_ HB.out))); have n4_ := Aside0.mk (blk_below (bk_ BK256.out) hb); have n5_ := Aside0.mk (blk_below (bk_ BK257.out) hb); have n6_ := Aside0.mk (below_step (bws_ HB.out) hb); clear HO0; clear HO1; clear HO290; clear BK256; clear BK257; clear HB; have HO0 := n0_; have HO1 := n1_; have HO290 := n2_; have HO293 := n3_; have BK256 := n4_; have BK257 := n5_; have HB := n6_; clear n0_ n1_ n2_ n3_ n4_ n5_ n6_; clear hb ho68; obtain ⟨Ao69, co69, eo69⟩ := Kd.N_slice HO293.out; subst eo69) | ((with_reducible refine gate_callee (f := 56) rfl ?_); refine goesL_ (some 55) rfl rfl Try.func56 (by kernel_rfl) rfl #[.slice Ao69 y291.length co69] rfl gl_ ?_; (with_reducible refine (impl_Place_56.calls k _ _ y291 t294 _ ?side1 ?side2 A53.out).mono ?_); (case side1 => repeat (first | exact (Kd.N_reads' HO293.out).2.2 | (with_reducible refine Kd.C_alloc ?_ _) | (with_reducible refine Kd.C_drewN ?_ _) | (with_reducible refine Kd.C_drew ?_))); (case side2 => exact (Kd.N_reads' HO293.out).2.1); rintro e w70 ⟨v295, rfl, ho0, hb⟩; refine ⟨_, rfl, ?_⟩; have n0_ := Aside0.mk (Kd.V_elder' (vk_ HO0.out) (Kd.R_base ho0) hb); have n1_ := Aside0.mk (Kd.V_elder' (vk_ HO1.out) (Kd.R_base ho0) hb); have n2_ := Aside0.mk (Kd.V_elder' (vk_ HO290.out) (Kd.R_base ho0) hb); have n3_ := Aside0.mk (Kd.N_elder' (by (with_reducible repeat (first | apply Kd.N_alloc | apply Kd.N_drewN | apply Kd.N_drew)); exact HO293.out) (Kd.R_base ho0) hb); have n4_ := Aside0.mk (Kd.R_lower (Kd.R_newB (Kd.R_newB (Kd.R_newM (M := fun k_ => (w.heap.size ≤ k_)) ho0 (below_size (bws_ HB.out)) (fun k_ h_ => h_)) (g := gb256) (o := .cells #[.int .i64 ((rd_T49 l0 0).f0), .int .i64 ((rd_T49 l0 0).f1)] 49 (0, 0)) (bk_ BK256.out)) (g := gb257) (o := .cells #[.int .i64 ((rd_T49 l0 (ji4)).f0), .int .i64 ((rd_T49 l0 (ji4)).f1)] 49 (0, 0)) (bk_ BK257.out)) (below_size (bws_ HB.out))); have n5_ := Aside0.mk (blk_below (bk_ BK256.out) hb); have n6_ := Aside0.mk (blk_below (bk_ BK257.out) hb); have n7_ := Aside0.mk (below_step (bws_ HB.out) hb); clear HO0; clear HO1; clear HO290; clear HO293; clear BK256; clear BK257; clear HB; have HO0 := n0_; have HO1 := n1_; have HO290 := n2_; have HO293 := n3_; have HO296 := n4_; have BK256 := n5_; have BK257 := n6_; have HB := n7_; clear n0_ n1_ n2_ n3_ n4_ n5_ n6_ n7_; (try clear hb); (try clear hb2); (try clear hk); (try clear hi); (try clear ho0)))
           go_ret
           exact ⟨_, by first | rfl | (simp [errW_none, errW_some] <;> rfl) | (simp only [← hji4, ← hji26]; first | rfl | (simp [errW_none, errW_some] <;> rfl)) | (simp [*, errW_none, errW_some] <;> rfl), by (with_reducible repeat (first | apply Kd.R_alloc | apply Kd.R_drewN | apply Kd.R_drew)); exact Kd.R_mono HO296.out (fun _ hk => hk.1.1.1), by repeat (first | (with_reducible first | exact HB.out | apply below_alloc | apply pw_below_drewN | apply below_drew1 | refine below_set ?_ GE256.out | refine below_set ?_ GE257.out) | exact HB.out), by first | exact fun hr_ => absurd hr_ HNZ.out | exact fun hr_ => absurd hr_ NZ_.out | exact fun _ => rfl | rfl | (simp; done) | (intro _; first | rfl | (simp; done))⟩
          ·rw [if_neg c52] at H
           exact absurd H (by simp)
         ·rw [if_neg c51] at H
          have c51b0 : (((rd_T49 l0 0).f0) == ((rd_T49 l1 (ji26)).f0) && (((rd_T49 l0 0).f1) == ((rd_T49 l1 (ji26)).f1))) = false := by simpa using c51
          (try (have c51b1 : decide (((rd_T49 l0 0).f0) = ((rd_T49 l1 (ji26)).f0) && (((rd_T49 l0 0).f1) == ((rd_T49 l1 (ji26)).f1))) = false := by simpa using c51))
          (try (have c51b2 : (((rd_T49 l0 0).f0) == ((rd_T49 l1 (ji26)).f0) && (((rd_T49 l0 0).f1) == ((rd_T49 l1 (ji26)).f1))) = false := by simpa using c51))
          (try (have c51b3 : ¬ (((rd_T49 l0 0).f0) = ((rd_T49 l1 (ji26)).f0) && (((rd_T49 l0 0).f1) == ((rd_T49 l1 (ji26)).f1))) := by simpa using c51))
          clear c51
          by_cases c71 : (((rd_T49 l0 0).f0) == ((rd_T49 l1 0).f0) && (((rd_T49 l0 0).f1) == ((rd_T49 l1 0).f1))) = true
          ·rw [if_pos c71] at H
           have c71b0 : (((rd_T49 l0 0).f0) == ((rd_T49 l1 0).f0) && (((rd_T49 l0 0).f1) == ((rd_T49 l1 0).f1))) = true := c71
           (try (have c71b1 : decide (((rd_T49 l0 0).f0) = ((rd_T49 l1 0).f0) && (((rd_T49 l0 0).f1) == ((rd_T49 l1 0).f1))) = true := by simpa using c71))
           (try (have c71b2 : (((rd_T49 l0 0).f0) == ((rd_T49 l1 0).f0) && (((rd_T49 l0 0).f1) == ((rd_T49 l1 0).f1))) = true := by simpa using c71))
           clear c71
           replace H := Option.bind_eq_some_iff.mp H
           obtain ⟨t298, A720, H⟩ := H
           replace H : (if 1 ≤ (l0.length : Int) then ((impl_Place_56.f k (([t298, (l0.drop 1)] : List (List (S49))))).bind fun t309 => (if 0 < (t309.length : Int) then (some t309) else none)) else (none)) = some r := H
           have A72 := Aside0.mk A720
           clear A720
           by_cases c73 : 1 ≤ (l0.length : Int)
           ·rw [if_pos c73] at H
            have c73b0 := eq_true c73
            have c73b1 : decide (1 ≤ (l0.length : Int)) = true := decide_eq_true c73
            clear c73
            obtain ⟨y301, hy301⟩ : ∃ y_ : List (S49), y_ = (l0.drop 1) := ⟨_, rfl⟩
            replace H : ((impl_Place_56.f k (([t298, y301] : List (List (S49))))).bind fun t309 => (if 0 < (t309.length : Int) then (some t309) else none)) = some r := by first | (rw [hy301]; with_reducible exact H) | (have H2_ := (Option.bind_some _ _).symm.trans H; rw [hy301]; with_reducible exact H2_) | (have H2_ := (Option.bind_some _ _).symm.trans H; with_reducible exact H2_) | with_reducible exact H | (rw [hy301]; exact H) | exact H
            have Ny301 := Aside0.mk hy301
            clear hy301
            obtain ⟨y306, hy306⟩ : ∃ y_ : List (List (S49)), y_ = (([t298, y301] : List (List (S49)))) := ⟨_, rfl⟩
            replace H : ((impl_Place_56.f k y306).bind fun t309 => (if 0 < (t309.length : Int) then (some t309) else none)) = some r := by first | (rw [hy306]; with_reducible exact H) | (have H2_ := (Option.bind_some _ _).symm.trans H; rw [hy306]; with_reducible exact H2_) | (have H2_ := (Option.bind_some _ _).symm.trans H; with_reducible exact H2_) | with_reducible exact H | (rw [hy306]; exact H) | exact H
            have Ny306 := Aside0.mk hy306
            clear hy306
            replace H := Option.bind_eq_some_iff.mp H
            obtain ⟨t309, A740, H⟩ := H
            replace H : (if 0 < (t309.length : Int) then (some t309) else none) = some r := H
            have hnz_ : 0 < (t309.length : Int) := by
             by_cases hz_ : 0 < (t309.length : Int)
             ·exact hz_
             ·rw [if_neg hz_] at H; cases H
            rw [if_pos hnz_] at H
            have HNZ := Aside0.mk (show t309 ≠ [] from fun h_ => by rw [h_] at hnz_; simp at hnz_)
            clear hnz_
            have A74 := Aside0.mk A740
            clear A740
            obtain rfl := Option.some.inj H
            go_enter Try.func36, Try.ntmps36
            try go_wp2
            have n0_ := Aside0.mk (Kd.V_drew HO0.out)
            have n1_ := Aside0.mk (Kd.V_drew HO1.out)
            have n2_ := Aside0.mk (below_drew1 HB.out)
            clear HO0 HO1 HB
            have HO0 := n0_; have HO1 := n1_; have HB := n2_
            clear n0_ n1_ n2_
            have p254 : 0 ≤ (0 : Int) := (by omega)
            have q254 : 0 < (l0.length : Int) := od_
            obtain ⟨ad254, e254, hx254_0, hx254_1⟩ := at_T49 (Kd.V_reads' HO0.out).2.2 0 p254 q254
            cases e254
            have qi254 : (0 < l0.length) = True := eq_true (by omega)
            (try rw [show ((0 : Int)).toNat = 0 from rfl] at hx254_0)
            (try rw [show 0 * 2 = 0 from rfl] at hx254_0)
            (try rw [Addr.add_zero'] at hx254_0)
            (try rw [show ((0 : Int)).toNat = 0 from rfl] at hx254_1)
            (try rw [show 0 * 2 = 0 from rfl] at hx254_1)
            (try rw [Addr.add_zero'] at hx254_1)
            replace p254 := eq_true p254
            replace q254 := eq_true q254
            have p255 : 0 ≤ ((ji4) : Int) := od_
            have q255 : (ji4) < (l0.length : Int) := od_
            obtain ⟨ad255, e255, hx255_0, hx255_1⟩ := at_T49 (Kd.V_reads' HO0.out).2.2 (ji4) p255 q255
            obtain rfl : ad254 = ad255 := (by injection e255)
            replace p255 := eq_true p255
            replace q255 := eq_true q255
            refine start_ (n := 13) (S := fun w' => w'.cell? ad254 = some (.int .i64 ((rd_T49 l0 0).f0)) ∧ w'.cell? ⟨ad254.block, ad254.off + 1, none⟩ = some (.int .i64 ((rd_T49 l0 0).f1)) ∧ w'.cell? (ad254.add (((ji4)).toNat * 2)) = some (.int .i64 ((rd_T49 l0 (ji4)).f0)) ∧ w'.cell? ⟨(ad254.add (((ji4)).toNat * 2)).block, (ad254.add (((ji4)).toNat * 2)).off + 1, none⟩ = some (.int .i64 ((rd_T49 l0 (ji4)).f1))) (ds := []) #[false, false, false, false, false, false, false, false, false, false, false, false, false] (by kernel_rfl) rfl rfl ⟨hx254_0, hx254_1, hx255_0, hx255_1⟩ (fun hHeld => ?_); refine with_tabW impl_join.tab1 impl_join.bits1 (fun HT_ HW_ => ?_)
            generalize w.drew = w75 at HO0 HO1 HB hx254_0 hx254_1 hx255_0 hx255_1 hHeld ⊢
            refine pure_ (i := 0) (N := some 7) (v := ?_) (a' := ?_) #[true, false, false, false, false, false, false, false, false, false, false, false, false] rfl rfl (any_of HT_.out (by kernel_rfl)) (fun _ _ _ h => h) (Or.inl ⟨by rfl, ?_⟩) ?_ ?_
            rotate_left
            ·intro w'
             go_simp
             with_reducible rfl
            rotate_left
            ·simp only [Act.put, List.setIfInBounds_toArray, List.set_cons_zero, List.set_cons_succ, i64_w, i32_w]
             rfl
            refine pure_ (i := 1) (N := some 8) (v := ?_) (a' := ?_) #[true, true, false, false, false, false, false, false, false, false, false, false, false] rfl rfl (any_of HT_.out (by kernel_rfl)) (fun _ _ _ h => h) (Or.inl ⟨by rfl, ?_⟩) ?_ ?_
            rotate_left
            ·intro w'
             go_simp
             with_reducible rfl
            rotate_left
            ·simp only [Act.put, List.setIfInBounds_toArray, List.set_cons_zero, List.set_cons_succ, i64_w, i32_w]
             rfl
            refine pure_ (i := 3) (N := some 10) (v := ?_) (a' := ?_) #[true, true, false, true, false, false, false, false, false, false, false, false, false] rfl rfl (any_of HT_.out (by kernel_rfl)) (fun _ _ _ h => h) (Or.inl ⟨by rfl, ?_⟩) ?_ ?_
            rotate_left
            ·intro w'
             go_simp
             with_reducible rfl
            rotate_left
            ·simp only [Act.put, List.setIfInBounds_toArray, List.set_cons_zero, List.set_cons_succ, i64_w, i32_w]
             rfl
            refine pure_ (i := 4) (N := some 11) (v := ?_) (a' := ?_) #[true, true, false, true, true, false, false, false, false, false, false, false, false] rfl rfl (any_of HT_.out (by kernel_rfl)) (fun _ _ _ h => h) (Or.inl ⟨by rfl, ?_⟩) ?_ ?_
            rotate_left
            ·intro w'
             go_simp
             with_reducible rfl
            rotate_left
            ·simp only [Act.put, List.setIfInBounds_toArray, List.set_cons_zero, List.set_cons_succ, i64_w, i32_w]
             rfl
            refine pure_ (i := 5) (N := some 12) (v := ?_) (a' := ?_) #[true, true, false, true, true, true, false, false, false, false, false, false, false] rfl rfl (any_of HT_.out (by kernel_rfl)) (fun _ _ _ h => h) (Or.inl ⟨by rfl, ?_⟩) ?_ ?_
            rotate_left
            ·intro w'
             go_simp
             with_reducible rfl
            rotate_left
            ·simp only [Act.put, List.setIfInBounds_toArray, List.set_cons_zero, List.set_cons_succ, i64_w, i32_w]
             rfl
            refine pure_ (i := 6) (N := some 13) (v := ?_) (a' := ?_) #[true, true, false, true, true, true, true, false, false, false, false, false, false] rfl rfl (any_of HT_.out (by kernel_rfl)) (fun _ _ _ h => h) (Or.inl ⟨by rfl, ?_⟩) ?_ ?_
            rotate_left
            ·intro w'
             go_simp
             with_reducible rfl
            rotate_left
            ·simp only [Act.put, List.setIfInBounds_toArray, List.set_cons_zero, List.set_cons_succ, i64_w, i32_w]
             rfl
            refine pure_ (i := 7) (N := some 14) (v := ?_) (a' := ?_) #[true, true, false, true, true, true, true, true, false, false, false, false, false] rfl rfl (any_of HT_.out (by kernel_rfl)) (fun _ _ _ h => h) (Or.inl ⟨by rfl, ?_⟩) ?_ ?_
            rotate_left
            ·intro w'
             go_simp
             with_reducible rfl
            rotate_left
            ·simp only [Act.put, List.setIfInBounds_toArray, List.set_cons_zero, List.set_cons_succ, i64_w, i32_w]
             rfl
            refine take_ (i := 2) (N := some 9) (v := ?_) (a' := ?_) #[true, true, true, true, true, true, true, true, false, false, false, false, false] rfl rfl (take_ofW HT_.out HW_.out (by kernel_rfl)) (fun _ _ _ h => h) (Or.inl ⟨by rfl, ?_⟩) hHeld ?_ ?_
            rotate_left
            ·rintro w' ⟨s0, s1, s2, s3⟩
             go_simp
             with_reducible rfl
            rotate_left
            ·simp only [Act.put, List.setIfInBounds_toArray, List.set_cons_zero, List.set_cons_succ, i64_w, i32_w]
             rfl
            refine take_ (i := 8) (N := some 15) (v := ?_) (a' := ?_) #[true, true, true, true, true, true, true, true, true, false, false, false, false] rfl rfl (take_ofW HT_.out HW_.out (by kernel_rfl)) (fun _ _ _ h => h) (Or.inl ⟨by rfl, ?_⟩) hHeld ?_ ?_
            rotate_left
            ·rintro w' ⟨s0, s1, s2, s3⟩
             go_simp
             with_reducible rfl
            rotate_left
            ·simp only [Act.put, List.setIfInBounds_toArray, List.set_cons_zero, List.set_cons_succ, i64_w, i32_w]
             rfl
            refine join_ (σ := Nat × Nat) 2 #[true, true, true, true, true, true, true, true, true, true, true, false, false] (fun s_ => [(5, .pointer (some ⟨s_.1, 0, none⟩)), (6, .pointer (some ⟨s_.2, 0, none⟩))]) (fun s_ w' => (w'.cell? ad254 = some (.int .i64 ((rd_T49 l0 0).f0)) ∧ w'.cell? ⟨ad254.block, ad254.off + 1, none⟩ = some (.int .i64 ((rd_T49 l0 0).f1)) ∧ w'.cell? (ad254.add (((ji4)).toNat * 2)) = some (.int .i64 ((rd_T49 l0 (ji4)).f0)) ∧ w'.cell? ⟨(ad254.add (((ji4)).toNat * 2)).block, (ad254.add (((ji4)).toNat * 2)).off + 1, none⟩ = some (.int .i64 ((rd_T49 l0 (ji4)).f1))) ∧ (Kd.V k49 49 w' w.heap.size (fun k_ => ((P0_ k_ ∨ P1_ k_) ∨ w.heap.size ≤ k_) ∧ k_ ≠ s_.1 ∧ k_ ≠ s_.2) (.slice (some ad254) l0.length c0) l0) ∧ (Kd.V k49 49 w' w.heap.size (fun k_ => ((P0_ k_ ∨ P1_ k_) ∨ w.heap.size ≤ k_) ∧ k_ ≠ s_.1 ∧ k_ ≠ s_.2) (.slice A1 l1.length c1) l1) ∧ (w'.heap[s_.1]? = some (.cells #[.int .i64 0, .int .i64 0] 49 (0, 0))) ∧ (w'.heap[s_.2]? = some (.cells #[.int .i64 0, .int .i64 0] 49 (0, 0))) ∧ (w.heap.size ≤ s_.1) ∧ (w.heap.size ≤ s_.1) ∧ (s_.2 ≠ s_.1) ∧ (s_.1 ≠ s_.2) ∧ (w.heap.size ≤ s_.2) ∧ (w.heap.size ≤ s_.2) ∧ (Below w.heap.size w w')) ?_ ?_
            rotate_left
            ·intro hCont
             refine two_ (i := 9) (j := 10) (Ni := some 5) (Nj := some 6) #[true, true, true, true, true, true, true, true, true, true, false, false, false] #[true, true, true, true, true, true, true, true, true, false, true, false, false] rfl rfl rfl rfl (two_of HT_.out (by kernel_rfl)) (by decide) (by decide) (fun K hK => ?_) (fun K hK => ?_)
             ·skip
              refine box_step ?hg (N := 5) ?hd (cs := #[.int .i64 0, .int .i64 0]) (t := 49) ?hr ?_; (case hd => rfl); (case hg => rfl); (case hr => first | (go_simp; done) | (go_simp; rfl))
              intro gb256 hg w76 hbox hb
              have HS0_ := hs_ hb hHeld.1
              have HS1_ := hs_ hb hHeld.2.1
              have HS2_ := hs_ hb hHeld.2.2.1
              have HS3_ := hs_ hb hHeld.2.2.2
              have n0_ := Aside0.mk (Kd.V_below (Kd.V_elderB (vk_ HO0.out) gb256 (Nat.le_of_eq hg.symm)) hb)
              have n1_ := Aside0.mk (Kd.V_below (Kd.V_elderB (vk_ HO1.out) gb256 (Nat.le_of_eq hg.symm)) hb)
              have n2_ := Aside0.mk (below_step (bw_ HB.out) hb)
              have n3_ := Aside0.mk (hbox)
              have n4_ := Aside0.mk ((ge_ hg (bw_ HB.out)))
              have n5_ := Aside0.mk ((ge_ hg (bw_ HB.out)))
              clear HO0 HO1 HB
              have HO0 := n0_; have HO1 := n1_; have HB := n2_; have BK256 := n3_; have GW256 := n4_; have GE256 := n5_
              clear n0_ n1_ n2_ n3_ n4_ n5_ hb hbox hg
              refine hK.out _ _ ⟨HS0_, HS1_, HS2_, HS3_⟩ (fun hHeld => ?_)
              clear hK K
              refine norm_ (a' := ?_) ?_ ?_
              rotate_left
              ·show Act.put _ (some 5) _ = _
               simp only [Act.put, List.setIfInBounds_toArray, List.set_cons_zero, List.set_cons_succ, i64_w, i32_w]
               rfl
              refine one_ (i := 10) (N := some 6) #[true, true, true, true, true, true, true, true, true, true, true, false, false] rfl rfl (one_of HT_.out (by kernel_rfl)) (by decide) (fun K hK => ?_)
              refine box_step ?hg (N := 6) ?hd (cs := #[.int .i64 0, .int .i64 0]) (t := 49) ?hr ?_; (case hd => rfl); (case hg => rfl); (case hr => first | (go_simp; done) | (go_simp; rfl))
              intro gb257 hg w77 hbox hb
              have HS0_ := hs_ hb hHeld.1
              have HS1_ := hs_ hb hHeld.2.1
              have HS2_ := hs_ hb hHeld.2.2.1
              have HS3_ := hs_ hb hHeld.2.2.2
              have n0_ := Aside0.mk (Kd.V_below (Kd.V_elderB (vk_ HO0.out) gb257 (Nat.le_of_eq hg.symm)) hb)
              have n1_ := Aside0.mk (Kd.V_below (Kd.V_elderB (vk_ HO1.out) gb257 (Nat.le_of_eq hg.symm)) hb)
              have n2_ := Aside0.mk (blk_below (bk_ BK256.out) hb)
              have n3_ := Aside0.mk (below_step (bwg_ GE256.out HB.out) hb)
              have n4_ := Aside0.mk (hbox)
              have n5_ := Aside0.mk ((by rw [hg]; exact (below_size (bwg_ GE256.out HB.out)) : w.heap.size ≤ gb257))
              have n6_ := Aside0.mk ((by rw [hg]; exact (below_size (bwg_ GE256.out HB.out)) : w.heap.size ≤ gb257))
              have n7_ := Aside0.mk ((ne1_ hg (bk_ BK256.out)))
              have n8_ := Aside0.mk ((ne2_ hg (bk_ BK256.out)))
              clear HO0 HO1 BK256 HB
              have HO0 := n0_; have HO1 := n1_; have BK256 := n2_; have HB := n3_; have BK257 := n4_; have GW257 := n5_; have GE257 := n6_; have NB256_257 := n7_; have NB257_256 := n8_
              clear n0_ n1_ n2_ n3_ n4_ n5_ n6_ n7_ n8_ hb hbox hg
              refine hK.out _ _ ⟨HS0_, HS1_, HS2_, HS3_⟩ (fun hHeld => ?_)
              clear hK K
              refine norm_ (a' := ?_) ?_ ?_
              rotate_left
              ·show Act.put _ (some 6) _ = _
               simp only [Act.put, List.setIfInBounds_toArray, List.set_cons_zero, List.set_cons_succ, i64_w, i32_w]
               rfl
              exact norm_ (by simp only [putAll, Act.put, List.setIfInBounds_toArray, List.set_cons_zero, List.set_cons_succ]) (hCont (gb256, gb257) _ ⟨hHeld, (by (with_reducible repeat (first | apply Kd.V_alloc | apply Kd.V_drewN | apply Kd.V_drew)); exact Kd.V_mono HO0.out (fun _ hk => ⟨hk.1.1, ⟨hk.1.2, hk.2⟩⟩)), (by (with_reducible repeat (first | apply Kd.V_alloc | apply Kd.V_drewN | apply Kd.V_drew)); exact Kd.V_mono HO1.out (fun _ hk => ⟨hk.1.1, ⟨hk.1.2, hk.2⟩⟩)), (bk_ BK256.out), (bk_ BK257.out), GW256.out, GE256.out, NB257_256.out, NB256_257.out, GW257.out, GE257.out, (bws_ HB.out)⟩)
             ·skip
              refine box_step ?hg (N := 6) ?hd (cs := #[.int .i64 0, .int .i64 0]) (t := 49) ?hr ?_; (case hd => rfl); (case hg => rfl); (case hr => first | (go_simp; done) | (go_simp; rfl))
              intro gb257 hg w76 hbox hb
              have HS0_ := hs_ hb hHeld.1
              have HS1_ := hs_ hb hHeld.2.1
              have HS2_ := hs_ hb hHeld.2.2.1
              have HS3_ := hs_ hb hHeld.2.2.2
              have n0_ := Aside0.mk (Kd.V_below (Kd.V_elderB (vk_ HO0.out) gb257 (Nat.le_of_eq hg.symm)) hb)
              have n1_ := Aside0.mk (Kd.V_below (Kd.V_elderB (vk_ HO1.out) gb257 (Nat.le_of_eq hg.symm)) hb)
              have n2_ := Aside0.mk (below_step (bw_ HB.out) hb)
              have n3_ := Aside0.mk (hbox)
              have n4_ := Aside0.mk ((ge_ hg (bw_ HB.out)))
              have n5_ := Aside0.mk ((ge_ hg (bw_ HB.out)))
              clear HO0 HO1 HB
              have HO0 := n0_; have HO1 := n1_; have HB := n2_; have BK257 := n3_; have GW257 := n4_; have GE257 := n5_
              clear n0_ n1_ n2_ n3_ n4_ n5_ hb hbox hg
              refine hK.out _ _ ⟨HS0_, HS1_, HS2_, HS3_⟩ (fun hHeld => ?_)
              clear hK K
              refine norm_ (a' := ?_) ?_ ?_
              rotate_left
              ·show Act.put _ (some 6) _ = _
               simp only [Act.put, List.setIfInBounds_toArray, List.set_cons_zero, List.set_cons_succ, i64_w, i32_w]
               rfl
              refine one_ (i := 9) (N := some 5) #[true, true, true, true, true, true, true, true, true, true, true, false, false] rfl rfl (one_of HT_.out (by kernel_rfl)) (by decide) (fun K hK => ?_)
              refine box_step ?hg (N := 5) ?hd (cs := #[.int .i64 0, .int .i64 0]) (t := 49) ?hr ?_; (case hd => rfl); (case hg => rfl); (case hr => first | (go_simp; done) | (go_simp; rfl))
              intro gb256 hg w77 hbox hb
              have HS0_ := hs_ hb hHeld.1
              have HS1_ := hs_ hb hHeld.2.1
              have HS2_ := hs_ hb hHeld.2.2.1
              have HS3_ := hs_ hb hHeld.2.2.2
              have n0_ := Aside0.mk (Kd.V_below (Kd.V_elderB (vk_ HO0.out) gb256 (Nat.le_of_eq hg.symm)) hb)
              have n1_ := Aside0.mk (Kd.V_below (Kd.V_elderB (vk_ HO1.out) gb256 (Nat.le_of_eq hg.symm)) hb)
              have n2_ := Aside0.mk (blk_below (bk_ BK257.out) hb)
              have n3_ := Aside0.mk (below_step (bwg_ GE257.out HB.out) hb)
              have n4_ := Aside0.mk (hbox)
              have n5_ := Aside0.mk ((by rw [hg]; exact (below_size (bwg_ GE257.out HB.out)) : w.heap.size ≤ gb256))
              have n6_ := Aside0.mk ((by rw [hg]; exact (below_size (bwg_ GE257.out HB.out)) : w.heap.size ≤ gb256))
              have n7_ := Aside0.mk ((ne1_ hg (bk_ BK257.out)))
              have n8_ := Aside0.mk ((ne2_ hg (bk_ BK257.out)))
              clear HO0 HO1 BK257 HB
              have HO0 := n0_; have HO1 := n1_; have BK257 := n2_; have HB := n3_; have BK256 := n4_; have GW256 := n5_; have GE256 := n6_; have NB257_256 := n7_; have NB256_257 := n8_
              clear n0_ n1_ n2_ n3_ n4_ n5_ n6_ n7_ n8_ hb hbox hg
              refine hK.out _ _ ⟨HS0_, HS1_, HS2_, HS3_⟩ (fun hHeld => ?_)
              clear hK K
              refine norm_ (a' := ?_) ?_ ?_
              rotate_left
              ·show Act.put _ (some 5) _ = _
               simp only [Act.put, List.setIfInBounds_toArray, List.set_cons_zero, List.set_cons_succ, i64_w, i32_w]
               rfl
              exact norm_ (by simp only [putAll, Act.put, List.setIfInBounds_toArray, List.set_cons_zero, List.set_cons_succ]) (hCont (gb256, gb257) _ ⟨hHeld, (by (with_reducible repeat (first | apply Kd.V_alloc | apply Kd.V_drewN | apply Kd.V_drew)); exact Kd.V_mono HO0.out (fun _ hk => ⟨hk.1.1, ⟨hk.2, hk.1.2⟩⟩)), (by (with_reducible repeat (first | apply Kd.V_alloc | apply Kd.V_drewN | apply Kd.V_drew)); exact Kd.V_mono HO1.out (fun _ hk => ⟨hk.1.1, ⟨hk.2, hk.1.2⟩⟩)), (bk_ BK256.out), (bk_ BK257.out), GW256.out, GE256.out, NB257_256.out, NB256_257.out, GW257.out, GE257.out, (bws_ HB.out)⟩)
            rintro ⟨gb256, gb257⟩ w78 ⟨hS_, h0_, h1_, h2_, h3_, h4_, h5_, h6_, h7_, h8_, h9_, h10_⟩
            have n0_ : Aside0 (Kd.V k49 49 w78 w.heap.size (fun k_ => ((P0_ k_ ∨ P1_ k_) ∨ w.heap.size ≤ k_) ∧ k_ ≠ gb256 ∧ k_ ≠ gb257) (.slice (some ad254) l0.length c0) l0) := ⟨h0_⟩
            have n1_ : Aside0 (Kd.V k49 49 w78 w.heap.size (fun k_ => ((P0_ k_ ∨ P1_ k_) ∨ w.heap.size ≤ k_) ∧ k_ ≠ gb256 ∧ k_ ≠ gb257) (.slice A1 l1.length c1) l1) := ⟨h1_⟩
            have n2_ : Aside0 (w78.heap[gb256]? = some (.cells #[.int .i64 0, .int .i64 0] 49 (0, 0))) := ⟨h2_⟩
            have n3_ : Aside0 (w78.heap[gb257]? = some (.cells #[.int .i64 0, .int .i64 0] 49 (0, 0))) := ⟨h3_⟩
            have n4_ : Aside0 (w.heap.size ≤ gb256) := ⟨h4_⟩
            have n5_ : Aside0 (w.heap.size ≤ gb256) := ⟨h5_⟩
            have n6_ : Aside0 (gb257 ≠ gb256) := ⟨h6_⟩
            have n7_ : Aside0 (gb256 ≠ gb257) := ⟨h7_⟩
            have n8_ : Aside0 (w.heap.size ≤ gb257) := ⟨h8_⟩
            have n9_ : Aside0 (w.heap.size ≤ gb257) := ⟨h9_⟩
            have n10_ : Aside0 (Below w.heap.size w w78) := ⟨h10_⟩
            clear HO0 HO1 HB h0_ h1_ h2_ h3_ h4_ h5_ h6_ h7_ h8_ h9_ h10_
            have HO0 := n0_; have HO1 := n1_; have BK256 := n2_; have BK257 := n3_; have GW256 := n4_; have GE256 := n5_; have NB257_256 := n6_; have NB256_257 := n7_; have GW257 := n8_; have GE257 := n9_
            have HB := n10_
            clear n0_ n1_ n2_ n3_ n4_ n5_ n6_ n7_ n8_ n9_ n10_
            have hHeld : w78.cell? ad254 = some (.int .i64 ((rd_T49 l0 0).f0)) ∧ w78.cell? ⟨ad254.block, ad254.off + 1, none⟩ = some (.int .i64 ((rd_T49 l0 0).f1)) ∧ w78.cell? (ad254.add (((ji4)).toNat * 2)) = some (.int .i64 ((rd_T49 l0 (ji4)).f0)) ∧ w78.cell? ⟨(ad254.add (((ji4)).toNat * 2)).block, (ad254.add (((ji4)).toNat * 2)).off + 1, none⟩ = some (.int .i64 ((rd_T49 l0 (ji4)).f1)) := hS_
            refine norm_ (a' := ?_) ?_ ?_
            rotate_left
            ·simp only [putAll, Act.put, List.setIfInBounds_toArray, List.set_cons_zero, List.set_cons_succ]
             rfl
            refine one_ (i := 11) (N := none) #[true, true, true, true, true, true, true, true, true, true, true, true, false] rfl rfl (one_of HT_.out (by kernel_rfl)) (by decide) (fun K hK => ?_)
            have hs79 : w78.cell? ⟨gb256, 0, none⟩ = some (.int .i64 0) := (blk_cell BK256.out 0).trans rfl
            have hfs79 := blk_frozen BK256.out 0
            have hns79_1 := NB257_256.out
            have hms79_1 := NB256_257.out
            have hs80 : w78.cell? ⟨gb256, 1, none⟩ = some (.int .i64 0) := (blk_cell BK256.out 1).trans rfl
            have hfs80 := blk_frozen BK256.out 1
            have hns80_1 := NB257_256.out
            have hms80_1 := NB256_257.out
            refine skip_ (w1 := ?_) (by rfl) rfl ?_ ?_
            rotate_left
            ·go_simp
             rfl
            refine hK.out _ _ ⟨(far2_ (by first | (rw [add_block]; exact vaw_ HO0.out (fun _ hk => hk.2.1) od_) | exact vaw_ HO0.out (fun _ hk => hk.2.1) od_ | (dsimp only; exact vaw_ HO0.out (fun _ hk => hk.2.1) od_)) hHeld.1), (far2_ (by first | (rw [add_block]; exact vaw_ HO0.out (fun _ hk => hk.2.1) od_) | exact vaw_ HO0.out (fun _ hk => hk.2.1) od_ | (dsimp only; exact vaw_ HO0.out (fun _ hk => hk.2.1) od_)) hHeld.2.1), (far2_ (by first | (rw [add_block]; exact vaw_ HO0.out (fun _ hk => hk.2.1) od_) | exact vaw_ HO0.out (fun _ hk => hk.2.1) od_ | (dsimp only; exact vaw_ HO0.out (fun _ hk => hk.2.1) od_)) hHeld.2.2.1), (far2_ (by first | (rw [add_block]; exact vaw_ HO0.out (fun _ hk => hk.2.1) od_) | exact vaw_ HO0.out (fun _ hk => hk.2.1) od_ | (dsimp only; exact vaw_ HO0.out (fun _ hk => hk.2.1) od_)) hHeld.2.2.2)⟩ (fun hHeld => ?_)
            clear hK K
            refine one_ (i := 12) (N := none) #[true, true, true, true, true, true, true, true, true, true, true, true, true] rfl rfl (one_of HT_.out (by kernel_rfl)) (by decide) (fun K hK => ?_)
            have hs81 : w78.cell? ⟨gb257, 0, none⟩ = some (.int .i64 0) := (blk_cell BK257.out 0).trans rfl
            have hfs81 := blk_frozen BK257.out 0
            have hns81_0 := NB256_257.out
            have hms81_0 := NB257_256.out
            have hs82 : w78.cell? ⟨gb257, 1, none⟩ = some (.int .i64 0) := (blk_cell BK257.out 1).trans rfl
            have hfs82 := blk_frozen BK257.out 1
            have hns82_0 := NB256_257.out
            have hms82_0 := NB257_256.out
            refine skip_ (w1 := ?_) (by rfl) rfl ?_ ?_
            rotate_left
            ·go_simp
             rfl
            refine hK.out _ _ ⟨(far2_ (by first | (rw [add_block]; exact vaw_ HO0.out (fun _ hk => hk.2.2) od_) | exact vaw_ HO0.out (fun _ hk => hk.2.2) od_ | (dsimp only; exact vaw_ HO0.out (fun _ hk => hk.2.2) od_)) hHeld.1), (far2_ (by first | (rw [add_block]; exact vaw_ HO0.out (fun _ hk => hk.2.2) od_) | exact vaw_ HO0.out (fun _ hk => hk.2.2) od_ | (dsimp only; exact vaw_ HO0.out (fun _ hk => hk.2.2) od_)) hHeld.2.1), (far2_ (by first | (rw [add_block]; exact vaw_ HO0.out (fun _ hk => hk.2.2) od_) | exact vaw_ HO0.out (fun _ hk => hk.2.2) od_ | (dsimp only; exact vaw_ HO0.out (fun _ hk => hk.2.2) od_)) hHeld.2.2.1), (far2_ (by first | (rw [add_block]; exact vaw_ HO0.out (fun _ hk => hk.2.2) od_) | exact vaw_ HO0.out (fun _ hk => hk.2.2) od_ | (dsimp only; exact vaw_ HO0.out (fun _ hk => hk.2.2) od_)) hHeld.2.2.2)⟩ (fun hHeld => ?_)
            clear hK K
            refine done_ (done_of HT_.out (by kernel_rfl)) ?_
            try go_wp2
            have n0_ : Aside0 (Kd.V k49 49 ((((w78.setCell ⟨gb256, 0, none⟩ (.int .i64 ((rd_T49 l0 0).f0))).setCell ⟨gb256, 1, none⟩ (.int .i64 ((rd_T49 l0 0).f1))).setCell ⟨gb257, 0, none⟩ (.int .i64 ((rd_T49 l0 (ji4)).f0))).setCell ⟨gb257, 1, none⟩ (.int .i64 ((rd_T49 l0 (ji4)).f1))) w.heap.size (fun k_ => ((P0_ k_ ∨ P1_ k_) ∨ w.heap.size ≤ k_) ∧ k_ ≠ gb256 ∧ k_ ≠ gb257) (.slice (some ad254) l0.length c0) l0) := ⟨by (with_reducible repeat (first | apply Kd.V_alloc | apply Kd.V_drewN | apply Kd.V_drew)); exact Kd.V_mono (Kd.V_far (p := ⟨gb257, 1, none⟩) (Kd.V_far (p := ⟨gb257, 0, none⟩) (Kd.V_far (p := ⟨gb256, 1, none⟩) (Kd.V_far (p := ⟨gb256, 0, none⟩) (Kd.V_mono (Kd.V_mono HO0.out (fun k_ hk => (⟨hk, hk.2.1⟩ : _ ∧ k_ ≠ gb256))) (fun k_ hk => (⟨hk, hk.1.2.2⟩ : _ ∧ k_ ≠ gb257))) (fun _ hk => hk.1.2) (.int .i64 ((rd_T49 l0 0).f0))) (fun _ hk => hk.1.2) (.int .i64 ((rd_T49 l0 0).f1))) (fun _ hk => hk.2) (.int .i64 ((rd_T49 l0 (ji4)).f0))) (fun _ hk => hk.2) (.int .i64 ((rd_T49 l0 (ji4)).f1))) (fun _ hk => ⟨hk.1.1.1, ⟨hk.1.1.2.1, hk.1.1.2.2⟩⟩)⟩
            have n1_ : Aside0 (Kd.V k49 49 ((((w78.setCell ⟨gb256, 0, none⟩ (.int .i64 ((rd_T49 l0 0).f0))).setCell ⟨gb256, 1, none⟩ (.int .i64 ((rd_T49 l0 0).f1))).setCell ⟨gb257, 0, none⟩ (.int .i64 ((rd_T49 l0 (ji4)).f0))).setCell ⟨gb257, 1, none⟩ (.int .i64 ((rd_T49 l0 (ji4)).f1))) w.heap.size (fun k_ => ((P0_ k_ ∨ P1_ k_) ∨ w.heap.size ≤ k_) ∧ k_ ≠ gb256 ∧ k_ ≠ gb257) (.slice A1 l1.length c1) l1) := ⟨by (with_reducible repeat (first | apply Kd.V_alloc | apply Kd.V_drewN | apply Kd.V_drew)); exact Kd.V_mono (Kd.V_far (p := ⟨gb257, 1, none⟩) (Kd.V_far (p := ⟨gb257, 0, none⟩) (Kd.V_far (p := ⟨gb256, 1, none⟩) (Kd.V_far (p := ⟨gb256, 0, none⟩) (Kd.V_mono (Kd.V_mono HO1.out (fun k_ hk => (⟨hk, hk.2.1⟩ : _ ∧ k_ ≠ gb256))) (fun k_ hk => (⟨hk, hk.1.2.2⟩ : _ ∧ k_ ≠ gb257))) (fun _ hk => hk.1.2) (.int .i64 ((rd_T49 l0 0).f0))) (fun _ hk => hk.1.2) (.int .i64 ((rd_T49 l0 0).f1))) (fun _ hk => hk.2) (.int .i64 ((rd_T49 l0 (ji4)).f0))) (fun _ hk => hk.2) (.int .i64 ((rd_T49 l0 (ji4)).f1))) (fun _ hk => ⟨hk.1.1.1, ⟨hk.1.1.2.1, hk.1.1.2.2⟩⟩)⟩
            have n2_ : Aside0 (((((w78.setCell ⟨gb256, 0, none⟩ (.int .i64 ((rd_T49 l0 0).f0))).setCell ⟨gb256, 1, none⟩ (.int .i64 ((rd_T49 l0 0).f1))).setCell ⟨gb257, 0, none⟩ (.int .i64 ((rd_T49 l0 (ji4)).f0))).setCell ⟨gb257, 1, none⟩ (.int .i64 ((rd_T49 l0 (ji4)).f1))).heap[gb256]? = some (.cells #[.int .i64 ((rd_T49 l0 0).f0), .int .i64 ((rd_T49 l0 0).f1)] 49 (0, 0))) := ⟨by (with_reducible repeat (first | refine blk_drewN ?_ _ | refine blk_drew ?_ | refine blk_alloc ?_ _)); refine blk_far ?_ NB256_257.out _; (with_reducible repeat (first | refine blk_drewN ?_ _ | refine blk_drew ?_ | refine blk_alloc ?_ _)); refine blk_far ?_ NB256_257.out _; (with_reducible repeat (first | refine blk_drewN ?_ _ | refine blk_drew ?_ | refine blk_alloc ?_ _)); refine blk_put (cs := #[.int .i64 ((rd_T49 l0 0).f0), .int .i64 0]) ?_ 1 _ rfl; (with_reducible repeat (first | refine blk_drewN ?_ _ | refine blk_drew ?_ | refine blk_alloc ?_ _)); refine blk_put (cs := #[.int .i64 0, .int .i64 0]) ?_ 0 _ rfl; (with_reducible repeat (first | refine blk_drewN ?_ _ | refine blk_drew ?_ | refine blk_alloc ?_ _)); exact BK256.out⟩
            have n3_ : Aside0 (((((w78.setCell ⟨gb256, 0, none⟩ (.int .i64 ((rd_T49 l0 0).f0))).setCell ⟨gb256, 1, none⟩ (.int .i64 ((rd_T49 l0 0).f1))).setCell ⟨gb257, 0, none⟩ (.int .i64 ((rd_T49 l0 (ji4)).f0))).setCell ⟨gb257, 1, none⟩ (.int .i64 ((rd_T49 l0 (ji4)).f1))).heap[gb257]? = some (.cells #[.int .i64 ((rd_T49 l0 (ji4)).f0), .int .i64 ((rd_T49 l0 (ji4)).f1)] 49 (0, 0))) := ⟨by (with_reducible repeat (first | refine blk_drewN ?_ _ | refine blk_drew ?_ | refine blk_alloc ?_ _)); refine blk_put (cs := #[.int .i64 ((rd_T49 l0 (ji4)).f0), .int .i64 0]) ?_ 1 _ rfl; (with_reducible repeat (first | refine blk_drewN ?_ _ | refine blk_drew ?_ | refine blk_alloc ?_ _)); refine blk_put (cs := #[.int .i64 0, .int .i64 0]) ?_ 0 _ rfl; (with_reducible repeat (first | refine blk_drewN ?_ _ | refine blk_drew ?_ | refine blk_alloc ?_ _)); refine blk_far ?_ NB257_256.out _; (with_reducible repeat (first | refine blk_drewN ?_ _ | refine blk_drew ?_ | refine blk_alloc ?_ _)); refine blk_far ?_ NB257_256.out _; (with_reducible repeat (first | refine blk_drewN ?_ _ | refine blk_drew ?_ | refine blk_alloc ?_ _)); exact BK257.out⟩
            have n4_ : Aside0 (Below w.heap.size w ((((w78.setCell ⟨gb256, 0, none⟩ (.int .i64 ((rd_T49 l0 0).f0))).setCell ⟨gb256, 1, none⟩ (.int .i64 ((rd_T49 l0 0).f1))).setCell ⟨gb257, 0, none⟩ (.int .i64 ((rd_T49 l0 (ji4)).f0))).setCell ⟨gb257, 1, none⟩ (.int .i64 ((rd_T49 l0 (ji4)).f1)))) := ⟨bws_ HB.out⟩
            (try clear HO0)
            (try clear HO1)
            (try clear BK256)
            (try clear BK257)
            (try clear HB)
            generalize ((((w78.setCell ⟨gb256, 0, none⟩ (.int .i64 ((rd_T49 l0 0).f0))).setCell ⟨gb256, 1, none⟩ (.int .i64 ((rd_T49 l0 0).f1))).setCell ⟨gb257, 0, none⟩ (.int .i64 ((rd_T49 l0 (ji4)).f0))).setCell ⟨gb257, 1, none⟩ (.int .i64 ((rd_T49 l0 (ji4)).f1))) = w83 at n0_ n1_ n2_ n3_ n4_ ⊢
            have HO0 := n0_; have HO1 := n1_; have BK256 := n2_; have BK257 := n3_; have HB := n4_
            clear n0_ n1_ n2_ n3_ n4_
            have n0_ := Aside0.mk (Kd.V_drew HO0.out)
            have n1_ := Aside0.mk (Kd.V_drew HO1.out)
            have n2_ := Aside0.mk (blk_drew BK256.out)
            have n3_ := Aside0.mk (blk_drew BK257.out)
            have n4_ := Aside0.mk (below_drew1 HB.out)
            clear HO0 HO1 BK256 BK257 HB
            have HO0 := n0_; have HO1 := n1_; have BK256 := n2_; have BK257 := n3_; have HB := n4_
            clear n0_ n1_ n2_ n3_ n4_
            have p258 : 0 ≤ (0 : Int) := (by omega)
            have q258 : 0 < (l1.length : Int) := od_
            obtain ⟨ad258, e258, hx258_0, hx258_1⟩ := at_T49 (Kd.V_reads' HO1.out).2.2 0 p258 q258
            cases e258
            have qi258 : (0 < l1.length) = True := eq_true (by omega)
            (try rw [show ((0 : Int)).toNat = 0 from rfl] at hx258_0)
            (try rw [show 0 * 2 = 0 from rfl] at hx258_0)
            (try rw [Addr.add_zero'] at hx258_0)
            (try rw [show ((0 : Int)).toNat = 0 from rfl] at hx258_1)
            (try rw [show 0 * 2 = 0 from rfl] at hx258_1)
            (try rw [Addr.add_zero'] at hx258_1)
            replace p258 := eq_true p258
            replace q258 := eq_true q258
            refine start_ (n := 6) (S := fun w' => w'.cell? ⟨gb257, 0, none⟩ = some (.int .i64 ((rd_T49 l0 (ji4)).f0)) ∧ w'.cell? ⟨gb257, 1, none⟩ = some (.int .i64 ((rd_T49 l0 (ji4)).f1)) ∧ w'.cell? ad258 = some (.int .i64 ((rd_T49 l1 0).f0)) ∧ w'.cell? ⟨ad258.block, ad258.off + 1, none⟩ = some (.int .i64 ((rd_T49 l1 0).f1))) (ds := []) #[false, false, false, false, false, false] (by kernel_rfl) rfl rfl ⟨(blk_cell BK257.out 0).trans rfl, (blk_cell BK257.out 1).trans rfl, hx258_0, hx258_1⟩ (fun hHeld => ?_)
            generalize w83.drew = w84 at HO0 HO1 BK256 BK257 HB hx258_0 hx258_1 hHeld ⊢
            refine pure_ (i := 1) (N := some 18) (v := ?_) (a' := ?_) #[false, true, false, false, false, false] rfl rfl (by kernel_rfl) (fun _ _ _ h => h) (Or.inl ⟨by rfl, ?_⟩) ?_ ?_
            rotate_left
            ·intro w'
             go_simp
             with_reducible rfl
            rotate_left
            ·simp only [Act.put, List.setIfInBounds_toArray, List.set_cons_zero, List.set_cons_succ, i64_w, i32_w]
             rfl
            refine pure_ (i := 2) (N := some 19) (v := ?_) (a' := ?_) #[false, true, true, false, false, false] rfl rfl (by kernel_rfl) (fun _ _ _ h => h) (Or.inl ⟨by rfl, ?_⟩) ?_ ?_
            rotate_left
            ·intro w'
             go_simp
             with_reducible rfl
            rotate_left
            ·simp only [Act.put, List.setIfInBounds_toArray, List.set_cons_zero, List.set_cons_succ, i64_w, i32_w]
             rfl
            refine take_ (i := 0) (N := some 17) (v := ?_) (a' := ?_) #[true, true, true, false, false, false] rfl rfl (by kernel_rfl) (fun _ _ _ h => h) (Or.inl ⟨by rfl, ?_⟩) hHeld ?_ ?_
            rotate_left
            ·rintro w' ⟨s0, s1, s2, s3⟩
             go_simp
             with_reducible rfl
            rotate_left
            ·simp only [Act.put, List.setIfInBounds_toArray, List.set_cons_zero, List.set_cons_succ, i64_w, i32_w]
             rfl
            refine take_ (i := 3) (N := some 20) (v := ?_) (a' := ?_) #[true, true, true, true, false, false] rfl rfl (by kernel_rfl) (fun _ _ _ h => h) (Or.inl ⟨by rfl, ?_⟩) hHeld ?_ ?_
            rotate_left
            ·rintro w' ⟨s0, s1, s2, s3⟩
             go_simp
             with_reducible rfl
            rotate_left
            ·simp only [Act.put, List.setIfInBounds_toArray, List.set_cons_zero, List.set_cons_succ, i64_w, i32_w]
             rfl
            refine pure_ (i := 4) (N := some 21) (v := ?_) (a' := ?_) #[true, true, true, true, true, false] rfl rfl (by kernel_rfl) (fun _ _ _ h => h) (Or.inl ⟨by rfl, ?_⟩) ?_ ?_
            rotate_left
            ·intro w'
             go_simp
             with_reducible rfl
            rotate_left
            ·simp only [Act.put, List.setIfInBounds_toArray, List.set_cons_zero, List.set_cons_succ, i64_w, i32_w]
             rfl
            refine pure_ (i := 5) (N := some 16) (v := ?_) (a' := ?_) #[true, true, true, true, true, true] rfl rfl (by kernel_rfl) (fun _ _ _ h => h) (Or.inl ⟨by rfl, ?_⟩) ?_ ?_
            rotate_left
            ·intro w'
             go_simp
             with_reducible rfl
            rotate_left
            ·simp only [Act.put, List.setIfInBounds_toArray, List.set_cons_zero, List.set_cons_succ, i64_w, i32_w]
             rfl
            refine done_ (by kernel_rfl) ?_
            try go_wp2
            have n0_ := Aside0.mk (Kd.V_drew HO0.out)
            have n1_ := Aside0.mk (Kd.V_drew HO1.out)
            have n2_ := Aside0.mk (blk_drew BK256.out)
            have n3_ := Aside0.mk (blk_drew BK257.out)
            have n4_ := Aside0.mk (below_drew1 HB.out)
            clear HO0 HO1 BK256 BK257 HB
            have HO0 := n0_; have HO1 := n1_; have BK256 := n2_; have BK257 := n3_; have HB := n4_
            clear n0_ n1_ n2_ n3_ n4_
            have p270 : 0 ≤ ((ji26) : Int) := od_
            have q270 : (ji26) < (l1.length : Int) := od_
            obtain ⟨ad270, e270, hx270_0, hx270_1⟩ := at_T49 (Kd.V_reads' HO1.out).2.2 (ji26) p270 q270
            obtain rfl : ad258 = ad270 := (by injection e270)
            replace p270 := eq_true p270
            replace q270 := eq_true q270
            refine start_ (n := 9) (S := fun w' => w'.cell? ⟨gb257, 0, none⟩ = some (.int .i64 ((rd_T49 l0 (ji4)).f0)) ∧ w'.cell? ⟨gb257, 1, none⟩ = some (.int .i64 ((rd_T49 l0 (ji4)).f1)) ∧ w'.cell? (ad258.add (((ji26)).toNat * 2)) = some (.int .i64 ((rd_T49 l1 (ji26)).f0)) ∧ w'.cell? ⟨(ad258.add (((ji26)).toNat * 2)).block, (ad258.add (((ji26)).toNat * 2)).off + 1, none⟩ = some (.int .i64 ((rd_T49 l1 (ji26)).f1))) (ds := []) #[false, false, false, false, false, false, false, false, false] (by kernel_rfl) rfl rfl ⟨(blk_cell BK257.out 0).trans rfl, (blk_cell BK257.out 1).trans rfl, hx270_0, hx270_1⟩ (fun hHeld => ?_); refine with_tabW impl_join.tab4 impl_join.bits4 (fun HT_ HW_ => ?_)
            generalize w84.drew = w85 at HO0 HO1 BK256 BK257 HB hx270_0 hx270_1 hHeld ⊢
            refine pure_ (i := 1) (N := some 29) (v := ?_) (a' := ?_) #[false, true, false, false, false, false, false, false, false] rfl rfl (any_of HT_.out (by kernel_rfl)) (fun _ _ _ h => h) (Or.inl ⟨by rfl, ?_⟩) ?_ ?_
            rotate_left
            ·intro w'
             go_simp
             with_reducible rfl
            rotate_left
            ·simp only [Act.put, List.setIfInBounds_toArray, List.set_cons_zero, List.set_cons_succ, i64_w, i32_w]
             rfl
            refine pure_ (i := 2) (N := some 30) (v := ?_) (a' := ?_) #[false, true, true, false, false, false, false, false, false] rfl rfl (any_of HT_.out (by kernel_rfl)) (fun _ _ _ h => h) (Or.inl ⟨by rfl, ?_⟩) ?_ ?_
            rotate_left
            ·intro w'
             go_simp
             with_reducible rfl
            rotate_left
            ·simp only [Act.put, List.setIfInBounds_toArray, List.set_cons_zero, List.set_cons_succ, i64_w, i32_w]
             rfl
            refine pure_ (i := 3) (N := some 31) (v := ?_) (a' := ?_) #[false, true, true, true, false, false, false, false, false] rfl rfl (any_of HT_.out (by kernel_rfl)) (fun _ _ _ h => h) (Or.inl ⟨by rfl, ?_⟩) ?_ ?_
            rotate_left
            ·intro w'
             go_simp
             with_reducible rfl
            rotate_left
            ·simp only [Act.put, List.setIfInBounds_toArray, List.set_cons_zero, List.set_cons_succ, i64_w, i32_w]
             rfl
            refine pure_ (i := 4) (N := some 32) (v := ?_) (a' := ?_) #[false, true, true, true, true, false, false, false, false] rfl rfl (any_of HT_.out (by kernel_rfl)) (fun _ _ _ h => h) (Or.inl ⟨by rfl, ?_⟩) ?_ ?_
            rotate_left
            ·intro w'
             go_simp
             with_reducible rfl
            rotate_left
            ·simp only [Act.put, List.setIfInBounds_toArray, List.set_cons_zero, List.set_cons_succ, i64_w, i32_w]
             rfl
            refine pure_ (i := 5) (N := some 33) (v := ?_) (a' := ?_) #[false, true, true, true, true, true, false, false, false] rfl rfl (any_of HT_.out (by kernel_rfl)) (fun _ _ _ h => h) (Or.inl ⟨by rfl, ?_⟩) ?_ ?_
            rotate_left
            ·intro w'
             go_simp
             with_reducible rfl
            rotate_left
            ·simp only [Act.put, List.setIfInBounds_toArray, List.set_cons_zero, List.set_cons_succ, i64_w, i32_w]
             rfl
            refine take_ (i := 0) (N := some 28) (v := ?_) (a' := ?_) #[true, true, true, true, true, true, false, false, false] rfl rfl (take_ofW HT_.out HW_.out (by kernel_rfl)) (fun _ _ _ h => h) (Or.inl ⟨by rfl, ?_⟩) hHeld ?_ ?_
            rotate_left
            ·rintro w' ⟨s0, s1, s2, s3⟩
             go_simp
             with_reducible rfl
            rotate_left
            ·simp only [Act.put, List.setIfInBounds_toArray, List.set_cons_zero, List.set_cons_succ, i64_w, i32_w]
             rfl
            refine take_ (i := 6) (N := some 34) (v := ?_) (a' := ?_) #[true, true, true, true, true, true, true, false, false] rfl rfl (take_ofW HT_.out HW_.out (by kernel_rfl)) (fun _ _ _ h => h) (Or.inl ⟨by rfl, ?_⟩) hHeld ?_ ?_
            rotate_left
            ·rintro w' ⟨s0, s1, s2, s3⟩
             go_simp
             with_reducible rfl
            rotate_left
            ·simp only [Act.put, List.setIfInBounds_toArray, List.set_cons_zero, List.set_cons_succ, i64_w, i32_w]
             rfl
            refine pure_ (i := 7) (N := some 35) (v := ?_) (a' := ?_) #[true, true, true, true, true, true, true, true, false] rfl rfl (any_of HT_.out (by kernel_rfl)) (fun _ _ _ h => h) (Or.inl ⟨by rfl, ?_⟩) ?_ ?_
            rotate_left
            ·intro w'
             go_simp
             with_reducible rfl
            rotate_left
            ·simp only [Act.put, List.setIfInBounds_toArray, List.set_cons_zero, List.set_cons_succ, i64_w, i32_w]
             rfl
            refine pure_ (i := 8) (N := some 27) (v := ?_) (a' := ?_) #[true, true, true, true, true, true, true, true, true] rfl rfl (any_of HT_.out (by kernel_rfl)) (fun _ _ _ h => h) (Or.inl ⟨by rfl, ?_⟩) ?_ ?_
            rotate_left
            ·intro w'
             go_simp
             with_reducible rfl
            rotate_left
            ·simp only [Act.put, List.setIfInBounds_toArray, List.set_cons_zero, List.set_cons_succ, i64_w, i32_w]
             rfl
            refine done_ (done_of HT_.out (by kernel_rfl)) ?_
            try go_wp2
            have n0_ := Aside0.mk (Kd.V_drew HO0.out)
            have n1_ := Aside0.mk (Kd.V_drew HO1.out)
            have n2_ := Aside0.mk (blk_drew BK256.out)
            have n3_ := Aside0.mk (blk_drew BK257.out)
            have n4_ := Aside0.mk (below_drew1 HB.out)
            clear HO0 HO1 BK256 BK257 HB
            have HO0 := n0_; have HO1 := n1_; have BK256 := n2_; have BK257 := n3_; have HB := n4_
            clear n0_ n1_ n2_ n3_ n4_
            have p285 : 0 ≤ ((ji26) : Int) := od_
            have q285 : (ji26) < (l1.length : Int) := od_
            obtain ⟨ad285, e285, hx285_0, hx285_1⟩ := at_T49 (Kd.V_reads' HO1.out).2.2 (ji26) p285 q285
            obtain rfl : ad258 = ad285 := (by injection e285)
            replace p285 := eq_true p285
            replace q285 := eq_true q285
            refine start_ (n := 9) (S := fun w' => w'.cell? ⟨gb256, 0, none⟩ = some (.int .i64 ((rd_T49 l0 0).f0)) ∧ w'.cell? ⟨gb256, 1, none⟩ = some (.int .i64 ((rd_T49 l0 0).f1)) ∧ w'.cell? (ad258.add (((ji26)).toNat * 2)) = some (.int .i64 ((rd_T49 l1 (ji26)).f0)) ∧ w'.cell? ⟨(ad258.add (((ji26)).toNat * 2)).block, (ad258.add (((ji26)).toNat * 2)).off + 1, none⟩ = some (.int .i64 ((rd_T49 l1 (ji26)).f1))) (ds := []) #[false, false, false, false, false, false, false, false, false] (by kernel_rfl) rfl rfl ⟨(blk_cell BK256.out 0).trans rfl, (blk_cell BK256.out 1).trans rfl, hx285_0, hx285_1⟩ (fun hHeld => ?_); refine with_tabW impl_join.tab6 impl_join.bits6 (fun HT_ HW_ => ?_)
            generalize w85.drew = w86 at HO0 HO1 BK256 BK257 HB hx285_0 hx285_1 hHeld ⊢
            refine pure_ (i := 1) (N := some 44) (v := ?_) (a' := ?_) #[false, true, false, false, false, false, false, false, false] rfl rfl (any_of HT_.out (by kernel_rfl)) (fun _ _ _ h => h) (Or.inl ⟨by rfl, ?_⟩) ?_ ?_
            rotate_left
            ·intro w'
             go_simp
             with_reducible rfl
            rotate_left
            ·simp only [Act.put, List.setIfInBounds_toArray, List.set_cons_zero, List.set_cons_succ, i64_w, i32_w]
             rfl
            refine pure_ (i := 2) (N := some 45) (v := ?_) (a' := ?_) #[false, true, true, false, false, false, false, false, false] rfl rfl (any_of HT_.out (by kernel_rfl)) (fun _ _ _ h => h) (Or.inl ⟨by rfl, ?_⟩) ?_ ?_
            rotate_left
            ·intro w'
             go_simp
             with_reducible rfl
            rotate_left
            ·simp only [Act.put, List.setIfInBounds_toArray, List.set_cons_zero, List.set_cons_succ, i64_w, i32_w]
             rfl
            refine pure_ (i := 3) (N := some 46) (v := ?_) (a' := ?_) #[false, true, true, true, false, false, false, false, false] rfl rfl (any_of HT_.out (by kernel_rfl)) (fun _ _ _ h => h) (Or.inl ⟨by rfl, ?_⟩) ?_ ?_
            rotate_left
            ·intro w'
             go_simp
             with_reducible rfl
            rotate_left
            ·simp only [Act.put, List.setIfInBounds_toArray, List.set_cons_zero, List.set_cons_succ, i64_w, i32_w]
             rfl
            refine pure_ (i := 4) (N := some 47) (v := ?_) (a' := ?_) #[false, true, true, true, true, false, false, false, false] rfl rfl (any_of HT_.out (by kernel_rfl)) (fun _ _ _ h => h) (Or.inl ⟨by rfl, ?_⟩) ?_ ?_
            rotate_left
            ·intro w'
             go_simp
             with_reducible rfl
            rotate_left
            ·simp only [Act.put, List.setIfInBounds_toArray, List.set_cons_zero, List.set_cons_succ, i64_w, i32_w]
             rfl
            refine pure_ (i := 5) (N := some 48) (v := ?_) (a' := ?_) #[false, true, true, true, true, true, false, false, false] rfl rfl (any_of HT_.out (by kernel_rfl)) (fun _ _ _ h => h) (Or.inl ⟨by rfl, ?_⟩) ?_ ?_
            rotate_left
            ·intro w'
             go_simp
             with_reducible rfl
            rotate_left
            ·simp only [Act.put, List.setIfInBounds_toArray, List.set_cons_zero, List.set_cons_succ, i64_w, i32_w]
             rfl
            refine take_ (i := 0) (N := some 43) (v := ?_) (a' := ?_) #[true, true, true, true, true, true, false, false, false] rfl rfl (take_ofW HT_.out HW_.out (by kernel_rfl)) (fun _ _ _ h => h) (Or.inl ⟨by rfl, ?_⟩) hHeld ?_ ?_
            rotate_left
            ·rintro w' ⟨s0, s1, s2, s3⟩
             go_simp
             with_reducible rfl
            rotate_left
            ·simp only [Act.put, List.setIfInBounds_toArray, List.set_cons_zero, List.set_cons_succ, i64_w, i32_w]
             rfl
            refine take_ (i := 6) (N := some 49) (v := ?_) (a' := ?_) #[true, true, true, true, true, true, true, false, false] rfl rfl (take_ofW HT_.out HW_.out (by kernel_rfl)) (fun _ _ _ h => h) (Or.inl ⟨by rfl, ?_⟩) hHeld ?_ ?_
            rotate_left
            ·rintro w' ⟨s0, s1, s2, s3⟩
             go_simp
             with_reducible rfl
            rotate_left
            ·simp only [Act.put, List.setIfInBounds_toArray, List.set_cons_zero, List.set_cons_succ, i64_w, i32_w]
             rfl
            refine pure_ (i := 7) (N := some 50) (v := ?_) (a' := ?_) #[true, true, true, true, true, true, true, true, false] rfl rfl (any_of HT_.out (by kernel_rfl)) (fun _ _ _ h => h) (Or.inl ⟨by rfl, ?_⟩) ?_ ?_
            rotate_left
            ·intro w'
             go_simp
             with_reducible rfl
            rotate_left
            ·simp only [Act.put, List.setIfInBounds_toArray, List.set_cons_zero, List.set_cons_succ, i64_w, i32_w]
             rfl
            refine pure_ (i := 8) (N := some 42) (v := ?_) (a' := ?_) #[true, true, true, true, true, true, true, true, true] rfl rfl (any_of HT_.out (by kernel_rfl)) (fun _ _ _ h => h) (Or.inl ⟨by rfl, ?_⟩) ?_ ?_
            rotate_left
            ·intro w'
             go_simp
             with_reducible rfl
            rotate_left
            ·simp only [Act.put, List.setIfInBounds_toArray, List.set_cons_zero, List.set_cons_succ, i64_w, i32_w]
             rfl
            refine done_ (done_of HT_.out (by kernel_rfl)) ?_
            try go_wp2
            have n0_ := Aside0.mk (Kd.V_drew HO0.out)
            have n1_ := Aside0.mk (Kd.V_drew HO1.out)
            have n2_ := Aside0.mk (blk_drew BK256.out)
            have n3_ := Aside0.mk (blk_drew BK257.out)
            have n4_ := Aside0.mk (below_drew1 HB.out)
            clear HO0 HO1 BK256 BK257 HB
            have HO0 := n0_; have HO1 := n1_; have BK256 := n2_; have BK257 := n3_; have HB := n4_
            clear n0_ n1_ n2_ n3_ n4_
            have p297 : 0 ≤ (0 : Int) := (by omega)
            have q297 : 0 < (l1.length : Int) := od_
            obtain ⟨ad297, e297, hx297_0, hx297_1⟩ := at_T49 (Kd.V_reads' HO1.out).2.2 0 p297 q297
            obtain rfl : ad258 = ad297 := (by injection e297)
            have qi297 : (0 < l1.length) = True := eq_true (by omega)
            (try rw [show ((0 : Int)).toNat = 0 from rfl] at hx297_0)
            (try rw [show 0 * 2 = 0 from rfl] at hx297_0)
            (try rw [Addr.add_zero'] at hx297_0)
            (try rw [show ((0 : Int)).toNat = 0 from rfl] at hx297_1)
            (try rw [show 0 * 2 = 0 from rfl] at hx297_1)
            (try rw [Addr.add_zero'] at hx297_1)
            replace p297 := eq_true p297
            replace q297 := eq_true q297
            refine start_ (n := 6) (S := fun w' => w'.cell? ⟨gb256, 0, none⟩ = some (.int .i64 ((rd_T49 l0 0).f0)) ∧ w'.cell? ⟨gb256, 1, none⟩ = some (.int .i64 ((rd_T49 l0 0).f1)) ∧ w'.cell? ad258 = some (.int .i64 ((rd_T49 l1 0).f0)) ∧ w'.cell? ⟨ad258.block, ad258.off + 1, none⟩ = some (.int .i64 ((rd_T49 l1 0).f1))) (ds := []) #[false, false, false, false, false, false] (by kernel_rfl) rfl rfl ⟨(blk_cell BK256.out 0).trans rfl, (blk_cell BK256.out 1).trans rfl, hx297_0, hx297_1⟩ (fun hHeld => ?_)
            generalize w86.drew = w87 at HO0 HO1 BK256 BK257 HB hx297_0 hx297_1 hHeld ⊢
            refine pure_ (i := 1) (N := some 58) (v := ?_) (a' := ?_) #[false, true, false, false, false, false] rfl rfl (by kernel_rfl) (fun _ _ _ h => h) (Or.inl ⟨by rfl, ?_⟩) ?_ ?_
            rotate_left
            ·intro w'
             go_simp
             with_reducible rfl
            rotate_left
            ·simp only [Act.put, List.setIfInBounds_toArray, List.set_cons_zero, List.set_cons_succ, i64_w, i32_w]
             rfl
            refine pure_ (i := 2) (N := some 59) (v := ?_) (a' := ?_) #[false, true, true, false, false, false] rfl rfl (by kernel_rfl) (fun _ _ _ h => h) (Or.inl ⟨by rfl, ?_⟩) ?_ ?_
            rotate_left
            ·intro w'
             go_simp
             with_reducible rfl
            rotate_left
            ·simp only [Act.put, List.setIfInBounds_toArray, List.set_cons_zero, List.set_cons_succ, i64_w, i32_w]
             rfl
            refine take_ (i := 0) (N := some 57) (v := ?_) (a' := ?_) #[true, true, true, false, false, false] rfl rfl (by kernel_rfl) (fun _ _ _ h => h) (Or.inl ⟨by rfl, ?_⟩) hHeld ?_ ?_
            rotate_left
            ·rintro w' ⟨s0, s1, s2, s3⟩
             go_simp
             with_reducible rfl
            rotate_left
            ·simp only [Act.put, List.setIfInBounds_toArray, List.set_cons_zero, List.set_cons_succ, i64_w, i32_w]
             rfl
            refine take_ (i := 3) (N := some 60) (v := ?_) (a' := ?_) #[true, true, true, true, false, false] rfl rfl (by kernel_rfl) (fun _ _ _ h => h) (Or.inl ⟨by rfl, ?_⟩) hHeld ?_ ?_
            rotate_left
            ·rintro w' ⟨s0, s1, s2, s3⟩
             go_simp
             with_reducible rfl
            rotate_left
            ·simp only [Act.put, List.setIfInBounds_toArray, List.set_cons_zero, List.set_cons_succ, i64_w, i32_w]
             rfl
            refine pure_ (i := 4) (N := some 61) (v := ?_) (a' := ?_) #[true, true, true, true, true, false] rfl rfl (by kernel_rfl) (fun _ _ _ h => h) (Or.inl ⟨by rfl, ?_⟩) ?_ ?_
            rotate_left
            ·intro w'
             go_simp
             with_reducible rfl
            rotate_left
            ·simp only [Act.put, List.setIfInBounds_toArray, List.set_cons_zero, List.set_cons_succ, i64_w, i32_w]
             rfl
            refine pure_ (i := 5) (N := some 56) (v := ?_) (a' := ?_) #[true, true, true, true, true, true] rfl rfl (by kernel_rfl) (fun _ _ _ h => h) (Or.inl ⟨by rfl, ?_⟩) ?_ ?_
            rotate_left
            ·intro w'
             go_simp
             with_reducible rfl
            rotate_left
            ·simp only [Act.put, List.setIfInBounds_toArray, List.set_cons_zero, List.set_cons_succ, i64_w, i32_w]
             rfl
            refine done_ (by kernel_rfl) ?_
            try go_wp2
            have n0_ := Aside0.mk (Kd.V_drew HO0.out)
            have n1_ := Aside0.mk (Kd.V_drew HO1.out)
            have n2_ := Aside0.mk (blk_drew BK256.out)
            have n3_ := Aside0.mk (blk_drew BK257.out)
            have n4_ := Aside0.mk (below_drew1 HB.out)
            clear HO0 HO1 BK256 BK257 HB
            have HO0 := n0_; have HO1 := n1_; have BK256 := n2_; have BK257 := n3_; have HB := n4_
            clear n0_ n1_ n2_ n3_ n4_
            have q89 : (1 : Int) ≤ ((l0.length : Int) : Int) := od_
            obtain ⟨i089, hi089, _, hsz89, _⟩ := info_parts info49
            have hroom89 : l0.length ≤ c0 := (Kd.V_reads' HO0.out).2.1
            have hC89 : Kd.F k49 _ _ (some ad254) l0.length l0 := (Kd.V_at (base := w.heap.size) HO0.out).2.2
            have hcut89 := cut_from (P := Try.prog) 34 49 .i64 Try.underlying34 hi089 2 hsz89 (some ad254) l0.length c0 1 (by omega) q89
            have hr89 := Kd.F_cut (m := (1 : Int).toNat) (c := c0) hC89 (by omega) hroom89
            obtain ⟨A89, hA89⟩ : ∃ A_z, A_z = (if c0 = (1 : Int).toNat then (some ad254) else ((some ad254) : Option Addr).map (·.add ((1 : Int).toNat * 2))) := ⟨_, rfl⟩
            obtain ⟨c89, hc89⟩ : ∃ c_z, c_z = c0 - (1 : Int).toNat := ⟨_, rfl⟩
            have hy89 : y301.length = l0.length - (1 : Int).toNat := (by rw [Ny301.out, List.length_drop] <;> omega)
            rw [show (l0).drop (1 : Int).toNat = y301 from Ny301.out.symm] at hr89
            replace hr89 : Kd.F k49 _ _ A89 y301.length y301 := (by rw [hA89]; exact hr89)
            rw [← hy89, ← hA89, ← hc89] at hcut89
            have HO305 := Aside0.mk (show Kd.V k49 49 _ w.heap.size _ (.slice A89 y301.length c89) y301 from Kd.V_mk (by rw [hy89, hc89]; exact Nat.sub_le_sub_right hroom89 _) hr89)
            have HC305 := Aside0.mk (show y301.length ≤ c89 from by rw [hy89, hc89]; exact Nat.sub_le_sub_right hroom89 _)
            clear hr89 hC89 hroom89 hi089 hsz89 hc89
            have KY89 := Aside0.mk hy89
            have KA89 := Aside0.mk hA89
            clear hy89 hA89
            replace q89 := eq_true q89
            refine start_ (n := 7) (S := fun w' => True) (ds := []) #[false, false, false, false, false, false, false] (by kernel_rfl) rfl rfl trivial (fun hHeld => ?_)
            generalize w87.drew = w88 at HO0 HO1 BK256 BK257 HB HO305 hHeld ⊢
            refine pure_ (i := 0) (N := some 62) (v := ?_) (a' := ?_) #[true, false, false, false, false, false, false] rfl rfl (by kernel_rfl) (fun _ _ _ h => h) (Or.inl ⟨by rfl, ?_⟩) ?_ ?_
            rotate_left
            ·intro w'
             go_simp
             with_reducible rfl
            rotate_left
            ·simp only [Act.put, List.setIfInBounds_toArray, List.set_cons_zero, List.set_cons_succ, i64_w, i32_w]
             rfl
            refine pure_ (i := 2) (N := some 64) (v := ?_) (a' := ?_) #[true, false, true, false, false, false, false] rfl rfl (by kernel_rfl) (fun _ _ _ h => h) (Or.inl ⟨by rfl, ?_⟩) ?_ ?_
            rotate_left
            ·intro w'
             go_simp
             with_reducible rfl
            rotate_left
            ·simp only [Act.put, List.setIfInBounds_toArray, List.set_cons_zero, List.set_cons_succ, i64_w, i32_w]
             rfl
            refine pure_ (i := 3) (N := some 65) (v := ?_) (a' := ?_) #[true, false, true, true, false, false, false] rfl rfl (by kernel_rfl) (fun _ _ _ h => h) (Or.inl ⟨by rfl, ?_⟩) ?_ ?_
            rotate_left
            ·intro w'
             go_simp
             with_reducible rfl
            rotate_left
            ·simp only [Act.put, List.setIfInBounds_toArray, List.set_cons_zero, List.set_cons_succ, i64_w, i32_w]
             rfl
            refine one_ (i := 1) (N := some 63) #[true, true, true, true, false, false, false] rfl rfl (by kernel_rfl) (by decide) (fun K hK => ?_)
            refine goes_ Try.func57 (by kernel_rfl) rfl #[.slice (some ad258) l1.length c1] (by rfl) rfl rfl gl_ ?_
            with_reducible refine (impl_reversed.calls k _ _ l1 t298 _ ?side1 ?side2 A72.out).mono ?_
            (case side1 => repeat (first | exact (Kd.V_reads' HO1.out).2.2 | (with_reducible refine Kd.C_alloc ?_ _) | (with_reducible refine Kd.C_drewN ?_ _) | (with_reducible refine Kd.C_drew ?_)))
            (case side2 => exact (Kd.V_reads' HO1.out).2.1)
            rintro e w90 ⟨v299, rfl, ho0, hb⟩
            refine ⟨_, rfl, ?_⟩
            have n0_ := Aside0.mk (Kd.V_elder' (vk_ HO0.out) (Kd.R_base ho0) hb)
            have n1_ := Aside0.mk (Kd.V_elder' (vk_ HO1.out) (Kd.R_base ho0) hb)
            have n2_ := Aside0.mk (Kd.V_elder' (vk_ HO305.out) (Kd.R_base ho0) hb)
            have n3_ := Aside0.mk (Kd.R_lower (Kd.R_newB (Kd.R_newB (Kd.R_newM (M := fun k_ => (w.heap.size ≤ k_)) ho0 (below_size (bws_ HB.out)) (fun k_ h_ => h_)) (g := gb256) (o := .cells #[.int .i64 ((rd_T49 l0 0).f0), .int .i64 ((rd_T49 l0 0).f1)] 49 (0, 0)) (bk_ BK256.out)) (g := gb257) (o := .cells #[.int .i64 ((rd_T49 l0 (ji4)).f0), .int .i64 ((rd_T49 l0 (ji4)).f1)] 49 (0, 0)) (bk_ BK257.out)) (below_size (bws_ HB.out)))
            have n4_ := Aside0.mk (blk_below (bk_ BK256.out) hb)
            have n5_ := Aside0.mk (blk_below (bk_ BK257.out) hb)
            have n6_ := Aside0.mk (below_step (bws_ HB.out) hb)
            clear HO0 HO1 HO305 BK256 BK257 HB
            have HO0 := n0_; have HO1 := n1_; have HO305 := n2_; have HO300 := n3_; have BK256 := n4_; have BK257 := n5_; have HB := n6_
            clear n0_ n1_ n2_ n3_ n4_ n5_ n6_
            (try clear hb)
            (try clear hb2)
            (try clear hk)
            (try clear hi)
            (try clear ho0)
            obtain ⟨Ao91, co91, eo91⟩ := Kd.R_slice HO300.out
            (first | subst eo91 | (injection eo91 with f1_ f2_ f3_; have f4_ := f1_.symm; have f5_ := f3_.symm; clear f1_ f2_ f3_; subst f4_; subst f5_))
            refine hK.out _ _ trivial (fun hHeld => ?_)
            clear hK K
            refine norm_ (a' := ?_) ?_ ?_
            rotate_left
            ·show Act.put _ (some 63) _ = _
             simp only [Act.put, List.setIfInBounds_toArray, List.set_cons_zero, List.set_cons_succ, i64_w, i32_w]
             rfl
            refine one_ (i := 4) (N := some 66) #[true, true, true, true, true, false, false] rfl rfl (by kernel_rfl) (by decide) (fun K hK => ?_)
            refine Kd.N_lit_step (Kd.slice 49 k49) _ 34 ?hg (N' := 66) ?hd (xs := ([t298, y301] : List (List (S49)))) (inner := [.slice Ao91 t298.length co91, .slice A89 y301.length c89]) (ok := (fun k_ => ((P0_ k_ ∨ P1_ k_) ∨ w.heap.size ≤ k_) ∧ k_ ≠ gb256 ∧ k_ ≠ gb257)) (okp := (fun k_ => ((P0_ k_ ∨ P1_ k_) ∨ w.heap.size ≤ k_) ∧ k_ ≠ gb256 ∧ k_ ≠ gb257)) ?hr ?hp (fun _ hk => hk) ((show ∀ k_, w90.heap.size ≤ k_ → (fun k_ => ((P0_ k_ ∨ P1_ k_) ∨ w.heap.size ≤ k_) ∧ k_ ≠ gb256 ∧ k_ ≠ gb257) k_ from fun k_ hk => ⟨(.inr (Nat.le_trans (below_size (bws_ HB.out)) hk)), Kd.freshB (g := gb256) (o := .cells #[.int .i64 ((rd_T49 l0 0).f0), .int .i64 ((rd_T49 l0 0).f1)] 49 (0, 0)) (bk_ BK256.out) k_ hk, Kd.freshB (g := gb257) (o := .cells #[.int .i64 ((rd_T49 l0 (ji4)).f0), .int .i64 ((rd_T49 l0 (ji4)).f1)] 49 (0, 0)) (bk_ BK257.out) k_ hk⟩) _ (Nat.le_refl _)) (Below.refl _ _) (Nat.le_refl _) (by simp) ?_; (case hd => rfl); (case hg => rfl); (case hr => first | (go_simp; done) | (go_simp; rfl)); (case hp => exact (Reps.one (show Kd.FK (Kd.slice 49 k49) _ _ t298 [.slice Ao91 t298.length co91] from (Kd.FK_slice_mk (Kd.R_reads' (Kd.R_mono (ok' := (fun k_ => ((P0_ k_ ∨ P1_ k_) ∨ w.heap.size ≤ k_) ∧ k_ ≠ gb256 ∧ k_ ≠ gb257)) (HO300.out) (fun k_ hk => ⟨(.inr (hk.1.1.1)), ⟨hk.1.2, hk.2⟩⟩))).2.1 (Kd.R_F (Kd.R_mono (ok' := (fun k_ => ((P0_ k_ ∨ P1_ k_) ∨ w.heap.size ≤ k_) ∧ k_ ≠ gb256 ∧ k_ ≠ gb257)) (HO300.out) (fun k_ hk => ⟨(.inr (hk.1.1.1)), ⟨hk.1.2, hk.2⟩⟩))))) (Reps.one (show Kd.FK (Kd.slice 49 k49) _ _ y301 [.slice A89 y301.length c89] from (Kd.FK_slice_mk (Kd.V_reads' (Kd.V_mono (ok' := (fun k_ => ((P0_ k_ ∨ P1_ k_) ∨ w.heap.size ≤ k_) ∧ k_ ≠ gb256 ∧ k_ ≠ gb257)) (HO305.out) (fun k_ hk => ⟨hk.1.1, ⟨hk.1.2.1, hk.1.2.2⟩⟩))).2.1 (Kd.V_F (Kd.V_mono (ok' := (fun k_ => ((P0_ k_ ∨ P1_ k_) ∨ w.heap.size ≤ k_) ∧ k_ ≠ gb256 ∧ k_ ≠ gb257)) (HO305.out) (fun k_ hk => ⟨hk.1.1, ⟨hk.1.2.1, hk.1.2.2⟩⟩))))) (Reps.none _ _))))
            intro v307 w92 ho93 hb hg_ hnew_
            clear hg_ hnew_
            (first | rw [← Ny306.out] at ho93 | (simp only [Int.reduceToNat] at ho93; rw [← Ny306.out] at ho93))
            have n0_ := Aside0.mk (Kd.V_elder' (vk_ HO0.out) (Kd.N_base ho93) hb)
            have n1_ := Aside0.mk (Kd.V_elder' (vk_ HO1.out) (Kd.N_base ho93) hb)
            have n2_ := Aside0.mk (Kd.V_elder' (vk_ HO305.out) (Kd.N_base ho93) hb)
            have n3_ := Aside0.mk (Kd.N_lower ho93 (below_size (bws_ HB.out)))
            have n4_ := Aside0.mk (blk_below (bk_ BK256.out) hb)
            have n5_ := Aside0.mk (blk_below (bk_ BK257.out) hb)
            have n6_ := Aside0.mk (below_step (bws_ HB.out) hb)
            clear HO0 HO1 HO305 BK256 BK257 HB HO300
            have HO0 := n0_; have HO1 := n1_; have HO305 := n2_; have HO308 := n3_; have BK256 := n4_; have BK257 := n5_; have HB := n6_
            clear n0_ n1_ n2_ n3_ n4_ n5_ n6_ hb ho93
            obtain ⟨Ao94, co94, eo94⟩ := Kd.N_slice HO308.out
            (first | subst eo94 | (injection eo94 with f1_ f2_ f3_; have f4_ := f1_.symm; have f5_ := f3_.symm; clear f1_ f2_ f3_; subst f4_; subst f5_))
            refine hK.out _ _ trivial (fun hHeld => ?_)
            clear hK K
            refine norm_ (a' := ?_) ?_ ?_
            rotate_left
            ·show Act.put _ (some 66) _ = _
             simp only [Act.put, List.setIfInBounds_toArray, List.set_cons_zero, List.set_cons_succ, i64_w, i32_w]
             rfl
            refine one_ (i := 5) (N := some 67) #[true, true, true, true, true, true, false] rfl rfl (by kernel_rfl) (by decide) (fun K hK => ?_)
            refine goes_ Try.func56 (by kernel_rfl) rfl #[.slice Ao94 y306.length co94] (by rfl) rfl rfl gl_ ?_
            with_reducible refine (impl_Place_56.calls k _ _ y306 t309 _ ?side1 ?side2 A74.out).mono ?_
            (case side1 => repeat (first | exact (Kd.N_reads' HO308.out).2.2 | (with_reducible refine Kd.C_alloc ?_ _) | (with_reducible refine Kd.C_drewN ?_ _) | (with_reducible refine Kd.C_drew ?_)))
            (case side2 => exact (Kd.N_reads' HO308.out).2.1)
            rintro e w95 ⟨v310, rfl, ho0, hb⟩
            refine ⟨_, rfl, ?_⟩
            have n0_ := Aside0.mk (Kd.V_elder' (vk_ HO0.out) (Kd.R_base ho0) hb)
            have n1_ := Aside0.mk (Kd.V_elder' (vk_ HO1.out) (Kd.R_base ho0) hb)
            have n2_ := Aside0.mk (Kd.V_elder' (vk_ HO305.out) (Kd.R_base ho0) hb)
            have n3_ := Aside0.mk (Kd.N_elder' (by (with_reducible repeat (first | apply Kd.N_alloc | apply Kd.N_drewN | apply Kd.N_drew)); exact HO308.out) (Kd.R_base ho0) hb)
            have n4_ := Aside0.mk (Kd.R_lower (Kd.R_newB (Kd.R_newB (Kd.R_newM (M := fun k_ => (w.heap.size ≤ k_)) ho0 (below_size (bws_ HB.out)) (fun k_ h_ => h_)) (g := gb256) (o := .cells #[.int .i64 ((rd_T49 l0 0).f0), .int .i64 ((rd_T49 l0 0).f1)] 49 (0, 0)) (bk_ BK256.out)) (g := gb257) (o := .cells #[.int .i64 ((rd_T49 l0 (ji4)).f0), .int .i64 ((rd_T49 l0 (ji4)).f1)] 49 (0, 0)) (bk_ BK257.out)) (below_size (bws_ HB.out)))
            have n5_ := Aside0.mk (blk_below (bk_ BK256.out) hb)
            have n6_ := Aside0.mk (blk_below (bk_ BK257.out) hb)
            have n7_ := Aside0.mk (below_step (bws_ HB.out) hb)
            clear HO0 HO1 HO305 HO308 BK256 BK257 HB
            have HO0 := n0_; have HO1 := n1_; have HO305 := n2_; have HO308 := n3_; have HO311 := n4_; have BK256 := n5_; have BK257 := n6_; have HB := n7_
            clear n0_ n1_ n2_ n3_ n4_ n5_ n6_ n7_
            (try clear hb)
            (try clear hb2)
            (try clear hk)
            (try clear hi)
            (try clear ho0)
            refine hK.out _ _ trivial (fun hHeld => ?_)
            clear hK K
            refine norm_ (a' := ?_) ?_ ?_
            rotate_left
            ·show Act.put _ (some 67) _ = _
             simp only [Act.put, List.setIfInBounds_toArray, List.set_cons_zero, List.set_cons_succ, i64_w, i32_w]
             rfl
            refine pure_ (i := 6) (N := some 4) (v := ?_) (a' := ?_) #[true, true, true, true, true, true, true] rfl rfl (by kernel_rfl) (fun _ _ _ h => h) (Or.inl ⟨by rfl, ?_⟩) ?_ ?_
            rotate_left
            ·intro w'
             go_simp
             with_reducible rfl
            rotate_left
            ·simp only [Act.put, List.setIfInBounds_toArray, List.set_cons_zero, List.set_cons_succ, i64_w, i32_w]
             rfl
            refine done_ (by kernel_rfl) ?_
            try go_wp2
            go_ret
            exact ⟨_, by first | rfl | (simp [errW_none, errW_some] <;> rfl) | (simp only [← hji4, ← hji26]; first | rfl | (simp [errW_none, errW_some] <;> rfl)) | (simp [*, errW_none, errW_some] <;> rfl), by (with_reducible repeat (first | apply Kd.R_alloc | apply Kd.R_drewN | apply Kd.R_drew)); exact Kd.R_mono HO311.out (fun _ hk => hk.1.1.1), by repeat (first | (with_reducible first | exact HB.out | apply below_alloc | apply pw_below_drewN | apply below_drew1 | refine below_set ?_ GE256.out | refine below_set ?_ GE257.out) | exact HB.out), by first | exact fun hr_ => absurd hr_ HNZ.out | exact fun hr_ => absurd hr_ NZ_.out | exact fun _ => rfl | rfl | (simp; done) | (intro _; first | rfl | (simp; done))⟩
           ·rw [if_neg c73] at H
            exact absurd H (by simp)
          ·rw [if_neg c71] at H
           have c71b0 : (((rd_T49 l0 0).f0) == ((rd_T49 l1 0).f0) && (((rd_T49 l0 0).f1) == ((rd_T49 l1 0).f1))) = false := by simpa using c71
           (try (have c71b1 : decide (((rd_T49 l0 0).f0) = ((rd_T49 l1 0).f0) && (((rd_T49 l0 0).f1) == ((rd_T49 l1 0).f1))) = false := by simpa using c71))
           (try (have c71b2 : (((rd_T49 l0 0).f0) == ((rd_T49 l1 0).f0) && (((rd_T49 l0 0).f1) == ((rd_T49 l1 0).f1))) = false := by simpa using c71))
           (try (have c71b3 : ¬ (((rd_T49 l0 0).f0) = ((rd_T49 l1 0).f0) && (((rd_T49 l0 0).f1) == ((rd_T49 l1 0).f1))) := by simpa using c71))
           clear c71
           obtain rfl := Option.some.inj H
           go_enter Try.func36, Try.ntmps36
           try go_wp2
           have n0_ := Aside0.mk (Kd.V_drew HO0.out)
           have n1_ := Aside0.mk (Kd.V_drew HO1.out)
           have n2_ := Aside0.mk (below_drew1 HB.out)
           clear HO0 HO1 HB
           have HO0 := n0_; have HO1 := n1_; have HB := n2_
           clear n0_ n1_ n2_
           have p254 : 0 ≤ (0 : Int) := (by omega)
           have q254 : 0 < (l0.length : Int) := od_
           obtain ⟨ad254, e254, hx254_0, hx254_1⟩ := at_T49 (Kd.V_reads' HO0.out).2.2 0 p254 q254
           cases e254
           have qi254 : (0 < l0.length) = True := eq_true (by omega)
           (try rw [show ((0 : Int)).toNat = 0 from rfl] at hx254_0)
           (try rw [show 0 * 2 = 0 from rfl] at hx254_0)
           (try rw [Addr.add_zero'] at hx254_0)
           (try rw [show ((0 : Int)).toNat = 0 from rfl] at hx254_1)
           (try rw [show 0 * 2 = 0 from rfl] at hx254_1)
           (try rw [Addr.add_zero'] at hx254_1)
           replace p254 := eq_true p254
           replace q254 := eq_true q254
           have p255 : 0 ≤ ((ji4) : Int) := od_
           have q255 : (ji4) < (l0.length : Int) := od_
           obtain ⟨ad255, e255, hx255_0, hx255_1⟩ := at_T49 (Kd.V_reads' HO0.out).2.2 (ji4) p255 q255
           obtain rfl : ad254 = ad255 := (by injection e255)
           replace p255 := eq_true p255
           replace q255 := eq_true q255
           refine start_ (n := 13) (S := fun w' => w'.cell? ad254 = some (.int .i64 ((rd_T49 l0 0).f0)) ∧ w'.cell? ⟨ad254.block, ad254.off + 1, none⟩ = some (.int .i64 ((rd_T49 l0 0).f1)) ∧ w'.cell? (ad254.add (((ji4)).toNat * 2)) = some (.int .i64 ((rd_T49 l0 (ji4)).f0)) ∧ w'.cell? ⟨(ad254.add (((ji4)).toNat * 2)).block, (ad254.add (((ji4)).toNat * 2)).off + 1, none⟩ = some (.int .i64 ((rd_T49 l0 (ji4)).f1))) (ds := []) #[false, false, false, false, false, false, false, false, false, false, false, false, false] (by kernel_rfl) rfl rfl ⟨hx254_0, hx254_1, hx255_0, hx255_1⟩ (fun hHeld => ?_); refine with_tabW impl_join.tab1 impl_join.bits1 (fun HT_ HW_ => ?_)
           generalize w.drew = w96 at HO0 HO1 HB hx254_0 hx254_1 hx255_0 hx255_1 hHeld ⊢
           refine pure_ (i := 0) (N := some 7) (v := ?_) (a' := ?_) #[true, false, false, false, false, false, false, false, false, false, false, false, false] rfl rfl (any_of HT_.out (by kernel_rfl)) (fun _ _ _ h => h) (Or.inl ⟨by rfl, ?_⟩) ?_ ?_
           rotate_left
           ·intro w'
            go_simp
            with_reducible rfl
           rotate_left
           ·simp only [Act.put, List.setIfInBounds_toArray, List.set_cons_zero, List.set_cons_succ, i64_w, i32_w]
            rfl
           refine pure_ (i := 1) (N := some 8) (v := ?_) (a' := ?_) #[true, true, false, false, false, false, false, false, false, false, false, false, false] rfl rfl (any_of HT_.out (by kernel_rfl)) (fun _ _ _ h => h) (Or.inl ⟨by rfl, ?_⟩) ?_ ?_
           rotate_left
           ·intro w'
            go_simp
            with_reducible rfl
           rotate_left
           ·simp only [Act.put, List.setIfInBounds_toArray, List.set_cons_zero, List.set_cons_succ, i64_w, i32_w]
            rfl
           refine pure_ (i := 3) (N := some 10) (v := ?_) (a' := ?_) #[true, true, false, true, false, false, false, false, false, false, false, false, false] rfl rfl (any_of HT_.out (by kernel_rfl)) (fun _ _ _ h => h) (Or.inl ⟨by rfl, ?_⟩) ?_ ?_
           rotate_left
           ·intro w'
            go_simp
            with_reducible rfl
           rotate_left
           ·simp only [Act.put, List.setIfInBounds_toArray, List.set_cons_zero, List.set_cons_succ, i64_w, i32_w]
            rfl
           refine pure_ (i := 4) (N := some 11) (v := ?_) (a' := ?_) #[true, true, false, true, true, false, false, false, false, false, false, false, false] rfl rfl (any_of HT_.out (by kernel_rfl)) (fun _ _ _ h => h) (Or.inl ⟨by rfl, ?_⟩) ?_ ?_
           rotate_left
           ·intro w'
            go_simp
            with_reducible rfl
           rotate_left
           ·simp only [Act.put, List.setIfInBounds_toArray, List.set_cons_zero, List.set_cons_succ, i64_w, i32_w]
            rfl
           refine pure_ (i := 5) (N := some 12) (v := ?_) (a' := ?_) #[true, true, false, true, true, true, false, false, false, false, false, false, false] rfl rfl (any_of HT_.out (by kernel_rfl)) (fun _ _ _ h => h) (Or.inl ⟨by rfl, ?_⟩) ?_ ?_
           rotate_left
           ·intro w'
            go_simp
            with_reducible rfl
           rotate_left
           ·simp only [Act.put, List.setIfInBounds_toArray, List.set_cons_zero, List.set_cons_succ, i64_w, i32_w]
            rfl
           refine pure_ (i := 6) (N := some 13) (v := ?_) (a' := ?_) #[true, true, false, true, true, true, true, false, false, false, false, false, false] rfl rfl (any_of HT_.out (by kernel_rfl)) (fun _ _ _ h => h) (Or.inl ⟨by rfl, ?_⟩) ?_ ?_
           rotate_left
           ·intro w'
            go_simp
            with_reducible rfl
           rotate_left
           ·simp only [Act.put, List.setIfInBounds_toArray, List.set_cons_zero, List.set_cons_succ, i64_w, i32_w]
            rfl
           refine pure_ (i := 7) (N := some 14) (v := ?_) (a' := ?_) #[true, true, false, true, true, true, true, true, false, false, false, false, false] rfl rfl (any_of HT_.out (by kernel_rfl)) (fun _ _ _ h => h) (Or.inl ⟨by rfl, ?_⟩) ?_ ?_
           rotate_left
           ·intro w'
            go_simp
            with_reducible rfl
           rotate_left
           ·simp only [Act.put, List.setIfInBounds_toArray, List.set_cons_zero, List.set_cons_succ, i64_w, i32_w]
            rfl
           refine take_ (i := 2) (N := some 9) (v := ?_) (a' := ?_) #[true, true, true, true, true, true, true, true, false, false, false, false, false] rfl rfl (take_ofW HT_.out HW_.out (by kernel_rfl)) (fun _ _ _ h => h) (Or.inl ⟨by rfl, ?_⟩) hHeld ?_ ?_
           rotate_left
           ·rintro w' ⟨s0, s1, s2, s3⟩
            go_simp
            with_reducible rfl
           rotate_left
           ·simp only [Act.put, List.setIfInBounds_toArray, List.set_cons_zero, List.set_cons_succ, i64_w, i32_w]
            rfl
           refine take_ (i := 8) (N := some 15) (v := ?_) (a' := ?_) #[true, true, true, true, true, true, true, true, true, false, false, false, false] rfl rfl (take_ofW HT_.out HW_.out (by kernel_rfl)) (fun _ _ _ h => h) (Or.inl ⟨by rfl, ?_⟩) hHeld ?_ ?_
           rotate_left
           ·rintro w' ⟨s0, s1, s2, s3⟩
            go_simp
            with_reducible rfl
           rotate_left
           ·simp only [Act.put, List.setIfInBounds_toArray, List.set_cons_zero, List.set_cons_succ, i64_w, i32_w]
            rfl
           refine join_ (σ := Nat × Nat) 2 #[true, true, true, true, true, true, true, true, true, true, true, false, false] (fun s_ => [(5, .pointer (some ⟨s_.1, 0, none⟩)), (6, .pointer (some ⟨s_.2, 0, none⟩))]) (fun s_ w' => (w'.cell? ad254 = some (.int .i64 ((rd_T49 l0 0).f0)) ∧ w'.cell? ⟨ad254.block, ad254.off + 1, none⟩ = some (.int .i64 ((rd_T49 l0 0).f1)) ∧ w'.cell? (ad254.add (((ji4)).toNat * 2)) = some (.int .i64 ((rd_T49 l0 (ji4)).f0)) ∧ w'.cell? ⟨(ad254.add (((ji4)).toNat * 2)).block, (ad254.add (((ji4)).toNat * 2)).off + 1, none⟩ = some (.int .i64 ((rd_T49 l0 (ji4)).f1))) ∧ (Kd.V k49 49 w' w.heap.size (fun k_ => ((P0_ k_ ∨ P1_ k_) ∨ w.heap.size ≤ k_) ∧ k_ ≠ s_.1 ∧ k_ ≠ s_.2) (.slice (some ad254) l0.length c0) l0) ∧ (Kd.V k49 49 w' w.heap.size (fun k_ => ((P0_ k_ ∨ P1_ k_) ∨ w.heap.size ≤ k_) ∧ k_ ≠ s_.1 ∧ k_ ≠ s_.2) (.slice A1 l1.length c1) l1) ∧ (w'.heap[s_.1]? = some (.cells #[.int .i64 0, .int .i64 0] 49 (0, 0))) ∧ (w'.heap[s_.2]? = some (.cells #[.int .i64 0, .int .i64 0] 49 (0, 0))) ∧ (w.heap.size ≤ s_.1) ∧ (w.heap.size ≤ s_.1) ∧ (s_.2 ≠ s_.1) ∧ (s_.1 ≠ s_.2) ∧ (w.heap.size ≤ s_.2) ∧ (w.heap.size ≤ s_.2) ∧ (Below w.heap.size w w')) ?_ ?_
           rotate_left
           ·intro hCont
            refine two_ (i := 9) (j := 10) (Ni := some 5) (Nj := some 6) #[true, true, true, true, true, true, true, true, true, true, false, false, false] #[true, true, true, true, true, true, true, true, true, false, true, false, false] rfl rfl rfl rfl (two_of HT_.out (by kernel_rfl)) (by decide) (by decide) (fun K hK => ?_) (fun K hK => ?_)
            ·skip
             refine box_step ?hg (N := 5) ?hd (cs := #[.int .i64 0, .int .i64 0]) (t := 49) ?hr ?_; (case hd => rfl); (case hg => rfl); (case hr => first | (go_simp; done) | (go_simp; rfl))
             intro gb256 hg w97 hbox hb
             have HS0_ := hs_ hb hHeld.1
             have HS1_ := hs_ hb hHeld.2.1
             have HS2_ := hs_ hb hHeld.2.2.1
             have HS3_ := hs_ hb hHeld.2.2.2
             have n0_ := Aside0.mk (Kd.V_below (Kd.V_elderB (vk_ HO0.out) gb256 (Nat.le_of_eq hg.symm)) hb)
             have n1_ := Aside0.mk (Kd.V_below (Kd.V_elderB (vk_ HO1.out) gb256 (Nat.le_of_eq hg.symm)) hb)
             have n2_ := Aside0.mk (below_step (bw_ HB.out) hb)
             have n3_ := Aside0.mk (hbox)
             have n4_ := Aside0.mk ((ge_ hg (bw_ HB.out)))
             have n5_ := Aside0.mk ((ge_ hg (bw_ HB.out)))
             clear HO0 HO1 HB
             have HO0 := n0_; have HO1 := n1_; have HB := n2_; have BK256 := n3_; have GW256 := n4_; have GE256 := n5_
             clear n0_ n1_ n2_ n3_ n4_ n5_ hb hbox hg
             refine hK.out _ _ ⟨HS0_, HS1_, HS2_, HS3_⟩ (fun hHeld => ?_)
             clear hK K
             refine norm_ (a' := ?_) ?_ ?_
             rotate_left
             ·show Act.put _ (some 5) _ = _
              simp only [Act.put, List.setIfInBounds_toArray, List.set_cons_zero, List.set_cons_succ, i64_w, i32_w]
              rfl
             refine one_ (i := 10) (N := some 6) #[true, true, true, true, true, true, true, true, true, true, true, false, false] rfl rfl (one_of HT_.out (by kernel_rfl)) (by decide) (fun K hK => ?_)
             refine box_step ?hg (N := 6) ?hd (cs := #[.int .i64 0, .int .i64 0]) (t := 49) ?hr ?_; (case hd => rfl); (case hg => rfl); (case hr => first | (go_simp; done) | (go_simp; rfl))
             intro gb257 hg w98 hbox hb
             have HS0_ := hs_ hb hHeld.1
             have HS1_ := hs_ hb hHeld.2.1
             have HS2_ := hs_ hb hHeld.2.2.1
             have HS3_ := hs_ hb hHeld.2.2.2
             have n0_ := Aside0.mk (Kd.V_below (Kd.V_elderB (vk_ HO0.out) gb257 (Nat.le_of_eq hg.symm)) hb)
             have n1_ := Aside0.mk (Kd.V_below (Kd.V_elderB (vk_ HO1.out) gb257 (Nat.le_of_eq hg.symm)) hb)
             have n2_ := Aside0.mk (blk_below (bk_ BK256.out) hb)
             have n3_ := Aside0.mk (below_step (bwg_ GE256.out HB.out) hb)
             have n4_ := Aside0.mk (hbox)
             have n5_ := Aside0.mk ((by rw [hg]; exact (below_size (bwg_ GE256.out HB.out)) : w.heap.size ≤ gb257))
             have n6_ := Aside0.mk ((by rw [hg]; exact (below_size (bwg_ GE256.out HB.out)) : w.heap.size ≤ gb257))
             have n7_ := Aside0.mk ((ne1_ hg (bk_ BK256.out)))
             have n8_ := Aside0.mk ((ne2_ hg (bk_ BK256.out)))
             clear HO0 HO1 BK256 HB
             have HO0 := n0_; have HO1 := n1_; have BK256 := n2_; have HB := n3_; have BK257 := n4_; have GW257 := n5_; have GE257 := n6_; have NB256_257 := n7_; have NB257_256 := n8_
             clear n0_ n1_ n2_ n3_ n4_ n5_ n6_ n7_ n8_ hb hbox hg
             refine hK.out _ _ ⟨HS0_, HS1_, HS2_, HS3_⟩ (fun hHeld => ?_)
             clear hK K
             refine norm_ (a' := ?_) ?_ ?_
             rotate_left
             ·show Act.put _ (some 6) _ = _
              simp only [Act.put, List.setIfInBounds_toArray, List.set_cons_zero, List.set_cons_succ, i64_w, i32_w]
              rfl
             exact norm_ (by simp only [putAll, Act.put, List.setIfInBounds_toArray, List.set_cons_zero, List.set_cons_succ]) (hCont (gb256, gb257) _ ⟨hHeld, (by (with_reducible repeat (first | apply Kd.V_alloc | apply Kd.V_drewN | apply Kd.V_drew)); exact Kd.V_mono HO0.out (fun _ hk => ⟨hk.1.1, ⟨hk.1.2, hk.2⟩⟩)), (by (with_reducible repeat (first | apply Kd.V_alloc | apply Kd.V_drewN | apply Kd.V_drew)); exact Kd.V_mono HO1.out (fun _ hk => ⟨hk.1.1, ⟨hk.1.2, hk.2⟩⟩)), (bk_ BK256.out), (bk_ BK257.out), GW256.out, GE256.out, NB257_256.out, NB256_257.out, GW257.out, GE257.out, (bws_ HB.out)⟩)
            ·skip
             refine box_step ?hg (N := 6) ?hd (cs := #[.int .i64 0, .int .i64 0]) (t := 49) ?hr ?_; (case hd => rfl); (case hg => rfl); (case hr => first | (go_simp; done) | (go_simp; rfl))
             intro gb257 hg w97 hbox hb
             have HS0_ := hs_ hb hHeld.1
             have HS1_ := hs_ hb hHeld.2.1
             have HS2_ := hs_ hb hHeld.2.2.1
             have HS3_ := hs_ hb hHeld.2.2.2
             have n0_ := Aside0.mk (Kd.V_below (Kd.V_elderB (vk_ HO0.out) gb257 (Nat.le_of_eq hg.symm)) hb)
             have n1_ := Aside0.mk (Kd.V_below (Kd.V_elderB (vk_ HO1.out) gb257 (Nat.le_of_eq hg.symm)) hb)
             have n2_ := Aside0.mk (below_step (bw_ HB.out) hb)
             have n3_ := Aside0.mk (hbox)
             have n4_ := Aside0.mk ((ge_ hg (bw_ HB.out)))
             have n5_ := Aside0.mk ((ge_ hg (bw_ HB.out)))
             clear HO0 HO1 HB
             have HO0 := n0_; have HO1 := n1_; have HB := n2_; have BK257 := n3_; have GW257 := n4_; have GE257 := n5_
             clear n0_ n1_ n2_ n3_ n4_ n5_ hb hbox hg
             refine hK.out _ _ ⟨HS0_, HS1_, HS2_, HS3_⟩ (fun hHeld => ?_)
             clear hK K
             refine norm_ (a' := ?_) ?_ ?_
             rotate_left
             ·show Act.put _ (some 6) _ = _
              simp only [Act.put, List.setIfInBounds_toArray, List.set_cons_zero, List.set_cons_succ, i64_w, i32_w]
              rfl
             refine one_ (i := 9) (N := some 5) #[true, true, true, true, true, true, true, true, true, true, true, false, false] rfl rfl (one_of HT_.out (by kernel_rfl)) (by decide) (fun K hK => ?_)
             refine box_step ?hg (N := 5) ?hd (cs := #[.int .i64 0, .int .i64 0]) (t := 49) ?hr ?_; (case hd => rfl); (case hg => rfl); (case hr => first | (go_simp; done) | (go_simp; rfl))
             intro gb256 hg w98 hbox hb
             have HS0_ := hs_ hb hHeld.1
             have HS1_ := hs_ hb hHeld.2.1
             have HS2_ := hs_ hb hHeld.2.2.1
             have HS3_ := hs_ hb hHeld.2.2.2
             have n0_ := Aside0.mk (Kd.V_below (Kd.V_elderB (vk_ HO0.out) gb256 (Nat.le_of_eq hg.symm)) hb)
             have n1_ := Aside0.mk (Kd.V_below (Kd.V_elderB (vk_ HO1.out) gb256 (Nat.le_of_eq hg.symm)) hb)
             have n2_ := Aside0.mk (blk_below (bk_ BK257.out) hb)
             have n3_ := Aside0.mk (below_step (bwg_ GE257.out HB.out) hb)
             have n4_ := Aside0.mk (hbox)
             have n5_ := Aside0.mk ((by rw [hg]; exact (below_size (bwg_ GE257.out HB.out)) : w.heap.size ≤ gb256))
             have n6_ := Aside0.mk ((by rw [hg]; exact (below_size (bwg_ GE257.out HB.out)) : w.heap.size ≤ gb256))
             have n7_ := Aside0.mk ((ne1_ hg (bk_ BK257.out)))
             have n8_ := Aside0.mk ((ne2_ hg (bk_ BK257.out)))
             clear HO0 HO1 BK257 HB
             have HO0 := n0_; have HO1 := n1_; have BK257 := n2_; have HB := n3_; have BK256 := n4_; have GW256 := n5_; have GE256 := n6_; have NB257_256 := n7_; have NB256_257 := n8_
             clear n0_ n1_ n2_ n3_ n4_ n5_ n6_ n7_ n8_ hb hbox hg
             refine hK.out _ _ ⟨HS0_, HS1_, HS2_, HS3_⟩ (fun hHeld => ?_)
             clear hK K
             refine norm_ (a' := ?_) ?_ ?_
             rotate_left
             ·show Act.put _ (some 5) _ = _
              simp only [Act.put, List.setIfInBounds_toArray, List.set_cons_zero, List.set_cons_succ, i64_w, i32_w]
              rfl
             exact norm_ (by simp only [putAll, Act.put, List.setIfInBounds_toArray, List.set_cons_zero, List.set_cons_succ]) (hCont (gb256, gb257) _ ⟨hHeld, (by (with_reducible repeat (first | apply Kd.V_alloc | apply Kd.V_drewN | apply Kd.V_drew)); exact Kd.V_mono HO0.out (fun _ hk => ⟨hk.1.1, ⟨hk.2, hk.1.2⟩⟩)), (by (with_reducible repeat (first | apply Kd.V_alloc | apply Kd.V_drewN | apply Kd.V_drew)); exact Kd.V_mono HO1.out (fun _ hk => ⟨hk.1.1, ⟨hk.2, hk.1.2⟩⟩)), (bk_ BK256.out), (bk_ BK257.out), GW256.out, GE256.out, NB257_256.out, NB256_257.out, GW257.out, GE257.out, (bws_ HB.out)⟩)
           rintro ⟨gb256, gb257⟩ w99 ⟨hS_, h0_, h1_, h2_, h3_, h4_, h5_, h6_, h7_, h8_, h9_, h10_⟩
           have n0_ : Aside0 (Kd.V k49 49 w99 w.heap.size (fun k_ => ((P0_ k_ ∨ P1_ k_) ∨ w.heap.size ≤ k_) ∧ k_ ≠ gb256 ∧ k_ ≠ gb257) (.slice (some ad254) l0.length c0) l0) := ⟨h0_⟩
           have n1_ : Aside0 (Kd.V k49 49 w99 w.heap.size (fun k_ => ((P0_ k_ ∨ P1_ k_) ∨ w.heap.size ≤ k_) ∧ k_ ≠ gb256 ∧ k_ ≠ gb257) (.slice A1 l1.length c1) l1) := ⟨h1_⟩
           have n2_ : Aside0 (w99.heap[gb256]? = some (.cells #[.int .i64 0, .int .i64 0] 49 (0, 0))) := ⟨h2_⟩
           have n3_ : Aside0 (w99.heap[gb257]? = some (.cells #[.int .i64 0, .int .i64 0] 49 (0, 0))) := ⟨h3_⟩
           have n4_ : Aside0 (w.heap.size ≤ gb256) := ⟨h4_⟩
           have n5_ : Aside0 (w.heap.size ≤ gb256) := ⟨h5_⟩
           have n6_ : Aside0 (gb257 ≠ gb256) := ⟨h6_⟩
           have n7_ : Aside0 (gb256 ≠ gb257) := ⟨h7_⟩
           have n8_ : Aside0 (w.heap.size ≤ gb257) := ⟨h8_⟩
           have n9_ : Aside0 (w.heap.size ≤ gb257) := ⟨h9_⟩
           have n10_ : Aside0 (Below w.heap.size w w99) := ⟨h10_⟩
           clear HO0 HO1 HB h0_ h1_ h2_ h3_ h4_ h5_ h6_ h7_ h8_ h9_ h10_
           have HO0 := n0_; have HO1 := n1_; have BK256 := n2_; have BK257 := n3_; have GW256 := n4_; have GE256 := n5_; have NB257_256 := n6_; have NB256_257 := n7_; have GW257 := n8_; have GE257 := n9_
           have HB := n10_
           clear n0_ n1_ n2_ n3_ n4_ n5_ n6_ n7_ n8_ n9_ n10_
           have hHeld : w99.cell? ad254 = some (.int .i64 ((rd_T49 l0 0).f0)) ∧ w99.cell? ⟨ad254.block, ad254.off + 1, none⟩ = some (.int .i64 ((rd_T49 l0 0).f1)) ∧ w99.cell? (ad254.add (((ji4)).toNat * 2)) = some (.int .i64 ((rd_T49 l0 (ji4)).f0)) ∧ w99.cell? ⟨(ad254.add (((ji4)).toNat * 2)).block, (ad254.add (((ji4)).toNat * 2)).off + 1, none⟩ = some (.int .i64 ((rd_T49 l0 (ji4)).f1)) := hS_
           refine norm_ (a' := ?_) ?_ ?_
           rotate_left
           ·simp only [putAll, Act.put, List.setIfInBounds_toArray, List.set_cons_zero, List.set_cons_succ]
            rfl
           refine one_ (i := 11) (N := none) #[true, true, true, true, true, true, true, true, true, true, true, true, false] rfl rfl (one_of HT_.out (by kernel_rfl)) (by decide) (fun K hK => ?_)
           have hs100 : w99.cell? ⟨gb256, 0, none⟩ = some (.int .i64 0) := (blk_cell BK256.out 0).trans rfl
           have hfs100 := blk_frozen BK256.out 0
           have hns100_1 := NB257_256.out
           have hms100_1 := NB256_257.out
           have hs101 : w99.cell? ⟨gb256, 1, none⟩ = some (.int .i64 0) := (blk_cell BK256.out 1).trans rfl
           have hfs101 := blk_frozen BK256.out 1
           have hns101_1 := NB257_256.out
           have hms101_1 := NB256_257.out
           refine skip_ (w1 := ?_) (by rfl) rfl ?_ ?_
           rotate_left
           ·go_simp
            rfl
           refine hK.out _ _ ⟨(far2_ (by first | (rw [add_block]; exact vaw_ HO0.out (fun _ hk => hk.2.1) od_) | exact vaw_ HO0.out (fun _ hk => hk.2.1) od_ | (dsimp only; exact vaw_ HO0.out (fun _ hk => hk.2.1) od_)) hHeld.1), (far2_ (by first | (rw [add_block]; exact vaw_ HO0.out (fun _ hk => hk.2.1) od_) | exact vaw_ HO0.out (fun _ hk => hk.2.1) od_ | (dsimp only; exact vaw_ HO0.out (fun _ hk => hk.2.1) od_)) hHeld.2.1), (far2_ (by first | (rw [add_block]; exact vaw_ HO0.out (fun _ hk => hk.2.1) od_) | exact vaw_ HO0.out (fun _ hk => hk.2.1) od_ | (dsimp only; exact vaw_ HO0.out (fun _ hk => hk.2.1) od_)) hHeld.2.2.1), (far2_ (by first | (rw [add_block]; exact vaw_ HO0.out (fun _ hk => hk.2.1) od_) | exact vaw_ HO0.out (fun _ hk => hk.2.1) od_ | (dsimp only; exact vaw_ HO0.out (fun _ hk => hk.2.1) od_)) hHeld.2.2.2)⟩ (fun hHeld => ?_)
           clear hK K
           refine one_ (i := 12) (N := none) #[true, true, true, true, true, true, true, true, true, true, true, true, true] rfl rfl (one_of HT_.out (by kernel_rfl)) (by decide) (fun K hK => ?_)
           have hs102 : w99.cell? ⟨gb257, 0, none⟩ = some (.int .i64 0) := (blk_cell BK257.out 0).trans rfl
           have hfs102 := blk_frozen BK257.out 0
           have hns102_0 := NB256_257.out
           have hms102_0 := NB257_256.out
           have hs103 : w99.cell? ⟨gb257, 1, none⟩ = some (.int .i64 0) := (blk_cell BK257.out 1).trans rfl
           have hfs103 := blk_frozen BK257.out 1
           have hns103_0 := NB256_257.out
           have hms103_0 := NB257_256.out
           refine skip_ (w1 := ?_) (by rfl) rfl ?_ ?_
           rotate_left
           ·go_simp
            rfl
           refine hK.out _ _ ⟨(far2_ (by first | (rw [add_block]; exact vaw_ HO0.out (fun _ hk => hk.2.2) od_) | exact vaw_ HO0.out (fun _ hk => hk.2.2) od_ | (dsimp only; exact vaw_ HO0.out (fun _ hk => hk.2.2) od_)) hHeld.1), (far2_ (by first | (rw [add_block]; exact vaw_ HO0.out (fun _ hk => hk.2.2) od_) | exact vaw_ HO0.out (fun _ hk => hk.2.2) od_ | (dsimp only; exact vaw_ HO0.out (fun _ hk => hk.2.2) od_)) hHeld.2.1), (far2_ (by first | (rw [add_block]; exact vaw_ HO0.out (fun _ hk => hk.2.2) od_) | exact vaw_ HO0.out (fun _ hk => hk.2.2) od_ | (dsimp only; exact vaw_ HO0.out (fun _ hk => hk.2.2) od_)) hHeld.2.2.1), (far2_ (by first | (rw [add_block]; exact vaw_ HO0.out (fun _ hk => hk.2.2) od_) | exact vaw_ HO0.out (fun _ hk => hk.2.2) od_ | (dsimp only; exact vaw_ HO0.out (fun _ hk => hk.2.2) od_)) hHeld.2.2.2)⟩ (fun hHeld => ?_)
           clear hK K
           refine done_ (done_of HT_.out (by kernel_rfl)) ?_
           try go_wp2
           have n0_ : Aside0 (Kd.V k49 49 ((((w99.setCell ⟨gb256, 0, none⟩ (.int .i64 ((rd_T49 l0 0).f0))).setCell ⟨gb256, 1, none⟩ (.int .i64 ((rd_T49 l0 0).f1))).setCell ⟨gb257, 0, none⟩ (.int .i64 ((rd_T49 l0 (ji4)).f0))).setCell ⟨gb257, 1, none⟩ (.int .i64 ((rd_T49 l0 (ji4)).f1))) w.heap.size (fun k_ => ((P0_ k_ ∨ P1_ k_) ∨ w.heap.size ≤ k_) ∧ k_ ≠ gb256 ∧ k_ ≠ gb257) (.slice (some ad254) l0.length c0) l0) := ⟨by (with_reducible repeat (first | apply Kd.V_alloc | apply Kd.V_drewN | apply Kd.V_drew)); exact Kd.V_mono (Kd.V_far (p := ⟨gb257, 1, none⟩) (Kd.V_far (p := ⟨gb257, 0, none⟩) (Kd.V_far (p := ⟨gb256, 1, none⟩) (Kd.V_far (p := ⟨gb256, 0, none⟩) (Kd.V_mono (Kd.V_mono HO0.out (fun k_ hk => (⟨hk, hk.2.1⟩ : _ ∧ k_ ≠ gb256))) (fun k_ hk => (⟨hk, hk.1.2.2⟩ : _ ∧ k_ ≠ gb257))) (fun _ hk => hk.1.2) (.int .i64 ((rd_T49 l0 0).f0))) (fun _ hk => hk.1.2) (.int .i64 ((rd_T49 l0 0).f1))) (fun _ hk => hk.2) (.int .i64 ((rd_T49 l0 (ji4)).f0))) (fun _ hk => hk.2) (.int .i64 ((rd_T49 l0 (ji4)).f1))) (fun _ hk => ⟨hk.1.1.1, ⟨hk.1.1.2.1, hk.1.1.2.2⟩⟩)⟩
           have n1_ : Aside0 (Kd.V k49 49 ((((w99.setCell ⟨gb256, 0, none⟩ (.int .i64 ((rd_T49 l0 0).f0))).setCell ⟨gb256, 1, none⟩ (.int .i64 ((rd_T49 l0 0).f1))).setCell ⟨gb257, 0, none⟩ (.int .i64 ((rd_T49 l0 (ji4)).f0))).setCell ⟨gb257, 1, none⟩ (.int .i64 ((rd_T49 l0 (ji4)).f1))) w.heap.size (fun k_ => ((P0_ k_ ∨ P1_ k_) ∨ w.heap.size ≤ k_) ∧ k_ ≠ gb256 ∧ k_ ≠ gb257) (.slice A1 l1.length c1) l1) := ⟨by (with_reducible repeat (first | apply Kd.V_alloc | apply Kd.V_drewN | apply Kd.V_drew)); exact Kd.V_mono (Kd.V_far (p := ⟨gb257, 1, none⟩) (Kd.V_far (p := ⟨gb257, 0, none⟩) (Kd.V_far (p := ⟨gb256, 1, none⟩) (Kd.V_far (p := ⟨gb256, 0, none⟩) (Kd.V_mono (Kd.V_mono HO1.out (fun k_ hk => (⟨hk, hk.2.1⟩ : _ ∧ k_ ≠ gb256))) (fun k_ hk => (⟨hk, hk.1.2.2⟩ : _ ∧ k_ ≠ gb257))) (fun _ hk => hk.1.2) (.int .i64 ((rd_T49 l0 0).f0))) (fun _ hk => hk.1.2) (.int .i64 ((rd_T49 l0 0).f1))) (fun _ hk => hk.2) (.int .i64 ((rd_T49 l0 (ji4)).f0))) (fun _ hk => hk.2) (.int .i64 ((rd_T49 l0 (ji4)).f1))) (fun _ hk => ⟨hk.1.1.1, ⟨hk.1.1.2.1, hk.1.1.2.2⟩⟩)⟩
           have n2_ : Aside0 (((((w99.setCell ⟨gb256, 0, none⟩ (.int .i64 ((rd_T49 l0 0).f0))).setCell ⟨gb256, 1, none⟩ (.int .i64 ((rd_T49 l0 0).f1))).setCell ⟨gb257, 0, none⟩ (.int .i64 ((rd_T49 l0 (ji4)).f0))).setCell ⟨gb257, 1, none⟩ (.int .i64 ((rd_T49 l0 (ji4)).f1))).heap[gb256]? = some (.cells #[.int .i64 ((rd_T49 l0 0).f0), .int .i64 ((rd_T49 l0 0).f1)] 49 (0, 0))) := ⟨by (with_reducible repeat (first | refine blk_drewN ?_ _ | refine blk_drew ?_ | refine blk_alloc ?_ _)); refine blk_far ?_ NB256_257.out _; (with_reducible repeat (first | refine blk_drewN ?_ _ | refine blk_drew ?_ | refine blk_alloc ?_ _)); refine blk_far ?_ NB256_257.out _; (with_reducible repeat (first | refine blk_drewN ?_ _ | refine blk_drew ?_ | refine blk_alloc ?_ _)); refine blk_put (cs := #[.int .i64 ((rd_T49 l0 0).f0), .int .i64 0]) ?_ 1 _ rfl; (with_reducible repeat (first | refine blk_drewN ?_ _ | refine blk_drew ?_ | refine blk_alloc ?_ _)); refine blk_put (cs := #[.int .i64 0, .int .i64 0]) ?_ 0 _ rfl; (with_reducible repeat (first | refine blk_drewN ?_ _ | refine blk_drew ?_ | refine blk_alloc ?_ _)); exact BK256.out⟩
           have n3_ : Aside0 (((((w99.setCell ⟨gb256, 0, none⟩ (.int .i64 ((rd_T49 l0 0).f0))).setCell ⟨gb256, 1, none⟩ (.int .i64 ((rd_T49 l0 0).f1))).setCell ⟨gb257, 0, none⟩ (.int .i64 ((rd_T49 l0 (ji4)).f0))).setCell ⟨gb257, 1, none⟩ (.int .i64 ((rd_T49 l0 (ji4)).f1))).heap[gb257]? = some (.cells #[.int .i64 ((rd_T49 l0 (ji4)).f0), .int .i64 ((rd_T49 l0 (ji4)).f1)] 49 (0, 0))) := ⟨by (with_reducible repeat (first | refine blk_drewN ?_ _ | refine blk_drew ?_ | refine blk_alloc ?_ _)); refine blk_put (cs := #[.int .i64 ((rd_T49 l0 (ji4)).f0), .int .i64 0]) ?_ 1 _ rfl; (with_reducible repeat (first | refine blk_drewN ?_ _ | refine blk_drew ?_ | refine blk_alloc ?_ _)); refine blk_put (cs := #[.int .i64 0, .int .i64 0]) ?_ 0 _ rfl; (with_reducible repeat (first | refine blk_drewN ?_ _ | refine blk_drew ?_ | refine blk_alloc ?_ _)); refine blk_far ?_ NB257_256.out _; (with_reducible repeat (first | refine blk_drewN ?_ _ | refine blk_drew ?_ | refine blk_alloc ?_ _)); refine blk_far ?_ NB257_256.out _; (with_reducible repeat (first | refine blk_drewN ?_ _ | refine blk_drew ?_ | refine blk_alloc ?_ _)); exact BK257.out⟩
           have n4_ : Aside0 (Below w.heap.size w ((((w99.setCell ⟨gb256, 0, none⟩ (.int .i64 ((rd_T49 l0 0).f0))).setCell ⟨gb256, 1, none⟩ (.int .i64 ((rd_T49 l0 0).f1))).setCell ⟨gb257, 0, none⟩ (.int .i64 ((rd_T49 l0 (ji4)).f0))).setCell ⟨gb257, 1, none⟩ (.int .i64 ((rd_T49 l0 (ji4)).f1)))) := ⟨bws_ HB.out⟩
           (try clear HO0)
           (try clear HO1)
           (try clear BK256)
           (try clear BK257)
           (try clear HB)
           generalize ((((w99.setCell ⟨gb256, 0, none⟩ (.int .i64 ((rd_T49 l0 0).f0))).setCell ⟨gb256, 1, none⟩ (.int .i64 ((rd_T49 l0 0).f1))).setCell ⟨gb257, 0, none⟩ (.int .i64 ((rd_T49 l0 (ji4)).f0))).setCell ⟨gb257, 1, none⟩ (.int .i64 ((rd_T49 l0 (ji4)).f1))) = w104 at n0_ n1_ n2_ n3_ n4_ ⊢
           have HO0 := n0_; have HO1 := n1_; have BK256 := n2_; have BK257 := n3_; have HB := n4_
           clear n0_ n1_ n2_ n3_ n4_
           have n0_ := Aside0.mk (Kd.V_drew HO0.out)
           have n1_ := Aside0.mk (Kd.V_drew HO1.out)
           have n2_ := Aside0.mk (blk_drew BK256.out)
           have n3_ := Aside0.mk (blk_drew BK257.out)
           have n4_ := Aside0.mk (below_drew1 HB.out)
           clear HO0 HO1 BK256 BK257 HB
           have HO0 := n0_; have HO1 := n1_; have BK256 := n2_; have BK257 := n3_; have HB := n4_
           clear n0_ n1_ n2_ n3_ n4_
           have p258 : 0 ≤ (0 : Int) := (by omega)
           have q258 : 0 < (l1.length : Int) := od_
           obtain ⟨ad258, e258, hx258_0, hx258_1⟩ := at_T49 (Kd.V_reads' HO1.out).2.2 0 p258 q258
           cases e258
           have qi258 : (0 < l1.length) = True := eq_true (by omega)
           (try rw [show ((0 : Int)).toNat = 0 from rfl] at hx258_0)
           (try rw [show 0 * 2 = 0 from rfl] at hx258_0)
           (try rw [Addr.add_zero'] at hx258_0)
           (try rw [show ((0 : Int)).toNat = 0 from rfl] at hx258_1)
           (try rw [show 0 * 2 = 0 from rfl] at hx258_1)
           (try rw [Addr.add_zero'] at hx258_1)
           replace p258 := eq_true p258
           replace q258 := eq_true q258
           refine start_ (n := 6) (S := fun w' => w'.cell? ⟨gb257, 0, none⟩ = some (.int .i64 ((rd_T49 l0 (ji4)).f0)) ∧ w'.cell? ⟨gb257, 1, none⟩ = some (.int .i64 ((rd_T49 l0 (ji4)).f1)) ∧ w'.cell? ad258 = some (.int .i64 ((rd_T49 l1 0).f0)) ∧ w'.cell? ⟨ad258.block, ad258.off + 1, none⟩ = some (.int .i64 ((rd_T49 l1 0).f1))) (ds := []) #[false, false, false, false, false, false] (by kernel_rfl) rfl rfl ⟨(blk_cell BK257.out 0).trans rfl, (blk_cell BK257.out 1).trans rfl, hx258_0, hx258_1⟩ (fun hHeld => ?_)
           generalize w104.drew = w105 at HO0 HO1 BK256 BK257 HB hx258_0 hx258_1 hHeld ⊢
           refine pure_ (i := 1) (N := some 18) (v := ?_) (a' := ?_) #[false, true, false, false, false, false] rfl rfl (by kernel_rfl) (fun _ _ _ h => h) (Or.inl ⟨by rfl, ?_⟩) ?_ ?_
           rotate_left
           ·intro w'
            go_simp
            with_reducible rfl
           rotate_left
           ·simp only [Act.put, List.setIfInBounds_toArray, List.set_cons_zero, List.set_cons_succ, i64_w, i32_w]
            rfl
           refine pure_ (i := 2) (N := some 19) (v := ?_) (a' := ?_) #[false, true, true, false, false, false] rfl rfl (by kernel_rfl) (fun _ _ _ h => h) (Or.inl ⟨by rfl, ?_⟩) ?_ ?_
           rotate_left
           ·intro w'
            go_simp
            with_reducible rfl
           rotate_left
           ·simp only [Act.put, List.setIfInBounds_toArray, List.set_cons_zero, List.set_cons_succ, i64_w, i32_w]
            rfl
           refine take_ (i := 0) (N := some 17) (v := ?_) (a' := ?_) #[true, true, true, false, false, false] rfl rfl (by kernel_rfl) (fun _ _ _ h => h) (Or.inl ⟨by rfl, ?_⟩) hHeld ?_ ?_
           rotate_left
           ·rintro w' ⟨s0, s1, s2, s3⟩
            go_simp
            with_reducible rfl
           rotate_left
           ·simp only [Act.put, List.setIfInBounds_toArray, List.set_cons_zero, List.set_cons_succ, i64_w, i32_w]
            rfl
           refine take_ (i := 3) (N := some 20) (v := ?_) (a' := ?_) #[true, true, true, true, false, false] rfl rfl (by kernel_rfl) (fun _ _ _ h => h) (Or.inl ⟨by rfl, ?_⟩) hHeld ?_ ?_
           rotate_left
           ·rintro w' ⟨s0, s1, s2, s3⟩
            go_simp
            with_reducible rfl
           rotate_left
           ·simp only [Act.put, List.setIfInBounds_toArray, List.set_cons_zero, List.set_cons_succ, i64_w, i32_w]
            rfl
           refine pure_ (i := 4) (N := some 21) (v := ?_) (a' := ?_) #[true, true, true, true, true, false] rfl rfl (by kernel_rfl) (fun _ _ _ h => h) (Or.inl ⟨by rfl, ?_⟩) ?_ ?_
           rotate_left
           ·intro w'
            go_simp
            with_reducible rfl
           rotate_left
           ·simp only [Act.put, List.setIfInBounds_toArray, List.set_cons_zero, List.set_cons_succ, i64_w, i32_w]
            rfl
           refine pure_ (i := 5) (N := some 16) (v := ?_) (a' := ?_) #[true, true, true, true, true, true] rfl rfl (by kernel_rfl) (fun _ _ _ h => h) (Or.inl ⟨by rfl, ?_⟩) ?_ ?_
           rotate_left
           ·intro w'
            go_simp
            with_reducible rfl
           rotate_left
           ·simp only [Act.put, List.setIfInBounds_toArray, List.set_cons_zero, List.set_cons_succ, i64_w, i32_w]
            rfl
           refine done_ (by kernel_rfl) ?_
           try go_wp2
           have n0_ := Aside0.mk (Kd.V_drew HO0.out)
           have n1_ := Aside0.mk (Kd.V_drew HO1.out)
           have n2_ := Aside0.mk (blk_drew BK256.out)
           have n3_ := Aside0.mk (blk_drew BK257.out)
           have n4_ := Aside0.mk (below_drew1 HB.out)
           clear HO0 HO1 BK256 BK257 HB
           have HO0 := n0_; have HO1 := n1_; have BK256 := n2_; have BK257 := n3_; have HB := n4_
           clear n0_ n1_ n2_ n3_ n4_
           have p270 : 0 ≤ ((ji26) : Int) := od_
           have q270 : (ji26) < (l1.length : Int) := od_
           obtain ⟨ad270, e270, hx270_0, hx270_1⟩ := at_T49 (Kd.V_reads' HO1.out).2.2 (ji26) p270 q270
           obtain rfl : ad258 = ad270 := (by injection e270)
           replace p270 := eq_true p270
           replace q270 := eq_true q270
           refine start_ (n := 9) (S := fun w' => w'.cell? ⟨gb257, 0, none⟩ = some (.int .i64 ((rd_T49 l0 (ji4)).f0)) ∧ w'.cell? ⟨gb257, 1, none⟩ = some (.int .i64 ((rd_T49 l0 (ji4)).f1)) ∧ w'.cell? (ad258.add (((ji26)).toNat * 2)) = some (.int .i64 ((rd_T49 l1 (ji26)).f0)) ∧ w'.cell? ⟨(ad258.add (((ji26)).toNat * 2)).block, (ad258.add (((ji26)).toNat * 2)).off + 1, none⟩ = some (.int .i64 ((rd_T49 l1 (ji26)).f1))) (ds := []) #[false, false, false, false, false, false, false, false, false] (by kernel_rfl) rfl rfl ⟨(blk_cell BK257.out 0).trans rfl, (blk_cell BK257.out 1).trans rfl, hx270_0, hx270_1⟩ (fun hHeld => ?_); refine with_tabW impl_join.tab4 impl_join.bits4 (fun HT_ HW_ => ?_)
           generalize w105.drew = w106 at HO0 HO1 BK256 BK257 HB hx270_0 hx270_1 hHeld ⊢
           refine pure_ (i := 1) (N := some 29) (v := ?_) (a' := ?_) #[false, true, false, false, false, false, false, false, false] rfl rfl (any_of HT_.out (by kernel_rfl)) (fun _ _ _ h => h) (Or.inl ⟨by rfl, ?_⟩) ?_ ?_
           rotate_left
           ·intro w'
            go_simp
            with_reducible rfl
           rotate_left
           ·simp only [Act.put, List.setIfInBounds_toArray, List.set_cons_zero, List.set_cons_succ, i64_w, i32_w]
            rfl
           refine pure_ (i := 2) (N := some 30) (v := ?_) (a' := ?_) #[false, true, true, false, false, false, false, false, false] rfl rfl (any_of HT_.out (by kernel_rfl)) (fun _ _ _ h => h) (Or.inl ⟨by rfl, ?_⟩) ?_ ?_
           rotate_left
           ·intro w'
            go_simp
            with_reducible rfl
           rotate_left
           ·simp only [Act.put, List.setIfInBounds_toArray, List.set_cons_zero, List.set_cons_succ, i64_w, i32_w]
            rfl
           refine pure_ (i := 3) (N := some 31) (v := ?_) (a' := ?_) #[false, true, true, true, false, false, false, false, false] rfl rfl (any_of HT_.out (by kernel_rfl)) (fun _ _ _ h => h) (Or.inl ⟨by rfl, ?_⟩) ?_ ?_
           rotate_left
           ·intro w'
            go_simp
            with_reducible rfl
           rotate_left
           ·simp only [Act.put, List.setIfInBounds_toArray, List.set_cons_zero, List.set_cons_succ, i64_w, i32_w]
            rfl
           refine pure_ (i := 4) (N := some 32) (v := ?_) (a' := ?_) #[false, true, true, true, true, false, false, false, false] rfl rfl (any_of HT_.out (by kernel_rfl)) (fun _ _ _ h => h) (Or.inl ⟨by rfl, ?_⟩) ?_ ?_
           rotate_left
           ·intro w'
            go_simp
            with_reducible rfl
           rotate_left
           ·simp only [Act.put, List.setIfInBounds_toArray, List.set_cons_zero, List.set_cons_succ, i64_w, i32_w]
            rfl
           refine pure_ (i := 5) (N := some 33) (v := ?_) (a' := ?_) #[false, true, true, true, true, true, false, false, false] rfl rfl (any_of HT_.out (by kernel_rfl)) (fun _ _ _ h => h) (Or.inl ⟨by rfl, ?_⟩) ?_ ?_
           rotate_left
           ·intro w'
            go_simp
            with_reducible rfl
           rotate_left
           ·simp only [Act.put, List.setIfInBounds_toArray, List.set_cons_zero, List.set_cons_succ, i64_w, i32_w]
            rfl
           refine take_ (i := 0) (N := some 28) (v := ?_) (a' := ?_) #[true, true, true, true, true, true, false, false, false] rfl rfl (take_ofW HT_.out HW_.out (by kernel_rfl)) (fun _ _ _ h => h) (Or.inl ⟨by rfl, ?_⟩) hHeld ?_ ?_
           rotate_left
           ·rintro w' ⟨s0, s1, s2, s3⟩
            go_simp
            with_reducible rfl
           rotate_left
           ·simp only [Act.put, List.setIfInBounds_toArray, List.set_cons_zero, List.set_cons_succ, i64_w, i32_w]
            rfl
           refine take_ (i := 6) (N := some 34) (v := ?_) (a' := ?_) #[true, true, true, true, true, true, true, false, false] rfl rfl (take_ofW HT_.out HW_.out (by kernel_rfl)) (fun _ _ _ h => h) (Or.inl ⟨by rfl, ?_⟩) hHeld ?_ ?_
           rotate_left
           ·rintro w' ⟨s0, s1, s2, s3⟩
            go_simp
            with_reducible rfl
           rotate_left
           ·simp only [Act.put, List.setIfInBounds_toArray, List.set_cons_zero, List.set_cons_succ, i64_w, i32_w]
            rfl
           refine pure_ (i := 7) (N := some 35) (v := ?_) (a' := ?_) #[true, true, true, true, true, true, true, true, false] rfl rfl (any_of HT_.out (by kernel_rfl)) (fun _ _ _ h => h) (Or.inl ⟨by rfl, ?_⟩) ?_ ?_
           rotate_left
           ·intro w'
            go_simp
            with_reducible rfl
           rotate_left
           ·simp only [Act.put, List.setIfInBounds_toArray, List.set_cons_zero, List.set_cons_succ, i64_w, i32_w]
            rfl
           refine pure_ (i := 8) (N := some 27) (v := ?_) (a' := ?_) #[true, true, true, true, true, true, true, true, true] rfl rfl (any_of HT_.out (by kernel_rfl)) (fun _ _ _ h => h) (Or.inl ⟨by rfl, ?_⟩) ?_ ?_
           rotate_left
           ·intro w'
            go_simp
            with_reducible rfl
           rotate_left
           ·simp only [Act.put, List.setIfInBounds_toArray, List.set_cons_zero, List.set_cons_succ, i64_w, i32_w]
            rfl
           refine done_ (done_of HT_.out (by kernel_rfl)) ?_
           try go_wp2
           have n0_ := Aside0.mk (Kd.V_drew HO0.out)
           have n1_ := Aside0.mk (Kd.V_drew HO1.out)
           have n2_ := Aside0.mk (blk_drew BK256.out)
           have n3_ := Aside0.mk (blk_drew BK257.out)
           have n4_ := Aside0.mk (below_drew1 HB.out)
           clear HO0 HO1 BK256 BK257 HB
           have HO0 := n0_; have HO1 := n1_; have BK256 := n2_; have BK257 := n3_; have HB := n4_
           clear n0_ n1_ n2_ n3_ n4_
           have p285 : 0 ≤ ((ji26) : Int) := od_
           have q285 : (ji26) < (l1.length : Int) := od_
           obtain ⟨ad285, e285, hx285_0, hx285_1⟩ := at_T49 (Kd.V_reads' HO1.out).2.2 (ji26) p285 q285
           obtain rfl : ad258 = ad285 := (by injection e285)
           replace p285 := eq_true p285
           replace q285 := eq_true q285
           refine start_ (n := 9) (S := fun w' => w'.cell? ⟨gb256, 0, none⟩ = some (.int .i64 ((rd_T49 l0 0).f0)) ∧ w'.cell? ⟨gb256, 1, none⟩ = some (.int .i64 ((rd_T49 l0 0).f1)) ∧ w'.cell? (ad258.add (((ji26)).toNat * 2)) = some (.int .i64 ((rd_T49 l1 (ji26)).f0)) ∧ w'.cell? ⟨(ad258.add (((ji26)).toNat * 2)).block, (ad258.add (((ji26)).toNat * 2)).off + 1, none⟩ = some (.int .i64 ((rd_T49 l1 (ji26)).f1))) (ds := []) #[false, false, false, false, false, false, false, false, false] (by kernel_rfl) rfl rfl ⟨(blk_cell BK256.out 0).trans rfl, (blk_cell BK256.out 1).trans rfl, hx285_0, hx285_1⟩ (fun hHeld => ?_); refine with_tabW impl_join.tab6 impl_join.bits6 (fun HT_ HW_ => ?_)
           generalize w106.drew = w107 at HO0 HO1 BK256 BK257 HB hx285_0 hx285_1 hHeld ⊢
           refine pure_ (i := 1) (N := some 44) (v := ?_) (a' := ?_) #[false, true, false, false, false, false, false, false, false] rfl rfl (any_of HT_.out (by kernel_rfl)) (fun _ _ _ h => h) (Or.inl ⟨by rfl, ?_⟩) ?_ ?_
           rotate_left
           ·intro w'
            go_simp
            with_reducible rfl
           rotate_left
           ·simp only [Act.put, List.setIfInBounds_toArray, List.set_cons_zero, List.set_cons_succ, i64_w, i32_w]
            rfl
           refine pure_ (i := 2) (N := some 45) (v := ?_) (a' := ?_) #[false, true, true, false, false, false, false, false, false] rfl rfl (any_of HT_.out (by kernel_rfl)) (fun _ _ _ h => h) (Or.inl ⟨by rfl, ?_⟩) ?_ ?_
           rotate_left
           ·intro w'
            go_simp
            with_reducible rfl
           rotate_left
           ·simp only [Act.put, List.setIfInBounds_toArray, List.set_cons_zero, List.set_cons_succ, i64_w, i32_w]
            rfl
           refine pure_ (i := 3) (N := some 46) (v := ?_) (a' := ?_) #[false, true, true, true, false, false, false, false, false] rfl rfl (any_of HT_.out (by kernel_rfl)) (fun _ _ _ h => h) (Or.inl ⟨by rfl, ?_⟩) ?_ ?_
           rotate_left
           ·intro w'
            go_simp
            with_reducible rfl
           rotate_left
           ·simp only [Act.put, List.setIfInBounds_toArray, List.set_cons_zero, List.set_cons_succ, i64_w, i32_w]
            rfl
           refine pure_ (i := 4) (N := some 47) (v := ?_) (a' := ?_) #[false, true, true, true, true, false, false, false, false] rfl rfl (any_of HT_.out (by kernel_rfl)) (fun _ _ _ h => h) (Or.inl ⟨by rfl, ?_⟩) ?_ ?_
           rotate_left
           ·intro w'
            go_simp
            with_reducible rfl
           rotate_left
           ·simp only [Act.put, List.setIfInBounds_toArray, List.set_cons_zero, List.set_cons_succ, i64_w, i32_w]
            rfl
           refine pure_ (i := 5) (N := some 48) (v := ?_) (a' := ?_) #[false, true, true, true, true, true, false, false, false] rfl rfl (any_of HT_.out (by kernel_rfl)) (fun _ _ _ h => h) (Or.inl ⟨by rfl, ?_⟩) ?_ ?_
           rotate_left
           ·intro w'
            go_simp
            with_reducible rfl
           rotate_left
           ·simp only [Act.put, List.setIfInBounds_toArray, List.set_cons_zero, List.set_cons_succ, i64_w, i32_w]
            rfl
           refine take_ (i := 0) (N := some 43) (v := ?_) (a' := ?_) #[true, true, true, true, true, true, false, false, false] rfl rfl (take_ofW HT_.out HW_.out (by kernel_rfl)) (fun _ _ _ h => h) (Or.inl ⟨by rfl, ?_⟩) hHeld ?_ ?_
           rotate_left
           ·rintro w' ⟨s0, s1, s2, s3⟩
            go_simp
            with_reducible rfl
           rotate_left
           ·simp only [Act.put, List.setIfInBounds_toArray, List.set_cons_zero, List.set_cons_succ, i64_w, i32_w]
            rfl
           refine take_ (i := 6) (N := some 49) (v := ?_) (a' := ?_) #[true, true, true, true, true, true, true, false, false] rfl rfl (take_ofW HT_.out HW_.out (by kernel_rfl)) (fun _ _ _ h => h) (Or.inl ⟨by rfl, ?_⟩) hHeld ?_ ?_
           rotate_left
           ·rintro w' ⟨s0, s1, s2, s3⟩
            go_simp
            with_reducible rfl
           rotate_left
           ·simp only [Act.put, List.setIfInBounds_toArray, List.set_cons_zero, List.set_cons_succ, i64_w, i32_w]
            rfl
           refine pure_ (i := 7) (N := some 50) (v := ?_) (a' := ?_) #[true, true, true, true, true, true, true, true, false] rfl rfl (any_of HT_.out (by kernel_rfl)) (fun _ _ _ h => h) (Or.inl ⟨by rfl, ?_⟩) ?_ ?_
           rotate_left
           ·intro w'
            go_simp
            with_reducible rfl
           rotate_left
           ·simp only [Act.put, List.setIfInBounds_toArray, List.set_cons_zero, List.set_cons_succ, i64_w, i32_w]
            rfl
           refine pure_ (i := 8) (N := some 42) (v := ?_) (a' := ?_) #[true, true, true, true, true, true, true, true, true] rfl rfl (any_of HT_.out (by kernel_rfl)) (fun _ _ _ h => h) (Or.inl ⟨by rfl, ?_⟩) ?_ ?_
           rotate_left
           ·intro w'
            go_simp
            with_reducible rfl
           rotate_left
           ·simp only [Act.put, List.setIfInBounds_toArray, List.set_cons_zero, List.set_cons_succ, i64_w, i32_w]
            rfl
           refine done_ (done_of HT_.out (by kernel_rfl)) ?_
           try go_wp2
           have n0_ := Aside0.mk (Kd.V_drew HO0.out)
           have n1_ := Aside0.mk (Kd.V_drew HO1.out)
           have n2_ := Aside0.mk (blk_drew BK256.out)
           have n3_ := Aside0.mk (blk_drew BK257.out)
           have n4_ := Aside0.mk (below_drew1 HB.out)
           clear HO0 HO1 BK256 BK257 HB
           have HO0 := n0_; have HO1 := n1_; have BK256 := n2_; have BK257 := n3_; have HB := n4_
           clear n0_ n1_ n2_ n3_ n4_
           have p297 : 0 ≤ (0 : Int) := (by omega)
           have q297 : 0 < (l1.length : Int) := od_
           obtain ⟨ad297, e297, hx297_0, hx297_1⟩ := at_T49 (Kd.V_reads' HO1.out).2.2 0 p297 q297
           obtain rfl : ad258 = ad297 := (by injection e297)
           have qi297 : (0 < l1.length) = True := eq_true (by omega)
           (try rw [show ((0 : Int)).toNat = 0 from rfl] at hx297_0)
           (try rw [show 0 * 2 = 0 from rfl] at hx297_0)
           (try rw [Addr.add_zero'] at hx297_0)
           (try rw [show ((0 : Int)).toNat = 0 from rfl] at hx297_1)
           (try rw [show 0 * 2 = 0 from rfl] at hx297_1)
           (try rw [Addr.add_zero'] at hx297_1)
           replace p297 := eq_true p297
           replace q297 := eq_true q297
           refine start_ (n := 6) (S := fun w' => w'.cell? ⟨gb256, 0, none⟩ = some (.int .i64 ((rd_T49 l0 0).f0)) ∧ w'.cell? ⟨gb256, 1, none⟩ = some (.int .i64 ((rd_T49 l0 0).f1)) ∧ w'.cell? ad258 = some (.int .i64 ((rd_T49 l1 0).f0)) ∧ w'.cell? ⟨ad258.block, ad258.off + 1, none⟩ = some (.int .i64 ((rd_T49 l1 0).f1))) (ds := []) #[false, false, false, false, false, false] (by kernel_rfl) rfl rfl ⟨(blk_cell BK256.out 0).trans rfl, (blk_cell BK256.out 1).trans rfl, hx297_0, hx297_1⟩ (fun hHeld => ?_)
           generalize w107.drew = w108 at HO0 HO1 BK256 BK257 HB hx297_0 hx297_1 hHeld ⊢
           refine pure_ (i := 1) (N := some 58) (v := ?_) (a' := ?_) #[false, true, false, false, false, false] rfl rfl (by kernel_rfl) (fun _ _ _ h => h) (Or.inl ⟨by rfl, ?_⟩) ?_ ?_
           rotate_left
           ·intro w'
            go_simp
            with_reducible rfl
           rotate_left
           ·simp only [Act.put, List.setIfInBounds_toArray, List.set_cons_zero, List.set_cons_succ, i64_w, i32_w]
            rfl
           refine pure_ (i := 2) (N := some 59) (v := ?_) (a' := ?_) #[false, true, true, false, false, false] rfl rfl (by kernel_rfl) (fun _ _ _ h => h) (Or.inl ⟨by rfl, ?_⟩) ?_ ?_
           rotate_left
           ·intro w'
            go_simp
            with_reducible rfl
           rotate_left
           ·simp only [Act.put, List.setIfInBounds_toArray, List.set_cons_zero, List.set_cons_succ, i64_w, i32_w]
            rfl
           refine take_ (i := 0) (N := some 57) (v := ?_) (a' := ?_) #[true, true, true, false, false, false] rfl rfl (by kernel_rfl) (fun _ _ _ h => h) (Or.inl ⟨by rfl, ?_⟩) hHeld ?_ ?_
           rotate_left
           ·rintro w' ⟨s0, s1, s2, s3⟩
            go_simp
            with_reducible rfl
           rotate_left
           ·simp only [Act.put, List.setIfInBounds_toArray, List.set_cons_zero, List.set_cons_succ, i64_w, i32_w]
            rfl
           refine take_ (i := 3) (N := some 60) (v := ?_) (a' := ?_) #[true, true, true, true, false, false] rfl rfl (by kernel_rfl) (fun _ _ _ h => h) (Or.inl ⟨by rfl, ?_⟩) hHeld ?_ ?_
           rotate_left
           ·rintro w' ⟨s0, s1, s2, s3⟩
            go_simp
            with_reducible rfl
           rotate_left
           ·simp only [Act.put, List.setIfInBounds_toArray, List.set_cons_zero, List.set_cons_succ, i64_w, i32_w]
            rfl
           refine pure_ (i := 4) (N := some 61) (v := ?_) (a' := ?_) #[true, true, true, true, true, false] rfl rfl (by kernel_rfl) (fun _ _ _ h => h) (Or.inl ⟨by rfl, ?_⟩) ?_ ?_
           rotate_left
           ·intro w'
            go_simp
            with_reducible rfl
           rotate_left
           ·simp only [Act.put, List.setIfInBounds_toArray, List.set_cons_zero, List.set_cons_succ, i64_w, i32_w]
            rfl
           refine pure_ (i := 5) (N := some 56) (v := ?_) (a' := ?_) #[true, true, true, true, true, true] rfl rfl (by kernel_rfl) (fun _ _ _ h => h) (Or.inl ⟨by rfl, ?_⟩) ?_ ?_
           rotate_left
           ·intro w'
            go_simp
            with_reducible rfl
           rotate_left
           ·simp only [Act.put, List.setIfInBounds_toArray, List.set_cons_zero, List.set_cons_succ, i64_w, i32_w]
            rfl
           refine done_ (by kernel_rfl) ?_
           try go_wp2
           go_ret
           exact ⟨_, by first | rfl | (simp [errW_none, errW_some] <;> rfl) | (simp only [← hji4, ← hji26]; first | rfl | (simp [errW_none, errW_some] <;> rfl)) | (simp [*, errW_none, errW_some] <;> rfl), by first | exact Kd.R_nil _ _ _ _ _ | exact Kd.N_nil _ _ _ _ _ | exact Kd.V_nil _ _ _ _ _ | exact Kd.Q_nil _ _ _ _ _ | exact Kd.S_nil _ _ _ _ _, by repeat (first | (with_reducible first | exact HB.out | apply below_alloc | apply pw_below_drewN | apply below_drew1 | refine below_set ?_ GE256.out | refine below_set ?_ GE257.out) | exact HB.out), by first | exact fun hr_ => absurd hr_ HNZ.out | exact fun hr_ => absurd hr_ NZ_.out | exact fun _ => rfl | rfl | (simp; done) | (intro _; first | rfl | (simp; done))⟩
       ·rw [if_neg c28] at H
        exact absurd H (by simp)
      ·rw [if_neg c27] at H
       exact absurd H (by simp)
    ·rw [if_neg c7] at H
     exact absurd H (by simp)
   ·rw [if_neg c6] at H
    exact absurd H (by simp)
  ·rw [if_neg c5] at H
   exact absurd H (by simp)
 ·rw [if_neg c3] at H
  exact absurd H (by simp)

end Go.Proofs.Ytmedijjjhabpbaa.Print
