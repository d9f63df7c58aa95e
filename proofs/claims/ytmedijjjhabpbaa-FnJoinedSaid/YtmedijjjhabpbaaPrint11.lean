-- Printed by a program of this session out of the translation; not trusted: Lean checks it.
-- SQUEEZED
-- SHRUNK
-- NILFIX
import Derived.Test.YtmedijjjhabpbaaPrint0
import Derived.Test.YtmedijjjhabpbaaPrint1
import Derived.Test.YtmedijjjhabpbaaPrint9
import Derived.Test.YtmedijjjhabpbaaPrint10
namespace Go.Proofs.Ytmedijjjhabpbaa.Print
open Go.RowKit Go.Proofs.YtmedijjjhabpbaaW.PrintWords Go.Proofs.YtmedijjjhabpbaaW.PrintLast Go.Proofs.YtmedijjjhabpbaaW.PrintMore
attribute [local go_sem] max2_int min2_int max_two min_two max_three min_three max_four min_four   -- for this text's walks alone
set_option linter.unusedVariables false
set_option linter.unusedSimpArgs false

attribute [local go_sem high] eqA49
/-! ### impl_join: function 36 -/
def impl_join.f (k : Nat) (l0 : List (S49)) (l1 : List (S49)) : Option ((List (S49))) := if 0 < (l0.length : Int) then (if 0 ≤ (wrap64 ((l0.length : Int) - 1)) then (if (wrap64 ((l0.length : Int) - 1)) < (l0.length : Int) then (if 0 < (l1.length : Int) then (if (((rd_T49 l0 (wrap64 ((l0.length : Int) - 1))).f0) == ((rd_T49 l1 0).f0) && (((rd_T49 l0 (wrap64 ((l0.length : Int) - 1))).f1) == ((rd_T49 l1 0).f1))) = true then (if 1 ≤ (l1.length : Int) then ((impl_Place_56.f k (([l0, (l1.drop 1)] : List (List (S49))))).bind fun t247 => (if 0 < (t247.length : Int) then (some t247) else none)) else (none)) else (if 0 ≤ (wrap64 ((l1.length : Int) - 1)) then (if (wrap64 ((l1.length : Int) - 1)) < (l1.length : Int) then (if (((rd_T49 l0 (wrap64 ((l0.length : Int) - 1))).f0) == ((rd_T49 l1 (wrap64 ((l1.length : Int) - 1))).f0) && (((rd_T49 l0 (wrap64 ((l0.length : Int) - 1))).f1) == ((rd_T49 l1 (wrap64 ((l1.length : Int) - 1))).f1))) = true then ((impl_reversed.f k l1).bind fun t251 => (if 1 ≤ (t251.length : Int) then ((impl_Place_56.f k (([l0, (t251.drop 1)] : List (List (S49))))).bind fun t262 => (if 0 < (t262.length : Int) then (some t262) else none)) else (none))) else (if (((rd_T49 l0 0).f0) == ((rd_T49 l1 (wrap64 ((l1.length : Int) - 1))).f0) && (((rd_T49 l0 0).f1) == ((rd_T49 l1 (wrap64 ((l1.length : Int) - 1))).f1))) = true then (if 1 ≤ (l0.length : Int) then ((impl_Place_56.f k (([l1, (l0.drop 1)] : List (List (S49))))).bind fun t274 => (if 0 < (t274.length : Int) then (some t274) else none)) else (none)) else (if (((rd_T49 l0 0).f0) == ((rd_T49 l1 0).f0) && (((rd_T49 l0 0).f1) == ((rd_T49 l1 0).f1))) = true then ((impl_reversed.f k l1).bind fun t278 => (if 1 ≤ (l0.length : Int) then ((impl_Place_56.f k (([t278, (l0.drop 1)] : List (List (S49))))).bind fun t289 => (if 0 < (t289.length : Int) then (some t289) else none)) else (none))) else (some ([] : List (S49)))))) else (none)) else (none))) else (none)) else (none)) else (none)) else (none)
theorem impl_join.mono : ∀ a0 a1 k, LeO (impl_join.f k a0 a1) (impl_join.f (k + 1) a0 a1) := by
 intro a0 a1 k
 unfold impl_join.f
 repeat' first
   | (with_reducible exact impl_Place_56.mono _ _)
   | (with_reducible exact impl_reversed.mono _ _)
   | (with_reducible exact LeO.refl _)
   | (with_reducible exact LeO.none _)
   | (with_reducible refine LeO.ite ?_ ?_)
   | (with_reducible refine LeO.bind ?_ (fun _ => ?_))
   | exact impl_Place_56.mono _ _
   | exact impl_reversed.mono _ _
   | exact LeO.none _
   | refine LeO.ite ?_ ?_
   | refine LeO.bind ?_ (fun _ => ?_)
def impl_join.T1 : Bool × List (List Nat × List Nat) := (true, [([], []), ([0], [0]), ([1], [1]), ([], []), ([], []), ([4], [4]), ([5], [5]), ([3, 6], [3, 6]), ([7], [7]), ([], []), ([], []), ([9, 2, 0, 1, 2, 9, 10], [2, 9]), ([10, 8, 11, 0, 1, 2, 3, 4, 5, 6, 7, 8, 9, 10, 11], [8, 10])])
def impl_join.B1 : List Nat := [0, 1, 3, 0, 0, 16, 48, 120, 248, 0, 0, 1543, 4095]
theorem impl_join.tab1 : rtab .any (opsOf Try.f36 1) = impl_join.T1 := by kernel_rfl
theorem impl_join.bits1 : waitsOk impl_join.T1.2 impl_join.B1 = true := by kernel_rfl
def impl_join.T4 : Bool × List (List Nat × List Nat) := (true, [([], []), ([], []), ([], []), ([2], [2]), ([3], [3]), ([1, 4], [1, 4]), ([5], [5]), ([0, 6], [0, 6]), ([7], [7])])
def impl_join.B4 : List Nat := [0, 0, 0, 4, 12, 30, 62, 127, 255]
theorem impl_join.tab4 : rtab .any (opsOf Try.f36 4) = impl_join.T4 := by kernel_rfl
theorem impl_join.bits4 : waitsOk impl_join.T4.2 impl_join.B4 = true := by kernel_rfl
def impl_join.T6 : Bool × List (List Nat × List Nat) := (true, [([], []), ([], []), ([], []), ([2], [2]), ([3], [3]), ([1, 4], [1, 4]), ([5], [5]), ([0, 6], [0, 6]), ([7], [7])])
def impl_join.B6 : List Nat := [0, 0, 0, 4, 12, 30, 62, 127, 255]
theorem impl_join.tab6 : rtab .any (opsOf Try.f36 6) = impl_join.T6 := by kernel_rfl
theorem impl_join.bits6 : waitsOk impl_join.T6.2 impl_join.B6 = true := by kernel_rfl
theorem vaw_ {W : World} {e base : Nat} {ok : Nat → Prop} {ad : Addr} {n c : Nat} {xs : List S49} (h : Kd.V k49 e W base ok (.slice (some ad) n c) xs) {g : Nat} (hok : ∀ k, ok k → k ≠ g) (hn : 0 < (xs.length : Int)) : ad.block ≠ g := by
 intro eg
 obtain ⟨hnn, hl, hF⟩ := Kd.V_at h
 obtain ⟨ad1, e1, c0, _⟩ := at_T49 (Kd.F_now hF) 0 (Int.le_refl _) hn
 injection e1 with e1
 subst e1
 have hb : (ad.add ((0 : Int).toNat * 2)).block = g := by rw [add_block]; exact eg
 have h2 := Kd.F_now (Kd.F_far hF (p := ad.add ((0 : Int).toNat * 2)) (fun k hk e2 => hok k hk (e2.trans hb)) (.bool true))
 obtain ⟨ad2, e2, c2, _⟩ := at_T49 h2 0 (Int.le_refl _) hn
 injection e2 with e2
 subst e2
 rw [World.cell?_setCell_same' _ _ _ (by rw [c0]; rfl)] at c2
 injection c2 with c2
 cases c2
set_option maxHeartbeats 8000000 in
set_option maxRecDepth 100000 in
theorem impl_join.calls (k : Nat) (P0_ : Nat → Prop) (A0 : Option Addr) (c0 : Nat) (l0 : List (S49)) (P1_ : Nat → Prop) (A1 : Option Addr) (c1 : Nat) (l1 : List (S49)) (r : List (S49)) (w : World) (hs0 : Kd.V k49 49 w w.heap.size (fun k_ => P0_ k_) (.slice A0 l0.length c0) l0) (hs1 : Kd.V k49 49 w w.heap.size (fun k_ => P1_ k_) (.slice A1 l1.length c1) l1) (h : impl_join.f k l0 l1 = some r) :
  Calls Try.prog 36 #[.slice A0 l0.length c0, .slice A1 l1.length c1] w fun e w' => ∃ v0_ : Value, e = .returned (v0_) ∧ Kd.R k49 49 w' w.heap.size (fun k_ => (w.heap.size ≤ k_)) v0_ r ∧ Below w.heap.size w w' ∧ (r = [] → v0_ = .slice none 0 0) := by
 have hu49 := Try.underlying49
 have HO0 := Aside0.mk (show Kd.V k49 49 w w.heap.size (fun k_ => ((P0_ k_ ∨ P1_ k_) ∨ w.heap.size ≤ k_)) (.slice A0 l0.length c0) l0 from Kd.V_mono hs0 (fun k_ hk => .inl (.inl hk)))
 have HO1 := Aside0.mk (show Kd.V k49 49 w w.heap.size (fun k_ => ((P0_ k_ ∨ P1_ k_) ∨ w.heap.size ≤ k_)) (.slice A1 l1.length c1) l1 from Kd.V_mono hs1 (fun k_ hk => .inl (.inr hk)))
 have HB := Aside0.mk (Below.refl w.heap.size w)
 have H : (if 0 < (l0.length : Int) then (if 0 ≤ (wrap64 ((l0.length : Int) - 1)) then (if (wrap64 ((l0.length : Int) - 1)) < (l0.length : Int) then (if 0 < (l1.length : Int) then (if (((rd_T49 l0 (wrap64 ((l0.length : Int) - 1))).f0) == ((rd_T49 l1 0).f0) && (((rd_T49 l0 (wrap64 ((l0.length : Int) - 1))).f1) == ((rd_T49 l1 0).f1))) = true then (if 1 ≤ (l1.length : Int) then ((impl_Place_56.f k (([l0, (l1.drop 1)] : List (List (S49))))).bind fun t247 => (if 0 < (t247.length : Int) then (some t247) else none)) else (none)) else (if 0 ≤ (wrap64 ((l1.length : Int) - 1)) then (if (wrap64 ((l1.length : Int) - 1)) < (l1.length : Int) then (if (((rd_T49 l0 (wrap64 ((l0.length : Int) - 1))).f0) == ((rd_T49 l1 (wrap64 ((l1.length : Int) - 1))).f0) && (((rd_T49 l0 (wrap64 ((l0.length : Int) - 1))).f1) == ((rd_T49 l1 (wrap64 ((l1.length : Int) - 1))).f1))) = true then ((impl_reversed.f k l1).bind fun t251 => (if 1 ≤ (t251.length : Int) then ((impl_Place_56.f k (([l0, (t251.drop 1)] : List (List (S49))))).bind fun t262 => (if 0 < (t262.length : Int) then (some t262) else none)) else (none))) else (if (((rd_T49 l0 0).f0) == ((rd_T49 l1 (wrap64 ((l1.length : Int) - 1))).f0) && (((rd_T49 l0 0).f1) == ((rd_T49 l1 (wrap64 ((l1.length : Int) - 1))).f1))) = true then (if 1 ≤ (l0.length : Int) then ((impl_Place_56.f k (([l1, (l0.drop 1)] : List (List (S49))))).bind fun t274 => (if 0 < (t274.length : Int) then (some t274) else none)) else (none)) else (if (((rd_T49 l0 0).f0) == ((rd_T49 l1 0).f0) && (((rd_T49 l0 0).f1) == ((rd_T49 l1 0).f1))) = true then ((impl_reversed.f k l1).bind fun t278 => (if 1 ≤ (l0.length : Int) then ((impl_Place_56.f k (([t278, (l0.drop 1)] : List (List (S49))))).bind fun t289 => (if 0 < (t289.length : Int) then (some t289) else none)) else (none))) else (some ([] : List (S49)))))) else (none)) else (none))) else (none)) else (none)) else (none)) else (none)) = some r := h
 clear h
 by_cases c3 : 0 < (l0.length : Int)
 ·rw [if_pos c3] at H
  have c3b0 : decide (0 < (l0.length : Int)) = true := decide_eq_true c3
  have c3b1 : decide (0 < l0.length) = true := decide_eq_true (by omega)
  clear c3
  obtain ⟨ji4, hji4⟩ : ∃ j_ : Int, (wrap64 ((l0.length : Int) - 1)) = j_ := ⟨_, rfl⟩
  replace H : (if 0 ≤ (ji4) then (if (ji4) < (l0.length : Int) then (if 0 < (l1.length : Int) then (if (((rd_T49 l0 (ji4)).f0) == ((rd_T49 l1 0).f0) && (((rd_T49 l0 (ji4)).f1) == ((rd_T49 l1 0).f1))) = true then (if 1 ≤ (l1.length : Int) then ((impl_Place_56.f k (([l0, (l1.drop 1)] : List (List (S49))))).bind fun t247 => (if 0 < (t247.length : Int) then (some t247) else none)) else (none)) else (if 0 ≤ (wrap64 ((l1.length : Int) - 1)) then (if (wrap64 ((l1.length : Int) - 1)) < (l1.length : Int) then (if (((rd_T49 l0 (ji4)).f0) == ((rd_T49 l1 (wrap64 ((l1.length : Int) - 1))).f0) && (((rd_T49 l0 (ji4)).f1) == ((rd_T49 l1 (wrap64 ((l1.length : Int) - 1))).f1))) = true then ((impl_reversed.f k l1).bind fun t251 => (if 1 ≤ (t251.length : Int) then ((impl_Place_56.f k (([l0, (t251.drop 1)] : List (List (S49))))).bind fun t262 => (if 0 < (t262.length : Int) then (some t262) else none)) else (none))) else (if (((rd_T49 l0 0).f0) == ((rd_T49 l1 (wrap64 ((l1.length : Int) - 1))).f0) && (((rd_T49 l0 0).f1) == ((rd_T49 l1 (wrap64 ((l1.length : Int) - 1))).f1))) = true then (if 1 ≤ (l0.length : Int) then ((impl_Place_56.f k (([l1, (l0.drop 1)] : List (List (S49))))).bind fun t274 => (if 0 < (t274.length : Int) then (some t274) else none)) else (none)) else (if (((rd_T49 l0 0).f0) == ((rd_T49 l1 0).f0) && (((rd_T49 l0 0).f1) == ((rd_T49 l1 0).f1))) = true then ((impl_reversed.f k l1).bind fun t278 => (if 1 ≤ (l0.length : Int) then ((impl_Place_56.f k (([t278, (l0.drop 1)] : List (List (S49))))).bind fun t289 => (if 0 < (t289.length : Int) then (some t289) else none)) else (none))) else (some ([] : List (S49)))))) else (none)) else (none))) else (none)) else (none)) else (none)) = some r := by first | (rw [hji4] at H; exact H) | (simp only [hji4] at H ⊢; exact H)
  have hji4w : (IntKind.i64.wrap ((l0.length : Int) - 1)) = ji4 := (i64_w _).trans hji4
  by_cases c5 : 0 ≤ (ji4)
  ·rw [if_pos c5] at H
   have c5b0 : decide (0 ≤ (ji4)) = true := decide_eq_true c5
   clear c5
   by_cases c6 : (ji4) < (l0.length : Int)
   ·rw [if_pos c6] at H
    have c6b0 : decide ((ji4) < (l0.length : Int)) = true := decide_eq_true c6
    clear c6
    by_cases c7 : 0 < (l1.length : Int)
    ·rw [if_pos c7] at H
     have c7b0 : decide (0 < (l1.length : Int)) = true := decide_eq_true c7
     have c7b1 : decide (0 < l1.length) = true := decide_eq_true (by omega)
     clear c7
     go_enter Try.func36, Try.ntmps36
     try go_wp2
     have n0_ := Aside0.mk (Kd.V_drew HO0.out)
     have n1_ := Aside0.mk (Kd.V_drew HO1.out)
     have n2_ := Aside0.mk (below_drew1 HB.out)
     clear HO0 HO1 HB
     have HO0 := n0_; have HO1 := n1_; have HB := n2_
     clear n0_ n1_ n2_
     have p234 : 0 ≤ (0 : Int) := (by omega)
     have q234 : 0 < (l0.length : Int) := od_
     obtain ⟨ad234, e234, hx1000_0, hx1000_1⟩ := at_T49 (Kd.V_reads' HO0.out).2.2 0 p234 q234
     cases e234
     have qi234 : (0 < l0.length) = True := eq_true (by omega)
     (try rw [show ((0 : Int)).toNat = 0 from rfl] at hx1000_0)
     (try rw [show 0 * 2 = 0 from rfl] at hx1000_0)
     (try rw [Addr.add_zero'] at hx1000_0)
     (try rw [show ((0 : Int)).toNat = 0 from rfl] at hx1000_1)
     (try rw [show 0 * 2 = 0 from rfl] at hx1000_1)
     (try rw [Addr.add_zero'] at hx1000_1)
     replace p234 := eq_true p234
     replace q234 := eq_true q234
     have p235 : 0 ≤ ((ji4) : Int) := od_
     have q235 : (ji4) < (l0.length : Int) := od_
     obtain ⟨ad235, e235, hx1001_0, hx1001_1⟩ := at_T49 (Kd.V_reads' HO0.out).2.2 (ji4) p235 q235
     obtain rfl : ad234 = ad235 := (by injection e235)
     replace p235 := eq_true p235
     replace q235 := eq_true q235
     refine start_ (n := 13) (S := fun w' => w'.cell? ad234 = some (.int .i64 ((rd_T49 l0 0).f0)) ∧ w'.cell? ⟨ad234.block, ad234.off + 1, none⟩ = some (.int .i64 ((rd_T49 l0 0).f1)) ∧ w'.cell? (ad234.add (((ji4)).toNat * 2)) = some (.int .i64 ((rd_T49 l0 (ji4)).f0)) ∧ w'.cell? ⟨(ad234.add (((ji4)).toNat * 2)).block, (ad234.add (((ji4)).toNat * 2)).off + 1, none⟩ = some (.int .i64 ((rd_T49 l0 (ji4)).f1))) (ds := []) #[false, false, false, false, false, false, false, false, false, false, false, false, false] (by kernel_rfl) rfl rfl ⟨hx1000_0, hx1000_1, hx1001_0, hx1001_1⟩ (fun hHeld => ?_); refine with_tabW impl_join.tab1 impl_join.bits1 (fun HT_ HW_ => ?_)
     generalize w.drew = w1002 at HO0 HO1 HB hx1000_0 hx1000_1 hx1001_0 hx1001_1 hHeld ⊢
     refine pure_ (i := 0) (N := some 7) (v := ?_) (a' := ?_) #[true, false, false, false, false, false, false, false, false, false, false, false, false] rfl rfl (any_of HT_.out (by kernel_rfl)) (fun _ _ _ h => h) (Or.inl ⟨by rfl, ?_⟩) ?_ ?_
     rotate_left
     ·intro w'
      go_simp
      with_reducible rfl
     rotate_left
     ·simp only [Act.put, List.setIfInBounds_toArray, List.set_cons_zero, List.set_cons_succ, i64_w, i32_w]
      rfl
     refine pure_ (i := 1) (N := some 8) (v := ?_) (a' := ?_) #[true, true, false, false, false, false, false, false, false, false, false, false, false] rfl rfl (any_of HT_.out (by kernel_rfl)) (fun _ _ _ h => h) (Or.inl ⟨by rfl, ?_⟩) ?_ ?_
     rotate_left
     ·intro w'
      go_simp
      with_reducible rfl
     rotate_left
     ·simp only [Act.put, List.setIfInBounds_toArray, List.set_cons_zero, List.set_cons_succ, i64_w, i32_w]
      rfl
     refine pure_ (i := 3) (N := some 10) (v := ?_) (a' := ?_) #[true, true, false, true, false, false, false, false, false, false, false, false, false] rfl rfl (any_of HT_.out (by kernel_rfl)) (fun _ _ _ h => h) (Or.inl ⟨by rfl, ?_⟩) ?_ ?_
     rotate_left
     ·intro w'
      go_simp
      with_reducible rfl
     rotate_left
     ·simp only [Act.put, List.setIfInBounds_toArray, List.set_cons_zero, List.set_cons_succ, i64_w, i32_w]
      rfl
     refine pure_ (i := 4) (N := some 11) (v := ?_) (a' := ?_) #[true, true, false, true, true, false, false, false, false, false, false, false, false] rfl rfl (any_of HT_.out (by kernel_rfl)) (fun _ _ _ h => h) (Or.inl ⟨by rfl, ?_⟩) ?_ ?_
     rotate_left
     ·intro w'
      go_simp
      with_reducible rfl
     rotate_left
     ·simp only [Act.put, List.setIfInBounds_toArray, List.set_cons_zero, List.set_cons_succ, i64_w, i32_w]
      rfl
     refine pure_ (i := 5) (N := some 12) (v := ?_) (a' := ?_) #[true, true, false, true, true, true, false, false, false, false, false, false, false] rfl rfl (any_of HT_.out (by kernel_rfl)) (fun _ _ _ h => h) (Or.inl ⟨by rfl, ?_⟩) ?_ ?_
     rotate_left
     ·intro w'
      go_simp
      with_reducible rfl
     rotate_left
     ·simp only [Act.put, List.setIfInBounds_toArray, List.set_cons_zero, List.set_cons_succ, i64_w, i32_w]
      rfl
     refine pure_ (i := 6) (N := some 13) (v := ?_) (a' := ?_) #[true, true, false, true, true, true, true, false, false, false, false, false, false] rfl rfl (any_of HT_.out (by kernel_rfl)) (fun _ _ _ h => h) (Or.inl ⟨by rfl, ?_⟩) ?_ ?_
     rotate_left
     ·intro w'
      go_simp
      with_reducible rfl
     rotate_left
     ·simp only [Act.put, List.setIfInBounds_toArray, List.set_cons_zero, List.set_cons_succ, i64_w, i32_w]
      rfl
     refine pure_ (i := 7) (N := some 14) (v := ?_) (a' := ?_) #[true, true, false, true, true, true, true, true, false, false, false, false, false] rfl rfl (any_of HT_.out (by kernel_rfl)) (fun _ _ _ h => h) (Or.inl ⟨by rfl, ?_⟩) ?_ ?_
     rotate_left
     ·intro w'
      go_simp
      with_reducible rfl
     rotate_left
     ·simp only [Act.put, List.setIfInBounds_toArray, List.set_cons_zero, List.set_cons_succ, i64_w, i32_w]
      rfl
     refine take_ (i := 2) (N := some 9) (v := ?_) (a' := ?_) #[true, true, true, true, true, true, true, true, false, false, false, false, false] rfl rfl (take_ofW HT_.out HW_.out (by kernel_rfl)) (fun _ _ _ h => h) (Or.inl ⟨by rfl, ?_⟩) hHeld ?_ ?_
     rotate_left
     ·rintro w' ⟨s0, s1, s2, s3⟩
      go_simp
      with_reducible rfl
     rotate_left
     ·simp only [Act.put, List.setIfInBounds_toArray, List.set_cons_zero, List.set_cons_succ, i64_w, i32_w]
      rfl
     refine take_ (i := 8) (N := some 15) (v := ?_) (a' := ?_) #[true, true, true, true, true, true, true, true, true, false, false, false, false] rfl rfl (take_ofW HT_.out HW_.out (by kernel_rfl)) (fun _ _ _ h => h) (Or.inl ⟨by rfl, ?_⟩) hHeld ?_ ?_
     rotate_left
     ·rintro w' ⟨s0, s1, s2, s3⟩
      go_simp
      with_reducible rfl
     rotate_left
     ·simp only [Act.put, List.setIfInBounds_toArray, List.set_cons_zero, List.set_cons_succ, i64_w, i32_w]
      rfl
     refine join_ (σ := Nat × Nat) 2 #[true, true, true, true, true, true, true, true, true, true, true, false, false] (fun s_ => [(5, .pointer (some ⟨s_.1, 0, none⟩)), (6, .pointer (some ⟨s_.2, 0, none⟩))]) (fun s_ w' => (w'.cell? ad234 = some (.int .i64 ((rd_T49 l0 0).f0)) ∧ w'.cell? ⟨ad234.block, ad234.off + 1, none⟩ = some (.int .i64 ((rd_T49 l0 0).f1)) ∧ w'.cell? (ad234.add (((ji4)).toNat * 2)) = some (.int .i64 ((rd_T49 l0 (ji4)).f0)) ∧ w'.cell? ⟨(ad234.add (((ji4)).toNat * 2)).block, (ad234.add (((ji4)).toNat * 2)).off + 1, none⟩ = some (.int .i64 ((rd_T49 l0 (ji4)).f1))) ∧ (Kd.V k49 49 w' w.heap.size (fun k_ => ((P0_ k_ ∨ P1_ k_) ∨ w.heap.size ≤ k_) ∧ k_ ≠ s_.1 ∧ k_ ≠ s_.2) (.slice (some ad234) l0.length c0) l0) ∧ (Kd.V k49 49 w' w.heap.size (fun k_ => ((P0_ k_ ∨ P1_ k_) ∨ w.heap.size ≤ k_) ∧ k_ ≠ s_.1 ∧ k_ ≠ s_.2) (.slice A1 l1.length c1) l1) ∧ (w'.heap[s_.1]? = some (.cells #[.int .i64 0, .int .i64 0] 49 (0, 0))) ∧ (w'.heap[s_.2]? = some (.cells #[.int .i64 0, .int .i64 0] 49 (0, 0))) ∧ (w.heap.size ≤ s_.1) ∧ (w.heap.size ≤ s_.1) ∧ (s_.2 ≠ s_.1) ∧ (s_.1 ≠ s_.2) ∧ (w.heap.size ≤ s_.2) ∧ (w.heap.size ≤ s_.2) ∧ (Below w.heap.size w w')) ?_ ?_
     rotate_left
     ·intro hCont
      refine two_ (i := 9) (j := 10) (Ni := some 5) (Nj := some 6) #[true, true, true, true, true, true, true, true, true, true, false, false, false] #[true, true, true, true, true, true, true, true, true, false, true, false, false] rfl rfl rfl rfl (two_of HT_.out (by kernel_rfl)) (by decide) (by decide) (fun K hK => ?_) (fun K hK => ?_)
      ·skip
       refine box_step ?hg (N := 5) ?hd (cs := #[.int .i64 0, .int .i64 0]) (t := 49) ?hr ?_; (case hd => rfl); (case hg => rfl); (case hr => first | (go_simp; done) | (go_simp; rfl))
       intro gb236 hg w1003 hbox hb
       have HS0_ := hs_ hb hHeld.1
       have HS1_ := hs_ hb hHeld.2.1
       have HS2_ := hs_ hb hHeld.2.2.1
       have HS3_ := hs_ hb hHeld.2.2.2
       have n0_ := Aside0.mk (Kd.V_below (Kd.V_elderB (vk_ HO0.out) gb236 (Nat.le_of_eq hg.symm)) hb)
       have n1_ := Aside0.mk (Kd.V_below (Kd.V_elderB (vk_ HO1.out) gb236 (Nat.le_of_eq hg.symm)) hb)
       have n2_ := Aside0.mk (below_step (bw_ HB.out) hb)
       have n3_ := Aside0.mk (hbox)
       have n4_ := Aside0.mk ((ge_ hg (bw_ HB.out)))
       have n5_ := Aside0.mk ((ge_ hg (bw_ HB.out)))
       clear HO0 HO1 HB
       have HO0 := n0_; have HO1 := n1_; have HB := n2_; have BK236 := n3_; have GW236 := n4_; have GE236 := n5_
       clear n0_ n1_ n2_ n3_ n4_ n5_ hb hbox hg
       refine hK.out _ _ ⟨HS0_, HS1_, HS2_, HS3_⟩ (fun hHeld => ?_)
       clear hK K
       refine norm_ (a' := ?_) ?_ ?_
       rotate_left
       ·show Act.put _ (some 5) _ = _
        simp only [Act.put, List.setIfInBounds_toArray, List.set_cons_zero, List.set_cons_succ, i64_w, i32_w]
        rfl
       refine one_ (i := 10) (N := some 6) #[true, true, true, true, true, true, true, true, true, true, true, false, false] rfl rfl (one_of HT_.out (by kernel_rfl)) (by decide) (fun K hK => ?_)
       refine box_step ?hg (N := 6) ?hd (cs := #[.int .i64 0, .int .i64 0]) (t := 49) ?hr ?_; (case hd => rfl); (case hg => rfl); (case hr => first | (go_simp; done) | (go_simp; rfl))
       intro gb237 hg w1004 hbox hb
       have HS0_ := hs_ hb hHeld.1
       have HS1_ := hs_ hb hHeld.2.1
       have HS2_ := hs_ hb hHeld.2.2.1
       have HS3_ := hs_ hb hHeld.2.2.2
       have n0_ := Aside0.mk (Kd.V_below (Kd.V_elderB (vk_ HO0.out) gb237 (Nat.le_of_eq hg.symm)) hb)
       have n1_ := Aside0.mk (Kd.V_below (Kd.V_elderB (vk_ HO1.out) gb237 (Nat.le_of_eq hg.symm)) hb)
       have n2_ := Aside0.mk (blk_below (bk_ BK236.out) hb)
       have n3_ := Aside0.mk (below_step (bwg_ GE236.out HB.out) hb)
       have n4_ := Aside0.mk (hbox)
       have n5_ := Aside0.mk ((by rw [hg]; exact (below_size (bwg_ GE236.out HB.out)) : w.heap.size ≤ gb237))
       have n6_ := Aside0.mk ((by rw [hg]; exact (below_size (bwg_ GE236.out HB.out)) : w.heap.size ≤ gb237))
       have n7_ := Aside0.mk ((ne1_ hg (bk_ BK236.out)))
       have n8_ := Aside0.mk ((ne2_ hg (bk_ BK236.out)))
       clear HO0 HO1 BK236 HB
       have HO0 := n0_; have HO1 := n1_; have BK236 := n2_; have HB := n3_; have BK237 := n4_; have GW237 := n5_; have GE237 := n6_; have NB236_237 := n7_; have NB237_236 := n8_
       clear n0_ n1_ n2_ n3_ n4_ n5_ n6_ n7_ n8_ hb hbox hg
       refine hK.out _ _ ⟨HS0_, HS1_, HS2_, HS3_⟩ (fun hHeld => ?_)
       clear hK K
       refine norm_ (a' := ?_) ?_ ?_
       rotate_left
       ·show Act.put _ (some 6) _ = _
        simp only [Act.put, List.setIfInBounds_toArray, List.set_cons_zero, List.set_cons_succ, i64_w, i32_w]
        rfl
       exact norm_ (by simp only [putAll, Act.put, List.setIfInBounds_toArray, List.set_cons_zero, List.set_cons_succ]) (hCont (gb236, gb237) _ ⟨hHeld, (by (with_reducible repeat (first | apply Kd.V_alloc | apply Kd.V_drewN | apply Kd.V_drew)); exact Kd.V_mono HO0.out (fun _ hk => ⟨hk.1.1, ⟨hk.1.2, hk.2⟩⟩)), (by (with_reducible repeat (first | apply Kd.V_alloc | apply Kd.V_drewN | apply Kd.V_drew)); exact Kd.V_mono HO1.out (fun _ hk => ⟨hk.1.1, ⟨hk.1.2, hk.2⟩⟩)), (bk_ BK236.out), (bk_ BK237.out), GW236.out, GE236.out, NB237_236.out, NB236_237.out, GW237.out, GE237.out, (bws_ HB.out)⟩)
      ·skip
       refine box_step ?hg (N := 6) ?hd (cs := #[.int .i64 0, .int .i64 0]) (t := 49) ?hr ?_; (case hd => rfl); (case hg => rfl); (case hr => first | (go_simp; done) | (go_simp; rfl))
       intro gb237 hg w1003 hbox hb
       have HS0_ := hs_ hb hHeld.1
       have HS1_ := hs_ hb hHeld.2.1
       have HS2_ := hs_ hb hHeld.2.2.1
       have HS3_ := hs_ hb hHeld.2.2.2
       have n0_ := Aside0.mk (Kd.V_below (Kd.V_elderB (vk_ HO0.out) gb237 (Nat.le_of_eq hg.symm)) hb)
       have n1_ := Aside0.mk (Kd.V_below (Kd.V_elderB (vk_ HO1.out) gb237 (Nat.le_of_eq hg.symm)) hb)
       have n2_ := Aside0.mk (below_step (bw_ HB.out) hb)
       have n3_ := Aside0.mk (hbox)
       have n4_ := Aside0.mk ((ge_ hg (bw_ HB.out)))
       have n5_ := Aside0.mk ((ge_ hg (bw_ HB.out)))
       clear HO0 HO1 HB
       have HO0 := n0_; have HO1 := n1_; have HB := n2_; have BK237 := n3_; have GW237 := n4_; have GE237 := n5_
       clear n0_ n1_ n2_ n3_ n4_ n5_ hb hbox hg
       refine hK.out _ _ ⟨HS0_, HS1_, HS2_, HS3_⟩ (fun hHeld => ?_)
       clear hK K
       refine norm_ (a' := ?_) ?_ ?_
       rotate_left
       ·show Act.put _ (some 6) _ = _
        simp only [Act.put, List.setIfInBounds_toArray, List.set_cons_zero, List.set_cons_succ, i64_w, i32_w]
        rfl
       refine one_ (i := 9) (N := some 5) #[true, true, true, true, true, true, true, true, true, true, true, false, false] rfl rfl (one_of HT_.out (by kernel_rfl)) (by decide) (fun K hK => ?_)
       refine box_step ?hg (N := 5) ?hd (cs := #[.int .i64 0, .int .i64 0]) (t := 49) ?hr ?_; (case hd => rfl); (case hg => rfl); (case hr => first | (go_simp; done) | (go_simp; rfl))
       intro gb236 hg w1004 hbox hb
       have HS0_ := hs_ hb hHeld.1
       have HS1_ := hs_ hb hHeld.2.1
       have HS2_ := hs_ hb hHeld.2.2.1
       have HS3_ := hs_ hb hHeld.2.2.2
       have n0_ := Aside0.mk (Kd.V_below (Kd.V_elderB (vk_ HO0.out) gb236 (Nat.le_of_eq hg.symm)) hb)
       have n1_ := Aside0.mk (Kd.V_below (Kd.V_elderB (vk_ HO1.out) gb236 (Nat.le_of_eq hg.symm)) hb)
       have n2_ := Aside0.mk (blk_below (bk_ BK237.out) hb)
       have n3_ := Aside0.mk (below_step (bwg_ GE237.out HB.out) hb)
       have n4_ := Aside0.mk (hbox)
       have n5_ := Aside0.mk ((by rw [hg]; exact (below_size (bwg_ GE237.out HB.out)) : w.heap.size ≤ gb236))
       have n6_ := Aside0.mk ((by rw [hg]; exact (below_size (bwg_ GE237.out HB.out)) : w.heap.size ≤ gb236))
       have n7_ := Aside0.mk ((ne1_ hg (bk_ BK237.out)))
       have n8_ := Aside0.mk ((ne2_ hg (bk_ BK237.out)))
       clear HO0 HO1 BK237 HB
       have HO0 := n0_; have HO1 := n1_; have BK237 := n2_; have HB := n3_; have BK236 := n4_; have GW236 := n5_; have GE236 := n6_; have NB237_236 := n7_; have NB236_237 := n8_
       clear n0_ n1_ n2_ n3_ n4_ n5_ n6_ n7_ n8_ hb hbox hg
       refine hK.out _ _ ⟨HS0_, HS1_, HS2_, HS3_⟩ (fun hHeld => ?_)
       clear hK K
       refine norm_ (a' := ?_) ?_ ?_
       rotate_left
       ·show Act.put _ (some 5) _ = _
        simp only [Act.put, List.setIfInBounds_toArray, List.set_cons_zero, List.set_cons_succ, i64_w, i32_w]
        rfl
       exact norm_ (by simp only [putAll, Act.put, List.setIfInBounds_toArray, List.set_cons_zero, List.set_cons_succ]) (hCont (gb236, gb237) _ ⟨hHeld, (by (with_reducible repeat (first | apply Kd.V_alloc | apply Kd.V_drewN | apply Kd.V_drew)); exact Kd.V_mono HO0.out (fun _ hk => ⟨hk.1.1, ⟨hk.2, hk.1.2⟩⟩)), (by (with_reducible repeat (first | apply Kd.V_alloc | apply Kd.V_drewN | apply Kd.V_drew)); exact Kd.V_mono HO1.out (fun _ hk => ⟨hk.1.1, ⟨hk.2, hk.1.2⟩⟩)), (bk_ BK236.out), (bk_ BK237.out), GW236.out, GE236.out, NB237_236.out, NB236_237.out, GW237.out, GE237.out, (bws_ HB.out)⟩)
     rintro ⟨gb236, gb237⟩ w1005 ⟨hS_, h0_, h1_, h2_, h3_, h4_, h5_, h6_, h7_, h8_, h9_, h10_⟩
     have n0_ : Aside0 (Kd.V k49 49 w1005 w.heap.size (fun k_ => ((P0_ k_ ∨ P1_ k_) ∨ w.heap.size ≤ k_) ∧ k_ ≠ gb236 ∧ k_ ≠ gb237) (.slice (some ad234) l0.length c0) l0) := ⟨h0_⟩
     have n1_ : Aside0 (Kd.V k49 49 w1005 w.heap.size (fun k_ => ((P0_ k_ ∨ P1_ k_) ∨ w.heap.size ≤ k_) ∧ k_ ≠ gb236 ∧ k_ ≠ gb237) (.slice A1 l1.length c1) l1) := ⟨h1_⟩
     have n2_ : Aside0 (w1005.heap[gb236]? = some (.cells #[.int .i64 0, .int .i64 0] 49 (0, 0))) := ⟨h2_⟩
     have n3_ : Aside0 (w1005.heap[gb237]? = some (.cells #[.int .i64 0, .int .i64 0] 49 (0, 0))) := ⟨h3_⟩
     have n4_ : Aside0 (w.heap.size ≤ gb236) := ⟨h4_⟩
     have n5_ : Aside0 (w.heap.size ≤ gb236) := ⟨h5_⟩
     have n6_ : Aside0 (gb237 ≠ gb236) := ⟨h6_⟩
     have n7_ : Aside0 (gb236 ≠ gb237) := ⟨h7_⟩
     have n8_ : Aside0 (w.heap.size ≤ gb237) := ⟨h8_⟩
     have n9_ : Aside0 (w.heap.size ≤ gb237) := ⟨h9_⟩
     have n10_ : Aside0 (Below w.heap.size w w1005) := ⟨h10_⟩
     clear HO0 HO1 HB h0_ h1_ h2_ h3_ h4_ h5_ h6_ h7_ h8_ h9_ h10_
     have HO0 := n0_; have HO1 := n1_; have BK236 := n2_; have BK237 := n3_; have GW236 := n4_; have GE236 := n5_; have NB237_236 := n6_; have NB236_237 := n7_; have GW237 := n8_; have GE237 := n9_
     have HB := n10_
     clear n0_ n1_ n2_ n3_ n4_ n5_ n6_ n7_ n8_ n9_ n10_
     have hHeld : w1005.cell? ad234 = some (.int .i64 ((rd_T49 l0 0).f0)) ∧ w1005.cell? ⟨ad234.block, ad234.off + 1, none⟩ = some (.int .i64 ((rd_T49 l0 0).f1)) ∧ w1005.cell? (ad234.add (((ji4)).toNat * 2)) = some (.int .i64 ((rd_T49 l0 (ji4)).f0)) ∧ w1005.cell? ⟨(ad234.add (((ji4)).toNat * 2)).block, (ad234.add (((ji4)).toNat * 2)).off + 1, none⟩ = some (.int .i64 ((rd_T49 l0 (ji4)).f1)) := hS_
     refine norm_ (a' := ?_) ?_ ?_
     rotate_left
     ·simp only [putAll, Act.put, List.setIfInBounds_toArray, List.set_cons_zero, List.set_cons_succ]
      rfl
     refine one_ (i := 11) (N := none) #[true, true, true, true, true, true, true, true, true, true, true, true, false] rfl rfl (one_of HT_.out (by kernel_rfl)) (by decide) (fun K hK => ?_)
     have hs1006 : w1005.cell? ⟨gb236, 0, none⟩ = some (.int .i64 0) := (blk_cell BK236.out 0).trans rfl
     have hfs1006 := blk_frozen BK236.out 0
     have hns1006_1 := NB237_236.out
     have hms1006_1 := NB236_237.out
     have hs1007 : w1005.cell? ⟨gb236, 1, none⟩ = some (.int .i64 0) := (blk_cell BK236.out 1).trans rfl
     have hfs1007 := blk_frozen BK236.out 1
     have hns1007_1 := NB237_236.out
     have hms1007_1 := NB236_237.out
     refine skip_ (w1 := ?_) (by rfl) rfl ?_ ?_
     rotate_left
     ·go_simp
      rfl
     refine hK.out _ _ ⟨(far2_ (by first | (rw [add_block]; exact vaw_ HO0.out (fun _ hk => hk.2.1) od_) | exact vaw_ HO0.out (fun _ hk => hk.2.1) od_ | (dsimp only; exact vaw_ HO0.out (fun _ hk => hk.2.1) od_)) hHeld.1), (far2_ (by first | (rw [add_block]; exact vaw_ HO0.out (fun _ hk => hk.2.1) od_) | exact vaw_ HO0.out (fun _ hk => hk.2.1) od_ | (dsimp only; exact vaw_ HO0.out (fun _ hk => hk.2.1) od_)) hHeld.2.1), (far2_ (by first | (rw [add_block]; exact vaw_ HO0.out (fun _ hk => hk.2.1) od_) | exact vaw_ HO0.out (fun _ hk => hk.2.1) od_ | (dsimp only; exact vaw_ HO0.out (fun _ hk => hk.2.1) od_)) hHeld.2.2.1), (far2_ (by first | (rw [add_block]; exact vaw_ HO0.out (fun _ hk => hk.2.1) od_) | exact vaw_ HO0.out (fun _ hk => hk.2.1) od_ | (dsimp only; exact vaw_ HO0.out (fun _ hk => hk.2.1) od_)) hHeld.2.2.2)⟩ (fun hHeld => ?_)
     clear hK K
     refine one_ (i := 12) (N := none) #[true, true, true, true, true, true, true, true, true, true, true, true, true] rfl rfl (one_of HT_.out (by kernel_rfl)) (by decide) (fun K hK => ?_)
     have hs1008 : w1005.cell? ⟨gb237, 0, none⟩ = some (.int .i64 0) := (blk_cell BK237.out 0).trans rfl
     have hfs1008 := blk_frozen BK237.out 0
     have hns1008_0 := NB236_237.out
     have hms1008_0 := NB237_236.out
     have hs1009 : w1005.cell? ⟨gb237, 1, none⟩ = some (.int .i64 0) := (blk_cell BK237.out 1).trans rfl
     have hfs1009 := blk_frozen BK237.out 1
     have hns1009_0 := NB236_237.out
     have hms1009_0 := NB237_236.out
     refine skip_ (w1 := ?_) (by rfl) rfl ?_ ?_
     rotate_left
     ·go_simp
      rfl
     refine hK.out _ _ ⟨(far2_ (by first | (rw [add_block]; exact vaw_ HO0.out (fun _ hk => hk.2.2) od_) | exact vaw_ HO0.out (fun _ hk => hk.2.2) od_ | (dsimp only; exact vaw_ HO0.out (fun _ hk => hk.2.2) od_)) hHeld.1), (far2_ (by first | (rw [add_block]; exact vaw_ HO0.out (fun _ hk => hk.2.2) od_) | exact vaw_ HO0.out (fun _ hk => hk.2.2) od_ | (dsimp only; exact vaw_ HO0.out (fun _ hk => hk.2.2) od_)) hHeld.2.1), (far2_ (by first | (rw [add_block]; exact vaw_ HO0.out (fun _ hk => hk.2.2) od_) | exact vaw_ HO0.out (fun _ hk => hk.2.2) od_ | (dsimp only; exact vaw_ HO0.out (fun _ hk => hk.2.2) od_)) hHeld.2.2.1), (far2_ (by first | (rw [add_block]; exact vaw_ HO0.out (fun _ hk => hk.2.2) od_) | exact vaw_ HO0.out (fun _ hk => hk.2.2) od_ | (dsimp only; exact vaw_ HO0.out (fun _ hk => hk.2.2) od_)) hHeld.2.2.2)⟩ (fun hHeld => ?_)
     clear hK K
     refine done_ (done_of HT_.out (by kernel_rfl)) ?_
     try go_wp2
     have n0_ : Aside0 (Kd.V k49 49 ((((w1005.setCell ⟨gb236, 0, none⟩ (.int .i64 ((rd_T49 l0 0).f0))).setCell ⟨gb236, 1, none⟩ (.int .i64 ((rd_T49 l0 0).f1))).setCell ⟨gb237, 0, none⟩ (.int .i64 ((rd_T49 l0 (ji4)).f0))).setCell ⟨gb237, 1, none⟩ (.int .i64 ((rd_T49 l0 (ji4)).f1))) w.heap.size (fun k_ => ((P0_ k_ ∨ P1_ k_) ∨ w.heap.size ≤ k_) ∧ k_ ≠ gb236 ∧ k_ ≠ gb237) (.slice (some ad234) l0.length c0) l0) := ⟨by (with_reducible repeat (first | apply Kd.V_alloc | apply Kd.V_drewN | apply Kd.V_drew)); exact Kd.V_mono (Kd.V_far (p := ⟨gb237, 1, none⟩) (Kd.V_far (p := ⟨gb237, 0, none⟩) (Kd.V_far (p := ⟨gb236, 1, none⟩) (Kd.V_far (p := ⟨gb236, 0, none⟩) (Kd.V_mono (Kd.V_mono HO0.out (fun k_ hk => (⟨hk, hk.2.1⟩ : _ ∧ k_ ≠ gb236))) (fun k_ hk => (⟨hk, hk.1.2.2⟩ : _ ∧ k_ ≠ gb237))) (fun _ hk => hk.1.2) (.int .i64 ((rd_T49 l0 0).f0))) (fun _ hk => hk.1.2) (.int .i64 ((rd_T49 l0 0).f1))) (fun _ hk => hk.2) (.int .i64 ((rd_T49 l0 (ji4)).f0))) (fun _ hk => hk.2) (.int .i64 ((rd_T49 l0 (ji4)).f1))) (fun _ hk => ⟨hk.1.1.1, ⟨hk.1.1.2.1, hk.1.1.2.2⟩⟩)⟩
     have n1_ : Aside0 (Kd.V k49 49 ((((w1005.setCell ⟨gb236, 0, none⟩ (.int .i64 ((rd_T49 l0 0).f0))).setCell ⟨gb236, 1, none⟩ (.int .i64 ((rd_T49 l0 0).f1))).setCell ⟨gb237, 0, none⟩ (.int .i64 ((rd_T49 l0 (ji4)).f0))).setCell ⟨gb237, 1, none⟩ (.int .i64 ((rd_T49 l0 (ji4)).f1))) w.heap.size (fun k_ => ((P0_ k_ ∨ P1_ k_) ∨ w.heap.size ≤ k_) ∧ k_ ≠ gb236 ∧ k_ ≠ gb237) (.slice A1 l1.length c1) l1) := ⟨by (with_reducible repeat (first | apply Kd.V_alloc | apply Kd.V_drewN | apply Kd.V_drew)); exact Kd.V_mono (Kd.V_far (p := ⟨gb237, 1, none⟩) (Kd.V_far (p := ⟨gb237, 0, none⟩) (Kd.V_far (p := ⟨gb236, 1, none⟩) (Kd.V_far (p := ⟨gb236, 0, none⟩) (Kd.V_mono (Kd.V_mono HO1.out (fun k_ hk => (⟨hk, hk.2.1⟩ : _ ∧ k_ ≠ gb236))) (fun k_ hk => (⟨hk, hk.1.2.2⟩ : _ ∧ k_ ≠ gb237))) (fun _ hk => hk.1.2) (.int .i64 ((rd_T49 l0 0).f0))) (fun _ hk => hk.1.2) (.int .i64 ((rd_T49 l0 0).f1))) (fun _ hk => hk.2) (.int .i64 ((rd_T49 l0 (ji4)).f0))) (fun _ hk => hk.2) (.int .i64 ((rd_T49 l0 (ji4)).f1))) (fun _ hk => ⟨hk.1.1.1, ⟨hk.1.1.2.1, hk.1.1.2.2⟩⟩)⟩
     have n2_ : Aside0 (((((w1005.setCell ⟨gb236, 0, none⟩ (.int .i64 ((rd_T49 l0 0).f0))).setCell ⟨gb236, 1, none⟩ (.int .i64 ((rd_T49 l0 0).f1))).setCell ⟨gb237, 0, none⟩ (.int .i64 ((rd_T49 l0 (ji4)).f0))).setCell ⟨gb237, 1, none⟩ (.int .i64 ((rd_T49 l0 (ji4)).f1))).heap[gb236]? = some (.cells #[.int .i64 ((rd_T49 l0 0).f0), .int .i64 ((rd_T49 l0 0).f1)] 49 (0, 0))) := ⟨by (with_reducible repeat (first | refine blk_drewN ?_ _ | refine blk_drew ?_ | refine blk_alloc ?_ _)); refine blk_far ?_ NB236_237.out _; (with_reducible repeat (first | refine blk_drewN ?_ _ | refine blk_drew ?_ | refine blk_alloc ?_ _)); refine blk_far ?_ NB236_237.out _; (with_reducible repeat (first | refine blk_drewN ?_ _ | refine blk_drew ?_ | refine blk_alloc ?_ _)); refine blk_put (cs := #[.int .i64 ((rd_T49 l0 0).f0), .int .i64 0]) ?_ 1 _ rfl; (with_reducible repeat (first | refine blk_drewN ?_ _ | refine blk_drew ?_ | refine blk_alloc ?_ _)); refine blk_put (cs := #[.int .i64 0, .int .i64 0]) ?_ 0 _ rfl; (with_reducible repeat (first | refine blk_drewN ?_ _ | refine blk_drew ?_ | refine blk_alloc ?_ _)); exact BK236.out⟩
     have n3_ : Aside0 (((((w1005.setCell ⟨gb236, 0, none⟩ (.int .i64 ((rd_T49 l0 0).f0))).setCell ⟨gb236, 1, none⟩ (.int .i64 ((rd_T49 l0 0).f1))).setCell ⟨gb237, 0, none⟩ (.int .i64 ((rd_T49 l0 (ji4)).f0))).setCell ⟨gb237, 1, none⟩ (.int .i64 ((rd_T49 l0 (ji4)).f1))).heap[gb237]? = some (.cells #[.int .i64 ((rd_T49 l0 (ji4)).f0), .int .i64 ((rd_T49 l0 (ji4)).f1)] 49 (0, 0))) := ⟨by (with_reducible repeat (first | refine blk_drewN ?_ _ | refine blk_drew ?_ | refine blk_alloc ?_ _)); refine blk_put (cs := #[.int .i64 ((rd_T49 l0 (ji4)).f0), .int .i64 0]) ?_ 1 _ rfl; (with_reducible repeat (first | refine blk_drewN ?_ _ | refine blk_drew ?_ | refine blk_alloc ?_ _)); refine blk_put (cs := #[.int .i64 0, .int .i64 0]) ?_ 0 _ rfl; (with_reducible repeat (first | refine blk_drewN ?_ _ | refine blk_drew ?_ | refine blk_alloc ?_ _)); refine blk_far ?_ NB237_236.out _; (with_reducible repeat (first | refine blk_drewN ?_ _ | refine blk_drew ?_ | refine blk_alloc ?_ _)); refine blk_far ?_ NB237_236.out _; (with_reducible repeat (first | refine blk_drewN ?_ _ | refine blk_drew ?_ | refine blk_alloc ?_ _)); exact BK237.out⟩
     have n4_ : Aside0 (Below w.heap.size w ((((w1005.setCell ⟨gb236, 0, none⟩ (.int .i64 ((rd_T49 l0 0).f0))).setCell ⟨gb236, 1, none⟩ (.int .i64 ((rd_T49 l0 0).f1))).setCell ⟨gb237, 0, none⟩ (.int .i64 ((rd_T49 l0 (ji4)).f0))).setCell ⟨gb237, 1, none⟩ (.int .i64 ((rd_T49 l0 (ji4)).f1)))) := ⟨bws_ HB.out⟩
     (try clear HO0)
     (try clear HO1)
     (try clear BK236)
     (try clear BK237)
     (try clear HB)
     generalize ((((w1005.setCell ⟨gb236, 0, none⟩ (.int .i64 ((rd_T49 l0 0).f0))).setCell ⟨gb236, 1, none⟩ (.int .i64 ((rd_T49 l0 0).f1))).setCell ⟨gb237, 0, none⟩ (.int .i64 ((rd_T49 l0 (ji4)).f0))).setCell ⟨gb237, 1, none⟩ (.int .i64 ((rd_T49 l0 (ji4)).f1))) = w1010 at n0_ n1_ n2_ n3_ n4_ ⊢
     have HO0 := n0_; have HO1 := n1_; have BK236 := n2_; have BK237 := n3_; have HB := n4_
     clear n0_ n1_ n2_ n3_ n4_
     have n0_ := Aside0.mk (Kd.V_drew HO0.out)
     have n1_ := Aside0.mk (Kd.V_drew HO1.out)
     have n2_ := Aside0.mk (blk_drew BK236.out)
     have n3_ := Aside0.mk (blk_drew BK237.out)
     have n4_ := Aside0.mk (below_drew1 HB.out)
     clear HO0 HO1 BK236 BK237 HB
     have HO0 := n0_; have HO1 := n1_; have BK236 := n2_; have BK237 := n3_; have HB := n4_
     clear n0_ n1_ n2_ n3_ n4_
     have p238 : 0 ≤ (0 : Int) := (by omega)
     have q238 : 0 < (l1.length : Int) := od_
     obtain ⟨ad238, e238, hx1011_0, hx1011_1⟩ := at_T49 (Kd.V_reads' HO1.out).2.2 0 p238 q238
     cases e238
     have qi238 : (0 < l1.length) = True := eq_true (by omega)
     (try rw [show ((0 : Int)).toNat = 0 from rfl] at hx1011_0)
     (try rw [show 0 * 2 = 0 from rfl] at hx1011_0)
     (try rw [Addr.add_zero'] at hx1011_0)
     (try rw [show ((0 : Int)).toNat = 0 from rfl] at hx1011_1)
     (try rw [show 0 * 2 = 0 from rfl] at hx1011_1)
     (try rw [Addr.add_zero'] at hx1011_1)
     replace p238 := eq_true p238
     replace q238 := eq_true q238
     refine start_ (n := 6) (S := fun w' => w'.cell? ⟨gb237, 0, none⟩ = some (.int .i64 ((rd_T49 l0 (ji4)).f0)) ∧ w'.cell? ⟨gb237, 1, none⟩ = some (.int .i64 ((rd_T49 l0 (ji4)).f1)) ∧ w'.cell? ad238 = some (.int .i64 ((rd_T49 l1 0).f0)) ∧ w'.cell? ⟨ad238.block, ad238.off + 1, none⟩ = some (.int .i64 ((rd_T49 l1 0).f1))) (ds := []) #[false, false, false, false, false, false] (by kernel_rfl) rfl rfl ⟨(blk_cell BK237.out 0).trans rfl, (blk_cell BK237.out 1).trans rfl, hx1011_0, hx1011_1⟩ (fun hHeld => ?_)
     generalize w1010.drew = w1012 at HO0 HO1 BK236 BK237 HB hx1011_0 hx1011_1 hHeld ⊢
     refine pure_ (i := 1) (N := some 18) (v := ?_) (a' := ?_) #[false, true, false, false, false, false] rfl rfl (by kernel_rfl) (fun _ _ _ h => h) (Or.inl ⟨by rfl, ?_⟩) ?_ ?_
     rotate_left
     ·intro w'
      go_simp
      with_reducible rfl
     rotate_left
     ·simp only [Act.put, List.setIfInBounds_toArray, List.set_cons_zero, List.set_cons_succ, i64_w, i32_w]
      rfl
     refine pure_ (i := 2) (N := some 19) (v := ?_) (a' := ?_) #[false, true, true, false, false, false] rfl rfl (by kernel_rfl) (fun _ _ _ h => h) (Or.inl ⟨by rfl, ?_⟩) ?_ ?_
     rotate_left
     ·intro w'
      go_simp
      with_reducible rfl
     rotate_left
     ·simp only [Act.put, List.setIfInBounds_toArray, List.set_cons_zero, List.set_cons_succ, i64_w, i32_w]
      rfl
     refine take_ (i := 0) (N := some 17) (v := ?_) (a' := ?_) #[true, true, true, false, false, false] rfl rfl (by kernel_rfl) (fun _ _ _ h => h) (Or.inl ⟨by rfl, ?_⟩) hHeld ?_ ?_
     rotate_left
     ·rintro w' ⟨s0, s1, s2, s3⟩
      go_simp
      with_reducible rfl
     rotate_left
     ·simp only [Act.put, List.setIfInBounds_toArray, List.set_cons_zero, List.set_cons_succ, i64_w, i32_w]
      rfl
     refine take_ (i := 3) (N := some 20) (v := ?_) (a' := ?_) #[true, true, true, true, false, false] rfl rfl (by kernel_rfl) (fun _ _ _ h => h) (Or.inl ⟨by rfl, ?_⟩) hHeld ?_ ?_
     rotate_left
     ·rintro w' ⟨s0, s1, s2, s3⟩
      go_simp
      with_reducible rfl
     rotate_left
     ·simp only [Act.put, List.setIfInBounds_toArray, List.set_cons_zero, List.set_cons_succ, i64_w, i32_w]
      rfl
     refine pure_ (i := 4) (N := some 21) (v := ?_) (a' := ?_) #[true, true, true, true, true, false] rfl rfl (by kernel_rfl) (fun _ _ _ h => h) (Or.inl ⟨by rfl, ?_⟩) ?_ ?_
     rotate_left
     ·intro w'
      go_simp
      with_reducible rfl
     rotate_left
     ·simp only [Act.put, List.setIfInBounds_toArray, List.set_cons_zero, List.set_cons_succ, i64_w, i32_w]
      rfl
     refine pure_ (i := 5) (N := some 16) (v := ?_) (a' := ?_) #[true, true, true, true, true, true] rfl rfl (by kernel_rfl) (fun _ _ _ h => h) (Or.inl ⟨by rfl, ?_⟩) ?_ ?_
     rotate_left
     ·intro w'
      go_simp
      with_reducible rfl
     rotate_left
     ·simp only [Act.put, List.setIfInBounds_toArray, List.set_cons_zero, List.set_cons_succ, i64_w, i32_w]
      rfl
     refine done_ (by kernel_rfl) ?_
     by_cases c8 : (((rd_T49 l0 (ji4)).f0) == ((rd_T49 l1 0).f0) && (((rd_T49 l0 (ji4)).f1) == ((rd_T49 l1 0).f1))) = true
     ·rw [if_pos c8] at H
      have c8b0 : (((rd_T49 l0 (ji4)).f0) == ((rd_T49 l1 0).f0) && (((rd_T49 l0 (ji4)).f1) == ((rd_T49 l1 0).f1))) = true := c8
      (try (have c8b1 : decide (((rd_T49 l0 (ji4)).f0) = ((rd_T49 l1 0).f0) && (((rd_T49 l0 (ji4)).f1) == ((rd_T49 l1 0).f1))) = true := by simpa using c8))
      (try (have c8b2 : (((rd_T49 l0 (ji4)).f0) == ((rd_T49 l1 0).f0) && (((rd_T49 l0 (ji4)).f1) == ((rd_T49 l1 0).f1))) = true := by simpa using c8))
      clear c8
      (try rw [c8b0])
      (try rw [c8b1])
      (try rw [c8b2])
      by_cases c9 : 1 ≤ (l1.length : Int)
      ·rw [if_pos c9] at H
       have c9b0 := eq_true c9
       have c9b1 : decide (1 ≤ (l1.length : Int)) = true := decide_eq_true c9
       clear c9
       obtain ⟨y239, hy239⟩ : ∃ y_ : List (S49), y_ = (l1.drop 1) := ⟨_, rfl⟩
       replace H : ((impl_Place_56.f k (([l0, y239] : List (List (S49))))).bind fun t247 => (if 0 < (t247.length : Int) then (some t247) else none)) = some r := by first | (rw [hy239]; with_reducible exact H) | (have H2_ := (Option.bind_some _ _).symm.trans H; rw [hy239]; with_reducible exact H2_) | (have H2_ := (Option.bind_some _ _).symm.trans H; with_reducible exact H2_) | with_reducible exact H | (rw [hy239]; exact H) | exact H
       have Ny239 := Aside0.mk hy239
       clear hy239
       obtain ⟨y244, hy244⟩ : ∃ y_ : List (List (S49)), y_ = (([l0, y239] : List (List (S49)))) := ⟨_, rfl⟩
       replace H : ((impl_Place_56.f k y244).bind fun t247 => (if 0 < (t247.length : Int) then (some t247) else none)) = some r := by first | (rw [hy244]; with_reducible exact H) | (have H2_ := (Option.bind_some _ _).symm.trans H; rw [hy244]; with_reducible exact H2_) | (have H2_ := (Option.bind_some _ _).symm.trans H; with_reducible exact H2_) | with_reducible exact H | (rw [hy244]; exact H) | exact H
       have Ny244 := Aside0.mk hy244
       clear hy244
       replace H := Option.bind_eq_some_iff.mp H
       obtain ⟨t247, A100, H⟩ := H
       replace H : (if 0 < (t247.length : Int) then (some t247) else none) = some r := H
       have hnz_ : 0 < (t247.length : Int) := by
        by_cases hz_ : 0 < (t247.length : Int)
        ·exact hz_
        ·rw [if_neg hz_] at H; cases H
       rw [if_pos hnz_] at H
       have HNZ := Aside0.mk (show t247 ≠ [] from fun h_ => by rw [h_] at hnz_; simp at hnz_)
       clear hnz_
       have A10 := Aside0.mk A100
       clear A100
       obtain rfl := Option.some.inj H
       have q21 : (1 : Int) ≤ ((l1.length : Int) : Int) := od_
       obtain ⟨i021, hi1013, _, hsz1014, _⟩ := info_parts info49
       have hroom1014 : l1.length ≤ c1 := (Kd.V_reads' HO1.out).2.1
       have hC21 : Kd.F k49 _ _ (some ad238) l1.length l1 := (Kd.V_at (base := w.heap.size) HO1.out).2.2
       have hcut1014 := cut_from (P := Try.prog) 34 49 .i64 Try.underlying34 hi1013 2 hsz1014 (some ad238) l1.length c1 1 (by omega) q21
       have hr1014 := Kd.F_cut (m := (1 : Int).toNat) (c := c1) hC21 (by omega) hroom1014
       obtain ⟨A21, hA21⟩ : ∃ A_z, A_z = (if c1 = (1 : Int).toNat then (some ad238) else ((some ad238) : Option Addr).map (·.add ((1 : Int).toNat * 2))) := ⟨_, rfl⟩
       obtain ⟨c21, hc1014⟩ : ∃ c_z, c_z = c1 - (1 : Int).toNat := ⟨_, rfl⟩
       have hy1014 : y239.length = l1.length - (1 : Int).toNat := (by rw [Ny239.out, List.length_drop] <;> omega)
       rw [show (l1).drop (1 : Int).toNat = y239 from Ny239.out.symm] at hr1014
       replace hr1014 : Kd.F k49 _ _ A21 y239.length y239 := (by rw [hA21]; exact hr1014)
       rw [← hy1014, ← hA21, ← hc1014] at hcut1014
       have HO243 := Aside0.mk (show Kd.V k49 49 _ w.heap.size _ (.slice A21 y239.length c21) y239 from Kd.V_mk (by rw [hy1014, hc1014]; exact Nat.sub_le_sub_right hroom1014 _) hr1014)
       have HC243 := Aside0.mk (show y239.length ≤ c21 from by rw [hy1014, hc1014]; exact Nat.sub_le_sub_right hroom1014 _)
       clear hr1014 hC21 hroom1014 hi1013 hsz1014 hc1014
       have KY21 := Aside0.mk hy1014
       have KA21 := Aside0.mk hA21
       clear hy1014 hA21
       replace q21 := eq_true q21
       try go_wp2_with (first | ((with_reducible refine gate_dst (N := 25) rfl ?_); refine Kd.N_lit (Kd.slice 49 k49) _ 34 ?hg (N' := 25) ?hd (xs := ([l0, y239] : List (List (S49)))) (inner := [.slice (some ad234) l0.length c0, .slice A21 y239.length c21]) (ok := (fun k_ => ((P0_ k_ ∨ P1_ k_) ∨ w.heap.size ≤ k_) ∧ k_ ≠ gb236 ∧ k_ ≠ gb237)) (okp := (fun k_ => ((P0_ k_ ∨ P1_ k_) ∨ w.heap.size ≤ k_) ∧ k_ ≠ gb236 ∧ k_ ≠ gb237)) ?hr ?hp (fun _ hk => hk) ((show ∀ k_, w1012.heap.size ≤ k_ → (fun k_ => ((P0_ k_ ∨ P1_ k_) ∨ w.heap.size ≤ k_) ∧ k_ ≠ gb236 ∧ k_ ≠ gb237) k_ from fun k_ hk => ⟨(.inr (Nat.le_trans (below_size (bws_ HB.out)) hk)), Kd.freshB (g := gb236) (o := .cells #[.int .i64 ((rd_T49 l0 0).f0), .int .i64 ((rd_T49 l0 0).f1)] 49 (0, 0)) (bk_ BK236.out) k_ hk, Kd.freshB (g := gb237) (o := .cells #[.int .i64 ((rd_T49 l0 (ji4)).f0), .int .i64 ((rd_T49 l0 (ji4)).f1)] 49 (0, 0)) (bk_ BK237.out) k_ hk⟩) _ (Nat.le_refl _)) (Below.refl _ _) (Nat.le_refl _) (by simp) ?_; (case hd => rfl); (case hg => rfl); (case hr => first | (go_simp; done) | (go_simp; rfl)); (case hp => exact (Reps.one (show Kd.FK (Kd.slice 49 k49) _ _ l0 [.slice (some ad234) l0.length c0] from (Kd.FK_slice_mk (Kd.V_reads' (Kd.V_mono (ok' := (fun k_ => ((P0_ k_ ∨ P1_ k_) ∨ w.heap.size ≤ k_) ∧ k_ ≠ gb236 ∧ k_ ≠ gb237)) (HO0.out) (fun k_ hk => ⟨hk.1, ⟨hk.2.1, hk.2.2⟩⟩))).2.1 (Kd.V_F (Kd.V_mono (ok' := (fun k_ => ((P0_ k_ ∨ P1_ k_) ∨ w.heap.size ≤ k_) ∧ k_ ≠ gb236 ∧ k_ ≠ gb237)) (HO0.out) (fun k_ hk => ⟨hk.1, ⟨hk.2.1, hk.2.2⟩⟩))))) (Reps.one (show Kd.FK (Kd.slice 49 k49) _ _ y239 [.slice A21 y239.length c21] from (Kd.FK_slice_mk (Kd.V_reads' (Kd.V_mono (ok' := (fun k_ => ((P0_ k_ ∨ P1_ k_) ∨ w.heap.size ≤ k_) ∧ k_ ≠ gb236 ∧ k_ ≠ gb237)) (HO243.out) (fun k_ hk => ⟨hk.1, ⟨hk.2.1, hk.2.2⟩⟩))).2.1 (Kd.V_F (Kd.V_mono (ok' := (fun k_ => ((P0_ k_ ∨ P1_ k_) ∨ w.heap.size ≤ k_) ∧ k_ ≠ gb236 ∧ k_ ≠ gb237)) (HO243.out) (fun k_ hk => ⟨hk.1, ⟨hk.2.1, hk.2.2⟩⟩))))) (Reps.none _ _)))); intro v245 w1015 ho1016 hb hg_ hnew_; clear hg_ hnew_; (first | rw [← Ny244.out] at ho1016 | (simp only [Int.reduceToNat] at ho1016; rw [← Ny244.out] at ho1016)); have n0_ := Aside0.mk (Kd.V_elder' (vk_ HO0.out) (Kd.N_base ho1016) hb); have n1_ := Aside0.mk (Kd.V_elder' (vk_ HO1.out) (Kd.N_base ho1016) hb); have n2_ := Aside0.mk (Kd.V_elder' (vk_ HO243.out) (Kd.N_base ho1016) hb); have n3_ := Aside0.mk (Kd.N_lower ho1016 (below_size (bws_ HB.out))); have n4_ := Aside0.mk (blk_below (bk_ BK236.out) hb); have n5_ := Aside0.mk (blk_below (bk_ BK237.out) hb); have n6_ := Aside0.mk (below_step (bws_ HB.out) hb); clear HO0; clear HO1; clear HO243; clear BK236; clear BK237; clear HB; have HO0 := n0_; have HO1 := n1_; have HO243 := n2_; have HO246 := n3_; have BK236 := n4_; have BK237 := n5_; have HB := n6_; clear n0_ n1_ n2_ n3_ n4_ n5_ n6_; clear hb ho1016; obtain ⟨Ao24, co24, eo24⟩ := Kd.N_slice HO246.out; subst eo24) | ((with_reducible refine gate_callee (f := 56) rfl ?_); refine goesL_ (some 26) rfl rfl Try.func56 (by kernel_rfl) rfl #[.slice Ao24 y244.length co24] rfl gl_ ?_; (with_reducible refine (impl_Place_56.calls k _ _ y244 t247 _ ?side1 ?side2 A10.out).mono ?_); (case side1 => repeat (first | exact (Kd.N_reads' HO246.out).2.2 | (with_reducible refine Kd.C_alloc ?_ _) | (with_reducible refine Kd.C_drewN ?_ _) | (with_reducible refine Kd.C_drew ?_))); (case side2 => exact (Kd.N_reads' HO246.out).2.1); rintro e w1017 ⟨v248, rfl, ho1018, hb⟩; refine ⟨_, rfl, ?_⟩; have n0_ := Aside0.mk (Kd.V_elder' (vk_ HO0.out) (Kd.R_base ho1018) hb); have n1_ := Aside0.mk (Kd.V_elder' (vk_ HO1.out) (Kd.R_base ho1018) hb); have n2_ := Aside0.mk (Kd.V_elder' (vk_ HO243.out) (Kd.R_base ho1018) hb); have n3_ := Aside0.mk (Kd.N_elder' (by (with_reducible repeat (first | apply Kd.N_alloc | apply Kd.N_drewN | apply Kd.N_drew)); exact HO246.out) (Kd.R_base ho1018) hb); have n4_ := Aside0.mk (Kd.R_lower (Kd.R_newB (Kd.R_newB (Kd.R_newM (M := fun k_ => (w.heap.size ≤ k_)) ho1018 (below_size (bws_ HB.out)) (fun k_ h_ => h_)) (g := gb236) (o := .cells #[.int .i64 ((rd_T49 l0 0).f0), .int .i64 ((rd_T49 l0 0).f1)] 49 (0, 0)) (bk_ BK236.out)) (g := gb237) (o := .cells #[.int .i64 ((rd_T49 l0 (ji4)).f0), .int .i64 ((rd_T49 l0 (ji4)).f1)] 49 (0, 0)) (bk_ BK237.out)) (below_size (bws_ HB.out))); have n5_ := Aside0.mk (blk_below (bk_ BK236.out) hb); have n6_ := Aside0.mk (blk_below (bk_ BK237.out) hb); have n7_ := Aside0.mk (below_step (bws_ HB.out) hb); clear HO0; clear HO1; clear HO243; clear HO246; clear BK236; clear BK237; clear HB; have HO0 := n0_; have HO1 := n1_; have HO243 := n2_; have HO246 := n3_; have HO249 := n4_; have BK236 := n5_; have BK237 := n6_; have HB := n7_; clear n0_ n1_ n2_ n3_ n4_ n5_ n6_ n7_; (try clear hb); (try clear hb1019); (try clear hk); (try clear hi); (try clear ho1018)))
       go_ret
       exact ⟨_, by first | rfl | (simp [errW_none, errW_some] <;> rfl) | (simp only [← hji4]; first | rfl | (simp [errW_none, errW_some] <;> rfl)) | (simp [*, errW_none, errW_some] <;> rfl), by (with_reducible repeat (first | apply Kd.R_alloc | apply Kd.R_drewN | apply Kd.R_drew)); exact Kd.R_mono HO249.out (fun _ hk => hk.1.1.1), by repeat (first | (with_reducible first | exact HB.out | apply below_alloc | apply pw_below_drewN | apply below_drew1 | refine below_set ?_ GE236.out | refine below_set ?_ GE237.out) | exact HB.out), by first | exact fun hr_ => absurd hr_ HNZ.out | exact fun hr_ => absurd hr_ NZ_.out | exact fun _ => rfl | rfl | (simp; done) | (intro _; first | rfl | (simp; done))⟩
      ·rw [if_neg c9] at H
       exact absurd H (by simp)
     ·rw [if_neg c8] at H
      have c8b0 : (((rd_T49 l0 (ji4)).f0) == ((rd_T49 l1 0).f0) && (((rd_T49 l0 (ji4)).f1) == ((rd_T49 l1 0).f1))) = false := by simpa using c8
      (try (have c8b1 : decide (((rd_T49 l0 (ji4)).f0) = ((rd_T49 l1 0).f0) && (((rd_T49 l0 (ji4)).f1) == ((rd_T49 l1 0).f1))) = false := by simpa using c8))
      (try (have c8b2 : (((rd_T49 l0 (ji4)).f0) == ((rd_T49 l1 0).f0) && (((rd_T49 l0 (ji4)).f1) == ((rd_T49 l1 0).f1))) = false := by simpa using c8))
      (try (have c8b3 : ¬ (((rd_T49 l0 (ji4)).f0) = ((rd_T49 l1 0).f0) && (((rd_T49 l0 (ji4)).f1) == ((rd_T49 l1 0).f1))) := by simpa using c8))
      clear c8
      obtain ⟨ji26, hji26⟩ : ∃ j_ : Int, (wrap64 ((l1.length : Int) - 1)) = j_ := ⟨_, rfl⟩
      replace H : (if 0 ≤ (ji26) then (if (ji26) < (l1.length : Int) then (if (((rd_T49 l0 (ji4)).f0) == ((rd_T49 l1 (ji26)).f0) && (((rd_T49 l0 (ji4)).f1) == ((rd_T49 l1 (ji26)).f1))) = true then ((impl_reversed.f k l1).bind fun t251 => (if 1 ≤ (t251.length : Int) then ((impl_Place_56.f k (([l0, (t251.drop 1)] : List (List (S49))))).bind fun t262 => (if 0 < (t262.length : Int) then (some t262) else none)) else (none))) else (if (((rd_T49 l0 0).f0) == ((rd_T49 l1 (ji26)).f0) && (((rd_T49 l0 0).f1) == ((rd_T49 l1 (ji26)).f1))) = true then (if 1 ≤ (l0.length : Int) then ((impl_Place_56.f k (([l1, (l0.drop 1)] : List (List (S49))))).bind fun t274 => (if 0 < (t274.length : Int) then (some t274) else none)) else (none)) else (if (((rd_T49 l0 0).f0) == ((rd_T49 l1 0).f0) && (((rd_T49 l0 0).f1) == ((rd_T49 l1 0).f1))) = true then ((impl_reversed.f k l1).bind fun t278 => (if 1 ≤ (l0.length : Int) then ((impl_Place_56.f k (([t278, (l0.drop 1)] : List (List (S49))))).bind fun t289 => (if 0 < (t289.length : Int) then (some t289) else none)) else (none))) else (some ([] : List (S49)))))) else (none)) else (none)) = some r := by first | (rw [hji26] at H; exact H) | (simp only [hji26] at H ⊢; exact H)
      (try rw [hji26] at hji25)
      (try rw [hji26] at hji25w)
      have hji26w : (IntKind.i64.wrap ((l1.length : Int) - 1)) = ji26 := (i64_w _).trans hji26
      (try rw [c8b0])
      (try rw [c8b1])
      (try rw [c8b2])
      (try rw [c8b3])
      by_cases c27 : 0 ≤ (ji26)
      ·rw [if_pos c27] at H
       have c27b0 : decide (0 ≤ (ji26)) = true := decide_eq_true c27
       clear c27
       by_cases c28 : (ji26) < (l1.length : Int)
       ·rw [if_pos c28] at H
        have c28b0 : decide ((ji26) < (l1.length : Int)) = true := decide_eq_true c28
        clear c28
        try go_wp2
        have n0_ := Aside0.mk (Kd.V_drew HO0.out)
        have n1_ := Aside0.mk (Kd.V_drew HO1.out)
        have n2_ := Aside0.mk (blk_drew BK236.out)
        have n3_ := Aside0.mk (blk_drew BK237.out)
        have n4_ := Aside0.mk (below_drew1 HB.out)
        clear HO0 HO1 BK236 BK237 HB
        have HO0 := n0_; have HO1 := n1_; have BK236 := n2_; have BK237 := n3_; have HB := n4_
        clear n0_ n1_ n2_ n3_ n4_
        have p250 : 0 ≤ ((ji26) : Int) := od_
        have q250 : (ji26) < (l1.length : Int) := od_
        obtain ⟨ad250, e250, hx1013_0, hx1013_1⟩ := at_T49 (Kd.V_reads' HO1.out).2.2 (ji26) p250 q250
        obtain rfl : ad238 = ad250 := (by injection e250)
        replace p250 := eq_true p250
        replace q250 := eq_true q250
        refine start_ (n := 9) (S := fun w' => w'.cell? ⟨gb237, 0, none⟩ = some (.int .i64 ((rd_T49 l0 (ji4)).f0)) ∧ w'.cell? ⟨gb237, 1, none⟩ = some (.int .i64 ((rd_T49 l0 (ji4)).f1)) ∧ w'.cell? (ad238.add (((ji26)).toNat * 2)) = some (.int .i64 ((rd_T49 l1 (ji26)).f0)) ∧ w'.cell? ⟨(ad238.add (((ji26)).toNat * 2)).block, (ad238.add (((ji26)).toNat * 2)).off + 1, none⟩ = some (.int .i64 ((rd_T49 l1 (ji26)).f1))) (ds := []) #[false, false, false, false, false, false, false, false, false] (by kernel_rfl) rfl rfl ⟨(blk_cell BK237.out 0).trans rfl, (blk_cell BK237.out 1).trans rfl, hx1013_0, hx1013_1⟩ (fun hHeld => ?_); refine with_tabW impl_join.tab4 impl_join.bits4 (fun HT_ HW_ => ?_)
        generalize w1012.drew = w1014 at HO0 HO1 BK236 BK237 HB hx1013_0 hx1013_1 hHeld ⊢
        refine pure_ (i := 1) (N := some 29) (v := ?_) (a' := ?_) #[false, true, false, false, false, false, false, false, false] rfl rfl (any_of HT_.out (by kernel_rfl)) (fun _ _ _ h => h) (Or.inl ⟨by rfl, ?_⟩) ?_ ?_
        rotate_left
        ·intro w'
         go_simp
         with_reducible rfl
        rotate_left
        ·simp only [Act.put, List.setIfInBounds_toArray, List.set_cons_zero, List.set_cons_succ, i64_w, i32_w]
         rfl
        refine pure_ (i := 2) (N := some 30) (v := ?_) (a' := ?_) #[false, true, true, false, false, false, false, false, false] rfl rfl (any_of HT_.out (by kernel_rfl)) (fun _ _ _ h => h) (Or.inl ⟨by rfl, ?_⟩) ?_ ?_
        rotate_left
        ·intro w'
         go_simp
         with_reducible rfl
        rotate_left
        ·simp only [Act.put, List.setIfInBounds_toArray, List.set_cons_zero, List.set_cons_succ, i64_w, i32_w]
         rfl
        refine pure_ (i := 3) (N := some 31) (v := ?_) (a' := ?_) #[false, true, true, true, false, false, false, false, false] rfl rfl (any_of HT_.out (by kernel_rfl)) (fun _ _ _ h => h) (Or.inl ⟨by rfl, ?_⟩) ?_ ?_
        rotate_left
        ·intro w'
         go_simp
         with_reducible rfl
        rotate_left
        ·simp only [Act.put, List.setIfInBounds_toArray, List.set_cons_zero, List.set_cons_succ, i64_w, i32_w]
         rfl
        refine pure_ (i := 4) (N := some 32) (v := ?_) (a' := ?_) #[false, true, true, true, true, false, false, false, false] rfl rfl (any_of HT_.out (by kernel_rfl)) (fun _ _ _ h => h) (Or.inl ⟨by rfl, ?_⟩) ?_ ?_
        rotate_left
        ·intro w'
         go_simp
         with_reducible rfl
        rotate_left
        ·simp only [Act.put, List.setIfInBounds_toArray, List.set_cons_zero, List.set_cons_succ, i64_w, i32_w]
         rfl
        refine pure_ (i := 5) (N := some 33) (v := ?_) (a' := ?_) #[false, true, true, true, true, true, false, false, false] rfl rfl (any_of HT_.out (by kernel_rfl)) (fun _ _ _ h => h) (Or.inl ⟨by rfl, ?_⟩) ?_ ?_
        rotate_left
        ·intro w'
         go_simp
         with_reducible rfl
        rotate_left
        ·simp only [Act.put, List.setIfInBounds_toArray, List.set_cons_zero, List.set_cons_succ, i64_w, i32_w]
         rfl
        refine take_ (i := 0) (N := some 28) (v := ?_) (a' := ?_) #[true, true, true, true, true, true, false, false, false] rfl rfl (take_ofW HT_.out HW_.out (by kernel_rfl)) (fun _ _ _ h => h) (Or.inl ⟨by rfl, ?_⟩) hHeld ?_ ?_
        rotate_left
        ·rintro w' ⟨s0, s1, s2, s3⟩
         go_simp
         with_reducible rfl
        rotate_left
        ·simp only [Act.put, List.setIfInBounds_toArray, List.set_cons_zero, List.set_cons_succ, i64_w, i32_w]
         rfl
        refine take_ (i := 6) (N := some 34) (v := ?_) (a' := ?_) #[true, true, true, true, true, true, true, false, false] rfl rfl (take_ofW HT_.out HW_.out (by kernel_rfl)) (fun _ _ _ h => h) (Or.inl ⟨by rfl, ?_⟩) hHeld ?_ ?_
        rotate_left
        ·rintro w' ⟨s0, s1, s2, s3⟩
         go_simp
         with_reducible rfl
        rotate_left
        ·simp only [Act.put, List.setIfInBounds_toArray, List.set_cons_zero, List.set_cons_succ, i64_w, i32_w]
         rfl
        refine pure_ (i := 7) (N := some 35) (v := ?_) (a' := ?_) #[true, true, true, true, true, true, true, true, false] rfl rfl (any_of HT_.out (by kernel_rfl)) (fun _ _ _ h => h) (Or.inl ⟨by rfl, ?_⟩) ?_ ?_
        rotate_left
        ·intro w'
         go_simp
         with_reducible rfl
        rotate_left
        ·simp only [Act.put, List.setIfInBounds_toArray, List.set_cons_zero, List.set_cons_succ, i64_w, i32_w]
         rfl
        refine pure_ (i := 8) (N := some 27) (v := ?_) (a' := ?_) #[true, true, true, true, true, true, true, true, true] rfl rfl (any_of HT_.out (by kernel_rfl)) (fun _ _ _ h => h) (Or.inl ⟨by rfl, ?_⟩) ?_ ?_
        rotate_left
        ·intro w'
         go_simp
         with_reducible rfl
        rotate_left
        ·simp only [Act.put, List.setIfInBounds_toArray, List.set_cons_zero, List.set_cons_succ, i64_w, i32_w]
         rfl
        refine done_ (done_of HT_.out (by kernel_rfl)) ?_
        by_cases c29 : (((rd_T49 l0 (ji4)).f0) == ((rd_T49 l1 (ji26)).f0) && (((rd_T49 l0 (ji4)).f1) == ((rd_T49 l1 (ji26)).f1))) = true
        ·rw [if_pos c29] at H
         have c29b0 : (((rd_T49 l0 (ji4)).f0) == ((rd_T49 l1 (ji26)).f0) && (((rd_T49 l0 (ji4)).f1) == ((rd_T49 l1 (ji26)).f1))) = true := c29
         (try (have c29b1 : decide (((rd_T49 l0 (ji4)).f0) = ((rd_T49 l1 (ji26)).f0) && (((rd_T49 l0 (ji4)).f1) == ((rd_T49 l1 (ji26)).f1))) = true := by simpa using c29))
         (try (have c29b2 : (((rd_T49 l0 (ji4)).f0) == ((rd_T49 l1 (ji26)).f0) && (((rd_T49 l0 (ji4)).f1) == ((rd_T49 l1 (ji26)).f1))) = true := by simpa using c29))
         clear c29
         replace H := Option.bind_eq_some_iff.mp H
         obtain ⟨t251, A300, H⟩ := H
         replace H : (if 1 ≤ (t251.length : Int) then ((impl_Place_56.f k (([l0, (t251.drop 1)] : List (List (S49))))).bind fun t262 => (if 0 < (t262.length : Int) then (some t262) else none)) else (none)) = some r := H
         have A30 := Aside0.mk A300
         clear A300
         (try rw [c29b0])
         (try rw [c29b1])
         (try rw [c29b2])
         by_cases c31 : 1 ≤ (t251.length : Int)
         ·rw [if_pos c31] at H
          have c31b0 := eq_true c31
          have c31b1 : decide (1 ≤ (t251.length : Int)) = true := decide_eq_true c31
          clear c31
          obtain ⟨y254, hy254⟩ : ∃ y_ : List (S49), y_ = (t251.drop 1) := ⟨_, rfl⟩
          replace H : ((impl_Place_56.f k (([l0, y254] : List (List (S49))))).bind fun t262 => (if 0 < (t262.length : Int) then (some t262) else none)) = some r := by first | (rw [hy254]; with_reducible exact H) | (have H2_ := (Option.bind_some _ _).symm.trans H; rw [hy254]; with_reducible exact H2_) | (have H2_ := (Option.bind_some _ _).symm.trans H; with_reducible exact H2_) | with_reducible exact H | (rw [hy254]; exact H) | exact H
          have Ny254 := Aside0.mk hy254
          clear hy254
          obtain ⟨y259, hy259⟩ : ∃ y_ : List (List (S49)), y_ = (([l0, y254] : List (List (S49)))) := ⟨_, rfl⟩
          replace H : ((impl_Place_56.f k y259).bind fun t262 => (if 0 < (t262.length : Int) then (some t262) else none)) = some r := by first | (rw [hy259]; with_reducible exact H) | (have H2_ := (Option.bind_some _ _).symm.trans H; rw [hy259]; with_reducible exact H2_) | (have H2_ := (Option.bind_some _ _).symm.trans H; with_reducible exact H2_) | with_reducible exact H | (rw [hy259]; exact H) | exact H
          have Ny259 := Aside0.mk hy259
          clear hy259
          replace H := Option.bind_eq_some_iff.mp H
          obtain ⟨t262, A320, H⟩ := H
          replace H : (if 0 < (t262.length : Int) then (some t262) else none) = some r := H
          have hnz_ : 0 < (t262.length : Int) := by
           by_cases hz_ : 0 < (t262.length : Int)
           ·exact hz_
           ·rw [if_neg hz_] at H; cases H
          rw [if_pos hnz_] at H
          have HNZ := Aside0.mk (show t262 ≠ [] from fun h_ => by rw [h_] at hnz_; simp at hnz_)
          clear hnz_
          have A32 := Aside0.mk A320
          clear A320
          obtain rfl := Option.some.inj H
          try go_wp2_with (first | ((with_reducible refine gate_callee (f := 57) rfl ?_); refine goesL_ (some 38) rfl rfl Try.func57 (by kernel_rfl) rfl #[.slice (some ad238) l1.length c1] rfl gl_ ?_; (with_reducible refine (impl_reversed.calls k _ _ l1 t251 _ ?side1 ?side2 A30.out).mono ?_); (case side1 => repeat (first | exact (Kd.V_reads' HO1.out).2.2 | (with_reducible refine Kd.C_alloc ?_ _) | (with_reducible refine Kd.C_drewN ?_ _) | (with_reducible refine Kd.C_drew ?_))); (case side2 => exact (Kd.V_reads' HO1.out).2.1); rintro e w1015 ⟨v252, rfl, ho1016, hb⟩; refine ⟨_, rfl, ?_⟩; have n0_ := Aside0.mk (Kd.V_elder' (vk_ HO0.out) (Kd.R_base ho1016) hb); have n1_ := Aside0.mk (Kd.V_elder' (vk_ HO1.out) (Kd.R_base ho1016) hb); have n2_ := Aside0.mk (Kd.R_lower (Kd.R_newB (Kd.R_newB (Kd.R_newM (M := fun k_ => (w.heap.size ≤ k_)) ho1016 (below_size (bws_ HB.out)) (fun k_ h_ => h_)) (g := gb236) (o := .cells #[.int .i64 ((rd_T49 l0 0).f0), .int .i64 ((rd_T49 l0 0).f1)] 49 (0, 0)) (bk_ BK236.out)) (g := gb237) (o := .cells #[.int .i64 ((rd_T49 l0 (ji4)).f0), .int .i64 ((rd_T49 l0 (ji4)).f1)] 49 (0, 0)) (bk_ BK237.out)) (below_size (bws_ HB.out))); have n3_ := Aside0.mk (blk_below (bk_ BK236.out) hb); have n4_ := Aside0.mk (blk_below (bk_ BK237.out) hb); have n5_ := Aside0.mk (below_step (bws_ HB.out) hb); clear HO0; clear HO1; clear BK236; clear BK237; clear HB; have HO0 := n0_; have HO1 := n1_; have HO253 := n2_; have BK236 := n3_; have BK237 := n4_; have HB := n5_; clear n0_ n1_ n2_ n3_ n4_ n5_; (try clear hb); (try clear hb1017); (try clear hk); (try clear hi); (try clear ho1016); obtain ⟨Ao46, co46, eo46⟩ := Kd.R_slice HO253.out; subst eo46; have q45 : (1 : Int) ≤ ((t251.length : Int) : Int) := od_; obtain ⟨i045, hi1018, _, hsz1019, _⟩ := info_parts info49; have hroom1019 : t251.length ≤ co46 := (Kd.R_reads' HO253.out).2.1; have hC45 : Kd.F k49 _ _ Ao46 t251.length t251 := (Kd.V_at (base := w.heap.size) (Kd.V_mono (ok' := (fun k_ => (((((P0_ k_ ∨ P1_ k_) ∨ w.heap.size ≤ k_) ∧ True) ∧ k_ ≠ gb236) ∧ k_ ≠ gb237))) (Kd.R_V HO253.out) (fun k_ hk => ⟨⟨⟨(.inr (hk.1.1.1)), trivial⟩, hk.1.2⟩, hk.2⟩))).2.2; have hcut1019 := cut_from (P := Try.prog) 34 49 .i64 Try.underlying34 hi1018 2 hsz1019 Ao46 t251.length co46 1 (by omega) q45; have hr1019 := Kd.F_cut (m := (1 : Int).toNat) (c := co46) hC45 (by omega) hroom1019; obtain ⟨A45, hA45⟩ : ∃ A_z, A_z = (if co46 = (1 : Int).toNat then Ao46 else (Ao46 : Option Addr).map (·.add ((1 : Int).toNat * 2))) := ⟨_, rfl⟩; obtain ⟨c45, hc1019⟩ : ∃ c_z, c_z = co46 - (1 : Int).toNat := ⟨_, rfl⟩; have hy1019 : y254.length = t251.length - (1 : Int).toNat := (by rw [Ny254.out, List.length_drop] <;> omega); rw [show (t251).drop (1 : Int).toNat = y254 from Ny254.out.symm] at hr1019; replace hr1019 : Kd.F k49 _ _ A45 y254.length y254 := (by rw [hA45]; exact hr1019); rw [← hy1019, ← hA45, ← hc1019] at hcut1019; have HO258 := Aside0.mk (show Kd.V k49 49 _ w.heap.size _ (.slice A45 y254.length c45) y254 from Kd.V_mk (by rw [hy1019, hc1019]; exact Nat.sub_le_sub_right hroom1019 _) hr1019); have HC258 := Aside0.mk (show y254.length ≤ c45 from by rw [hy1019, hc1019]; exact Nat.sub_le_sub_right hroom1019 _); clear hr1019 hC45 hroom1019 hi1018 hsz1019 hc1019; have KY45 := Aside0.mk hy1019; have KA45 := Aside0.mk hA45; clear hy1019 hA45; replace q45 := eq_true q45) | ((with_reducible refine gate_dst (N := 40) rfl ?_); refine Kd.N_lit (Kd.slice 49 k49) _ 34 ?hg (N' := 40) ?hd (xs := ([l0, y254] : List (List (S49)))) (inner := [.slice (some ad234) l0.length c0, .slice A45 y254.length c45]) (ok := (fun k_ => ((P0_ k_ ∨ P1_ k_) ∨ w.heap.size ≤ k_) ∧ k_ ≠ gb236 ∧ k_ ≠ gb237)) (okp := (fun k_ => ((P0_ k_ ∨ P1_ k_) ∨ w.heap.size ≤ k_) ∧ k_ ≠ gb236 ∧ k_ ≠ gb237)) ?hr ?hp (fun _ hk => hk) ((show ∀ k_, w1015.heap.size ≤ k_ → (fun k_ => ((P0_ k_ ∨ P1_ k_) ∨ w.heap.size ≤ k_) ∧ k_ ≠ gb236 ∧ k_ ≠ gb237) k_ from fun k_ hk => ⟨(.inr (Nat.le_trans (below_size (bws_ HB.out)) hk)), Kd.freshB (g := gb236) (o := .cells #[.int .i64 ((rd_T49 l0 0).f0), .int .i64 ((rd_T49 l0 0).f1)] 49 (0, 0)) (bk_ BK236.out) k_ hk, Kd.freshB (g := gb237) (o := .cells #[.int .i64 ((rd_T49 l0 (ji4)).f0), .int .i64 ((rd_T49 l0 (ji4)).f1)] 49 (0, 0)) (bk_ BK237.out) k_ hk⟩) _ (Nat.le_refl _)) (Below.refl _ _) (Nat.le_refl _) (by simp) ?_; (case hd => rfl); (case hg => rfl); (case hr => first | (go_simp; done) | (go_simp; rfl)); (case hp => exact (Reps.one (show Kd.FK (Kd.slice 49 k49) _ _ l0 [.slice (some ad234) l0.length c0] from (Kd.FK_slice_mk (Kd.V_reads' (Kd.V_mono (ok' := (fun k_ => ((P0_ k_ ∨ P1_ k_) ∨ w.heap.size ≤ k_) ∧ k_ ≠ gb236 ∧ k_ ≠ gb237)) (HO0.out) (fun k_ hk => ⟨hk.1.1, ⟨hk.1.2.1, hk.1.2.2⟩⟩))).2.1 (Kd.V_F (Kd.V_mono (ok' := (fun k_ => ((P0_ k_ ∨ P1_ k_) ∨ w.heap.size ≤ k_) ∧ k_ ≠ gb236 ∧ k_ ≠ gb237)) (HO0.out) (fun k_ hk => ⟨hk.1.1, ⟨hk.1.2.1, hk.1.2.2⟩⟩))))) (Reps.one (show Kd.FK (Kd.slice 49 k49) _ _ y254 [.slice A45 y254.length c45] from (Kd.FK_slice_mk (Kd.V_reads' (Kd.V_mono (ok' := (fun k_ => ((P0_ k_ ∨ P1_ k_) ∨ w.heap.size ≤ k_) ∧ k_ ≠ gb236 ∧ k_ ≠ gb237)) (HO258.out) (fun k_ hk => ⟨hk.1.1.1, ⟨hk.1.2, hk.2⟩⟩))).2.1 (Kd.V_F (Kd.V_mono (ok' := (fun k_ => ((P0_ k_ ∨ P1_ k_) ∨ w.heap.size ≤ k_) ∧ k_ ≠ gb236 ∧ k_ ≠ gb237)) (HO258.out) (fun k_ hk => ⟨hk.1.1.1, ⟨hk.1.2, hk.2⟩⟩))))) (Reps.none _ _)))); intro v260 w1020 ho1021 hb hg_ hnew_; clear hg_ hnew_; (first | rw [← Ny259.out] at ho1021 | (simp only [Int.reduceToNat] at ho1021; rw [← Ny259.out] at ho1021)); have n0_ := Aside0.mk (Kd.V_elder' (vk_ HO0.out) (Kd.N_base ho1021) hb); have n1_ := Aside0.mk (Kd.V_elder' (vk_ HO1.out) (Kd.N_base ho1021) hb); have n2_ := Aside0.mk (Kd.R_below (by (with_reducible repeat (first | apply Kd.R_alloc | apply Kd.R_drewN | apply Kd.R_drew)); exact HO253.out) hb); have n3_ := Aside0.mk (Kd.V_elder' (vk_ HO258.out) (Kd.N_base ho1021) hb); have n4_ := Aside0.mk (Kd.N_lower ho1021 (below_size (bws_ HB.out))); have n5_ := Aside0.mk (blk_below (bk_ BK236.out) hb); have n6_ := Aside0.mk (blk_below (bk_ BK237.out) hb); have n7_ := Aside0.mk (below_step (bws_ HB.out) hb); clear HO0; clear HO1; clear HO253; clear HO258; clear BK236; clear BK237; clear HB; have HO0 := n0_; have HO1 := n1_; have HO253 := n2_; have HO258 := n3_; have HO261 := n4_; have BK236 := n5_; have BK237 := n6_; have HB := n7_; clear n0_ n1_ n2_ n3_ n4_ n5_ n6_ n7_; clear hb ho1021; obtain ⟨Ao49, co49, eo49⟩ := Kd.N_slice HO261.out; subst eo49) | ((with_reducible refine gate_callee (f := 56) rfl ?_); refine goesL_ (some 41) rfl rfl Try.func56 (by kernel_rfl) rfl #[.slice Ao49 y259.length co49] rfl gl_ ?_; (with_reducible refine (impl_Place_56.calls k _ _ y259 t262 _ ?side1 ?side2 A32.out).mono ?_); (case side1 => repeat (first | exact (Kd.N_reads' HO261.out).2.2 | (with_reducible refine Kd.C_alloc ?_ _) | (with_reducible refine Kd.C_drewN ?_ _) | (with_reducible refine Kd.C_drew ?_))); (case side2 => exact (Kd.N_reads' HO261.out).2.1); rintro e w1022 ⟨v263, rfl, ho1016, hb⟩; refine ⟨_, rfl, ?_⟩; have n0_ := Aside0.mk (Kd.V_elder' (vk_ HO0.out) (Kd.R_base ho1016) hb); have n1_ := Aside0.mk (Kd.V_elder' (vk_ HO1.out) (Kd.R_base ho1016) hb); have n2_ := Aside0.mk (Kd.R_elder' (by (with_reducible repeat (first | apply Kd.R_alloc | apply Kd.R_drewN | apply Kd.R_drew)); exact HO253.out) (Kd.R_base ho1016) hb); have n3_ := Aside0.mk (Kd.V_elder' (vk_ HO258.out) (Kd.R_base ho1016) hb); have n4_ := Aside0.mk (Kd.N_elder' (by (with_reducible repeat (first | apply Kd.N_alloc | apply Kd.N_drewN | apply Kd.N_drew)); exact HO261.out) (Kd.R_base ho1016) hb); have n5_ := Aside0.mk (Kd.R_lower (Kd.R_newB (Kd.R_newB (Kd.R_new' (Kd.R_newM (M := fun k_ => (w.heap.size ≤ k_)) ho1016 (below_size (bws_ HB.out)) (fun k_ h_ => h_)) (Kd.R_lt (by (with_reducible repeat (first | apply Kd.R_alloc | apply Kd.R_drewN | apply Kd.R_drew)); exact HO253.out))) (g := gb236) (o := .cells #[.int .i64 ((rd_T49 l0 0).f0), .int .i64 ((rd_T49 l0 0).f1)] 49 (0, 0)) (bk_ BK236.out)) (g := gb237) (o := .cells #[.int .i64 ((rd_T49 l0 (ji4)).f0), .int .i64 ((rd_T49 l0 (ji4)).f1)] 49 (0, 0)) (bk_ BK237.out)) (below_size (bws_ HB.out))); have n6_ := Aside0.mk (blk_below (bk_ BK236.out) hb); have n7_ := Aside0.mk (blk_below (bk_ BK237.out) hb); have n8_ := Aside0.mk (below_step (bws_ HB.out) hb); clear HO0; clear HO1; clear HO253; clear HO258; clear HO261; clear BK236; clear BK237; clear HB; have HO0 := n0_; have HO1 := n1_; have HO253 := n2_; have HO258 := n3_; have HO261 := n4_; have HO264 := n5_; have BK236 := n6_; have BK237 := n7_; have HB := n8_; clear n0_ n1_ n2_ n3_ n4_ n5_ n6_ n7_ n8_; (try clear hb); (try clear hb1017); (try clear hk); (try clear hi); (try clear ho1016)))
          go_ret
          exact ⟨_, by first | rfl | (simp [errW_none, errW_some] <;> rfl) | (simp only [← hji4, ← hji26]; first | rfl | (simp [errW_none, errW_some] <;> rfl)) | (simp [*, errW_none, errW_some] <;> rfl), by (with_reducible repeat (first | apply Kd.R_alloc | apply Kd.R_drewN | apply Kd.R_drew)); exact Kd.R_mono HO264.out (fun _ hk => hk.1.1.1.1), by repeat (first | (with_reducible first | exact HB.out | apply below_alloc | apply pw_below_drewN | apply below_drew1 | refine below_set ?_ GE236.out | refine below_set ?_ GE237.out) | exact HB.out), by first | exact fun hr_ => absurd hr_ HNZ.out | exact fun hr_ => absurd hr_ NZ_.out | exact fun _ => rfl | rfl | (simp; done) | (intro _; first | rfl | (simp; done))⟩
         ·rw [if_neg c31] at H
          exact absurd H (by simp)
        ·rw [if_neg c29] at H
         have c29b0 : (((rd_T49 l0 (ji4)).f0) == ((rd_T49 l1 (ji26)).f0) && (((rd_T49 l0 (ji4)).f1) == ((rd_T49 l1 (ji26)).f1))) = false := by simpa using c29
         (try (have c29b1 : decide (((rd_T49 l0 (ji4)).f0) = ((rd_T49 l1 (ji26)).f0) && (((rd_T49 l0 (ji4)).f1) == ((rd_T49 l1 (ji26)).f1))) = false := by simpa using c29))
         (try (have c29b2 : (((rd_T49 l0 (ji4)).f0) == ((rd_T49 l1 (ji26)).f0) && (((rd_T49 l0 (ji4)).f1) == ((rd_T49 l1 (ji26)).f1))) = false := by simpa using c29))
         (try (have c29b3 : ¬ (((rd_T49 l0 (ji4)).f0) = ((rd_T49 l1 (ji26)).f0) && (((rd_T49 l0 (ji4)).f1) == ((rd_T49 l1 (ji26)).f1))) := by simpa using c29))
         clear c29
         (try rw [c29b0])
         (try rw [c29b1])
         (try rw [c29b2])
         (try rw [c29b3])
         try go_wp2
         have n0_ := Aside0.mk (Kd.V_drew HO0.out)
         have n1_ := Aside0.mk (Kd.V_drew HO1.out)
         have n2_ := Aside0.mk (blk_drew BK236.out)
         have n3_ := Aside0.mk (blk_drew BK237.out)
         have n4_ := Aside0.mk (below_drew1 HB.out)
         clear HO0 HO1 BK236 BK237 HB
         have HO0 := n0_; have HO1 := n1_; have BK236 := n2_; have BK237 := n3_; have HB := n4_
         clear n0_ n1_ n2_ n3_ n4_
         have p265 : 0 ≤ ((ji26) : Int) := od_
         have q265 : (ji26) < (l1.length : Int) := od_
         obtain ⟨ad265, e265, hx1015_0, hx1015_1⟩ := at_T49 (Kd.V_reads' HO1.out).2.2 (ji26) p265 q265
         obtain rfl : ad238 = ad265 := (by injection e265)
         replace p265 := eq_true p265
         replace q265 := eq_true q265
         refine start_ (n := 9) (S := fun w' => w'.cell? ⟨gb236, 0, none⟩ = some (.int .i64 ((rd_T49 l0 0).f0)) ∧ w'.cell? ⟨gb236, 1, none⟩ = some (.int .i64 ((rd_T49 l0 0).f1)) ∧ w'.cell? (ad238.add (((ji26)).toNat * 2)) = some (.int .i64 ((rd_T49 l1 (ji26)).f0)) ∧ w'.cell? ⟨(ad238.add (((ji26)).toNat * 2)).block, (ad238.add (((ji26)).toNat * 2)).off + 1, none⟩ = some (.int .i64 ((rd_T49 l1 (ji26)).f1))) (ds := []) #[false, false, false, false, false, false, false, false, false] (by kernel_rfl) rfl rfl ⟨(blk_cell BK236.out 0).trans rfl, (blk_cell BK236.out 1).trans rfl, hx1015_0, hx1015_1⟩ (fun hHeld => ?_); refine with_tabW impl_join.tab6 impl_join.bits6 (fun HT_ HW_ => ?_)
         generalize w1014.drew = w1016 at HO0 HO1 BK236 BK237 HB hx1015_0 hx1015_1 hHeld ⊢
         refine pure_ (i := 1) (N := some 44) (v := ?_) (a' := ?_) #[false, true, false, false, false, false, false, false, false] rfl rfl (any_of HT_.out (by kernel_rfl)) (fun _ _ _ h => h) (Or.inl ⟨by rfl, ?_⟩) ?_ ?_
         rotate_left
         ·intro w'
          go_simp
          with_reducible rfl
         rotate_left
         ·simp only [Act.put, List.setIfInBounds_toArray, List.set_cons_zero, List.set_cons_succ, i64_w, i32_w]
          rfl
         refine pure_ (i := 2) (N := some 45) (v := ?_) (a' := ?_) #[false, true, true, false, false, false, false, false, false] rfl rfl (any_of HT_.out (by kernel_rfl)) (fun _ _ _ h => h) (Or.inl ⟨by rfl, ?_⟩) ?_ ?_
         rotate_left
         ·intro w'
          go_simp
          with_reducible rfl
         rotate_left
         ·simp only [Act.put, List.setIfInBounds_toArray, List.set_cons_zero, List.set_cons_succ, i64_w, i32_w]
          rfl
         refine pure_ (i := 3) (N := some 46) (v := ?_) (a' := ?_) #[false, true, true, true, false, false, false, false, false] rfl rfl (any_of HT_.out (by kernel_rfl)) (fun _ _ _ h => h) (Or.inl ⟨by rfl, ?_⟩) ?_ ?_
         rotate_left
         ·intro w'
          go_simp
          with_reducible rfl
         rotate_left
         ·simp only [Act.put, List.setIfInBounds_toArray, List.set_cons_zero, List.set_cons_succ, i64_w, i32_w]
          rfl
         refine pure_ (i := 4) (N := some 47) (v := ?_) (a' := ?_) #[false, true, true, true, true, false, false, false, false] rfl rfl (any_of HT_.out (by kernel_rfl)) (fun _ _ _ h => h) (Or.inl ⟨by rfl, ?_⟩) ?_ ?_
         rotate_left
         ·intro w'
          go_simp
          with_reducible rfl
         rotate_left
         ·simp only [Act.put, List.setIfInBounds_toArray, List.set_cons_zero, List.set_cons_succ, i64_w, i32_w]
          rfl
         refine pure_ (i := 5) (N := some 48) (v := ?_) (a' := ?_) #[false, true, true, true, true, true, false, false, false] rfl rfl (any_of HT_.out (by kernel_rfl)) (fun _ _ _ h => h) (Or.inl ⟨by rfl, ?_⟩) ?_ ?_
         rotate_left
         ·intro w'
          go_simp
          with_reducible rfl
         rotate_left
         ·simp only [Act.put, List.setIfInBounds_toArray, List.set_cons_zero, List.set_cons_succ, i64_w, i32_w]
          rfl
         refine take_ (i := 0) (N := some 43) (v := ?_) (a' := ?_) #[true, true, true, true, true, true, false, false, false] rfl rfl (take_ofW HT_.out HW_.out (by kernel_rfl)) (fun _ _ _ h => h) (Or.inl ⟨by rfl, ?_⟩) hHeld ?_ ?_
         rotate_left
         ·rintro w' ⟨s0, s1, s2, s3⟩
          go_simp
          with_reducible rfl
         rotate_left
         ·simp only [Act.put, List.setIfInBounds_toArray, List.set_cons_zero, List.set_cons_succ, i64_w, i32_w]
          rfl
         refine take_ (i := 6) (N := some 49) (v := ?_) (a' := ?_) #[true, true, true, true, true, true, true, false, false] rfl rfl (take_ofW HT_.out HW_.out (by kernel_rfl)) (fun _ _ _ h => h) (Or.inl ⟨by rfl, ?_⟩) hHeld ?_ ?_
         rotate_left
         ·rintro w' ⟨s0, s1, s2, s3⟩
          go_simp
          with_reducible rfl
         rotate_left
         ·simp only [Act.put, List.setIfInBounds_toArray, List.set_cons_zero, List.set_cons_succ, i64_w, i32_w]
          rfl
         refine pure_ (i := 7) (N := some 50) (v := ?_) (a' := ?_) #[true, true, true, true, true, true, true, true, false] rfl rfl (any_of HT_.out (by kernel_rfl)) (fun _ _ _ h => h) (Or.inl ⟨by rfl, ?_⟩) ?_ ?_
         rotate_left
         ·intro w'
          go_simp
          with_reducible rfl
         rotate_left
         ·simp only [Act.put, List.setIfInBounds_toArray, List.set_cons_zero, List.set_cons_succ, i64_w, i32_w]
          rfl
         refine pure_ (i := 8) (N := some 42) (v := ?_) (a' := ?_) #[true, true, true, true, true, true, true, true, true] rfl rfl (any_of HT_.out (by kernel_rfl)) (fun _ _ _ h => h) (Or.inl ⟨by rfl, ?_⟩) ?_ ?_
         rotate_left
         ·intro w'
          go_simp
          with_reducible rfl
         rotate_left
         ·simp only [Act.put, List.setIfInBounds_toArray, List.set_cons_zero, List.set_cons_succ, i64_w, i32_w]
          rfl
         refine done_ (done_of HT_.out (by kernel_rfl)) ?_
         by_cases c51 : (((rd_T49 l0 0).f0) == ((rd_T49 l1 (ji26)).f0) && (((rd_T49 l0 0).f1) == ((rd_T49 l1 (ji26)).f1))) = true
         ·rw [if_pos c51] at H
          have c51b0 : (((rd_T49 l0 0).f0) == ((rd_T49 l1 (ji26)).f0) && (((rd_T49 l0 0).f1) == ((rd_T49 l1 (ji26)).f1))) = true := c51
          (try (have c51b1 : decide (((rd_T49 l0 0).f0) = ((rd_T49 l1 (ji26)).f0) && (((rd_T49 l0 0).f1) == ((rd_T49 l1 (ji26)).f1))) = true := by simpa using c51))
          (try (have c51b2 : (((rd_T49 l0 0).f0) == ((rd_T49 l1 (ji26)).f0) && (((rd_T49 l0 0).f1) == ((rd_T49 l1 (ji26)).f1))) = true := by simpa using c51))
          clear c51
          (try rw [c51b0])
          (try rw [c51b1])
          (try rw [c51b2])
          by_cases c52 : 1 ≤ (l0.length : Int)
          ·rw [if_pos c52] at H
           have c52b0 := eq_true c52
           have c52b1 : decide (1 ≤ (l0.length : Int)) = true := decide_eq_true c52
           clear c52
           obtain ⟨y266, hy266⟩ : ∃ y_ : List (S49), y_ = (l0.drop 1) := ⟨_, rfl⟩
           replace H : ((impl_Place_56.f k (([l1, y266] : List (List (S49))))).bind fun t274 => (if 0 < (t274.length : Int) then (some t274) else none)) = some r := by first | (rw [hy266]; with_reducible exact H) | (have H2_ := (Option.bind_some _ _).symm.trans H; rw [hy266]; with_reducible exact H2_) | (have H2_ := (Option.bind_some _ _).symm.trans H; with_reducible exact H2_) | with_reducible exact H | (rw [hy266]; exact H) | exact H
           have Ny266 := Aside0.mk hy266
           clear hy266
           obtain ⟨y271, hy271⟩ : ∃ y_ : List (List (S49)), y_ = (([l1, y266] : List (List (S49)))) := ⟨_, rfl⟩
           replace H : ((impl_Place_56.f k y271).bind fun t274 => (if 0 < (t274.length : Int) then (some t274) else none)) = some r := by first | (rw [hy271]; with_reducible exact H) | (have H2_ := (Option.bind_some _ _).symm.trans H; rw [hy271]; with_reducible exact H2_) | (have H2_ := (Option.bind_some _ _).symm.trans H; with_reducible exact H2_) | with_reducible exact H | (rw [hy271]; exact H) | exact H
           have Ny271 := Aside0.mk hy271
           clear hy271
           replace H := Option.bind_eq_some_iff.mp H
           obtain ⟨t274, A530, H⟩ := H
           replace H : (if 0 < (t274.length : Int) then (some t274) else none) = some r := H
           have hnz_ : 0 < (t274.length : Int) := by
            by_cases hz_ : 0 < (t274.length : Int)
            ·exact hz_
            ·rw [if_neg hz_] at H; cases H
           rw [if_pos hnz_] at H
           have HNZ := Aside0.mk (show t274 ≠ [] from fun h_ => by rw [h_] at hnz_; simp at hnz_)
           clear hnz_
           have A53 := Aside0.mk A530
           clear A530
           obtain rfl := Option.some.inj H
           have q66 : (1 : Int) ≤ ((l0.length : Int) : Int) := od_
           obtain ⟨i066, hi1017, _, hsz1018, _⟩ := info_parts info49
           have hroom1018 : l0.length ≤ c0 := (Kd.V_reads' HO0.out).2.1
           have hC66 : Kd.F k49 _ _ (some ad234) l0.length l0 := (Kd.V_at (base := w.heap.size) HO0.out).2.2
           have hcut1018 := cut_from (P := Try.prog) 34 49 .i64 Try.underlying34 hi1017 2 hsz1018 (some ad234) l0.length c0 1 (by omega) q66
           have hr1018 := Kd.F_cut (m := (1 : Int).toNat) (c := c0) hC66 (by omega) hroom1018
           obtain ⟨A66, hA66⟩ : ∃ A_z, A_z = (if c0 = (1 : Int).toNat then (some ad234) else ((some ad234) : Option Addr).map (·.add ((1 : Int).toNat * 2))) := ⟨_, rfl⟩
           obtain ⟨c66, hc1018⟩ : ∃ c_z, c_z = c0 - (1 : Int).toNat := ⟨_, rfl⟩
           have hy1018 : y266.length = l0.length - (1 : Int).toNat := (by rw [Ny266.out, List.length_drop] <;> omega)
           rw [show (l0).drop (1 : Int).toNat = y266 from Ny266.out.symm] at hr1018
           replace hr1018 : Kd.F k49 _ _ A66 y266.length y266 := (by rw [hA66]; exact hr1018)
           rw [← hy1018, ← hA66, ← hc1018] at hcut1018
           have HO270 := Aside0.mk (show Kd.V k49 49 _ w.heap.size _ (.slice A66 y266.length c66) y266 from Kd.V_mk (by rw [hy1018, hc1018]; exact Nat.sub_le_sub_right hroom1018 _) hr1018)
           have HC270 := Aside0.mk (show y266.length ≤ c66 from by rw [hy1018, hc1018]; exact Nat.sub_le_sub_right hroom1018 _)
           clear hr1018 hC66 hroom1018 hi1017 hsz1018 hc1018
           have KY66 := Aside0.mk hy1018
           have KA66 := Aside0.mk hA66
           clear hy1018 hA66
           replace q66 := eq_true q66
           try go_wp2_with (first | ((with_reducible refine gate_dst (N := 54) rfl ?_); refine Kd.N_lit (Kd.slice 49 k49) _ 34 ?hg (N' := 54) ?hd (xs := ([l1, y266] : List (List (S49)))) (inner := [.slice (some ad238) l1.length c1, .slice A66 y266.length c66]) (ok := (fun k_ => ((P0_ k_ ∨ P1_ k_) ∨ w.heap.size ≤ k_) ∧ k_ ≠ gb236 ∧ k_ ≠ gb237)) (okp := (fun k_ => ((P0_ k_ ∨ P1_ k_) ∨ w.heap.size ≤ k_) ∧ k_ ≠ gb236 ∧ k_ ≠ gb237)) ?hr ?hp (fun _ hk => hk) ((show ∀ k_, w1016.heap.size ≤ k_ → (fun k_ => ((P0_ k_ ∨ P1_ k_) ∨ w.heap.size ≤ k_) ∧ k_ ≠ gb236 ∧ k_ ≠ gb237) k_ from fun k_ hk => ⟨(.inr (Nat.le_trans (below_size (bws_ HB.out)) hk)), Kd.freshB (g := gb236) (o := .cells #[.int .i64 ((rd_T49 l0 0).f0), .int .i64 ((rd_T49 l0 0).f1)] 49 (0, 0)) (bk_ BK236.out) k_ hk, Kd.freshB (g := gb237) (o := .cells #[.int .i64 ((rd_T49 l0 (ji4)).f0), .int .i64 ((rd_T49 l0 (ji4)).f1)] 49 (0, 0)) (bk_ BK237.out) k_ hk⟩) _ (Nat.le_refl _)) (Below.refl _ _) (Nat.le_refl _) (by simp) ?_; (case hd => rfl); (case hg => rfl); (case hr => first | (go_simp; done) | (go_simp; rfl)); (case hp => exact (Reps.one (show Kd.FK (Kd.slice 49 k49) _ _ l1 [.slice (some ad238) l1.length c1] from (Kd.FK_slice_mk (Kd.V_reads' (Kd.V_mono (ok' := (fun k_ => ((P0_ k_ ∨ P1_ k_) ∨ w.heap.size ≤ k_) ∧ k_ ≠ gb236 ∧ k_ ≠ gb237)) (HO1.out) (fun k_ hk => ⟨hk.1, ⟨hk.2.1, hk.2.2⟩⟩))).2.1 (Kd.V_F (Kd.V_mono (ok' := (fun k_ => ((P0_ k_ ∨ P1_ k_) ∨ w.heap.size ≤ k_) ∧ k_ ≠ gb236 ∧ k_ ≠ gb237)) (HO1.out) (fun k_ hk => ⟨hk.1, ⟨hk.2.1, hk.2.2⟩⟩))))) (Reps.one (show Kd.FK (Kd.slice 49 k49) _ _ y266 [.slice A66 y266.length c66] from (Kd.FK_slice_mk (Kd.V_reads' (Kd.V_mono (ok' := (fun k_ => ((P0_ k_ ∨ P1_ k_) ∨ w.heap.size ≤ k_) ∧ k_ ≠ gb236 ∧ k_ ≠ gb237)) (HO270.out) (fun k_ hk => ⟨hk.1, ⟨hk.2.1, hk.2.2⟩⟩))).2.1 (Kd.V_F (Kd.V_mono (ok' := (fun k_ => ((P0_ k_ ∨ P1_ k_) ∨ w.heap.size ≤ k_) ∧ k_ ≠ gb236 ∧ k_ ≠ gb237)) (HO270.out) (fun k_ hk => ⟨hk.1, ⟨hk.2.1, hk.2.2⟩⟩))))) (Reps.none _ _)))); intro v272 w1019 ho1020 hb hg_ hnew_; clear hg_ hnew_; (first | rw [← Ny271.out] at ho1020 | (simp only [Int.reduceToNat] at ho1020; rw [← Ny271.out] at ho1020)); have n0_ := Aside0.mk (Kd.V_elder' (vk_ HO0.out) (Kd.N_base ho1020) hb); have n1_ := Aside0.mk (Kd.V_elder' (vk_ HO1.out) (Kd.N_base ho1020) hb); have n2_ := Aside0.mk (Kd.V_elder' (vk_ HO270.out) (Kd.N_base ho1020) hb); have n3_ := Aside0.mk (Kd.N_lower ho1020 (below_size (bws_ HB.out))); have n4_ := Aside0.mk (blk_below (bk_ BK236.out) hb); have n5_ := Aside0.mk (blk_below (bk_ BK237.out) hb); have n6_ := Aside0.mk (below_step (bws_ HB.out) hb); clear HO0; clear HO1; clear HO270; clear BK236; clear BK237; clear HB; have HO0 := n0_; have HO1 := n1_; have HO270 := n2_; have HO273 := n3_; have BK236 := n4_; have BK237 := n5_; have HB := n6_; clear n0_ n1_ n2_ n3_ n4_ n5_ n6_; clear hb ho1020; obtain ⟨Ao69, co69, eo69⟩ := Kd.N_slice HO273.out; subst eo69) | ((with_reducible refine gate_callee (f := 56) rfl ?_); refine goesL_ (some 55) rfl rfl Try.func56 (by kernel_rfl) rfl #[.slice Ao69 y271.length co69] rfl gl_ ?_; (with_reducible refine (impl_Place_56.calls k _ _ y271 t274 _ ?side1 ?side2 A53.out).mono ?_); (case side1 => repeat (first | exact (Kd.N_reads' HO273.out).2.2 | (with_reducible refine Kd.C_alloc ?_ _) | (with_reducible refine Kd.C_drewN ?_ _) | (with_reducible refine Kd.C_drew ?_))); (case side2 => exact (Kd.N_reads' HO273.out).2.1); rintro e w1021 ⟨v275, rfl, ho1022, hb⟩; refine ⟨_, rfl, ?_⟩; have n0_ := Aside0.mk (Kd.V_elder' (vk_ HO0.out) (Kd.R_base ho1022) hb); have n1_ := Aside0.mk (Kd.V_elder' (vk_ HO1.out) (Kd.R_base ho1022) hb); have n2_ := Aside0.mk (Kd.V_elder' (vk_ HO270.out) (Kd.R_base ho1022) hb); have n3_ := Aside0.mk (Kd.N_elder' (by (with_reducible repeat (first | apply Kd.N_alloc | apply Kd.N_drewN | apply Kd.N_drew)); exact HO273.out) (Kd.R_base ho1022) hb); have n4_ := Aside0.mk (Kd.R_lower (Kd.R_newB (Kd.R_newB (Kd.R_newM (M := fun k_ => (w.heap.size ≤ k_)) ho1022 (below_size (bws_ HB.out)) (fun k_ h_ => h_)) (g := gb236) (o := .cells #[.int .i64 ((rd_T49 l0 0).f0), .int .i64 ((rd_T49 l0 0).f1)] 49 (0, 0)) (bk_ BK236.out)) (g := gb237) (o := .cells #[.int .i64 ((rd_T49 l0 (ji4)).f0), .int .i64 ((rd_T49 l0 (ji4)).f1)] 49 (0, 0)) (bk_ BK237.out)) (below_size (bws_ HB.out))); have n5_ := Aside0.mk (blk_below (bk_ BK236.out) hb); have n6_ := Aside0.mk (blk_below (bk_ BK237.out) hb); have n7_ := Aside0.mk (below_step (bws_ HB.out) hb); clear HO0; clear HO1; clear HO270; clear HO273; clear BK236; clear BK237; clear HB; have HO0 := n0_; have HO1 := n1_; have HO270 := n2_; have HO273 := n3_; have HO276 := n4_; have BK236 := n5_; have BK237 := n6_; have HB := n7_; clear n0_ n1_ n2_ n3_ n4_ n5_ n6_ n7_; (try clear hb); (try clear hb1023); (try clear hk); (try clear hi); (try clear ho1022)))
           go_ret
           exact ⟨_, by first | rfl | (simp [errW_none, errW_some] <;> rfl) | (simp only [← hji4, ← hji26]; first | rfl | (simp [errW_none, errW_some] <;> rfl)) | (simp [*, errW_none, errW_some] <;> rfl), by (with_reducible repeat (first | apply Kd.R_alloc | apply Kd.R_drewN | apply Kd.R_drew)); exact Kd.R_mono HO276.out (fun _ hk => hk.1.1.1), by repeat (first | (with_reducible first | exact HB.out | apply below_alloc | apply pw_below_drewN | apply below_drew1 | refine below_set ?_ GE236.out | refine below_set ?_ GE237.out) | exact HB.out), by first | exact fun hr_ => absurd hr_ HNZ.out | exact fun hr_ => absurd hr_ NZ_.out | exact fun _ => rfl | rfl | (simp; done) | (intro _; first | rfl | (simp; done))⟩
          ·rw [if_neg c52] at H
           exact absurd H (by simp)
         ·rw [if_neg c51] at H
          have c51b0 : (((rd_T49 l0 0).f0) == ((rd_T49 l1 (ji26)).f0) && (((rd_T49 l0 0).f1) == ((rd_T49 l1 (ji26)).f1))) = false := by simpa using c51
          (try (have c51b1 : decide (((rd_T49 l0 0).f0) = ((rd_T49 l1 (ji26)).f0) && (((rd_T49 l0 0).f1) == ((rd_T49 l1 (ji26)).f1))) = false := by simpa using c51))
          (try (have c51b2 : (((rd_T49 l0 0).f0) == ((rd_T49 l1 (ji26)).f0) && (((rd_T49 l0 0).f1) == ((rd_T49 l1 (ji26)).f1))) = false := by simpa using c51))
          (try (have c51b3 : ¬ (((rd_T49 l0 0).f0) = ((rd_T49 l1 (ji26)).f0) && (((rd_T49 l0 0).f1) == ((rd_T49 l1 (ji26)).f1))) := by simpa using c51))
          clear c51
          (try rw [c51b0])
          (try rw [c51b1])
          (try rw [c51b2])
          (try rw [c51b3])
          try go_wp2
          have n0_ := Aside0.mk (Kd.V_drew HO0.out)
          have n1_ := Aside0.mk (Kd.V_drew HO1.out)
          have n2_ := Aside0.mk (blk_drew BK236.out)
          have n3_ := Aside0.mk (blk_drew BK237.out)
          have n4_ := Aside0.mk (below_drew1 HB.out)
          clear HO0 HO1 BK236 BK237 HB
          have HO0 := n0_; have HO1 := n1_; have BK236 := n2_; have BK237 := n3_; have HB := n4_
          clear n0_ n1_ n2_ n3_ n4_
          have p277 : 0 ≤ (0 : Int) := (by omega)
          have q277 : 0 < (l1.length : Int) := od_
          obtain ⟨ad277, e277, hx1017_0, hx1017_1⟩ := at_T49 (Kd.V_reads' HO1.out).2.2 0 p277 q277
          obtain rfl : ad238 = ad277 := (by injection e277)
          have qi277 : (0 < l1.length) = True := eq_true (by omega)
          (try rw [show ((0 : Int)).toNat = 0 from rfl] at hx1017_0)
          (try rw [show 0 * 2 = 0 from rfl] at hx1017_0)
          (try rw [Addr.add_zero'] at hx1017_0)
          (try rw [show ((0 : Int)).toNat = 0 from rfl] at hx1017_1)
          (try rw [show 0 * 2 = 0 from rfl] at hx1017_1)
          (try rw [Addr.add_zero'] at hx1017_1)
          replace p277 := eq_true p277
          replace q277 := eq_true q277
          refine start_ (n := 6) (S := fun w' => w'.cell? ⟨gb236, 0, none⟩ = some (.int .i64 ((rd_T49 l0 0).f0)) ∧ w'.cell? ⟨gb236, 1, none⟩ = some (.int .i64 ((rd_T49 l0 0).f1)) ∧ w'.cell? ad238 = some (.int .i64 ((rd_T49 l1 0).f0)) ∧ w'.cell? ⟨ad238.block, ad238.off + 1, none⟩ = some (.int .i64 ((rd_T49 l1 0).f1))) (ds := []) #[false, false, false, false, false, false] (by kernel_rfl) rfl rfl ⟨(blk_cell BK236.out 0).trans rfl, (blk_cell BK236.out 1).trans rfl, hx1017_0, hx1017_1⟩ (fun hHeld => ?_)
          generalize w1016.drew = w1018 at HO0 HO1 BK236 BK237 HB hx1017_0 hx1017_1 hHeld ⊢
          refine pure_ (i := 1) (N := some 58) (v := ?_) (a' := ?_) #[false, true, false, false, false, false] rfl rfl (by kernel_rfl) (fun _ _ _ h => h) (Or.inl ⟨by rfl, ?_⟩) ?_ ?_
          rotate_left
          ·intro w'
           go_simp
           with_reducible rfl
          rotate_left
          ·simp only [Act.put, List.setIfInBounds_toArray, List.set_cons_zero, List.set_cons_succ, i64_w, i32_w]
           rfl
          refine pure_ (i := 2) (N := some 59) (v := ?_) (a' := ?_) #[false, true, true, false, false, false] rfl rfl (by kernel_rfl) (fun _ _ _ h => h) (Or.inl ⟨by rfl, ?_⟩) ?_ ?_
          rotate_left
          ·intro w'
           go_simp
           with_reducible rfl
          rotate_left
          ·simp only [Act.put, List.setIfInBounds_toArray, List.set_cons_zero, List.set_cons_succ, i64_w, i32_w]
           rfl
          refine take_ (i := 0) (N := some 57) (v := ?_) (a' := ?_) #[true, true, true, false, false, false] rfl rfl (by kernel_rfl) (fun _ _ _ h => h) (Or.inl ⟨by rfl, ?_⟩) hHeld ?_ ?_
          rotate_left
          ·rintro w' ⟨s0, s1, s2, s3⟩
           go_simp
           with_reducible rfl
          rotate_left
          ·simp only [Act.put, List.setIfInBounds_toArray, List.set_cons_zero, List.set_cons_succ, i64_w, i32_w]
           rfl
          refine take_ (i := 3) (N := some 60) (v := ?_) (a' := ?_) #[true, true, true, true, false, false] rfl rfl (by kernel_rfl) (fun _ _ _ h => h) (Or.inl ⟨by rfl, ?_⟩) hHeld ?_ ?_
          rotate_left
          ·rintro w' ⟨s0, s1, s2, s3⟩
           go_simp
           with_reducible rfl
          rotate_left
          ·simp only [Act.put, List.setIfInBounds_toArray, List.set_cons_zero, List.set_cons_succ, i64_w, i32_w]
           rfl
          refine pure_ (i := 4) (N := some 61) (v := ?_) (a' := ?_) #[true, true, true, true, true, false] rfl rfl (by kernel_rfl) (fun _ _ _ h => h) (Or.inl ⟨by rfl, ?_⟩) ?_ ?_
          rotate_left
          ·intro w'
           go_simp
           with_reducible rfl
          rotate_left
          ·simp only [Act.put, List.setIfInBounds_toArray, List.set_cons_zero, List.set_cons_succ, i64_w, i32_w]
           rfl
          refine pure_ (i := 5) (N := some 56) (v := ?_) (a' := ?_) #[true, true, true, true, true, true] rfl rfl (by kernel_rfl) (fun _ _ _ h => h) (Or.inl ⟨by rfl, ?_⟩) ?_ ?_
          rotate_left
          ·intro w'
           go_simp
           with_reducible rfl
          rotate_left
          ·simp only [Act.put, List.setIfInBounds_toArray, List.set_cons_zero, List.set_cons_succ, i64_w, i32_w]
           rfl
          refine done_ (by kernel_rfl) ?_
          by_cases c71 : (((rd_T49 l0 0).f0) == ((rd_T49 l1 0).f0) && (((rd_T49 l0 0).f1) == ((rd_T49 l1 0).f1))) = true
          ·rw [if_pos c71] at H
           have c71b0 : (((rd_T49 l0 0).f0) == ((rd_T49 l1 0).f0) && (((rd_T49 l0 0).f1) == ((rd_T49 l1 0).f1))) = true := c71
           (try (have c71b1 : decide (((rd_T49 l0 0).f0) = ((rd_T49 l1 0).f0) && (((rd_T49 l0 0).f1) == ((rd_T49 l1 0).f1))) = true := by simpa using c71))
           (try (have c71b2 : (((rd_T49 l0 0).f0) == ((rd_T49 l1 0).f0) && (((rd_T49 l0 0).f1) == ((rd_T49 l1 0).f1))) = true := by simpa using c71))
           clear c71
           replace H := Option.bind_eq_some_iff.mp H
           obtain ⟨t278, A720, H⟩ := H
           replace H : (if 1 ≤ (l0.length : Int) then ((impl_Place_56.f k (([t278, (l0.drop 1)] : List (List (S49))))).bind fun t289 => (if 0 < (t289.length : Int) then (some t289) else none)) else (none)) = some r := H
           have A72 := Aside0.mk A720
           clear A720
           (try rw [c71b0])
           (try rw [c71b1])
           (try rw [c71b2])
           by_cases c73 : 1 ≤ (l0.length : Int)
           ·rw [if_pos c73] at H
            have c73b0 := eq_true c73
            have c73b1 : decide (1 ≤ (l0.length : Int)) = true := decide_eq_true c73
            clear c73
            obtain ⟨y281, hy281⟩ : ∃ y_ : List (S49), y_ = (l0.drop 1) := ⟨_, rfl⟩
            replace H : ((impl_Place_56.f k (([t278, y281] : List (List (S49))))).bind fun t289 => (if 0 < (t289.length : Int) then (some t289) else none)) = some r := by first | (rw [hy281]; with_reducible exact H) | (have H2_ := (Option.bind_some _ _).symm.trans H; rw [hy281]; with_reducible exact H2_) | (have H2_ := (Option.bind_some _ _).symm.trans H; with_reducible exact H2_) | with_reducible exact H | (rw [hy281]; exact H) | exact H
            have Ny281 := Aside0.mk hy281
            clear hy281
            obtain ⟨y286, hy286⟩ : ∃ y_ : List (List (S49)), y_ = (([t278, y281] : List (List (S49)))) := ⟨_, rfl⟩
            replace H : ((impl_Place_56.f k y286).bind fun t289 => (if 0 < (t289.length : Int) then (some t289) else none)) = some r := by first | (rw [hy286]; with_reducible exact H) | (have H2_ := (Option.bind_some _ _).symm.trans H; rw [hy286]; with_reducible exact H2_) | (have H2_ := (Option.bind_some _ _).symm.trans H; with_reducible exact H2_) | with_reducible exact H | (rw [hy286]; exact H) | exact H
            have Ny286 := Aside0.mk hy286
            clear hy286
            replace H := Option.bind_eq_some_iff.mp H
            obtain ⟨t289, A740, H⟩ := H
            replace H : (if 0 < (t289.length : Int) then (some t289) else none) = some r := H
            have hnz_ : 0 < (t289.length : Int) := by
             by_cases hz_ : 0 < (t289.length : Int)
             ·exact hz_
             ·rw [if_neg hz_] at H; cases H
            rw [if_pos hnz_] at H
            have HNZ := Aside0.mk (show t289 ≠ [] from fun h_ => by rw [h_] at hnz_; simp at hnz_)
            clear hnz_
            have A74 := Aside0.mk A740
            clear A740
            obtain rfl := Option.some.inj H
            try go_wp2
            have n0_ := Aside0.mk (Kd.V_drew HO0.out)
            have n1_ := Aside0.mk (Kd.V_drew HO1.out)
            have n2_ := Aside0.mk (blk_drew BK236.out)
            have n3_ := Aside0.mk (blk_drew BK237.out)
            have n4_ := Aside0.mk (below_drew1 HB.out)
            clear HO0 HO1 BK236 BK237 HB
            have HO0 := n0_; have HO1 := n1_; have BK236 := n2_; have BK237 := n3_; have HB := n4_
            clear n0_ n1_ n2_ n3_ n4_
            have q89 : (1 : Int) ≤ ((l0.length : Int) : Int) := od_
            obtain ⟨i089, hi1019, _, hsz1020, _⟩ := info_parts info49
            have hroom1020 : l0.length ≤ c0 := (Kd.V_reads' HO0.out).2.1
            have hC89 : Kd.F k49 _ _ (some ad234) l0.length l0 := (Kd.V_at (base := w.heap.size) HO0.out).2.2
            have hcut1020 := cut_from (P := Try.prog) 34 49 .i64 Try.underlying34 hi1019 2 hsz1020 (some ad234) l0.length c0 1 (by omega) q89
            have hr1020 := Kd.F_cut (m := (1 : Int).toNat) (c := c0) hC89 (by omega) hroom1020
            obtain ⟨A89, hA89⟩ : ∃ A_z, A_z = (if c0 = (1 : Int).toNat then (some ad234) else ((some ad234) : Option Addr).map (·.add ((1 : Int).toNat * 2))) := ⟨_, rfl⟩
            obtain ⟨c89, hc1020⟩ : ∃ c_z, c_z = c0 - (1 : Int).toNat := ⟨_, rfl⟩
            have hy1020 : y281.length = l0.length - (1 : Int).toNat := (by rw [Ny281.out, List.length_drop] <;> omega)
            rw [show (l0).drop (1 : Int).toNat = y281 from Ny281.out.symm] at hr1020
            replace hr1020 : Kd.F k49 _ _ A89 y281.length y281 := (by rw [hA89]; exact hr1020)
            rw [← hy1020, ← hA89, ← hc1020] at hcut1020
            have HO285 := Aside0.mk (show Kd.V k49 49 _ w.heap.size _ (.slice A89 y281.length c89) y281 from Kd.V_mk (by rw [hy1020, hc1020]; exact Nat.sub_le_sub_right hroom1020 _) hr1020)
            have HC285 := Aside0.mk (show y281.length ≤ c89 from by rw [hy1020, hc1020]; exact Nat.sub_le_sub_right hroom1020 _)
            clear hr1020 hC89 hroom1020 hi1019 hsz1020 hc1020
            have KY89 := Aside0.mk hy1020
            have KA89 := Aside0.mk hA89
            clear hy1020 hA89
            replace q89 := eq_true q89
            refine start_ (n := 7) (S := fun w' => True) (ds := []) #[false, false, false, false, false, false, false] (by kernel_rfl) rfl rfl trivial (fun hHeld => ?_)
            generalize w1018.drew = w1021 at HO0 HO1 BK236 BK237 HB HO285 hHeld ⊢
            refine pure_ (i := 0) (N := some 62) (v := ?_) (a' := ?_) #[true, false, false, false, false, false, false] rfl rfl (by kernel_rfl) (fun _ _ _ h => h) (Or.inl ⟨by rfl, ?_⟩) ?_ ?_
            rotate_left
            ·intro w'
             go_simp
             with_reducible rfl
            rotate_left
            ·simp only [Act.put, List.setIfInBounds_toArray, List.set_cons_zero, List.set_cons_succ, i64_w, i32_w]
             rfl
            refine pure_ (i := 2) (N := some 64) (v := ?_) (a' := ?_) #[true, false, true, false, false, false, false] rfl rfl (by kernel_rfl) (fun _ _ _ h => h) (Or.inl ⟨by rfl, ?_⟩) ?_ ?_
            rotate_left
            ·intro w'
             go_simp
             with_reducible rfl
            rotate_left
            ·simp only [Act.put, List.setIfInBounds_toArray, List.set_cons_zero, List.set_cons_succ, i64_w, i32_w]
             rfl
            refine pure_ (i := 3) (N := some 65) (v := ?_) (a' := ?_) #[true, false, true, true, false, false, false] rfl rfl (by kernel_rfl) (fun _ _ _ h => h) (Or.inl ⟨by rfl, ?_⟩) ?_ ?_
            rotate_left
            ·intro w'
             go_simp
             with_reducible rfl
            rotate_left
            ·simp only [Act.put, List.setIfInBounds_toArray, List.set_cons_zero, List.set_cons_succ, i64_w, i32_w]
             rfl
            refine one_ (i := 1) (N := some 63) #[true, true, true, true, false, false, false] rfl rfl (by kernel_rfl) (by decide) (fun K hK => ?_)
            refine goes_ Try.func57 (by kernel_rfl) rfl #[.slice (some ad238) l1.length c1] (by rfl) rfl rfl gl_ ?_
            with_reducible refine (impl_reversed.calls k _ _ l1 t278 _ ?side1 ?side2 A72.out).mono ?_
            (case side1 => repeat (first | exact (Kd.V_reads' HO1.out).2.2 | (with_reducible refine Kd.C_alloc ?_ _) | (with_reducible refine Kd.C_drewN ?_ _) | (with_reducible refine Kd.C_drew ?_)))
            (case side2 => exact (Kd.V_reads' HO1.out).2.1)
            rintro e w1022 ⟨v279, rfl, ho1023, hb⟩
            refine ⟨_, rfl, ?_⟩
            have n0_ := Aside0.mk (Kd.V_elder' (vk_ HO0.out) (Kd.R_base ho1023) hb)
            have n1_ := Aside0.mk (Kd.V_elder' (vk_ HO1.out) (Kd.R_base ho1023) hb)
            have n2_ := Aside0.mk (Kd.V_elder' (vk_ HO285.out) (Kd.R_base ho1023) hb)
            have n3_ := Aside0.mk (Kd.R_lower (Kd.R_newB (Kd.R_newB (Kd.R_newM (M := fun k_ => (w.heap.size ≤ k_)) ho1023 (below_size (bws_ HB.out)) (fun k_ h_ => h_)) (g := gb236) (o := .cells #[.int .i64 ((rd_T49 l0 0).f0), .int .i64 ((rd_T49 l0 0).f1)] 49 (0, 0)) (bk_ BK236.out)) (g := gb237) (o := .cells #[.int .i64 ((rd_T49 l0 (ji4)).f0), .int .i64 ((rd_T49 l0 (ji4)).f1)] 49 (0, 0)) (bk_ BK237.out)) (below_size (bws_ HB.out)))
            have n4_ := Aside0.mk (blk_below (bk_ BK236.out) hb)
            have n5_ := Aside0.mk (blk_below (bk_ BK237.out) hb)
            have n6_ := Aside0.mk (below_step (bws_ HB.out) hb)
            clear HO0 HO1 HO285 BK236 BK237 HB
            have HO0 := n0_; have HO1 := n1_; have HO285 := n2_; have HO280 := n3_; have BK236 := n4_; have BK237 := n5_; have HB := n6_
            clear n0_ n1_ n2_ n3_ n4_ n5_ n6_
            (try clear hb)
            (try clear hb1024)
            (try clear hk)
            (try clear hi)
            (try clear ho1023)
            obtain ⟨Ao91, co91, eo91⟩ := Kd.R_slice HO280.out
            (first | subst eo91 | (injection eo91 with f1_ f2_ f3_; have f4_ := f1_.symm; have f5_ := f3_.symm; clear f1_ f2_ f3_; subst f4_; subst f5_))
            refine hK.out _ _ trivial (fun hHeld => ?_)
            clear hK K
            refine norm_ (a' := ?_) ?_ ?_
            rotate_left
            ·show Act.put _ (some 63) _ = _
             simp only [Act.put, List.setIfInBounds_toArray, List.set_cons_zero, List.set_cons_succ, i64_w, i32_w]
             rfl
            refine one_ (i := 4) (N := some 66) #[true, true, true, true, true, false, false] rfl rfl (by kernel_rfl) (by decide) (fun K hK => ?_)
            refine Kd.N_lit_step (Kd.slice 49 k49) _ 34 ?hg (N' := 66) ?hd (xs := ([t278, y281] : List (List (S49)))) (inner := [.slice Ao91 t278.length co91, .slice A89 y281.length c89]) (ok := (fun k_ => ((P0_ k_ ∨ P1_ k_) ∨ w.heap.size ≤ k_) ∧ k_ ≠ gb236 ∧ k_ ≠ gb237)) (okp := (fun k_ => ((P0_ k_ ∨ P1_ k_) ∨ w.heap.size ≤ k_) ∧ k_ ≠ gb236 ∧ k_ ≠ gb237)) ?hr ?hp (fun _ hk => hk) ((show ∀ k_, w1022.heap.size ≤ k_ → (fun k_ => ((P0_ k_ ∨ P1_ k_) ∨ w.heap.size ≤ k_) ∧ k_ ≠ gb236 ∧ k_ ≠ gb237) k_ from fun k_ hk => ⟨(.inr (Nat.le_trans (below_size (bws_ HB.out)) hk)), Kd.freshB (g := gb236) (o := .cells #[.int .i64 ((rd_T49 l0 0).f0), .int .i64 ((rd_T49 l0 0).f1)] 49 (0, 0)) (bk_ BK236.out) k_ hk, Kd.freshB (g := gb237) (o := .cells #[.int .i64 ((rd_T49 l0 (ji4)).f0), .int .i64 ((rd_T49 l0 (ji4)).f1)] 49 (0, 0)) (bk_ BK237.out) k_ hk⟩) _ (Nat.le_refl _)) (Below.refl _ _) (Nat.le_refl _) (by simp) ?_; (case hd => rfl); (case hg => rfl); (case hr => first | (go_simp; done) | (go_simp; rfl)); (case hp => exact (Reps.one (show Kd.FK (Kd.slice 49 k49) _ _ t278 [.slice Ao91 t278.length co91] from (Kd.FK_slice_mk (Kd.R_reads' (Kd.R_mono (ok' := (fun k_ => ((P0_ k_ ∨ P1_ k_) ∨ w.heap.size ≤ k_) ∧ k_ ≠ gb236 ∧ k_ ≠ gb237)) (HO280.out) (fun k_ hk => ⟨(.inr (hk.1.1.1)), ⟨hk.1.2, hk.2⟩⟩))).2.1 (Kd.R_F (Kd.R_mono (ok' := (fun k_ => ((P0_ k_ ∨ P1_ k_) ∨ w.heap.size ≤ k_) ∧ k_ ≠ gb236 ∧ k_ ≠ gb237)) (HO280.out) (fun k_ hk => ⟨(.inr (hk.1.1.1)), ⟨hk.1.2, hk.2⟩⟩))))) (Reps.one (show Kd.FK (Kd.slice 49 k49) _ _ y281 [.slice A89 y281.length c89] from (Kd.FK_slice_mk (Kd.V_reads' (Kd.V_mono (ok' := (fun k_ => ((P0_ k_ ∨ P1_ k_) ∨ w.heap.size ≤ k_) ∧ k_ ≠ gb236 ∧ k_ ≠ gb237)) (HO285.out) (fun k_ hk => ⟨hk.1.1, ⟨hk.1.2.1, hk.1.2.2⟩⟩))).2.1 (Kd.V_F (Kd.V_mono (ok' := (fun k_ => ((P0_ k_ ∨ P1_ k_) ∨ w.heap.size ≤ k_) ∧ k_ ≠ gb236 ∧ k_ ≠ gb237)) (HO285.out) (fun k_ hk => ⟨hk.1.1, ⟨hk.1.2.1, hk.1.2.2⟩⟩))))) (Reps.none _ _))))
            intro v287 w1025 ho1026 hb hg_ hnew_
            clear hg_ hnew_
            (first | rw [← Ny286.out] at ho1026 | (simp only [Int.reduceToNat] at ho1026; rw [← Ny286.out] at ho1026))
            have n0_ := Aside0.mk (Kd.V_elder' (vk_ HO0.out) (Kd.N_base ho1026) hb)
            have n1_ := Aside0.mk (Kd.V_elder' (vk_ HO1.out) (Kd.N_base ho1026) hb)
            have n2_ := Aside0.mk (Kd.V_elder' (vk_ HO285.out) (Kd.N_base ho1026) hb)
            have n3_ := Aside0.mk (Kd.N_lower ho1026 (below_size (bws_ HB.out)))
            have n4_ := Aside0.mk (blk_below (bk_ BK236.out) hb)
            have n5_ := Aside0.mk (blk_below (bk_ BK237.out) hb)
            have n6_ := Aside0.mk (below_step (bws_ HB.out) hb)
            clear HO0 HO1 HO285 BK236 BK237 HB HO280
            have HO0 := n0_; have HO1 := n1_; have HO285 := n2_; have HO288 := n3_; have BK236 := n4_; have BK237 := n5_; have HB := n6_
            clear n0_ n1_ n2_ n3_ n4_ n5_ n6_ hb ho1026
            obtain ⟨Ao94, co94, eo94⟩ := Kd.N_slice HO288.out
            (first | subst eo94 | (injection eo94 with f1_ f2_ f3_; have f4_ := f1_.symm; have f5_ := f3_.symm; clear f1_ f2_ f3_; subst f4_; subst f5_))
            refine hK.out _ _ trivial (fun hHeld => ?_)
            clear hK K
            refine norm_ (a' := ?_) ?_ ?_
            rotate_left
            ·show Act.put _ (some 66) _ = _
             simp only [Act.put, List.setIfInBounds_toArray, List.set_cons_zero, List.set_cons_succ, i64_w, i32_w]
             rfl
            refine one_ (i := 5) (N := some 67) #[true, true, true, true, true, true, false] rfl rfl (by kernel_rfl) (by decide) (fun K hK => ?_)
            refine goes_ Try.func56 (by kernel_rfl) rfl #[.slice Ao94 y286.length co94] (by rfl) rfl rfl gl_ ?_
            with_reducible refine (impl_Place_56.calls k _ _ y286 t289 _ ?side1 ?side2 A74.out).mono ?_
            (case side1 => repeat (first | exact (Kd.N_reads' HO288.out).2.2 | (with_reducible refine Kd.C_alloc ?_ _) | (with_reducible refine Kd.C_drewN ?_ _) | (with_reducible refine Kd.C_drew ?_)))
            (case side2 => exact (Kd.N_reads' HO288.out).2.1)
            rintro e w1027 ⟨v290, rfl, ho1023, hb⟩
            refine ⟨_, rfl, ?_⟩
            have n0_ := Aside0.mk (Kd.V_elder' (vk_ HO0.out) (Kd.R_base ho1023) hb)
            have n1_ := Aside0.mk (Kd.V_elder' (vk_ HO1.out) (Kd.R_base ho1023) hb)
            have n2_ := Aside0.mk (Kd.V_elder' (vk_ HO285.out) (Kd.R_base ho1023) hb)
            have n3_ := Aside0.mk (Kd.N_elder' (by (with_reducible repeat (first | apply Kd.N_alloc | apply Kd.N_drewN | apply Kd.N_drew)); exact HO288.out) (Kd.R_base ho1023) hb)
            have n4_ := Aside0.mk (Kd.R_lower (Kd.R_newB (Kd.R_newB (Kd.R_newM (M := fun k_ => (w.heap.size ≤ k_)) ho1023 (below_size (bws_ HB.out)) (fun k_ h_ => h_)) (g := gb236) (o := .cells #[.int .i64 ((rd_T49 l0 0).f0), .int .i64 ((rd_T49 l0 0).f1)] 49 (0, 0)) (bk_ BK236.out)) (g := gb237) (o := .cells #[.int .i64 ((rd_T49 l0 (ji4)).f0), .int .i64 ((rd_T49 l0 (ji4)).f1)] 49 (0, 0)) (bk_ BK237.out)) (below_size (bws_ HB.out)))
            have n5_ := Aside0.mk (blk_below (bk_ BK236.out) hb)
            have n6_ := Aside0.mk (blk_below (bk_ BK237.out) hb)
            have n7_ := Aside0.mk (below_step (bws_ HB.out) hb)
            clear HO0 HO1 HO285 HO288 BK236 BK237 HB
            have HO0 := n0_; have HO1 := n1_; have HO285 := n2_; have HO288 := n3_; have HO291 := n4_; have BK236 := n5_; have BK237 := n6_; have HB := n7_
            clear n0_ n1_ n2_ n3_ n4_ n5_ n6_ n7_
            (try clear hb)
            (try clear hb1024)
            (try clear hk)
            (try clear hi)
            (try clear ho1023)
            refine hK.out _ _ trivial (fun hHeld => ?_)
            clear hK K
            refine norm_ (a' := ?_) ?_ ?_
            rotate_left
            ·show Act.put _ (some 67) _ = _
             simp only [Act.put, List.setIfInBounds_toArray, List.set_cons_zero, List.set_cons_succ, i64_w, i32_w]
             rfl
            refine pure_ (i := 6) (N := some 4) (v := ?_) (a' := ?_) #[true, true, true, true, true, true, true] rfl rfl (by kernel_rfl) (fun _ _ _ h => h) (Or.inl ⟨by rfl, ?_⟩) ?_ ?_
            rotate_left
            ·intro w'
             go_simp
             with_reducible rfl
            rotate_left
            ·simp only [Act.put, List.setIfInBounds_toArray, List.set_cons_zero, List.set_cons_succ, i64_w, i32_w]
             rfl
            refine done_ (by kernel_rfl) ?_
            try go_wp2
            go_ret
            exact ⟨_, by first | rfl | (simp [errW_none, errW_some] <;> rfl) | (simp only [← hji4, ← hji26]; first | rfl | (simp [errW_none, errW_some] <;> rfl)) | (simp [*, errW_none, errW_some] <;> rfl), by (with_reducible repeat (first | apply Kd.R_alloc | apply Kd.R_drewN | apply Kd.R_drew)); exact Kd.R_mono HO291.out (fun _ hk => hk.1.1.1), by repeat (first | (with_reducible first | exact HB.out | apply below_alloc | apply pw_below_drewN | apply below_drew1 | refine below_set ?_ GE236.out | refine below_set ?_ GE237.out) | exact HB.out), by first | exact fun hr_ => absurd hr_ HNZ.out | exact fun hr_ => absurd hr_ NZ_.out | exact fun _ => rfl | rfl | (simp; done) | (intro _; first | rfl | (simp; done))⟩
           ·rw [if_neg c73] at H
            exact absurd H (by simp)
          ·rw [if_neg c71] at H
           have c71b0 : (((rd_T49 l0 0).f0) == ((rd_T49 l1 0).f0) && (((rd_T49 l0 0).f1) == ((rd_T49 l1 0).f1))) = false := by simpa using c71
           (try (have c71b1 : decide (((rd_T49 l0 0).f0) = ((rd_T49 l1 0).f0) && (((rd_T49 l0 0).f1) == ((rd_T49 l1 0).f1))) = false := by simpa using c71))
           (try (have c71b2 : (((rd_T49 l0 0).f0) == ((rd_T49 l1 0).f0) && (((rd_T49 l0 0).f1) == ((rd_T49 l1 0).f1))) = false := by simpa using c71))
           (try (have c71b3 : ¬ (((rd_T49 l0 0).f0) = ((rd_T49 l1 0).f0) && (((rd_T49 l0 0).f1) == ((rd_T49 l1 0).f1))) := by simpa using c71))
           clear c71
           obtain rfl := Option.some.inj H
           (try rw [c71b0])
           (try rw [c71b1])
           (try rw [c71b2])
           (try rw [c71b3])
           try go_wp2
           go_ret
           exact ⟨_, by first | rfl | (simp [errW_none, errW_some] <;> rfl) | (simp only [← hji4, ← hji26]; first | rfl | (simp [errW_none, errW_some] <;> rfl)) | (simp [*, errW_none, errW_some] <;> rfl), by first | exact Kd.R_nil _ _ _ _ _ | exact Kd.N_nil _ _ _ _ _ | exact Kd.V_nil _ _ _ _ _ | exact Kd.Q_nil _ _ _ _ _ | exact Kd.S_nil _ _ _ _ _, by repeat (first | (with_reducible first | exact HB.out | apply below_alloc | apply pw_below_drewN | apply below_drew1 | refine below_set ?_ GE236.out | refine below_set ?_ GE237.out) | exact HB.out), by first | exact fun hr_ => absurd hr_ HNZ.out | exact fun hr_ => absurd hr_ NZ_.out | exact fun _ => rfl | rfl | (simp; done) | (intro _; first | rfl | (simp; done))⟩
       ·rw [if_neg c28] at H
        exact absurd H (by simp)
      ·rw [if_neg c27] at H
       exact absurd H (by simp)
    ·rw [if_neg c7] at H
     exact absurd H (by simp)
   ·rw [if_neg c6] at H
    exact absurd H (by simp)
  ·rw [if_neg c5] at H
   exact absurd H (by simp)
 ·rw [if_neg c3] at H
  exact absurd H (by simp)
end Go.Proofs.Ytmedijjjhabpbaa.Print
