-- Printed by a program of this session out of the translation; not trusted: Lean checks it.
-- SQUEEZED
-- SHRUNK
-- NILFIX
import Derived.Test.YtpgfgkgjjdfjlaaPrint0
import Derived.Test.YtpgfgkgjjdfjlaaPrint1
import Derived.Test.YtpgfgkgjjdfjlaaPrint8
import Derived.Test.YtpgfgkgjjdfjlaaPrint11
namespace Go.Proofs.Ytpgfgkgjjdfjlaa.Print
open Go.RowKit Go.Proofs.YtpgfgkgjjdfjlaaW.PrintWords Go.Proofs.YtpgfgkgjjdfjlaaW.PrintLast Go.Proofs.YtpgfgkgjjdfjlaaW.PrintMore
attribute [local go_sem] max2_int min2_int max_two min_two max_three min_three max_four min_four   -- for this text's walks alone
set_option linter.unusedVariables false
set_option linter.unusedSimpArgs false

attribute [local go_sem high] eqA50
/-! ### impl_join: function 32 -/
def impl_join.f (k : Nat) (l0 : List (S50)) (l1 : List (S50)) : Option ((List (S50))) := if 0 < (l0.length : Int) then (if 0 ≤ (wrap64 ((l0.length : Int) - 1)) then (if (wrap64 ((l0.length : Int) - 1)) < (l0.length : Int) then (if 0 < (l1.length : Int) then (if (((rd_T50 l0 (wrap64 ((l0.length : Int) - 1))).f0) == ((rd_T50 l1 0).f0) && (((rd_T50 l0 (wrap64 ((l0.length : Int) - 1))).f1) == ((rd_T50 l1 0).f1))) = true then (if 1 ≤ (l1.length : Int) then ((impl_Place_49.f k (([l0, (l1.drop 1)] : List (List (S50))))).bind fun t240 => (if 0 < (t240.length : Int) then (some t240) else none)) else (none)) else (if 0 ≤ (wrap64 ((l1.length : Int) - 1)) then (if (wrap64 ((l1.length : Int) - 1)) < (l1.length : Int) then (if (((rd_T50 l0 (wrap64 ((l0.length : Int) - 1))).f0) == ((rd_T50 l1 (wrap64 ((l1.length : Int) - 1))).f0) && (((rd_T50 l0 (wrap64 ((l0.length : Int) - 1))).f1) == ((rd_T50 l1 (wrap64 ((l1.length : Int) - 1))).f1))) = true then ((impl_reversed.f k l1).bind fun t244 => (if 1 ≤ (t244.length : Int) then ((impl_Place_49.f k (([l0, (t244.drop 1)] : List (List (S50))))).bind fun t255 => (if 0 < (t255.length : Int) then (some t255) else none)) else (none))) else (if (((rd_T50 l0 0).f0) == ((rd_T50 l1 (wrap64 ((l1.length : Int) - 1))).f0) && (((rd_T50 l0 0).f1) == ((rd_T50 l1 (wrap64 ((l1.length : Int) - 1))).f1))) = true then (if 1 ≤ (l0.length : Int) then ((impl_Place_49.f k (([l1, (l0.drop 1)] : List (List (S50))))).bind fun t267 => (if 0 < (t267.length : Int) then (some t267) else none)) else (none)) else (if (((rd_T50 l0 0).f0) == ((rd_T50 l1 0).f0) && (((rd_T50 l0 0).f1) == ((rd_T50 l1 0).f1))) = true then ((impl_reversed.f k l1).bind fun t271 => (if 1 ≤ (l0.length : Int) then ((impl_Place_49.f k (([t271, (l0.drop 1)] : List (List (S50))))).bind fun t282 => (if 0 < (t282.length : Int) then (some t282) else none)) else (none))) else (some ([] : List (S50)))))) else (none)) else (none))) else (none)) else (none)) else (none)) else (none)
theorem impl_join.mono : ∀ a0 a1 k, LeO (impl_join.f k a0 a1) (impl_join.f (k + 1) a0 a1) := by
 intro a0 a1 k
 unfold impl_join.f
 repeat' first
   | (with_reducible exact impl_Place_49.mono _ _)
   | (with_reducible exact impl_reversed.mono _ _)
   | (with_reducible exact LeO.refl _)
   | (with_reducible exact LeO.none _)
   | (with_reducible refine LeO.ite ?_ ?_)
   | (with_reducible refine LeO.bind ?_ (fun _ => ?_))
   | exact impl_Place_49.mono _ _
   | exact impl_reversed.mono _ _
   | exact LeO.none _
   | refine LeO.ite ?_ ?_
   | refine LeO.bind ?_ (fun _ => ?_)
def impl_join.T1 : Bool × List (List Nat × List Nat) := (true, [([], []), ([0], [0]), ([1], [1]), ([], []), ([], []), ([4], [4]), ([5], [5]), ([3, 6], [3, 6]), ([7], [7]), ([], []), ([], []), ([9, 2, 0, 1, 2, 9, 10], [2, 9]), ([10, 8, 11, 0, 1, 2, 3, 4, 5, 6, 7, 8, 9, 10, 11], [8, 10])])
def impl_join.B1 : List Nat := [0, 1, 3, 0, 0, 16, 48, 120, 248, 0, 0, 1543, 4095]
theorem impl_join.tab1 : rtab .any (opsOf Try.f32 1) = impl_join.T1 := by kernel_rfl
theorem impl_join.bits1 : waitsOk impl_join.T1.2 impl_join.B1 = true := by kernel_rfl
def impl_join.T4 : Bool × List (List Nat × List Nat) := (true, [([], []), ([], []), ([], []), ([2], [2]), ([3], [3]), ([1, 4], [1, 4]), ([5], [5]), ([0, 6], [0, 6]), ([7], [7])])
def impl_join.B4 : List Nat := [0, 0, 0, 4, 12, 30, 62, 127, 255]
theorem impl_join.tab4 : rtab .any (opsOf Try.f32 4) = impl_join.T4 := by kernel_rfl
theorem impl_join.bits4 : waitsOk impl_join.T4.2 impl_join.B4 = true := by kernel_rfl
def impl_join.T6 : Bool × List (List Nat × List Nat) := (true, [([], []), ([], []), ([], []), ([2], [2]), ([3], [3]), ([1, 4], [1, 4]), ([5], [5]), ([0, 6], [0, 6]), ([7], [7])])
def impl_join.B6 : List Nat := [0, 0, 0, 4, 12, 30, 62, 127, 255]
theorem impl_join.tab6 : rtab .any (opsOf Try.f32 6) = impl_join.T6 := by kernel_rfl
theorem impl_join.bits6 : waitsOk impl_join.T6.2 impl_join.B6 = true := by kernel_rfl
theorem vaw_ {W : World} {e base : Nat} {ok : Nat → Prop} {ad : Addr} {n c : Nat} {xs : List S50} (h : Kd.V k50 e W base ok (.slice (some ad) n c) xs) {g : Nat} (hok : ∀ k, ok k → k ≠ g) (hn : 0 < (xs.length : Int)) : ad.block ≠ g := by
 intro eg
 obtain ⟨hnn, hl, hF⟩ := Kd.V_at h
 obtain ⟨ad1, e1, c0, _⟩ := at_T50 (Kd.F_now hF) 0 (Int.le_refl _) hn
 injection e1 with e1
 subst e1
 have hb : (ad.add ((0 : Int).toNat * 2)).block = g := by rw [add_block]; exact eg
 have h2 := Kd.F_now (Kd.F_far hF (p := ad.add ((0 : Int).toNat * 2)) (fun k hk e2 => hok k hk (e2.trans hb)) (.bool true))
 obtain ⟨ad2, e2, c2, _⟩ := at_T50 h2 0 (Int.le_refl _) hn
 injection e2 with e2
 subst e2
 rw [World.cell?_setCell_same' _ _ _ (by rw [c0]; rfl)] at c2
 injection c2 with c2
 cases c2
set_option maxHeartbeats 8000000 in
set_option maxRecDepth 100000 in
theorem impl_join.calls (k : Nat) (P0_ : Nat → Prop) (A0 : Option Addr) (c0 : Nat) (l0 : List (S50)) (P1_ : Nat → Prop) (A1 : Option Addr) (c1 : Nat) (l1 : List (S50)) (r : List (S50)) (w : World) (hs0 : Kd.V k50 50 w w.heap.size (fun k_ => P0_ k_) (.slice A0 l0.length c0) l0) (hs1 : Kd.V k50 50 w w.heap.size (fun k_ => P1_ k_) (.slice A1 l1.length c1) l1) (h : impl_join.f k l0 l1 = some r) :
  Calls Try.prog 32 #[.slice A0 l0.length c0, .slice A1 l1.length c1] w fun e w' => ∃ v0_ : Value, e = .returned (v0_) ∧ Kd.R k50 50 w' w.heap.size (fun k_ => (w.heap.size ≤ k_)) v0_ r ∧ Below w.heap.size w w' ∧ (r = [] → v0_ = .slice none 0 0) := by
 have hu50 := Try.underlying50
 have HO0 := Aside0.mk (show Kd.V k50 50 w w.heap.size (fun k_ => ((P0_ k_ ∨ P1_ k_) ∨ w.heap.size ≤ k_)) (.slice A0 l0.length c0) l0 from Kd.V_mono hs0 (fun k_ hk => .inl (.inl hk)))
 have HO1 := Aside0.mk (show Kd.V k50 50 w w.heap.size (fun k_ => ((P0_ k_ ∨ P1_ k_) ∨ w.heap.size ≤ k_)) (.slice A1 l1.length c1) l1 from Kd.V_mono hs1 (fun k_ hk => .inl (.inr hk)))
 have HB := Aside0.mk (Below.refl w.heap.size w)
 have H : (if 0 < (l0.length : Int) then (if 0 ≤ (wrap64 ((l0.length : Int) - 1)) then (if (wrap64 ((l0.length : Int) - 1)) < (l0.length : Int) then (if 0 < (l1.length : Int) then (if (((rd_T50 l0 (wrap64 ((l0.length : Int) - 1))).f0) == ((rd_T50 l1 0).f0) && (((rd_T50 l0 (wrap64 ((l0.length : Int) - 1))).f1) == ((rd_T50 l1 0).f1))) = true then (if 1 ≤ (l1.length : Int) then ((impl_Place_49.f k (([l0, (l1.drop 1)] : List (List (S50))))).bind fun t240 => (if 0 < (t240.length : Int) then (some t240) else none)) else (none)) else (if 0 ≤ (wrap64 ((l1.length : Int) - 1)) then (if (wrap64 ((l1.length : Int) - 1)) < (l1.length : Int) then (if (((rd_T50 l0 (wrap64 ((l0.length : Int) - 1))).f0) == ((rd_T50 l1 (wrap64 ((l1.length : Int) - 1))).f0) && (((rd_T50 l0 (wrap64 ((l0.length : Int) - 1))).f1) == ((rd_T50 l1 (wrap64 ((l1.length : Int) - 1))).f1))) = true then ((impl_reversed.f k l1).bind fun t244 => (if 1 ≤ (t244.length : Int) then ((impl_Place_49.f k (([l0, (t244.drop 1)] : List (List (S50))))).bind fun t255 => (if 0 < (t255.length : Int) then (some t255) else none)) else (none))) else (if (((rd_T50 l0 0).f0) == ((rd_T50 l1 (wrap64 ((l1.length : Int) - 1))).f0) && (((rd_T50 l0 0).f1) == ((rd_T50 l1 (wrap64 ((l1.length : Int) - 1))).f1))) = true then (if 1 ≤ (l0.length : Int) then ((impl_Place_49.f k (([l1, (l0.drop 1)] : List (List (S50))))).bind fun t267 => (if 0 < (t267.length : Int) then (some t267) else none)) else (none)) else (if (((rd_T50 l0 0).f0) == ((rd_T50 l1 0).f0) && (((rd_T50 l0 0).f1) == ((rd_T50 l1 0).f1))) = true then ((impl_reversed.f k l1).bind fun t271 => (if 1 ≤ (l0.length : Int) then ((impl_Place_49.f k (([t271, (l0.drop 1)] : List (List (S50))))).bind fun t282 => (if 0 < (t282.length : Int) then (some t282) else none)) else (none))) else (some ([] : List (S50)))))) else (none)) else (none))) else (none)) else (none)) else (none)) else (none)) = some r := h
 clear h
 by_cases c3 : 0 < (l0.length : Int)
 ·rw [if_pos c3] at H
  have c3b0 : decide (0 < (l0.length : Int)) = true := decide_eq_true c3
  have c3b1 : decide (0 < l0.length) = true := decide_eq_true (by omega)
  clear c3
  obtain ⟨ji4, hji4⟩ : ∃ j_ : Int, (wrap64 ((l0.length : Int) - 1)) = j_ := ⟨_, rfl⟩
  replace H : (if 0 ≤ (ji4) then (if (ji4) < (l0.length : Int) then (if 0 < (l1.length : Int) then (if (((rd_T50 l0 (ji4)).f0) == ((rd_T50 l1 0).f0) && (((rd_T50 l0 (ji4)).f1) == ((rd_T50 l1 0).f1))) = true then (if 1 ≤ (l1.length : Int) then ((impl_Place_49.f k (([l0, (l1.drop 1)] : List (List (S50))))).bind fun t240 => (if 0 < (t240.length : Int) then (some t240) else none)) else (none)) else (if 0 ≤ (wrap64 ((l1.length : Int) - 1)) then (if (wrap64 ((l1.length : Int) - 1)) < (l1.length : Int) then (if (((rd_T50 l0 (ji4)).f0) == ((rd_T50 l1 (wrap64 ((l1.length : Int) - 1))).f0) && (((rd_T50 l0 (ji4)).f1) == ((rd_T50 l1 (wrap64 ((l1.length : Int) - 1))).f1))) = true then ((impl_reversed.f k l1).bind fun t244 => (if 1 ≤ (t244.length : Int) then ((impl_Place_49.f k (([l0, (t244.drop 1)] : List (List (S50))))).bind fun t255 => (if 0 < (t255.length : Int) then (some t255) else none)) else (none))) else (if (((rd_T50 l0 0).f0) == ((rd_T50 l1 (wrap64 ((l1.length : Int) - 1))).f0) && (((rd_T50 l0 0).f1) == ((rd_T50 l1 (wrap64 ((l1.length : Int) - 1))).f1))) = true then (if 1 ≤ (l0.length : Int) then ((impl_Place_49.f k (([l1, (l0.drop 1)] : List (List (S50))))).bind fun t267 => (if 0 < (t267.length : Int) then (some t267) else none)) else (none)) else (if (((rd_T50 l0 0).f0) == ((rd_T50 l1 0).f0) && (((rd_T50 l0 0).f1) == ((rd_T50 l1 0).f1))) = true then ((impl_reversed.f k l1).bind fun t271 => (if 1 ≤ (l0.length : Int) then ((impl_Place_49.f k (([t271, (l0.drop 1)] : List (List (S50))))).bind fun t282 => (if 0 < (t282.length : Int) then (some t282) else none)) else (none))) else (some ([] : List (S50)))))) else (none)) else (none))) else (none)) else (none)) else (none)) = some r := by first | (rw [hji4] at H; exact H) | (simp only [hji4] at H ⊢; exact H)
  have hji4w : (IntKind.i64.wrap ((l0.length : Int) - 1)) = ji4 := (i64_w _).trans hji4
  by_cases c5 : 0 ≤ (ji4)
  ·rw [if_pos c5] at H
   have c5b0 : decide (0 ≤ (ji4)) = true := decide_eq_true c5
   clear c5
   by_cases c6 : (ji4) < (l0.length : Int)
   ·rw [if_pos c6] at H
    have c6b0 : decide ((ji4) < (l0.length : Int)) = true := decide_eq_true c6
    clear c6
    by_cases c7 : 0 < (l1.length : Int)
    ·rw [if_pos c7] at H
     have c7b0 : decide (0 < (l1.length : Int)) = true := decide_eq_true c7
     have c7b1 : decide (0 < l1.length) = true := decide_eq_true (by omega)
     clear c7
     by_cases c8 : (((rd_T50 l0 (ji4)).f0) == ((rd_T50 l1 0).f0) && (((rd_T50 l0 (ji4)).f1) == ((rd_T50 l1 0).f1))) = true
     ·rw [if_pos c8] at H
      have c8b0 : (((rd_T50 l0 (ji4)).f0) == ((rd_T50 l1 0).f0) && (((rd_T50 l0 (ji4)).f1) == ((rd_T50 l1 0).f1))) = true := c8
      (try (have c8b1 : decide (((rd_T50 l0 (ji4)).f0) = ((rd_T50 l1 0).f0) && (((rd_T50 l0 (ji4)).f1) == ((rd_T50 l1 0).f1))) = true := by simpa using c8))
      (try (have c8b2 : (((rd_T50 l0 (ji4)).f0) == ((rd_T50 l1 0).f0) && (((rd_T50 l0 (ji4)).f1) == ((rd_T50 l1 0).f1))) = true := by simpa using c8))
      clear c8
      by_cases c9 : 1 ≤ (l1.length : Int)
      ·rw [if_pos c9] at H
       have c9b0 := eq_true c9
       have c9b1 : decide (1 ≤ (l1.length : Int)) = true := decide_eq_true c9
       clear c9
       obtain ⟨y232, hy232⟩ : ∃ y_ : List (S50), y_ = (l1.drop 1) := ⟨_, rfl⟩
       replace H : ((impl_Place_49.f k (([l0, y232] : List (List (S50))))).bind fun t240 => (if 0 < (t240.length : Int) then (some t240) else none)) = some r := by first | (rw [hy232]; with_reducible exact H) | (have H2_ := (Option.bind_some _ _).symm.trans H; rw [hy232]; with_reducible exact H2_) | (have H2_ := (Option.bind_some _ _).symm.trans H; with_reducible exact H2_) | with_reducible exact H | (rw [hy232]; exact H) | exact H
       have Ny232 := Aside0.mk hy232
       clear hy232
       obtain ⟨y237, hy237⟩ : ∃ y_ : List (List (S50)), y_ = (([l0, y232] : List (List (S50)))) := ⟨_, rfl⟩
       replace H : ((impl_Place_49.f k y237).bind fun t240 => (if 0 < (t240.length : Int) then (some t240) else none)) = some r := by first | (rw [hy237]; with_reducible exact H) | (have H2_ := (Option.bind_some _ _).symm.trans H; rw [hy237]; with_reducible exact H2_) | (have H2_ := (Option.bind_some _ _).symm.trans H; with_reducible exact H2_) | with_reducible exact H | (rw [hy237]; exact H) | exact H
       have Ny237 := Aside0.mk hy237
       clear hy237
       replace H := Option.bind_eq_some_iff.mp H
       obtain ⟨t240, A100, H⟩ := H
       replace H : (if 0 < (t240.length : Int) then (some t240) else none) = some r := H
       have hnz_ : 0 < (t240.length : Int) := by
        by_cases hz_ : 0 < (t240.length : Int)
        ·exact hz_
        ·rw [if_neg hz_] at H; cases H
       rw [if_pos hnz_] at H
       have HNZ := Aside0.mk (show t240 ≠ [] from fun h_ => by rw [h_] at hnz_; simp at hnz_)
       clear hnz_
       have A10 := Aside0.mk A100
       clear A100
       obtain rfl := Option.some.inj H
       go_enter Try.func32, Try.ntmps32
       try go_wp2
       have n0_ := Aside0.mk (Kd.V_drew HO0.out)
       have n1_ := Aside0.mk (Kd.V_drew HO1.out)
       have n2_ := Aside0.mk (below_drew1 HB.out)
       clear HO0 HO1 HB
       have HO0 := n0_; have HO1 := n1_; have HB := n2_
       clear n0_ n1_ n2_
       have p227 : 0 ≤ (0 : Int) := (by omega)
       have q227 : 0 < (l0.length : Int) := od_
       obtain ⟨ad227, e227, hx227_0, hx227_1⟩ := at_T50 (Kd.V_reads' HO0.out).2.2 0 p227 q227
       cases e227
       have qi227 : (0 < l0.length) = True := eq_true (by omega)
       (try rw [show ((0 : Int)).toNat = 0 from rfl] at hx227_0)
       (try rw [show 0 * 2 = 0 from rfl] at hx227_0)
       (try rw [Addr.add_zero'] at hx227_0)
       (try rw [show ((0 : Int)).toNat = 0 from rfl] at hx227_1)
       (try rw [show 0 * 2 = 0 from rfl] at hx227_1)
       (try rw [Addr.add_zero'] at hx227_1)
       replace p227 := eq_true p227
       replace q227 := eq_true q227
       have p228 : 0 ≤ ((ji4) : Int) := od_
       have q228 : (ji4) < (l0.length : Int) := od_
       obtain ⟨ad228, e228, hx228_0, hx228_1⟩ := at_T50 (Kd.V_reads' HO0.out).2.2 (ji4) p228 q228
       obtain rfl : ad227 = ad228 := (by injection e228)
       replace p228 := eq_true p228
       replace q228 := eq_true q228
       refine start_ (n := 13) (S := fun w' => w'.cell? ad227 = some (.int .i64 ((rd_T50 l0 0).f0)) ∧ w'.cell? ⟨ad227.block, ad227.off + 1, none⟩ = some (.int .i64 ((rd_T50 l0 0).f1)) ∧ w'.cell? (ad227.add (((ji4)).toNat * 2)) = some (.int .i64 ((rd_T50 l0 (ji4)).f0)) ∧ w'.cell? ⟨(ad227.add (((ji4)).toNat * 2)).block, (ad227.add (((ji4)).toNat * 2)).off + 1, none⟩ = some (.int .i64 ((rd_T50 l0 (ji4)).f1))) (ds := []) #[false, false, false, false, false, false, false, false, false, false, false, false, false] (by kernel_rfl) rfl rfl ⟨hx227_0, hx227_1, hx228_0, hx228_1⟩ (fun hHeld => ?_); refine with_tabW impl_join.tab1 impl_join.bits1 (fun HT_ HW_ => ?_)
       generalize w.drew = w11 at HO0 HO1 HB hx227_0 hx227_1 hx228_0 hx228_1 hHeld ⊢
       refine pure_ (i := 0) (N := some 7) (v := ?_) (a' := ?_) #[true, false, false, false, false, false, false, false, false, false, false, false, false] rfl rfl (any_of HT_.out (by kernel_rfl)) (fun _ _ _ h => h) (Or.inl ⟨by rfl, ?_⟩) ?_ ?_
       rotate_left
       ·intro w'
        go_simp
        with_reducible rfl
       rotate_left
       ·simp only [Act.put, List.setIfInBounds_toArray, List.set_cons_zero, List.set_cons_succ, i64_w, i32_w]
        rfl
       refine pure_ (i := 1) (N := some 8) (v := ?_) (a' := ?_) #[true, true, false, false, false, false, false, false, false, false, false, false, false] rfl rfl (any_of HT_.out (by kernel_rfl)) (fun _ _ _ h => h) (Or.inl ⟨by rfl, ?_⟩) ?_ ?_
       rotate_left
       ·intro w'
        go_simp
        with_reducible rfl
       rotate_left
       ·simp only [Act.put, List.setIfInBounds_toArray, List.set_cons_zero, List.set_cons_succ, i64_w, i32_w]
        rfl
       refine pure_ (i := 3) (N := some 10) (v := ?_) (a' := ?_) #[true, true, false, true, false, false, false, false, false, false, false, false, false] rfl rfl (any_of HT_.out (by kernel_rfl)) (fun _ _ _ h => h) (Or.inl ⟨by rfl, ?_⟩) ?_ ?_
       rotate_left
       ·intro w'
        go_simp
        with_reducible rfl
       rotate_left
       ·simp only [Act.put, List.setIfInBounds_toArray, List.set_cons_zero, List.set_cons_succ, i64_w, i32_w]
        rfl
       refine pure_ (i := 4) (N := some 11) (v := ?_) (a' := ?_) #[true, true, false, true, true, false, false, false, false, false, false, false, false] rfl rfl (any_of HT_.out (by kernel_rfl)) (fun _ _ _ h => h) (Or.inl ⟨by rfl, ?_⟩) ?_ ?_
       rotate_left
       ·intro w'
        go_simp
        with_reducible rfl
       rotate_left
       ·simp only [Act.put, List.setIfInBounds_toArray, List.set_cons_zero, List.set_cons_succ, i64_w, i32_w]
        rfl
       refine pure_ (i := 5) (N := some 12) (v := ?_) (a' := ?_) #[true, true, false, true, true, true, false, false, false, false, false, false, false] rfl rfl (any_of HT_.out (by kernel_rfl)) (fun _ _ _ h => h) (Or.inl ⟨by rfl, ?_⟩) ?_ ?_
       rotate_left
       ·intro w'
        go_simp
        with_reducible rfl
       rotate_left
       ·simp only [Act.put, List.setIfInBounds_toArray, List.set_cons_zero, List.set_cons_succ, i64_w, i32_w]
        rfl
       refine pure_ (i := 6) (N := some 13) (v := ?_) (a' := ?_) #[true, true, false, true, true, true, true, false, false, false, false, false, false] rfl rfl (any_of HT_.out (by kernel_rfl)) (fun _ _ _ h => h) (Or.inl ⟨by rfl, ?_⟩) ?_ ?_
       rotate_left
       ·intro w'
        go_simp
        with_reducible rfl
       rotate_left
       ·simp only [Act.put, List.setIfInBounds_toArray, List.set_cons_zero, List.set_cons_succ, i64_w, i32_w]
        rfl
       refine pure_ (i := 7) (N := some 14) (v := ?_) (a' := ?_) #[true, true, false, true, true, true, true, true, false, false, false, false, false] rfl rfl (any_of HT_.out (by kernel_rfl)) (fun _ _ _ h => h) (Or.inl ⟨by rfl, ?_⟩) ?_ ?_
       rotate_left
       ·intro w'
        go_simp
        with_reducible rfl
       rotate_left
       ·simp only [Act.put, List.setIfInBounds_toArray, List.set_cons_zero, List.set_cons_succ, i64_w, i32_w]
        rfl
       refine take_ (i := 2) (N := some 9) (v := ?_) (a' := ?_) #[true, true, true, true, true, true, true, true, false, false, false, false, false] rfl rfl (take_ofW HT_.out HW_.out (by kernel_rfl)) (fun _ _ _ h => h) (Or.inl ⟨by rfl, ?_⟩) hHeld ?_ ?_
       rotate_left
       ·rintro w' ⟨s0, s1, s2, s3⟩
        go_simp
        with_reducible rfl
       rotate_left
       ·simp only [Act.put, List.setIfInBounds_toArray, List.set_cons_zero, List.set_cons_succ, i64_w, i32_w]
        rfl
       refine take_ (i := 8) (N := some 15) (v := ?_) (a' := ?_) #[true, true, true, true, true, true, true, true, true, false, false, false, false] rfl rfl (take_ofW HT_.out HW_.out (by kernel_rfl)) (fun _ _ _ h => h) (Or.inl ⟨by rfl, ?_⟩) hHeld ?_ ?_
       rotate_left
       ·rintro w' ⟨s0, s1, s2, s3⟩
        go_simp
        with_reducible rfl
       rotate_left
       ·simp only [Act.put, List.setIfInBounds_toArray, List.set_cons_zero, List.set_cons_succ, i64_w, i32_w]
        rfl
       refine join_ (σ := Nat × Nat) 2 #[true, true, true, true, true, true, true, true, true, true, true, false, false] (fun s_ => [(5, .pointer (some ⟨s_.1, 0, none⟩)), (6, .pointer (some ⟨s_.2, 0, none⟩))]) (fun s_ w' => (w'.cell? ad227 = some (.int .i64 ((rd_T50 l0 0).f0)) ∧ w'.cell? ⟨ad227.block, ad227.off + 1, none⟩ = some (.int .i64 ((rd_T50 l0 0).f1)) ∧ w'.cell? (ad227.add (((ji4)).toNat * 2)) = some (.int .i64 ((rd_T50 l0 (ji4)).f0)) ∧ w'.cell? ⟨(ad227.add (((ji4)).toNat * 2)).block, (ad227.add (((ji4)).toNat * 2)).off + 1, none⟩ = some (.int .i64 ((rd_T50 l0 (ji4)).f1))) ∧ (Kd.V k50 50 w' w.heap.size (fun k_ => ((P0_ k_ ∨ P1_ k_) ∨ w.heap.size ≤ k_) ∧ k_ ≠ s_.1 ∧ k_ ≠ s_.2) (.slice (some ad227) l0.length c0) l0) ∧ (Kd.V k50 50 w' w.heap.size (fun k_ => ((P0_ k_ ∨ P1_ k_) ∨ w.heap.size ≤ k_) ∧ k_ ≠ s_.1 ∧ k_ ≠ s_.2) (.slice A1 l1.length c1) l1) ∧ (w'.heap[s_.1]? = some (.cells #[.int .i64 0, .int .i64 0] 50 (0, 0))) ∧ (w'.heap[s_.2]? = some (.cells #[.int .i64 0, .int .i64 0] 50 (0, 0))) ∧ (w.heap.size ≤ s_.1) ∧ (w.heap.size ≤ s_.1) ∧ (s_.2 ≠ s_.1) ∧ (s_.1 ≠ s_.2) ∧ (w.heap.size ≤ s_.2) ∧ (w.heap.size ≤ s_.2) ∧ (Below w.heap.size w w')) ?_ ?_
       rotate_left
       ·intro hCont
        refine two_ (i := 9) (j := 10) (Ni := some 5) (Nj := some 6) #[true, true, true, true, true, true, true, true, true, true, false, false, false] #[true, true, true, true, true, true, true, true, true, false, true, false, false] rfl rfl rfl rfl (two_of HT_.out (by kernel_rfl)) (by decide) (by decide) (fun K hK => ?_) (fun K hK => ?_)
        ·skip
         refine box_step ?hg (N := 5) ?hd (cs := #[.int .i64 0, .int .i64 0]) (t := 50) ?hr ?_; (case hd => rfl); (case hg => rfl); (case hr => first | (go_simp; done) | (go_simp; rfl))
         intro gb229 hg w12 hbox hb
         have HS0_ := hs_ hb hHeld.1
         have HS1_ := hs_ hb hHeld.2.1
         have HS2_ := hs_ hb hHeld.2.2.1
         have HS3_ := hs_ hb hHeld.2.2.2
         have n0_ := Aside0.mk (Kd.V_below (Kd.V_elderB (vk_ HO0.out) gb229 (Nat.le_of_eq hg.symm)) hb)
         have n1_ := Aside0.mk (Kd.V_below (Kd.V_elderB (vk_ HO1.out) gb229 (Nat.le_of_eq hg.symm)) hb)
         have n2_ := Aside0.mk (below_step (bw_ HB.out) hb)
         have n3_ := Aside0.mk (hbox)
         have n4_ := Aside0.mk ((ge_ hg (bw_ HB.out)))
         have n5_ := Aside0.mk ((ge_ hg (bw_ HB.out)))
         clear HO0 HO1 HB
         have HO0 := n0_; have HO1 := n1_; have HB := n2_; have BK229 := n3_; have GW229 := n4_; have GE229 := n5_
         clear n0_ n1_ n2_ n3_ n4_ n5_ hb hbox hg
         refine hK.out _ _ ⟨HS0_, HS1_, HS2_, HS3_⟩ (fun hHeld => ?_)
         clear hK K
         refine norm_ (a' := ?_) ?_ ?_
         rotate_left
         ·show Act.put _ (some 5) _ = _
          simp only [Act.put, List.setIfInBounds_toArray, List.set_cons_zero, List.set_cons_succ, i64_w, i32_w]
          rfl
         refine one_ (i := 10) (N := some 6) #[true, true, true, true, true, true, true, true, true, true, true, false, false] rfl rfl (one_of HT_.out (by kernel_rfl)) (by decide) (fun K hK => ?_)
         refine box_step ?hg (N := 6) ?hd (cs := #[.int .i64 0, .int .i64 0]) (t := 50) ?hr ?_; (case hd => rfl); (case hg => rfl); (case hr => first | (go_simp; done) | (go_simp; rfl))
         intro gb230 hg w13 hbox hb
         have HS0_ := hs_ hb hHeld.1
         have HS1_ := hs_ hb hHeld.2.1
         have HS2_ := hs_ hb hHeld.2.2.1
         have HS3_ := hs_ hb hHeld.2.2.2
         have n0_ := Aside0.mk (Kd.V_below (Kd.V_elderB (vk_ HO0.out) gb230 (Nat.le_of_eq hg.symm)) hb)
         have n1_ := Aside0.mk (Kd.V_below (Kd.V_elderB (vk_ HO1.out) gb230 (Nat.le_of_eq hg.symm)) hb)
         have n2_ := Aside0.mk (blk_below (bk_ BK229.out) hb)
         have n3_ := Aside0.mk (below_step (bws_ HB.out) hb)
         have n4_ := Aside0.mk (hbox)
         have n5_ := Aside0.mk ((ge_ hg (bws_ HB.out)))
         have n6_ := Aside0.mk ((ge_ hg (bws_ HB.out)))
         have n7_ := Aside0.mk ((ne1_ hg (bk_ BK229.out)))
         have n8_ := Aside0.mk ((ne2_ hg (bk_ BK229.out)))
         clear HO0 HO1 BK229 HB
         have HO0 := n0_; have HO1 := n1_; have BK229 := n2_; have HB := n3_; have BK230 := n4_; have GW230 := n5_; have GE230 := n6_; have NB229_230 := n7_; have NB230_229 := n8_
         clear n0_ n1_ n2_ n3_ n4_ n5_ n6_ n7_ n8_ hb hbox hg
         refine hK.out _ _ ⟨HS0_, HS1_, HS2_, HS3_⟩ (fun hHeld => ?_)
         clear hK K
         refine norm_ (a' := ?_) ?_ ?_
         rotate_left
         ·show Act.put _ (some 6) _ = _
          simp only [Act.put, List.setIfInBounds_toArray, List.set_cons_zero, List.set_cons_succ, i64_w, i32_w]
          rfl
         exact norm_ (by simp only [putAll, Act.put, List.setIfInBounds_toArray, List.set_cons_zero, List.set_cons_succ]) (hCont (gb229, gb230) _ ⟨hHeld, (by (with_reducible repeat (first | apply Kd.V_alloc | apply Kd.V_drewN | apply Kd.V_drew)); exact Kd.V_mono HO0.out (fun _ hk => ⟨hk.1.1, ⟨hk.1.2, hk.2⟩⟩)), (by (with_reducible repeat (first | apply Kd.V_alloc | apply Kd.V_drewN | apply Kd.V_drew)); exact Kd.V_mono HO1.out (fun _ hk => ⟨hk.1.1, ⟨hk.1.2, hk.2⟩⟩)), (bk_ BK229.out), (bk_ BK230.out), GW229.out, GE229.out, NB230_229.out, NB229_230.out, GW230.out, GE230.out, (bws_ HB.out)⟩)
        ·skip
         refine box_step ?hg (N := 6) ?hd (cs := #[.int .i64 0, .int .i64 0]) (t := 50) ?hr ?_; (case hd => rfl); (case hg => rfl); (case hr => first | (go_simp; done) | (go_simp; rfl))
         intro gb230 hg w12 hbox hb
         have HS0_ := hs_ hb hHeld.1
         have HS1_ := hs_ hb hHeld.2.1
         have HS2_ := hs_ hb hHeld.2.2.1
         have HS3_ := hs_ hb hHeld.2.2.2
         have n0_ := Aside0.mk (Kd.V_below (Kd.V_elderB (vk_ HO0.out) gb230 (Nat.le_of_eq hg.symm)) hb)
         have n1_ := Aside0.mk (Kd.V_below (Kd.V_elderB (vk_ HO1.out) gb230 (Nat.le_of_eq hg.symm)) hb)
         have n2_ := Aside0.mk (below_step (bw_ HB.out) hb)
         have n3_ := Aside0.mk (hbox)
         have n4_ := Aside0.mk ((ge_ hg (bw_ HB.out)))
         have n5_ := Aside0.mk ((ge_ hg (bw_ HB.out)))
         clear HO0 HO1 HB
         have HO0 := n0_; have HO1 := n1_; have HB := n2_; have BK230 := n3_; have GW230 := n4_; have GE230 := n5_
         clear n0_ n1_ n2_ n3_ n4_ n5_ hb hbox hg
         refine hK.out _ _ ⟨HS0_, HS1_, HS2_, HS3_⟩ (fun hHeld => ?_)
         clear hK K
         refine norm_ (a' := ?_) ?_ ?_
         rotate_left
         ·show Act.put _ (some 6) _ = _
          simp only [Act.put, List.setIfInBounds_toArray, List.set_cons_zero, List.set_cons_succ, i64_w, i32_w]
          rfl
         refine one_ (i := 9) (N := some 5) #[true, true, true, true, true, true, true, true, true, true, true, false, false] rfl rfl (one_of HT_.out (by kernel_rfl)) (by decide) (fun K hK => ?_)
         refine box_step ?hg (N := 5) ?hd (cs := #[.int .i64 0, .int .i64 0]) (t := 50) ?hr ?_; (case hd => rfl); (case hg => rfl); (case hr => first | (go_simp; done) | (go_simp; rfl))
         intro gb229 hg w13 hbox hb
         have HS0_ := hs_ hb hHeld.1
         have HS1_ := hs_ hb hHeld.2.1
         have HS2_ := hs_ hb hHeld.2.2.1
         have HS3_ := hs_ hb hHeld.2.2.2
         have n0_ := Aside0.mk (Kd.V_below (Kd.V_elderB (vk_ HO0.out) gb229 (Nat.le_of_eq hg.symm)) hb)
         have n1_ := Aside0.mk (Kd.V_below (Kd.V_elderB (vk_ HO1.out) gb229 (Nat.le_of_eq hg.symm)) hb)
         have n2_ := Aside0.mk (blk_below (bk_ BK230.out) hb)
         have n3_ := Aside0.mk (below_step (bws_ HB.out) hb)
         have n4_ := Aside0.mk (hbox)
         have n5_ := Aside0.mk ((ge_ hg (bws_ HB.out)))
         have n6_ := Aside0.mk ((ge_ hg (bws_ HB.out)))
         have n7_ := Aside0.mk ((ne1_ hg (bk_ BK230.out)))
         have n8_ := Aside0.mk ((ne2_ hg (bk_ BK230.out)))
         clear HO0 HO1 BK230 HB
         have HO0 := n0_; have HO1 := n1_; have BK230 := n2_; have HB := n3_; have BK229 := n4_; have GW229 := n5_; have GE229 := n6_; have NB230_229 := n7_; have NB229_230 := n8_
         clear n0_ n1_ n2_ n3_ n4_ n5_ n6_ n7_ n8_ hb hbox hg
         refine hK.out _ _ ⟨HS0_, HS1_, HS2_, HS3_⟩ (fun hHeld => ?_)
         clear hK K
         refine norm_ (a' := ?_) ?_ ?_
         rotate_left
         ·show Act.put _ (some 5) _ = _
          simp only [Act.put, List.setIfInBounds_toArray, List.set_cons_zero, List.set_cons_succ, i64_w, i32_w]
          rfl
         exact norm_ (by simp only [putAll, Act.put, List.setIfInBounds_toArray, List.set_cons_zero, List.set_cons_succ]) (hCont (gb229, gb230) _ ⟨hHeld, (by (with_reducible repeat (first | apply Kd.V_alloc | apply Kd.V_drewN | apply Kd.V_drew)); exact Kd.V_mono HO0.out (fun _ hk => ⟨hk.1.1, ⟨hk.2, hk.1.2⟩⟩)), (by (with_reducible repeat (first | apply Kd.V_alloc | apply Kd.V_drewN | apply Kd.V_drew)); exact Kd.V_mono HO1.out (fun _ hk => ⟨hk.1.1, ⟨hk.2, hk.1.2⟩⟩)), (bk_ BK229.out), (bk_ BK230.out), GW229.out, GE229.out, NB230_229.out, NB229_230.out, GW230.out, GE230.out, (bws_ HB.out)⟩)
       rintro ⟨gb229, gb230⟩ w14 ⟨hS_, h0_, h1_, h2_, h3_, h4_, h5_, h6_, h7_, h8_, h9_, h10_⟩
       have n0_ : Aside0 (Kd.V k50 50 w14 w.heap.size (fun k_ => ((P0_ k_ ∨ P1_ k_) ∨ w.heap.size ≤ k_) ∧ k_ ≠ gb229 ∧ k_ ≠ gb230) (.slice (some ad227) l0.length c0) l0) := ⟨h0_⟩
       have n1_ : Aside0 (Kd.V k50 50 w14 w.heap.size (fun k_ => ((P0_ k_ ∨ P1_ k_) ∨ w.heap.size ≤ k_) ∧ k_ ≠ gb229 ∧ k_ ≠ gb230) (.slice A1 l1.length c1) l1) := ⟨h1_⟩
       have n2_ : Aside0 (w14.heap[gb229]? = some (.cells #[.int .i64 0, .int .i64 0] 50 (0, 0))) := ⟨h2_⟩
       have n3_ : Aside0 (w14.heap[gb230]? = some (.cells #[.int .i64 0, .int .i64 0] 50 (0, 0))) := ⟨h3_⟩
       have n4_ : Aside0 (w.heap.size ≤ gb229) := ⟨h4_⟩
       have n5_ : Aside0 (w.heap.size ≤ gb229) := ⟨h5_⟩
       have n6_ : Aside0 (gb230 ≠ gb229) := ⟨h6_⟩
       have n7_ : Aside0 (gb229 ≠ gb230) := ⟨h7_⟩
       have n8_ : Aside0 (w.heap.size ≤ gb230) := ⟨h8_⟩
       have n9_ : Aside0 (w.heap.size ≤ gb230) := ⟨h9_⟩
       have n10_ : Aside0 (Below w.heap.size w w14) := ⟨h10_⟩
       clear HO0 HO1 HB h0_ h1_ h2_ h3_ h4_ h5_ h6_ h7_ h8_ h9_ h10_
       have HO0 := n0_; have HO1 := n1_; have BK229 := n2_; have BK230 := n3_; have GW229 := n4_; have GE229 := n5_; have NB230_229 := n6_; have NB229_230 := n7_; have GW230 := n8_; have GE230 := n9_
       have HB := n10_
       clear n0_ n1_ n2_ n3_ n4_ n5_ n6_ n7_ n8_ n9_ n10_
       have hHeld : w14.cell? ad227 = some (.int .i64 ((rd_T50 l0 0).f0)) ∧ w14.cell? ⟨ad227.block, ad227.off + 1, none⟩ = some (.int .i64 ((rd_T50 l0 0).f1)) ∧ w14.cell? (ad227.add (((ji4)).toNat * 2)) = some (.int .i64 ((rd_T50 l0 (ji4)).f0)) ∧ w14.cell? ⟨(ad227.add (((ji4)).toNat * 2)).block, (ad227.add (((ji4)).toNat * 2)).off + 1, none⟩ = some (.int .i64 ((rd_T50 l0 (ji4)).f1)) := hS_
       refine norm_ (a' := ?_) ?_ ?_
       rotate_left
       ·simp only [putAll, Act.put, List.setIfInBounds_toArray, List.set_cons_zero, List.set_cons_succ]
        rfl
       refine one_ (i := 11) (N := none) #[true, true, true, true, true, true, true, true, true, true, true, true, false] rfl rfl (one_of HT_.out (by kernel_rfl)) (by decide) (fun K hK => ?_)
       have hs15 : w14.cell? ⟨gb229, 0, none⟩ = some (.int .i64 0) := (blk_cell BK229.out 0).trans rfl
       have hfs15 := blk_frozen BK229.out 0
       have hns15_1 := NB230_229.out
       have hms15_1 := NB229_230.out
       have hs16 : w14.cell? ⟨gb229, 1, none⟩ = some (.int .i64 0) := (blk_cell BK229.out 1).trans rfl
       have hfs16 := blk_frozen BK229.out 1
       have hns16_1 := NB230_229.out
       have hms16_1 := NB229_230.out
       refine skip_ (w1 := ?_) (by rfl) rfl ?_ ?_
       rotate_left
       ·go_simp
        rfl
       refine hK.out _ _ ⟨(far2_ (by first | (rw [add_block]; exact vaw_ HO0.out (fun _ hk => hk.2.1) od_) | exact vaw_ HO0.out (fun _ hk => hk.2.1) od_ | (dsimp only; exact vaw_ HO0.out (fun _ hk => hk.2.1) od_)) hHeld.1), (far2_ (by first | (rw [add_block]; exact vaw_ HO0.out (fun _ hk => hk.2.1) od_) | exact vaw_ HO0.out (fun _ hk => hk.2.1) od_ | (dsimp only; exact vaw_ HO0.out (fun _ hk => hk.2.1) od_)) hHeld.2.1), (far2_ (by first | (rw [add_block]; exact vaw_ HO0.out (fun _ hk => hk.2.1) od_) | exact vaw_ HO0.out (fun _ hk => hk.2.1) od_ | (dsimp only; exact vaw_ HO0.out (fun _ hk => hk.2.1) od_)) hHeld.2.2.1), (far2_ (by first | (rw [add_block]; exact vaw_ HO0.out (fun _ hk => hk.2.1) od_) | exact vaw_ HO0.out (fun _ hk => hk.2.1) od_ | (dsimp only; exact vaw_ HO0.out (fun _ hk => hk.2.1) od_)) hHeld.2.2.2)⟩ (fun hHeld => ?_)
       clear hK K
       refine one_ (i := 12) (N := none) #[true, true, true, true, true, true, true, true, true, true, true, true, true] rfl rfl (one_of HT_.out (by kernel_rfl)) (by decide) (fun K hK => ?_)
       have hs17 : w14.cell? ⟨gb230, 0, none⟩ = some (.int .i64 0) := (blk_cell BK230.out 0).trans rfl
       have hfs17 := blk_frozen BK230.out 0
       have hns17_0 := NB229_230.out
       have hms17_0 := NB230_229.out
       have hs18 : w14.cell? ⟨gb230, 1, none⟩ = some (.int .i64 0) := (blk_cell BK230.out 1).trans rfl
       have hfs18 := blk_frozen BK230.out 1
       have hns18_0 := NB229_230.out
       have hms18_0 := NB230_229.out
       refine skip_ (w1 := ?_) (by rfl) rfl ?_ ?_
       rotate_left
       ·go_simp
        rfl
       refine hK.out _ _ ⟨(far2_ (by first | (rw [add_block]; exact vaw_ HO0.out (fun _ hk => hk.2.2) od_) | exact vaw_ HO0.out (fun _ hk => hk.2.2) od_ | (dsimp only; exact vaw_ HO0.out (fun _ hk => hk.2.2) od_)) hHeld.1), (far2_ (by first | (rw [add_block]; exact vaw_ HO0.out (fun _ hk => hk.2.2) od_) | exact vaw_ HO0.out (fun _ hk => hk.2.2) od_ | (dsimp only; exact vaw_ HO0.out (fun _ hk => hk.2.2) od_)) hHeld.2.1), (far2_ (by first | (rw [add_block]; exact vaw_ HO0.out (fun _ hk => hk.2.2) od_) | exact vaw_ HO0.out (fun _ hk => hk.2.2) od_ | (dsimp only; exact vaw_ HO0.out (fun _ hk => hk.2.2) od_)) hHeld.2.2.1), (far2_ (by first | (rw [add_block]; exact vaw_ HO0.out (fun _ hk => hk.2.2) od_) | exact vaw_ HO0.out (fun _ hk => hk.2.2) od_ | (dsimp only; exact vaw_ HO0.out (fun _ hk => hk.2.2) od_)) hHeld.2.2.2)⟩ (fun hHeld => ?_)
       clear hK K
       refine done_ (done_of HT_.out (by kernel_rfl)) ?_
       try go_wp2
       have n0_ : Aside0 (Kd.V k50 50 ((((w14.setCell ⟨gb229, 0, none⟩ (.int .i64 ((rd_T50 l0 0).f0))).setCell ⟨gb229, 1, none⟩ (.int .i64 ((rd_T50 l0 0).f1))).setCell ⟨gb230, 0, none⟩ (.int .i64 ((rd_T50 l0 (ji4)).f0))).setCell ⟨gb230, 1, none⟩ (.int .i64 ((rd_T50 l0 (ji4)).f1))) w.heap.size (fun k_ => ((P0_ k_ ∨ P1_ k_) ∨ w.heap.size ≤ k_) ∧ k_ ≠ gb229 ∧ k_ ≠ gb230) (.slice (some ad227) l0.length c0) l0) := ⟨by (with_reducible repeat (first | apply Kd.V_alloc | apply Kd.V_drewN | apply Kd.V_drew)); exact Kd.V_mono (Kd.V_far (p := ⟨gb230, 1, none⟩) (Kd.V_far (p := ⟨gb230, 0, none⟩) (Kd.V_far (p := ⟨gb229, 1, none⟩) (Kd.V_far (p := ⟨gb229, 0, none⟩) (Kd.V_mono (Kd.V_mono HO0.out (fun k_ hk => (⟨hk, hk.2.1⟩ : _ ∧ k_ ≠ gb229))) (fun k_ hk => (⟨hk, hk.1.2.2⟩ : _ ∧ k_ ≠ gb230))) (fun _ hk => hk.1.2) (.int .i64 ((rd_T50 l0 0).f0))) (fun _ hk => hk.1.2) (.int .i64 ((rd_T50 l0 0).f1))) (fun _ hk => hk.2) (.int .i64 ((rd_T50 l0 (ji4)).f0))) (fun _ hk => hk.2) (.int .i64 ((rd_T50 l0 (ji4)).f1))) (fun _ hk => ⟨hk.1.1.1, ⟨hk.1.1.2.1, hk.1.1.2.2⟩⟩)⟩
       have n1_ : Aside0 (Kd.V k50 50 ((((w14.setCell ⟨gb229, 0, none⟩ (.int .i64 ((rd_T50 l0 0).f0))).setCell ⟨gb229, 1, none⟩ (.int .i64 ((rd_T50 l0 0).f1))).setCell ⟨gb230, 0, none⟩ (.int .i64 ((rd_T50 l0 (ji4)).f0))).setCell ⟨gb230, 1, none⟩ (.int .i64 ((rd_T50 l0 (ji4)).f1))) w.heap.size (fun k_ => ((P0_ k_ ∨ P1_ k_) ∨ w.heap.size ≤ k_) ∧ k_ ≠ gb229 ∧ k_ ≠ gb230) (.slice A1 l1.length c1) l1) := ⟨by (with_reducible repeat (first | apply Kd.V_alloc | apply Kd.V_drewN | apply Kd.V_drew)); exact Kd.V_mono (Kd.V_far (p := ⟨gb230, 1, none⟩) (Kd.V_far (p := ⟨gb230, 0, none⟩) (Kd.V_far (p := ⟨gb229, 1, none⟩) (Kd.V_far (p := ⟨gb229, 0, none⟩) (Kd.V_mono (Kd.V_mono HO1.out (fun k_ hk => (⟨hk, hk.2.1⟩ : _ ∧ k_ ≠ gb229))) (fun k_ hk => (⟨hk, hk.1.2.2⟩ : _ ∧ k_ ≠ gb230))) (fun _ hk => hk.1.2) (.int .i64 ((rd_T50 l0 0).f0))) (fun _ hk => hk.1.2) (.int .i64 ((rd_T50 l0 0).f1))) (fun _ hk => hk.2) (.int .i64 ((rd_T50 l0 (ji4)).f0))) (fun _ hk => hk.2) (.int .i64 ((rd_T50 l0 (ji4)).f1))) (fun _ hk => ⟨hk.1.1.1, ⟨hk.1.1.2.1, hk.1.1.2.2⟩⟩)⟩
       have n2_ : Aside0 (((((w14.setCell ⟨gb229, 0, none⟩ (.int .i64 ((rd_T50 l0 0).f0))).setCell ⟨gb229, 1, none⟩ (.int .i64 ((rd_T50 l0 0).f1))).setCell ⟨gb230, 0, none⟩ (.int .i64 ((rd_T50 l0 (ji4)).f0))).setCell ⟨gb230, 1, none⟩ (.int .i64 ((rd_T50 l0 (ji4)).f1))).heap[gb229]? = some (.cells #[.int .i64 ((rd_T50 l0 0).f0), .int .i64 ((rd_T50 l0 0).f1)] 50 (0, 0))) := ⟨by (with_reducible repeat (first | refine blk_drewN ?_ _ | refine blk_drew ?_ | refine blk_alloc ?_ _)); refine blk_far ?_ NB229_230.out _; (with_reducible repeat (first | refine blk_drewN ?_ _ | refine blk_drew ?_ | refine blk_alloc ?_ _)); refine blk_far ?_ NB229_230.out _; (with_reducible repeat (first | refine blk_drewN ?_ _ | refine blk_drew ?_ | refine blk_alloc ?_ _)); refine blk_put (cs := #[.int .i64 ((rd_T50 l0 0).f0), .int .i64 0]) ?_ 1 _ rfl; (with_reducible repeat (first | refine blk_drewN ?_ _ | refine blk_drew ?_ | refine blk_alloc ?_ _)); refine blk_put (cs := #[.int .i64 0, .int .i64 0]) ?_ 0 _ rfl; (with_reducible repeat (first | refine blk_drewN ?_ _ | refine blk_drew ?_ | refine blk_alloc ?_ _)); exact BK229.out⟩
       have n3_ : Aside0 (((((w14.setCell ⟨gb229, 0, none⟩ (.int .i64 ((rd_T50 l0 0).f0))).setCell ⟨gb229, 1, none⟩ (.int .i64 ((rd_T50 l0 0).f1))).setCell ⟨gb230, 0, none⟩ (.int .i64 ((rd_T50 l0 (ji4)).f0))).setCell ⟨gb230, 1, none⟩ (.int .i64 ((rd_T50 l0 (ji4)).f1))).heap[gb230]? = some (.cells #[.int .i64 ((rd_T50 l0 (ji4)).f0), .int .i64 ((rd_T50 l0 (ji4)).f1)] 50 (0, 0))) := ⟨by (with_reducible repeat (first | refine blk_drewN ?_ _ | refine blk_drew ?_ | refine blk_alloc ?_ _)); refine blk_put (cs := #[.int .i64 ((rd_T50 l0 (ji4)).f0), .int .i64 0]) ?_ 1 _ rfl; (with_reducible repeat (first | refine blk_drewN ?_ _ | refine blk_drew ?_ | refine blk_alloc ?_ _)); refine blk_put (cs := #[.int .i64 0, .int .i64 0]) ?_ 0 _ rfl; (with_reducible repeat (first | refine blk_drewN ?_ _ | refine blk_drew ?_ | refine blk_alloc ?_ _)); refine blk_far ?_ NB230_229.out _; (with_reducible repeat (first | refine blk_drewN ?_ _ | refine blk_drew ?_ | refine blk_alloc ?_ _)); refine blk_far ?_ NB230_229.out _; (with_reducible repeat (first | refine blk_drewN ?_ _ | refine blk_drew ?_ | refine blk_alloc ?_ _)); exact BK230.out⟩
       have n4_ : Aside0 (Below w.heap.size w ((((w14.setCell ⟨gb229, 0, none⟩ (.int .i64 ((rd_T50 l0 0).f0))).setCell ⟨gb229, 1, none⟩ (.int .i64 ((rd_T50 l0 0).f1))).setCell ⟨gb230, 0, none⟩ (.int .i64 ((rd_T50 l0 (ji4)).f0))).setCell ⟨gb230, 1, none⟩ (.int .i64 ((rd_T50 l0 (ji4)).f1)))) := ⟨bws_ HB.out⟩
       (try clear HO0)
       (try clear HO1)
       (try clear BK229)
       (try clear BK230)
       (try clear HB)
       generalize ((((w14.setCell ⟨gb229, 0, none⟩ (.int .i64 ((rd_T50 l0 0).f0))).setCell ⟨gb229, 1, none⟩ (.int .i64 ((rd_T50 l0 0).f1))).setCell ⟨gb230, 0, none⟩ (.int .i64 ((rd_T50 l0 (ji4)).f0))).setCell ⟨gb230, 1, none⟩ (.int .i64 ((rd_T50 l0 (ji4)).f1))) = w19 at n0_ n1_ n2_ n3_ n4_ ⊢
       have HO0 := n0_; have HO1 := n1_; have BK229 := n2_; have BK230 := n3_; have HB := n4_
       clear n0_ n1_ n2_ n3_ n4_
       have n0_ := Aside0.mk (Kd.V_drew HO0.out)
       have n1_ := Aside0.mk (Kd.V_drew HO1.out)
       have n2_ := Aside0.mk (blk_drew BK229.out)
       have n3_ := Aside0.mk (blk_drew BK230.out)
       have n4_ := Aside0.mk (below_drew1 HB.out)
       clear HO0 HO1 BK229 BK230 HB
       have HO0 := n0_; have HO1 := n1_; have BK229 := n2_; have BK230 := n3_; have HB := n4_
       clear n0_ n1_ n2_ n3_ n4_
       have p231 : 0 ≤ (0 : Int) := (by omega)
       have q231 : 0 < (l1.length : Int) := od_
       obtain ⟨ad231, e231, hx231_0, hx231_1⟩ := at_T50 (Kd.V_reads' HO1.out).2.2 0 p231 q231
       cases e231
       have qi231 : (0 < l1.length) = True := eq_true (by omega)
       (try rw [show ((0 : Int)).toNat = 0 from rfl] at hx231_0)
       (try rw [show 0 * 2 = 0 from rfl] at hx231_0)
       (try rw [Addr.add_zero'] at hx231_0)
       (try rw [show ((0 : Int)).toNat = 0 from rfl] at hx231_1)
       (try rw [show 0 * 2 = 0 from rfl] at hx231_1)
       (try rw [Addr.add_zero'] at hx231_1)
       replace p231 := eq_true p231
       replace q231 := eq_true q231
       refine start_ (n := 6) (S := fun w' => w'.cell? ⟨gb230, 0, none⟩ = some (.int .i64 ((rd_T50 l0 (ji4)).f0)) ∧ w'.cell? ⟨gb230, 1, none⟩ = some (.int .i64 ((rd_T50 l0 (ji4)).f1)) ∧ w'.cell? ad231 = some (.int .i64 ((rd_T50 l1 0).f0)) ∧ w'.cell? ⟨ad231.block, ad231.off + 1, none⟩ = some (.int .i64 ((rd_T50 l1 0).f1))) (ds := []) #[false, false, false, false, false, false] (by kernel_rfl) rfl rfl ⟨(blk_cell BK230.out 0).trans rfl, (blk_cell BK230.out 1).trans rfl, hx231_0, hx231_1⟩ (fun hHeld => ?_)
       generalize w19.drew = w20 at HO0 HO1 BK229 BK230 HB hx231_0 hx231_1 hHeld ⊢
       refine pure_ (i := 1) (N := some 18) (v := ?_) (a' := ?_) #[false, true, false, false, false, false] rfl rfl (by kernel_rfl) (fun _ _ _ h => h) (Or.inl ⟨by rfl, ?_⟩) ?_ ?_
       rotate_left
       ·intro w'
        go_simp
        with_reducible rfl
       rotate_left
       ·simp only [Act.put, List.setIfInBounds_toArray, List.set_cons_zero, List.set_cons_succ, i64_w, i32_w]
        rfl
       refine pure_ (i := 2) (N := some 19) (v := ?_) (a' := ?_) #[false, true, true, false, false, false] rfl rfl (by kernel_rfl) (fun _ _ _ h => h) (Or.inl ⟨by rfl, ?_⟩) ?_ ?_
       rotate_left
       ·intro w'
        go_simp
        with_reducible rfl
       rotate_left
       ·simp only [Act.put, List.setIfInBounds_toArray, List.set_cons_zero, List.set_cons_succ, i64_w, i32_w]
        rfl
       refine take_ (i := 0) (N := some 17) (v := ?_) (a' := ?_) #[true, true, true, false, false, false] rfl rfl (by kernel_rfl) (fun _ _ _ h => h) (Or.inl ⟨by rfl, ?_⟩) hHeld ?_ ?_
       rotate_left
       ·rintro w' ⟨s0, s1, s2, s3⟩
        go_simp
        with_reducible rfl
       rotate_left
       ·simp only [Act.put, List.setIfInBounds_toArray, List.set_cons_zero, List.set_cons_succ, i64_w, i32_w]
        rfl
       refine take_ (i := 3) (N := some 20) (v := ?_) (a' := ?_) #[true, true, true, true, false, false] rfl rfl (by kernel_rfl) (fun _ _ _ h => h) (Or.inl ⟨by rfl, ?_⟩) hHeld ?_ ?_
       rotate_left
       ·rintro w' ⟨s0, s1, s2, s3⟩
        go_simp
        with_reducible rfl
       rotate_left
       ·simp only [Act.put, List.setIfInBounds_toArray, List.set_cons_zero, List.set_cons_succ, i64_w, i32_w]
        rfl
       refine pure_ (i := 4) (N := some 21) (v := ?_) (a' := ?_) #[true, true, true, true, true, false] rfl rfl (by kernel_rfl) (fun _ _ _ h => h) (Or.inl ⟨by rfl, ?_⟩) ?_ ?_
       rotate_left
       ·intro w'
        go_simp
        with_reducible rfl
       rotate_left
       ·simp only [Act.put, List.setIfInBounds_toArray, List.set_cons_zero, List.set_cons_succ, i64_w, i32_w]
        rfl
       refine pure_ (i := 5) (N := some 16) (v := ?_) (a' := ?_) #[true, true, true, true, true, true] rfl rfl (by kernel_rfl) (fun _ _ _ h => h) (Or.inl ⟨by rfl, ?_⟩) ?_ ?_
       rotate_left
       ·intro w'
        go_simp
        with_reducible rfl
       rotate_left
       ·simp only [Act.put, List.setIfInBounds_toArray, List.set_cons_zero, List.set_cons_succ, i64_w, i32_w]
        rfl
       refine done_ (by kernel_rfl) ?_
       have q21 : (1 : Int) ≤ ((l1.length : Int) : Int) := od_
       obtain ⟨i021, hi021, _, hsz21, _⟩ := info_parts info50
       have hroom21 : l1.length ≤ c1 := (Kd.V_reads' HO1.out).2.1
       have hC21 : Kd.F k50 _ _ (some ad231) l1.length l1 := (Kd.V_at (base := w.heap.size) HO1.out).2.2
       have hcut21 := cut_from (P := Try.prog) 24 50 .i64 Try.underlying24 hi021 2 hsz21 (some ad231) l1.length c1 1 (by omega) q21
       have hr21 := Kd.F_cut (m := (1 : Int).toNat) (c := c1) hC21 (by omega) hroom21
       obtain ⟨A21, hA21⟩ : ∃ A_z, A_z = (if c1 = (1 : Int).toNat then (some ad231) else ((some ad231) : Option Addr).map (·.add ((1 : Int).toNat * 2))) := ⟨_, rfl⟩
       obtain ⟨c21, hc21⟩ : ∃ c_z, c_z = c1 - (1 : Int).toNat := ⟨_, rfl⟩
       have hy21 : y232.length = l1.length - (1 : Int).toNat := (by rw [Ny232.out, List.length_drop] <;> omega)
       rw [show (l1).drop (1 : Int).toNat = y232 from Ny232.out.symm] at hr21
       replace hr21 : Kd.F k50 _ _ A21 y232.length y232 := (by rw [hA21]; exact hr21)
       rw [← hy21, ← hA21, ← hc21] at hcut21
       have HO236 := Aside0.mk (show Kd.V k50 50 _ w.heap.size _ (.slice A21 y232.length c21) y232 from Kd.V_mk (by rw [hy21, hc21]; exact Nat.sub_le_sub_right hroom21 _) hr21)
       have HC236 := Aside0.mk (show y232.length ≤ c21 from by rw [hy21, hc21]; exact Nat.sub_le_sub_right hroom21 _)
       clear hr21 hC21 hroom21 hi021 hsz21 hc21
       have KY21 := Aside0.mk hy21
       have KA21 := Aside0.mk hA21
       clear hy21 hA21
       replace q21 := eq_true q21
       try go_wp2_with (first | ((with_reducible refine gate_dst (N := 25) rfl ?_); refine Kd.N_lit (Kd.slice 50 k50) _ 24 ?hg (N' := 25) ?hd (xs := ([l0, y232] : List (List (S50)))) (inner := [.slice (some ad227) l0.length c0, .slice A21 y232.length c21]) (ok := (fun k_ => ((P0_ k_ ∨ P1_ k_) ∨ w.heap.size ≤ k_) ∧ k_ ≠ gb229 ∧ k_ ≠ gb230)) (okp := (fun k_ => ((P0_ k_ ∨ P1_ k_) ∨ w.heap.size ≤ k_) ∧ k_ ≠ gb229 ∧ k_ ≠ gb230)) ?hr ?hp (fun _ hk => hk) ((show ∀ k_, w20.heap.size ≤ k_ → (fun k_ => ((P0_ k_ ∨ P1_ k_) ∨ w.heap.size ≤ k_) ∧ k_ ≠ gb229 ∧ k_ ≠ gb230) k_ from fun k_ hk => ⟨(.inr (Nat.le_trans (below_size (bws_ HB.out)) hk)), Kd.freshB (g := gb229) (o := .cells #[.int .i64 ((rd_T50 l0 0).f0), .int .i64 ((rd_T50 l0 0).f1)] 50 (0, 0)) (bk_ BK229.out) k_ hk, Kd.freshB (g := gb230) (o := .cells #[.int .i64 ((rd_T50 l0 (ji4)).f0), .int .i64 ((rd_T50 l0 (ji4)).f1)] 50 (0, 0)) (bk_ BK230.out) k_ hk⟩) _ (Nat.le_refl _)) (Below.refl _ _) (Nat.le_refl _) (by simp) ?_; (case hd => rfl); (case hg => rfl); (case hr => first | (go_simp; done) | (go_simp; rfl)); (case hp => exact (Reps.one (show Kd.FK (Kd.slice 50 k50) _ _ l0 [.slice (some ad227) l0.length c0] from (Kd.FK_slice_mk (Kd.V_reads' (Kd.V_mono (ok' := (fun k_ => ((P0_ k_ ∨ P1_ k_) ∨ w.heap.size ≤ k_) ∧ k_ ≠ gb229 ∧ k_ ≠ gb230)) (HO0.out) (fun k_ hk => ⟨hk.1, ⟨hk.2.1, hk.2.2⟩⟩))).2.1 (Kd.V_F (Kd.V_mono (ok' := (fun k_ => ((P0_ k_ ∨ P1_ k_) ∨ w.heap.size ≤ k_) ∧ k_ ≠ gb229 ∧ k_ ≠ gb230)) (HO0.out) (fun k_ hk => ⟨hk.1, ⟨hk.2.1, hk.2.2⟩⟩))))) (Reps.one (show Kd.FK (Kd.slice 50 k50) _ _ y232 [.slice A21 y232.length c21] from (Kd.FK_slice_mk (Kd.V_reads' (Kd.V_mono (ok' := (fun k_ => ((P0_ k_ ∨ P1_ k_) ∨ w.heap.size ≤ k_) ∧ k_ ≠ gb229 ∧ k_ ≠ gb230)) (HO236.out) (fun k_ hk => ⟨hk.1, ⟨hk.2.1, hk.2.2⟩⟩))).2.1 (Kd.V_F (Kd.V_mono (ok' := (fun k_ => ((P0_ k_ ∨ P1_ k_) ∨ w.heap.size ≤ k_) ∧ k_ ≠ gb229 ∧ k_ ≠ gb230)) (HO236.out) (fun k_ hk => ⟨hk.1, ⟨hk.2.1, hk.2.2⟩⟩))))) (Reps.none _ _)))); intro v238 w22 ho23 hb hg_ hnew_; clear hg_ hnew_; (first | rw [← Ny237.out] at ho23 | (simp only [Int.reduceToNat] at ho23; rw [← Ny237.out] at ho23)); have n0_ := Aside0.mk (Kd.V_elder' (vk_ HO0.out) (Kd.N_base ho23) hb); have n1_ := Aside0.mk (Kd.V_elder' (vk_ HO1.out) (Kd.N_base ho23) hb); have n2_ := Aside0.mk (Kd.V_elder' (vk_ HO236.out) (Kd.N_base ho23) hb); have n3_ := Aside0.mk (Kd.N_lower ho23 (below_size (bws_ HB.out))); have n4_ := Aside0.mk (blk_below (bk_ BK229.out) hb); have n5_ := Aside0.mk (blk_below (bk_ BK230.out) hb); have n6_ := Aside0.mk (below_step (bws_ HB.out) hb); clear HO0; clear HO1; clear HO236; clear BK229; clear BK230; clear HB; have HO0 := n0_; have HO1 := n1_; have HO236 := n2_; have HO239 := n3_; have BK229 := n4_; have BK230 := n5_; have HB := n6_; clear n0_ n1_ n2_ n3_ n4_ n5_ n6_; clear hb ho23; obtain ⟨Ao24, co24, eo24⟩ := Kd.N_slice HO239.out; subst eo24) | ((with_reducible refine gate_callee (f := 49) rfl ?_); refine goesL_ (some 26) rfl rfl Try.func49 (by kernel_rfl) rfl #[.slice Ao24 y237.length co24] rfl gl_ ?_; (with_reducible refine (impl_Place_49.calls k _ _ y237 t240 _ ?side1 ?side2 A10.out).mono ?_); (case side1 => repeat (first | exact (Kd.N_reads' HO239.out).2.2 | (with_reducible refine Kd.C_alloc ?_ _) | (with_reducible refine Kd.C_drewN ?_ _) | (with_reducible refine Kd.C_drew ?_))); (case side2 => exact (Kd.N_reads' HO239.out).2.1); rintro e w25 ⟨v241, rfl, ho0, hb⟩; refine ⟨_, rfl, ?_⟩; have n0_ := Aside0.mk (Kd.V_elder' (vk_ HO0.out) (Kd.R_base ho0) hb); have n1_ := Aside0.mk (Kd.V_elder' (vk_ HO1.out) (Kd.R_base ho0) hb); have n2_ := Aside0.mk (Kd.V_elder' (vk_ HO236.out) (Kd.R_base ho0) hb); have n3_ := Aside0.mk (Kd.N_elder' (by (with_reducible repeat (first | apply Kd.N_alloc | apply Kd.N_drewN | apply Kd.N_drew)); exact HO239.out) (Kd.R_base ho0) hb); have n4_ := Aside0.mk (Kd.R_lower (Kd.R_newB (Kd.R_newB (Kd.R_newM (M := fun k_ => (w.heap.size ≤ k_)) ho0 (below_size (bws_ HB.out)) (fun k_ h_ => h_)) (g := gb229) (o := .cells #[.int .i64 ((rd_T50 l0 0).f0), .int .i64 ((rd_T50 l0 0).f1)] 50 (0, 0)) (bk_ BK229.out)) (g := gb230) (o := .cells #[.int .i64 ((rd_T50 l0 (ji4)).f0), .int .i64 ((rd_T50 l0 (ji4)).f1)] 50 (0, 0)) (bk_ BK230.out)) (below_size (bws_ HB.out))); have n5_ := Aside0.mk (blk_below (bk_ BK229.out) hb); have n6_ := Aside0.mk (blk_below (bk_ BK230.out) hb); have n7_ := Aside0.mk (below_step (bws_ HB.out) hb); clear HO0; clear HO1; clear HO236; clear HO239; clear BK229; clear BK230; clear HB; have HO0 := n0_; have HO1 := n1_; have HO236 := n2_; have HO239 := n3_; have HO242 := n4_; have BK229 := n5_; have BK230 := n6_; have HB := n7_; clear n0_ n1_ n2_ n3_ n4_ n5_ n6_ n7_; (try clear hb); (try clear hb2); (try clear hk); (try clear hi); (try clear ho0)))
       go_ret
       exact ⟨_, by first | rfl | (simp [errW_none, errW_some] <;> rfl) | (simp only [← hji4]; first | rfl | (simp [errW_none, errW_some] <;> rfl)) | (simp [*, errW_none, errW_some] <;> rfl), by (with_reducible repeat (first | apply Kd.R_alloc | apply Kd.R_drewN | apply Kd.R_drew)); exact Kd.R_mono HO242.out (fun _ hk => hk.1.1.1), by repeat (first | (with_reducible first | exact HB.out | apply below_alloc | apply pw_below_drewN | apply below_drew1 | refine below_set ?_ GE229.out | refine below_set ?_ GE230.out) | exact HB.out), by first | exact fun hr_ => absurd hr_ HNZ.out | exact fun hr_ => absurd hr_ NZ_.out | exact fun _ => rfl | rfl | (simp; done) | (intro _; first | rfl | (simp; done))⟩
      ·rw [if_neg c9] at H
       exact absurd H (by simp)
     ·rw [if_neg c8] at H
      have c8b0 : (((rd_T50 l0 (ji4)).f0) == ((rd_T50 l1 0).f0) && (((rd_T50 l0 (ji4)).f1) == ((rd_T50 l1 0).f1))) = false := by simpa using c8
      (try (have c8b1 : decide (((rd_T50 l0 (ji4)).f0) = ((rd_T50 l1 0).f0) && (((rd_T50 l0 (ji4)).f1) == ((rd_T50 l1 0).f1))) = false := by simpa using c8))
      (try (have c8b2 : (((rd_T50 l0 (ji4)).f0) == ((rd_T50 l1 0).f0) && (((rd_T50 l0 (ji4)).f1) == ((rd_T50 l1 0).f1))) = false := by simpa using c8))
      (try (have c8b3 : ¬ (((rd_T50 l0 (ji4)).f0) = ((rd_T50 l1 0).f0) && (((rd_T50 l0 (ji4)).f1) == ((rd_T50 l1 0).f1))) := by simpa using c8))
      clear c8
      obtain ⟨ji26, hji26⟩ : ∃ j_ : Int, (wrap64 ((l1.length : Int) - 1)) = j_ := ⟨_, rfl⟩
      replace H : (if 0 ≤ (ji26) then (if (ji26) < (l1.length : Int) then (if (((rd_T50 l0 (ji4)).f0) == ((rd_T50 l1 (ji26)).f0) && (((rd_T50 l0 (ji4)).f1) == ((rd_T50 l1 (ji26)).f1))) = true then ((impl_reversed.f k l1).bind fun t244 => (if 1 ≤ (t244.length : Int) then ((impl_Place_49.f k (([l0, (t244.drop 1)] : List (List (S50))))).bind fun t255 => (if 0 < (t255.length : Int) then (some t255) else none)) else (none))) else (if (((rd_T50 l0 0).f0) == ((rd_T50 l1 (ji26)).f0) && (((rd_T50 l0 0).f1) == ((rd_T50 l1 (ji26)).f1))) = true then (if 1 ≤ (l0.length : Int) then ((impl_Place_49.f k (([l1, (l0.drop 1)] : List (List (S50))))).bind fun t267 => (if 0 < (t267.length : Int) then (some t267) else none)) else (none)) else (if (((rd_T50 l0 0).f0) == ((rd_T50 l1 0).f0) && (((rd_T50 l0 0).f1) == ((rd_T50 l1 0).f1))) = true then ((impl_reversed.f k l1).bind fun t271 => (if 1 ≤ (l0.length : Int) then ((impl_Place_49.f k (([t271, (l0.drop 1)] : List (List (S50))))).bind fun t282 => (if 0 < (t282.length : Int) then (some t282) else none)) else (none))) else (some ([] : List (S50)))))) else (none)) else (none)) = some r := by first | (rw [hji26] at H; exact H) | (simp only [hji26] at H ⊢; exact H)
      (try rw [hji26] at hji25)
      (try rw [hji26] at hji25w)
      have hji26w : (IntKind.i64.wrap ((l1.length : Int) - 1)) = ji26 := (i64_w _).trans hji26
      by_cases c27 : 0 ≤ (ji26)
      ·rw [if_pos c27] at H
       have c27b0 : decide (0 ≤ (ji26)) = true := decide_eq_true c27
       clear c27
       by_cases c28 : (ji26) < (l1.length : Int)
       ·rw [if_pos c28] at H
        have c28b0 : decide ((ji26) < (l1.length : Int)) = true := decide_eq_true c28
        clear c28
        by_cases c29 : (((rd_T50 l0 (ji4)).f0) == ((rd_T50 l1 (ji26)).f0) && (((rd_T50 l0 (ji4)).f1) == ((rd_T50 l1 (ji26)).f1))) = true
        ·rw [if_pos c29] at H
         have c29b0 : (((rd_T50 l0 (ji4)).f0) == ((rd_T50 l1 (ji26)).f0) && (((rd_T50 l0 (ji4)).f1) == ((rd_T50 l1 (ji26)).f1))) = true := c29
         (try (have c29b1 : decide (((rd_T50 l0 (ji4)).f0) = ((rd_T50 l1 (ji26)).f0) && (((rd_T50 l0 (ji4)).f1) == ((rd_T50 l1 (ji26)).f1))) = true := by simpa using c29))
         (try (have c29b2 : (((rd_T50 l0 (ji4)).f0) == ((rd_T50 l1 (ji26)).f0) && (((rd_T50 l0 (ji4)).f1) == ((rd_T50 l1 (ji26)).f1))) = true := by simpa using c29))
         clear c29
         replace H := Option.bind_eq_some_iff.mp H
         obtain ⟨t244, A300, H⟩ := H
         replace H : (if 1 ≤ (t244.length : Int) then ((impl_Place_49.f k (([l0, (t244.drop 1)] : List (List (S50))))).bind fun t255 => (if 0 < (t255.length : Int) then (some t255) else none)) else (none)) = some r := H
         have A30 := Aside0.mk A300
         clear A300
         by_cases c31 : 1 ≤ (t244.length : Int)
         ·rw [if_pos c31] at H
          have c31b0 := eq_true c31
          have c31b1 : decide (1 ≤ (t244.length : Int)) = true := decide_eq_true c31
          clear c31
          obtain ⟨y247, hy247⟩ : ∃ y_ : List (S50), y_ = (t244.drop 1) := ⟨_, rfl⟩
          replace H : ((impl_Place_49.f k (([l0, y247] : List (List (S50))))).bind fun t255 => (if 0 < (t255.length : Int) then (some t255) else none)) = some r := by first | (rw [hy247]; with_reducible exact H) | (have H2_ := (Option.bind_some _ _).symm.trans H; rw [hy247]; with_reducible exact H2_) | (have H2_ := (Option.bind_some _ _).symm.trans H; with_reducible exact H2_) | with_reducible exact H | (rw [hy247]; exact H) | exact H
          have Ny247 := Aside0.mk hy247
          clear hy247
          obtain ⟨y252, hy252⟩ : ∃ y_ : List (List (S50)), y_ = (([l0, y247] : List (List (S50)))) := ⟨_, rfl⟩
          replace H : ((impl_Place_49.f k y252).bind fun t255 => (if 0 < (t255.length : Int) then (some t255) else none)) = some r := by first | (rw [hy252]; with_reducible exact H) | (have H2_ := (Option.bind_some _ _).symm.trans H; rw [hy252]; with_reducible exact H2_) | (have H2_ := (Option.bind_some _ _).symm.trans H; with_reducible exact H2_) | with_reducible exact H | (rw [hy252]; exact H) | exact H
          have Ny252 := Aside0.mk hy252
          clear hy252
          replace H := Option.bind_eq_some_iff.mp H
          obtain ⟨t255, A320, H⟩ := H
          replace H : (if 0 < (t255.length : Int) then (some t255) else none) = some r := H
          have hnz_ : 0 < (t255.length : Int) := by
           by_cases hz_ : 0 < (t255.length : Int)
           ·exact hz_
           ·rw [if_neg hz_] at H; cases H
          rw [if_pos hnz_] at H
          have HNZ := Aside0.mk (show t255 ≠ [] from fun h_ => by rw [h_] at hnz_; simp at hnz_)
          clear hnz_
          have A32 := Aside0.mk A320
          clear A320
          obtain rfl := Option.some.inj H
          go_enter Try.func32, Try.ntmps32
          try go_wp2
          have n0_ := Aside0.mk (Kd.V_drew HO0.out)
          have n1_ := Aside0.mk (Kd.V_drew HO1.out)
          have n2_ := Aside0.mk (below_drew1 HB.out)
          clear HO0 HO1 HB
          have HO0 := n0_; have HO1 := n1_; have HB := n2_
          clear n0_ n1_ n2_
          have p227 : 0 ≤ (0 : Int) := (by omega)
          have q227 : 0 < (l0.length : Int) := od_
          obtain ⟨ad227, e227, hx227_0, hx227_1⟩ := at_T50 (Kd.V_reads' HO0.out).2.2 0 p227 q227
          cases e227
          have qi227 : (0 < l0.length) = True := eq_true (by omega)
          (try rw [show ((0 : Int)).toNat = 0 from rfl] at hx227_0)
          (try rw [show 0 * 2 = 0 from rfl] at hx227_0)
          (try rw [Addr.add_zero'] at hx227_0)
          (try rw [show ((0 : Int)).toNat = 0 from rfl] at hx227_1)
          (try rw [show 0 * 2 = 0 from rfl] at hx227_1)
          (try rw [Addr.add_zero'] at hx227_1)
          replace p227 := eq_true p227
          replace q227 := eq_true q227
          have p228 : 0 ≤ ((ji4) : Int) := od_
          have q228 : (ji4) < (l0.length : Int) := od_
          obtain ⟨ad228, e228, hx228_0, hx228_1⟩ := at_T50 (Kd.V_reads' HO0.out).2.2 (ji4) p228 q228
          obtain rfl : ad227 = ad228 := (by injection e228)
          replace p228 := eq_true p228
          replace q228 := eq_true q228
          refine start_ (n := 13) (S := fun w' => w'.cell? ad227 = some (.int .i64 ((rd_T50 l0 0).f0)) ∧ w'.cell? ⟨ad227.block, ad227.off + 1, none⟩ = some (.int .i64 ((rd_T50 l0 0).f1)) ∧ w'.cell? (ad227.add (((ji4)).toNat * 2)) = some (.int .i64 ((rd_T50 l0 (ji4)).f0)) ∧ w'.cell? ⟨(ad227.add (((ji4)).toNat * 2)).block, (ad227.add (((ji4)).toNat * 2)).off + 1, none⟩ = some (.int .i64 ((rd_T50 l0 (ji4)).f1))) (ds := []) #[false, false, false, false, false, false, false, false, false, false, false, false, false] (by kernel_rfl) rfl rfl ⟨hx227_0, hx227_1, hx228_0, hx228_1⟩ (fun hHeld => ?_); refine with_tabW impl_join.tab1 impl_join.bits1 (fun HT_ HW_ => ?_)
          generalize w.drew = w33 at HO0 HO1 HB hx227_0 hx227_1 hx228_0 hx228_1 hHeld ⊢
          refine pure_ (i := 0) (N := some 7) (v := ?_) (a' := ?_) #[true, false, false, false, false, false, false, false, false, false, false, false, false] rfl rfl (any_of HT_.out (by kernel_rfl)) (fun _ _ _ h => h) (Or.inl ⟨by rfl, ?_⟩) ?_ ?_
          rotate_left
          ·intro w'
           go_simp
           with_reducible rfl
          rotate_left
          ·simp only [Act.put, List.setIfInBounds_toArray, List.set_cons_zero, List.set_cons_succ, i64_w, i32_w]
           rfl
          refine pure_ (i := 1) (N := some 8) (v := ?_) (a' := ?_) #[true, true, false, false, false, false, false, false, false, false, false, false, false] rfl rfl (any_of HT_.out (by kernel_rfl)) (fun _ _ _ h => h) (Or.inl ⟨by rfl, ?_⟩) ?_ ?_
          rotate_left
          ·intro w'
           go_simp
           with_reducible rfl
          rotate_left
          ·simp only [Act.put, List.setIfInBounds_toArray, List.set_cons_zero, List.set_cons_succ, i64_w, i32_w]
           rfl
          refine pure_ (i := 3) (N := some 10) (v := ?_) (a' := ?_) #[true, true, false, true, false, false, false, false, false, false, false, false, false] rfl rfl (any_of HT_.out (by kernel_rfl)) (fun _ _ _ h => h) (Or.inl ⟨by rfl, ?_⟩) ?_ ?_
          rotate_left
          ·intro w'
           go_simp
           with_reducible rfl
          rotate_left
          ·simp only [Act.put, List.setIfInBounds_toArray, List.set_cons_zero, List.set_cons_succ, i64_w, i32_w]
           rfl
          refine pure_ (i := 4) (N := some 11) (v := ?_) (a' := ?_) #[true, true, false, true, true, false, false, false, false, false, false, false, false] rfl rfl (any_of HT_.out (by kernel_rfl)) (fun _ _ _ h => h) (Or.inl ⟨by rfl, ?_⟩) ?_ ?_
          rotate_left
          ·intro w'
           go_simp
           with_reducible rfl
          rotate_left
          ·simp only [Act.put, List.setIfInBounds_toArray, List.set_cons_zero, List.set_cons_succ, i64_w, i32_w]
           rfl
          refine pure_ (i := 5) (N := some 12) (v := ?_) (a' := ?_) #[true, true, false, true, true, true, false, false, false, false, false, false, false] rfl rfl (any_of HT_.out (by kernel_rfl)) (fun _ _ _ h => h) (Or.inl ⟨by rfl, ?_⟩) ?_ ?_
          rotate_left
          ·intro w'
           go_simp
           with_reducible rfl
          rotate_left
          ·simp only [Act.put, List.setIfInBounds_toArray, List.set_cons_zero, List.set_cons_succ, i64_w, i32_w]
           rfl
          refine pure_ (i := 6) (N := some 13) (v := ?_) (a' := ?_) #[true, true, false, true, true, true, true, false, false, false, false, false, false] rfl rfl (any_of HT_.out (by kernel_rfl)) (fun _ _ _ h => h) (Or.inl ⟨by rfl, ?_⟩) ?_ ?_
          rotate_left
          ·intro w'
           go_simp
           with_reducible rfl
          rotate_left
          ·simp only [Act.put, List.setIfInBounds_toArray, List.set_cons_zero, List.set_cons_succ, i64_w, i32_w]
           rfl
          refine pure_ (i := 7) (N := some 14) (v := ?_) (a' := ?_) #[true, true, false, true, true, true, true, true, false, false, false, false, false] rfl rfl (any_of HT_.out (by kernel_rfl)) (fun _ _ _ h => h) (Or.inl ⟨by rfl, ?_⟩) ?_ ?_
          rotate_left
          ·intro w'
           go_simp
           with_reducible rfl
          rotate_left
          ·simp only [Act.put, List.setIfInBounds_toArray, List.set_cons_zero, List.set_cons_succ, i64_w, i32_w]
           rfl
          refine take_ (i := 2) (N := some 9) (v := ?_) (a' := ?_) #[true, true, true, true, true, true, true, true, false, false, false, false, false] rfl rfl (take_ofW HT_.out HW_.out (by kernel_rfl)) (fun _ _ _ h => h) (Or.inl ⟨by rfl, ?_⟩) hHeld ?_ ?_
          rotate_left
          ·rintro w' ⟨s0, s1, s2, s3⟩
           go_simp
           with_reducible rfl
          rotate_left
          ·simp only [Act.put, List.setIfInBounds_toArray, List.set_cons_zero, List.set_cons_succ, i64_w, i32_w]
           rfl
          refine take_ (i := 8) (N := some 15) (v := ?_) (a' := ?_) #[true, true, true, true, true, true, true, true, true, false, false, false, false] rfl rfl (take_ofW HT_.out HW_.out (by kernel_rfl)) (fun _ _ _ h => h) (Or.inl ⟨by rfl, ?_⟩) hHeld ?_ ?_
          rotate_left
          ·rintro w' ⟨s0, s1, s2, s3⟩
           go_simp
           with_reducible rfl
          rotate_left
          ·simp only [Act.put, List.setIfInBounds_toArray, List.set_cons_zero, List.set_cons_succ, i64_w, i32_w]
           rfl
          refine join_ (σ := Nat × Nat) 2 #[true, true, true, true, true, true, true, true, true, true, true, false, false] (fun s_ => [(5, .pointer (some ⟨s_.1, 0, none⟩)), (6, .pointer (some ⟨s_.2, 0, none⟩))]) (fun s_ w' => (w'.cell? ad227 = some (.int .i64 ((rd_T50 l0 0).f0)) ∧ w'.cell? ⟨ad227.block, ad227.off + 1, none⟩ = some (.int .i64 ((rd_T50 l0 0).f1)) ∧ w'.cell? (ad227.add (((ji4)).toNat * 2)) = some (.int .i64 ((rd_T50 l0 (ji4)).f0)) ∧ w'.cell? ⟨(ad227.add (((ji4)).toNat * 2)).block, (ad227.add (((ji4)).toNat * 2)).off + 1, none⟩ = some (.int .i64 ((rd_T50 l0 (ji4)).f1))) ∧ (Kd.V k50 50 w' w.heap.size (fun k_ => ((P0_ k_ ∨ P1_ k_) ∨ w.heap.size ≤ k_) ∧ k_ ≠ s_.1 ∧ k_ ≠ s_.2) (.slice (some ad227) l0.length c0) l0) ∧ (Kd.V k50 50 w' w.heap.size (fun k_ => ((P0_ k_ ∨ P1_ k_) ∨ w.heap.size ≤ k_) ∧ k_ ≠ s_.1 ∧ k_ ≠ s_.2) (.slice A1 l1.length c1) l1) ∧ (w'.heap[s_.1]? = some (.cells #[.int .i64 0, .int .i64 0] 50 (0, 0))) ∧ (w'.heap[s_.2]? = some (.cells #[.int .i64 0, .int .i64 0] 50 (0, 0))) ∧ (w.heap.size ≤ s_.1) ∧ (w.heap.size ≤ s_.1) ∧ (s_.2 ≠ s_.1) ∧ (s_.1 ≠ s_.2) ∧ (w.heap.size ≤ s_.2) ∧ (w.heap.size ≤ s_.2) ∧ (Below w.heap.size w w')) ?_ ?_
          rotate_left
          ·intro hCont
           refine two_ (i := 9) (j := 10) (Ni := some 5) (Nj := some 6) #[true, true, true, true, true, true, true, true, true, true, false, false, false] #[true, true, true, true, true, true, true, true, true, false, true, false, false] rfl rfl rfl rfl (two_of HT_.out (by kernel_rfl)) (by decide) (by decide) (fun K hK => ?_) (fun K hK => ?_)
           ·skip
            refine box_step ?hg (N := 5) ?hd (cs := #[.int .i64 0, .int .i64 0]) (t := 50) ?hr ?_; (case hd => rfl); (case hg => rfl); (case hr => first | (go_simp; done) | (go_simp; rfl))
            intro gb229 hg w34 hbox hb
            have HS0_ := hs_ hb hHeld.1
            have HS1_ := hs_ hb hHeld.2.1
            have HS2_ := hs_ hb hHeld.2.2.1
            have HS3_ := hs_ hb hHeld.2.2.2
            have n0_ := Aside0.mk (Kd.V_below (Kd.V_elderB (vk_ HO0.out) gb229 (Nat.le_of_eq hg.symm)) hb)
            have n1_ := Aside0.mk (Kd.V_below (Kd.V_elderB (vk_ HO1.out) gb229 (Nat.le_of_eq hg.symm)) hb)
            have n2_ := Aside0.mk (below_step (bw_ HB.out) hb)
            have n3_ := Aside0.mk (hbox)
            have n4_ := Aside0.mk ((ge_ hg (bw_ HB.out)))
            have n5_ := Aside0.mk ((ge_ hg (bw_ HB.out)))
            clear HO0 HO1 HB
            have HO0 := n0_; have HO1 := n1_; have HB := n2_; have BK229 := n3_; have GW229 := n4_; have GE229 := n5_
            clear n0_ n1_ n2_ n3_ n4_ n5_ hb hbox hg
            refine hK.out _ _ ⟨HS0_, HS1_, HS2_, HS3_⟩ (fun hHeld => ?_)
            clear hK K
            refine norm_ (a' := ?_) ?_ ?_
            rotate_left
            ·show Act.put _ (some 5) _ = _
             simp only [Act.put, List.setIfInBounds_toArray, List.set_cons_zero, List.set_cons_succ, i64_w, i32_w]
             rfl
            refine one_ (i := 10) (N := some 6) #[true, true, true, true, true, true, true, true, true, true, true, false, false] rfl rfl (one_of HT_.out (by kernel_rfl)) (by decide) (fun K hK => ?_)
            refine box_step ?hg (N := 6) ?hd (cs := #[.int .i64 0, .int .i64 0]) (t := 50) ?hr ?_; (case hd => rfl); (case hg => rfl); (case hr => first | (go_simp; done) | (go_simp; rfl))
            intro gb230 hg w35 hbox hb
            have HS0_ := hs_ hb hHeld.1
            have HS1_ := hs_ hb hHeld.2.1
            have HS2_ := hs_ hb hHeld.2.2.1
            have HS3_ := hs_ hb hHeld.2.2.2
            have n0_ := Aside0.mk (Kd.V_below (Kd.V_elderB (vk_ HO0.out) gb230 (Nat.le_of_eq hg.symm)) hb)
            have n1_ := Aside0.mk (Kd.V_below (Kd.V_elderB (vk_ HO1.out) gb230 (Nat.le_of_eq hg.symm)) hb)
            have n2_ := Aside0.mk (blk_below (bk_ BK229.out) hb)
            have n3_ := Aside0.mk (below_step (bws_ HB.out) hb)
            have n4_ := Aside0.mk (hbox)
            have n5_ := Aside0.mk ((ge_ hg (bws_ HB.out)))
            have n6_ := Aside0.mk ((ge_ hg (bws_ HB.out)))
            have n7_ := Aside0.mk ((ne1_ hg (bk_ BK229.out)))
            have n8_ := Aside0.mk ((ne2_ hg (bk_ BK229.out)))
            clear HO0 HO1 BK229 HB
            have HO0 := n0_; have HO1 := n1_; have BK229 := n2_; have HB := n3_; have BK230 := n4_; have GW230 := n5_; have GE230 := n6_; have NB229_230 := n7_; have NB230_229 := n8_
            clear n0_ n1_ n2_ n3_ n4_ n5_ n6_ n7_ n8_ hb hbox hg
            refine hK.out _ _ ⟨HS0_, HS1_, HS2_, HS3_⟩ (fun hHeld => ?_)
            clear hK K
            refine norm_ (a' := ?_) ?_ ?_
            rotate_left
            ·show Act.put _ (some 6) _ = _
             simp only [Act.put, List.setIfInBounds_toArray, List.set_cons_zero, List.set_cons_succ, i64_w, i32_w]
             rfl
            exact norm_ (by simp only [putAll, Act.put, List.setIfInBounds_toArray, List.set_cons_zero, List.set_cons_succ]) (hCont (gb229, gb230) _ ⟨hHeld, (by (with_reducible repeat (first | apply Kd.V_alloc | apply Kd.V_drewN | apply Kd.V_drew)); exact Kd.V_mono HO0.out (fun _ hk => ⟨hk.1.1, ⟨hk.1.2, hk.2⟩⟩)), (by (with_reducible repeat (first | apply Kd.V_alloc | apply Kd.V_drewN | apply Kd.V_drew)); exact Kd.V_mono HO1.out (fun _ hk => ⟨hk.1.1, ⟨hk.1.2, hk.2⟩⟩)), (bk_ BK229.out), (bk_ BK230.out), GW229.out, GE229.out, NB230_229.out, NB229_230.out, GW230.out, GE230.out, (bws_ HB.out)⟩)
           ·skip
            refine box_step ?hg (N := 6) ?hd (cs := #[.int .i64 0, .int .i64 0]) (t := 50) ?hr ?_; (case hd => rfl); (case hg => rfl); (case hr => first | (go_simp; done) | (go_simp; rfl))
            intro gb230 hg w34 hbox hb
            have HS0_ := hs_ hb hHeld.1
            have HS1_ := hs_ hb hHeld.2.1
            have HS2_ := hs_ hb hHeld.2.2.1
            have HS3_ := hs_ hb hHeld.2.2.2
            have n0_ := Aside0.mk (Kd.V_below (Kd.V_elderB (vk_ HO0.out) gb230 (Nat.le_of_eq hg.symm)) hb)
            have n1_ := Aside0.mk (Kd.V_below (Kd.V_elderB (vk_ HO1.out) gb230 (Nat.le_of_eq hg.symm)) hb)
            have n2_ := Aside0.mk (below_step (bw_ HB.out) hb)
            have n3_ := Aside0.mk (hbox)
            have n4_ := Aside0.mk ((ge_ hg (bw_ HB.out)))
            have n5_ := Aside0.mk ((ge_ hg (bw_ HB.out)))
            clear HO0 HO1 HB
            have HO0 := n0_; have HO1 := n1_; have HB := n2_; have BK230 := n3_; have GW230 := n4_; have GE230 := n5_
            clear n0_ n1_ n2_ n3_ n4_ n5_ hb hbox hg
            refine hK.out _ _ ⟨HS0_, HS1_, HS2_, HS3_⟩ (fun hHeld => ?_)
            clear hK K
            refine norm_ (a' := ?_) ?_ ?_
            rotate_left
            ·show Act.put _ (some 6) _ = _
             simp only [Act.put, List.setIfInBounds_toArray, List.set_cons_zero, List.set_cons_succ, i64_w, i32_w]
             rfl
            refine one_ (i := 9) (N := some 5) #[true, true, true, true, true, true, true, true, true, true, true, false, false] rfl rfl (one_of HT_.out (by kernel_rfl)) (by decide) (fun K hK => ?_)
            refine box_step ?hg (N := 5) ?hd (cs := #[.int .i64 0, .int .i64 0]) (t := 50) ?hr ?_; (case hd => rfl); (case hg => rfl); (case hr => first | (go_simp; done) | (go_simp; rfl))
            intro gb229 hg w35 hbox hb
            have HS0_ := hs_ hb hHeld.1
            have HS1_ := hs_ hb hHeld.2.1
            have HS2_ := hs_ hb hHeld.2.2.1
            have HS3_ := hs_ hb hHeld.2.2.2
            have n0_ := Aside0.mk (Kd.V_below (Kd.V_elderB (vk_ HO0.out) gb229 (Nat.le_of_eq hg.symm)) hb)
            have n1_ := Aside0.mk (Kd.V_below (Kd.V_elderB (vk_ HO1.out) gb229 (Nat.le_of_eq hg.symm)) hb)
            have n2_ := Aside0.mk (blk_below (bk_ BK230.out) hb)
            have n3_ := Aside0.mk (below_step (bws_ HB.out) hb)
            have n4_ := Aside0.mk (hbox)
            have n5_ := Aside0.mk ((ge_ hg (bws_ HB.out)))
            have n6_ := Aside0.mk ((ge_ hg (bws_ HB.out)))
            have n7_ := Aside0.mk ((ne1_ hg (bk_ BK230.out)))
            have n8_ := Aside0.mk ((ne2_ hg (bk_ BK230.out)))
            clear HO0 HO1 BK230 HB
            have HO0 := n0_; have HO1 := n1_; have BK230 := n2_; have HB := n3_; have BK229 := n4_; have GW229 := n5_; have GE229 := n6_; have NB230_229 := n7_; have NB229_230 := n8_
            clear n0_ n1_ n2_ n3_ n4_ n5_ n6_ n7_ n8_ hb hbox hg
            refine hK.out _ _ ⟨HS0_, HS1_, HS2_, HS3_⟩ (fun hHeld => ?_)
            clear hK K
            refine norm_ (a' := ?_) ?_ ?_
            rotate_left
            ·show Act.put _ (some 5) _ = _
             simp only [Act.put, List.setIfInBounds_toArray, List.set_cons_zero, List.set_cons_succ, i64_w, i32_w]
             rfl
            exact norm_ (by simp only [putAll, Act.put, List.setIfInBounds_toArray, List.set_cons_zero, List.set_cons_succ]) (hCont (gb229, gb230) _ ⟨hHeld, (by (with_reducible repeat (first | apply Kd.V_alloc | apply Kd.V_drewN | apply Kd.V_drew)); exact Kd.V_mono HO0.out (fun _ hk => ⟨hk.1.1, ⟨hk.2, hk.1.2⟩⟩)), (by (with_reducible repeat (first | apply Kd.V_alloc | apply Kd.V_drewN | apply Kd.V_drew)); exact Kd.V_mono HO1.out (fun _ hk => ⟨hk.1.1, ⟨hk.2, hk.1.2⟩⟩)), (bk_ BK229.out), (bk_ BK230.out), GW229.out, GE229.out, NB230_229.out, NB229_230.out, GW230.out, GE230.out, (bws_ HB.out)⟩)
          rintro ⟨gb229, gb230⟩ w36 ⟨hS_, h0_, h1_, h2_, h3_, h4_, h5_, h6_, h7_, h8_, h9_, h10_⟩
          have n0_ : Aside0 (Kd.V k50 50 w36 w.heap.size (fun k_ => ((P0_ k_ ∨ P1_ k_) ∨ w.heap.size ≤ k_) ∧ k_ ≠ gb229 ∧ k_ ≠ gb230) (.slice (some ad227) l0.length c0) l0) := ⟨h0_⟩
          have n1_ : Aside0 (Kd.V k50 50 w36 w.heap.size (fun k_ => ((P0_ k_ ∨ P1_ k_) ∨ w.heap.size ≤ k_) ∧ k_ ≠ gb229 ∧ k_ ≠ gb230) (.slice A1 l1.length c1) l1) := ⟨h1_⟩
          have n2_ : Aside0 (w36.heap[gb229]? = some (.cells #[.int .i64 0, .int .i64 0] 50 (0, 0))) := ⟨h2_⟩
          have n3_ : Aside0 (w36.heap[gb230]? = some (.cells #[.int .i64 0, .int .i64 0] 50 (0, 0))) := ⟨h3_⟩
          have n4_ : Aside0 (w.heap.size ≤ gb229) := ⟨h4_⟩
          have n5_ : Aside0 (w.heap.size ≤ gb229) := ⟨h5_⟩
          have n6_ : Aside0 (gb230 ≠ gb229) := ⟨h6_⟩
          have n7_ : Aside0 (gb229 ≠ gb230) := ⟨h7_⟩
          have n8_ : Aside0 (w.heap.size ≤ gb230) := ⟨h8_⟩
          have n9_ : Aside0 (w.heap.size ≤ gb230) := ⟨h9_⟩
          have n10_ : Aside0 (Below w.heap.size w w36) := ⟨h10_⟩
          clear HO0 HO1 HB h0_ h1_ h2_ h3_ h4_ h5_ h6_ h7_ h8_ h9_ h10_
          have HO0 := n0_; have HO1 := n1_; have BK229 := n2_; have BK230 := n3_; have GW229 := n4_; have GE229 := n5_; have NB230_229 := n6_; have NB229_230 := n7_; have GW230 := n8_; have GE230 := n9_
          have HB := n10_
          clear n0_ n1_ n2_ n3_ n4_ n5_ n6_ n7_ n8_ n9_ n10_
          have hHeld : w36.cell? ad227 = some (.int .i64 ((rd_T50 l0 0).f0)) ∧ w36.cell? ⟨ad227.block, ad227.off + 1, none⟩ = some (.int .i64 ((rd_T50 l0 0).f1)) ∧ w36.cell? (ad227.add (((ji4)).toNat * 2)) = some (.int .i64 ((rd_T50 l0 (ji4)).f0)) ∧ w36.cell? ⟨(ad227.add (((ji4)).toNat * 2)).block, (ad227.add (((ji4)).toNat * 2)).off + 1, none⟩ = some (.int .i64 ((rd_T50 l0 (ji4)).f1)) := hS_
          refine norm_ (a' := ?_) ?_ ?_
          rotate_left
          ·simp only [putAll, Act.put, List.setIfInBounds_toArray, List.set_cons_zero, List.set_cons_succ]
           rfl
          refine one_ (i := 11) (N := none) #[true, true, true, true, true, true, true, true, true, true, true, true, false] rfl rfl (one_of HT_.out (by kernel_rfl)) (by decide) (fun K hK => ?_)
          have hs37 : w36.cell? ⟨gb229, 0, none⟩ = some (.int .i64 0) := (blk_cell BK229.out 0).trans rfl
          have hfs37 := blk_frozen BK229.out 0
          have hns37_1 := NB230_229.out
          have hms37_1 := NB229_230.out
          have hs38 : w36.cell? ⟨gb229, 1, none⟩ = some (.int .i64 0) := (blk_cell BK229.out 1).trans rfl
          have hfs38 := blk_frozen BK229.out 1
          have hns38_1 := NB230_229.out
          have hms38_1 := NB229_230.out
          refine skip_ (w1 := ?_) (by rfl) rfl ?_ ?_
          rotate_left
          ·go_simp
           rfl
          refine hK.out _ _ ⟨(far2_ (by first | (rw [add_block]; exact vaw_ HO0.out (fun _ hk => hk.2.1) od_) | exact vaw_ HO0.out (fun _ hk => hk.2.1) od_ | (dsimp only; exact vaw_ HO0.out (fun _ hk => hk.2.1) od_)) hHeld.1), (far2_ (by first | (rw [add_block]; exact vaw_ HO0.out (fun _ hk => hk.2.1) od_) | exact vaw_ HO0.out (fun _ hk => hk.2.1) od_ | (dsimp only; exact vaw_ HO0.out (fun _ hk => hk.2.1) od_)) hHeld.2.1), (far2_ (by first | (rw [add_block]; exact vaw_ HO0.out (fun _ hk => hk.2.1) od_) | exact vaw_ HO0.out (fun _ hk => hk.2.1) od_ | (dsimp only; exact vaw_ HO0.out (fun _ hk => hk.2.1) od_)) hHeld.2.2.1), (far2_ (by first | (rw [add_block]; exact vaw_ HO0.out (fun _ hk => hk.2.1) od_) | exact vaw_ HO0.out (fun _ hk => hk.2.1) od_ | (dsimp only; exact vaw_ HO0.out (fun _ hk => hk.2.1) od_)) hHeld.2.2.2)⟩ (fun hHeld => ?_)
          clear hK K
          refine one_ (i := 12) (N := none) #[true, true, true, true, true, true, true, true, true, true, true, true, true] rfl rfl (one_of HT_.out (by kernel_rfl)) (by decide) (fun K hK => ?_)
          have hs39 : w36.cell? ⟨gb230, 0, none⟩ = some (.int .i64 0) := (blk_cell BK230.out 0).trans rfl
          have hfs39 := blk_frozen BK230.out 0
          have hns39_0 := NB229_230.out
          have hms39_0 := NB230_229.out
          have hs40 : w36.cell? ⟨gb230, 1, none⟩ = some (.int .i64 0) := (blk_cell BK230.out 1).trans rfl
          have hfs40 := blk_frozen BK230.out 1
          have hns40_0 := NB229_230.out
          have hms40_0 := NB230_229.out
          refine skip_ (w1 := ?_) (by rfl) rfl ?_ ?_
          rotate_left
          ·go_simp
           rfl
          refine hK.out _ _ ⟨(far2_ (by first | (rw [add_block]; exact vaw_ HO0.out (fun _ hk => hk.2.2) od_) | exact vaw_ HO0.out (fun _ hk => hk.2.2) od_ | (dsimp only; exact vaw_ HO0.out (fun _ hk => hk.2.2) od_)) hHeld.1), (far2_ (by first | (rw [add_block]; exact vaw_ HO0.out (fun _ hk => hk.2.2) od_) | exact vaw_ HO0.out (fun _ hk => hk.2.2) od_ | (dsimp only; exact vaw_ HO0.out (fun _ hk => hk.2.2) od_)) hHeld.2.1), (far2_ (by first | (rw [add_block]; exact vaw_ HO0.out (fun _ hk => hk.2.2) od_) | exact vaw_ HO0.out (fun _ hk => hk.2.2) od_ | (dsimp only; exact vaw_ HO0.out (fun _ hk => hk.2.2) od_)) hHeld.2.2.1), (far2_ (by first | (rw [add_block]; exact vaw_ HO0.out (fun _ hk => hk.2.2) od_) | exact vaw_ HO0.out (fun _ hk => hk.2.2) od_ | (dsimp only; exact vaw_ HO0.out (fun _ hk => hk.2.2) od_)) hHeld.2.2.2)⟩ (fun hHeld => ?_)
          clear hK K
          refine done_ (done_of HT_.out (by kernel_rfl)) ?_
          try go_wp2
          have n0_ : Aside0 (Kd.V k50 50 ((((w36.setCell ⟨gb229, 0, none⟩ (.int .i64 ((rd_T50 l0 0).f0))).setCell ⟨gb229, 1, none⟩ (.int .i64 ((rd_T50 l0 0).f1))).setCell ⟨gb230, 0, none⟩ (.int .i64 ((rd_T50 l0 (ji4)).f0))).setCell ⟨gb230, 1, none⟩ (.int .i64 ((rd_T50 l0 (ji4)).f1))) w.heap.size (fun k_ => ((P0_ k_ ∨ P1_ k_) ∨ w.heap.size ≤ k_) ∧ k_ ≠ gb229 ∧ k_ ≠ gb230) (.slice (some ad227) l0.length c0) l0) := ⟨by (with_reducible repeat (first | apply Kd.V_alloc | apply Kd.V_drewN | apply Kd.V_drew)); exact Kd.V_mono (Kd.V_far (p := ⟨gb230, 1, none⟩) (Kd.V_far (p := ⟨gb230, 0, none⟩) (Kd.V_far (p := ⟨gb229, 1, none⟩) (Kd.V_far (p := ⟨gb229, 0, none⟩) (Kd.V_mono (Kd.V_mono HO0.out (fun k_ hk => (⟨hk, hk.2.1⟩ : _ ∧ k_ ≠ gb229))) (fun k_ hk => (⟨hk, hk.1.2.2⟩ : _ ∧ k_ ≠ gb230))) (fun _ hk => hk.1.2) (.int .i64 ((rd_T50 l0 0).f0))) (fun _ hk => hk.1.2) (.int .i64 ((rd_T50 l0 0).f1))) (fun _ hk => hk.2) (.int .i64 ((rd_T50 l0 (ji4)).f0))) (fun _ hk => hk.2) (.int .i64 ((rd_T50 l0 (ji4)).f1))) (fun _ hk => ⟨hk.1.1.1, ⟨hk.1.1.2.1, hk.1.1.2.2⟩⟩)⟩
          have n1_ : Aside0 (Kd.V k50 50 ((((w36.setCell ⟨gb229, 0, none⟩ (.int .i64 ((rd_T50 l0 0).f0))).setCell ⟨gb229, 1, none⟩ (.int .i64 ((rd_T50 l0 0).f1))).setCell ⟨gb230, 0, none⟩ (.int .i64 ((rd_T50 l0 (ji4)).f0))).setCell ⟨gb230, 1, none⟩ (.int .i64 ((rd_T50 l0 (ji4)).f1))) w.heap.size (fun k_ => ((P0_ k_ ∨ P1_ k_) ∨ w.heap.size ≤ k_) ∧ k_ ≠ gb229 ∧ k_ ≠ gb230) (.slice A1 l1.length c1) l1) := ⟨by (with_reducible repeat (first | apply Kd.V_alloc | apply Kd.V_drewN | apply Kd.V_drew)); exact Kd.V_mono (Kd.V_far (p := ⟨gb230, 1, none⟩) (Kd.V_far (p := ⟨gb230, 0, none⟩) (Kd.V_far (p := ⟨gb229, 1, none⟩) (Kd.V_far (p := ⟨gb229, 0, none⟩) (Kd.V_mono (Kd.V_mono HO1.out (fun k_ hk => (⟨hk, hk.2.1⟩ : _ ∧ k_ ≠ gb229))) (fun k_ hk => (⟨hk, hk.1.2.2⟩ : _ ∧ k_ ≠ gb230))) (fun _ hk => hk.1.2) (.int .i64 ((rd_T50 l0 0).f0))) (fun _ hk => hk.1.2) (.int .i64 ((rd_T50 l0 0).f1))) (fun _ hk => hk.2) (.int .i64 ((rd_T50 l0 (ji4)).f0))) (fun _ hk => hk.2) (.int .i64 ((rd_T50 l0 (ji4)).f1))) (fun _ hk => ⟨hk.1.1.1, ⟨hk.1.1.2.1, hk.1.1.2.2⟩⟩)⟩
          have n2_ : Aside0 (((((w36.setCell ⟨gb229, 0, none⟩ (.int .i64 ((rd_T50 l0 0).f0))).setCell ⟨gb229, 1, none⟩ (.int .i64 ((rd_T50 l0 0).f1))).setCell ⟨gb230, 0, none⟩ (.int .i64 ((rd_T50 l0 (ji4)).f0))).setCell ⟨gb230, 1, none⟩ (.int .i64 ((rd_T50 l0 (ji4)).f1))).heap[gb229]? = some (.cells #[.int .i64 ((rd_T50 l0 0).f0), .int .i64 ((rd_T50 l0 0).f1)] 50 (0, 0))) := ⟨by (with_reducible repeat (first | refine blk_drewN ?_ _ | refine blk_drew ?_ | refine blk_alloc ?_ _)); refine blk_far ?_ NB229_230.out _; (with_reducible repeat (first | refine blk_drewN ?_ _ | refine blk_drew ?_ | refine blk_alloc ?_ _)); refine blk_far ?_ NB229_230.out _; (with_reducible repeat (first | refine blk_drewN ?_ _ | refine blk_drew ?_ | refine blk_alloc ?_ _)); refine blk_put (cs := #[.int .i64 ((rd_T50 l0 0).f0), .int .i64 0]) ?_ 1 _ rfl; (with_reducible repeat (first | refine blk_drewN ?_ _ | refine blk_drew ?_ | refine blk_alloc ?_ _)); refine blk_put (cs := #[.int .i64 0, .int .i64 0]) ?_ 0 _ rfl; (with_reducible repeat (first | refine blk_drewN ?_ _ | refine blk_drew ?_ | refine blk_alloc ?_ _)); exact BK229.out⟩
          have n3_ : Aside0 (((((w36.setCell ⟨gb229, 0, none⟩ (.int .i64 ((rd_T50 l0 0).f0))).setCell ⟨gb229, 1, none⟩ (.int .i64 ((rd_T50 l0 0).f1))).setCell ⟨gb230, 0, none⟩ (.int .i64 ((rd_T50 l0 (ji4)).f0))).setCell ⟨gb230, 1, none⟩ (.int .i64 ((rd_T50 l0 (ji4)).f1))).heap[gb230]? = some (.cells #[.int .i64 ((rd_T50 l0 (ji4)).f0), .int .i64 ((rd_T50 l0 (ji4)).f1)] 50 (0, 0))) := ⟨by (with_reducible repeat (first | refine blk_drewN ?_ _ | refine blk_drew ?_ | refine blk_alloc ?_ _)); refine blk_put (cs := #[.int .i64 ((rd_T50 l0 (ji4)).f0), .int .i64 0]) ?_ 1 _ rfl; (with_reducible repeat (first | refine blk_drewN ?_ _ | refine blk_drew ?_ | refine blk_alloc ?_ _)); refine blk_put (cs := #[.int .i64 0, .int .i64 0]) ?_ 0 _ rfl; (with_reducible repeat (first | refine blk_drewN ?_ _ | refine blk_drew ?_ | refine blk_alloc ?_ _)); refine blk_far ?_ NB230_229.out _; (with_reducible repeat (first | refine blk_drewN ?_ _ | refine blk_drew ?_ | refine blk_alloc ?_ _)); refine blk_far ?_ NB230_229.out _; (with_reducible repeat (first | refine blk_drewN ?_ _ | refine blk_drew ?_ | refine blk_alloc ?_ _)); exact BK230.out⟩
          have n4_ : Aside0 (Below w.heap.size w ((((w36.setCell ⟨gb229, 0, none⟩ (.int .i64 ((rd_T50 l0 0).f0))).setCell ⟨gb229, 1, none⟩ (.int .i64 ((rd_T50 l0 0).f1))).setCell ⟨gb230, 0, none⟩ (.int .i64 ((rd_T50 l0 (ji4)).f0))).setCell ⟨gb230, 1, none⟩ (.int .i64 ((rd_T50 l0 (ji4)).f1)))) := ⟨bws_ HB.out⟩
          (try clear HO0)
          (try clear HO1)
          (try clear BK229)
          (try clear BK230)
          (try clear HB)
          generalize ((((w36.setCell ⟨gb229, 0, none⟩ (.int .i64 ((rd_T50 l0 0).f0))).setCell ⟨gb229, 1, none⟩ (.int .i64 ((rd_T50 l0 0).f1))).setCell ⟨gb230, 0, none⟩ (.int .i64 ((rd_T50 l0 (ji4)).f0))).setCell ⟨gb230, 1, none⟩ (.int .i64 ((rd_T50 l0 (ji4)).f1))) = w41 at n0_ n1_ n2_ n3_ n4_ ⊢
          have HO0 := n0_; have HO1 := n1_; have BK229 := n2_; have BK230 := n3_; have HB := n4_
          clear n0_ n1_ n2_ n3_ n4_
          have n0_ := Aside0.mk (Kd.V_drew HO0.out)
          have n1_ := Aside0.mk (Kd.V_drew HO1.out)
          have n2_ := Aside0.mk (blk_drew BK229.out)
          have n3_ := Aside0.mk (blk_drew BK230.out)
          have n4_ := Aside0.mk (below_drew1 HB.out)
          clear HO0 HO1 BK229 BK230 HB
          have HO0 := n0_; have HO1 := n1_; have BK229 := n2_; have BK230 := n3_; have HB := n4_
          clear n0_ n1_ n2_ n3_ n4_
          have p231 : 0 ≤ (0 : Int) := (by omega)
          have q231 : 0 < (l1.length : Int) := od_
          obtain ⟨ad231, e231, hx231_0, hx231_1⟩ := at_T50 (Kd.V_reads' HO1.out).2.2 0 p231 q231
          cases e231
          have qi231 : (0 < l1.length) = True := eq_true (by omega)
          (try rw [show ((0 : Int)).toNat = 0 from rfl] at hx231_0)
          (try rw [show 0 * 2 = 0 from rfl] at hx231_0)
          (try rw [Addr.add_zero'] at hx231_0)
          (try rw [show ((0 : Int)).toNat = 0 from rfl] at hx231_1)
          (try rw [show 0 * 2 = 0 from rfl] at hx231_1)
          (try rw [Addr.add_zero'] at hx231_1)
          replace p231 := eq_true p231
          replace q231 := eq_true q231
          refine start_ (n := 6) (S := fun w' => w'.cell? ⟨gb230, 0, none⟩ = some (.int .i64 ((rd_T50 l0 (ji4)).f0)) ∧ w'.cell? ⟨gb230, 1, none⟩ = some (.int .i64 ((rd_T50 l0 (ji4)).f1)) ∧ w'.cell? ad231 = some (.int .i64 ((rd_T50 l1 0).f0)) ∧ w'.cell? ⟨ad231.block, ad231.off + 1, none⟩ = some (.int .i64 ((rd_T50 l1 0).f1))) (ds := []) #[false, false, false, false, false, false] (by kernel_rfl) rfl rfl ⟨(blk_cell BK230.out 0).trans rfl, (blk_cell BK230.out 1).trans rfl, hx231_0, hx231_1⟩ (fun hHeld => ?_)
          generalize w41.drew = w42 at HO0 HO1 BK229 BK230 HB hx231_0 hx231_1 hHeld ⊢
          refine pure_ (i := 1) (N := some 18) (v := ?_) (a' := ?_) #[false, true, false, false, false, false] rfl rfl (by kernel_rfl) (fun _ _ _ h => h) (Or.inl ⟨by rfl, ?_⟩) ?_ ?_
          rotate_left
          ·intro w'
           go_simp
           with_reducible rfl
          rotate_left
          ·simp only [Act.put, List.setIfInBounds_toArray, List.set_cons_zero, List.set_cons_succ, i64_w, i32_w]
           rfl
          refine pure_ (i := 2) (N := some 19) (v := ?_) (a' := ?_) #[false, true, true, false, false, false] rfl rfl (by kernel_rfl) (fun _ _ _ h => h) (Or.inl ⟨by rfl, ?_⟩) ?_ ?_
          rotate_left
          ·intro w'
           go_simp
           with_reducible rfl
          rotate_left
          ·simp only [Act.put, List.setIfInBounds_toArray, List.set_cons_zero, List.set_cons_succ, i64_w, i32_w]
           rfl
          refine take_ (i := 0) (N := some 17) (v := ?_) (a' := ?_) #[true, true, true, false, false, false] rfl rfl (by kernel_rfl) (fun _ _ _ h => h) (Or.inl ⟨by rfl, ?_⟩) hHeld ?_ ?_
          rotate_left
          ·rintro w' ⟨s0, s1, s2, s3⟩
           go_simp
           with_reducible rfl
          rotate_left
          ·simp only [Act.put, List.setIfInBounds_toArray, List.set_cons_zero, List.set_cons_succ, i64_w, i32_w]
           rfl
          refine take_ (i := 3) (N := some 20) (v := ?_) (a' := ?_) #[true, true, true, true, false, false] rfl rfl (by kernel_rfl) (fun _ _ _ h => h) (Or.inl ⟨by rfl, ?_⟩) hHeld ?_ ?_
          rotate_left
          ·rintro w' ⟨s0, s1, s2, s3⟩
           go_simp
           with_reducible rfl
          rotate_left
          ·simp only [Act.put, List.setIfInBounds_toArray, List.set_cons_zero, List.set_cons_succ, i64_w, i32_w]
           rfl
          refine pure_ (i := 4) (N := some 21) (v := ?_) (a' := ?_) #[true, true, true, true, true, false] rfl rfl (by kernel_rfl) (fun _ _ _ h => h) (Or.inl ⟨by rfl, ?_⟩) ?_ ?_
          rotate_left
          ·intro w'
           go_simp
           with_reducible rfl
          rotate_left
          ·simp only [Act.put, List.setIfInBounds_toArray, List.set_cons_zero, List.set_cons_succ, i64_w, i32_w]
           rfl
          refine pure_ (i := 5) (N := some 16) (v := ?_) (a' := ?_) #[true, true, true, true, true, true] rfl rfl (by kernel_rfl) (fun _ _ _ h => h) (Or.inl ⟨by rfl, ?_⟩) ?_ ?_
          rotate_left
          ·intro w'
           go_simp
           with_reducible rfl
          rotate_left
          ·simp only [Act.put, List.setIfInBounds_toArray, List.set_cons_zero, List.set_cons_succ, i64_w, i32_w]
           rfl
          refine done_ (by kernel_rfl) ?_
          try go_wp2
          have n0_ := Aside0.mk (Kd.V_drew HO0.out)
          have n1_ := Aside0.mk (Kd.V_drew HO1.out)
          have n2_ := Aside0.mk (blk_drew BK229.out)
          have n3_ := Aside0.mk (blk_drew BK230.out)
          have n4_ := Aside0.mk (below_drew1 HB.out)
          clear HO0 HO1 BK229 BK230 HB
          have HO0 := n0_; have HO1 := n1_; have BK229 := n2_; have BK230 := n3_; have HB := n4_
          clear n0_ n1_ n2_ n3_ n4_
          have p243 : 0 ≤ ((ji26) : Int) := od_
          have q243 : (ji26) < (l1.length : Int) := od_
          obtain ⟨ad243, e243, hx243_0, hx243_1⟩ := at_T50 (Kd.V_reads' HO1.out).2.2 (ji26) p243 q243
          obtain rfl : ad231 = ad243 := (by injection e243)
          replace p243 := eq_true p243
          replace q243 := eq_true q243
          refine start_ (n := 9) (S := fun w' => w'.cell? ⟨gb230, 0, none⟩ = some (.int .i64 ((rd_T50 l0 (ji4)).f0)) ∧ w'.cell? ⟨gb230, 1, none⟩ = some (.int .i64 ((rd_T50 l0 (ji4)).f1)) ∧ w'.cell? (ad231.add (((ji26)).toNat * 2)) = some (.int .i64 ((rd_T50 l1 (ji26)).f0)) ∧ w'.cell? ⟨(ad231.add (((ji26)).toNat * 2)).block, (ad231.add (((ji26)).toNat * 2)).off + 1, none⟩ = some (.int .i64 ((rd_T50 l1 (ji26)).f1))) (ds := []) #[false, false, false, false, false, false, false, false, false] (by kernel_rfl) rfl rfl ⟨(blk_cell BK230.out 0).trans rfl, (blk_cell BK230.out 1).trans rfl, hx243_0, hx243_1⟩ (fun hHeld => ?_); refine with_tabW impl_join.tab4 impl_join.bits4 (fun HT_ HW_ => ?_)
          generalize w42.drew = w43 at HO0 HO1 BK229 BK230 HB hx243_0 hx243_1 hHeld ⊢
          refine pure_ (i := 1) (N := some 29) (v := ?_) (a' := ?_) #[false, true, false, false, false, false, false, false, false] rfl rfl (any_of HT_.out (by kernel_rfl)) (fun _ _ _ h => h) (Or.inl ⟨by rfl, ?_⟩) ?_ ?_
          rotate_left
          ·intro w'
           go_simp
           with_reducible rfl
          rotate_left
          ·simp only [Act.put, List.setIfInBounds_toArray, List.set_cons_zero, List.set_cons_succ, i64_w, i32_w]
           rfl
          refine pure_ (i := 2) (N := some 30) (v := ?_) (a' := ?_) #[false, true, true, false, false, false, false, false, false] rfl rfl (any_of HT_.out (by kernel_rfl)) (fun _ _ _ h => h) (Or.inl ⟨by rfl, ?_⟩) ?_ ?_
          rotate_left
          ·intro w'
           go_simp
           with_reducible rfl
          rotate_left
          ·simp only [Act.put, List.setIfInBounds_toArray, List.set_cons_zero, List.set_cons_succ, i64_w, i32_w]
           rfl
          refine pure_ (i := 3) (N := some 31) (v := ?_) (a' := ?_) #[false, true, true, true, false, false, false, false, false] rfl rfl (any_of HT_.out (by kernel_rfl)) (fun _ _ _ h => h) (Or.inl ⟨by rfl, ?_⟩) ?_ ?_
          rotate_left
          ·intro w'
           go_simp
           with_reducible rfl
          rotate_left
          ·simp only [Act.put, List.setIfInBounds_toArray, List.set_cons_zero, List.set_cons_succ, i64_w, i32_w]
           rfl
          refine pure_ (i := 4) (N := some 32) (v := ?_) (a' := ?_) #[false, true, true, true, true, false, false, false, false] rfl rfl (any_of HT_.out (by kernel_rfl)) (fun _ _ _ h => h) (Or.inl ⟨by rfl, ?_⟩) ?_ ?_
          rotate_left
          ·intro w'
           go_simp
           with_reducible rfl
          rotate_left
          ·simp only [Act.put, List.setIfInBounds_toArray, List.set_cons_zero, List.set_cons_succ, i64_w, i32_w]
           rfl
          refine pure_ (i := 5) (N := some 33) (v := ?_) (a' := ?_) #[false, true, true, true, true, true, false, false, false] rfl rfl (any_of HT_.out (by kernel_rfl)) (fun _ _ _ h => h) (Or.inl ⟨by rfl, ?_⟩) ?_ ?_
          rotate_left
          ·intro w'
           go_simp
           with_reducible rfl
          rotate_left
          ·simp only [Act.put, List.setIfInBounds_toArray, List.set_cons_zero, List.set_cons_succ, i64_w, i32_w]
           rfl
          refine take_ (i := 0) (N := some 28) (v := ?_) (a' := ?_) #[true, true, true, true, true, true, false, false, false] rfl rfl (take_ofW HT_.out HW_.out (by kernel_rfl)) (fun _ _ _ h => h) (Or.inl ⟨by rfl, ?_⟩) hHeld ?_ ?_
          rotate_left
          ·rintro w' ⟨s0, s1, s2, s3⟩
           go_simp
           with_reducible rfl
          rotate_left
          ·simp only [Act.put, List.setIfInBounds_toArray, List.set_cons_zero, List.set_cons_succ, i64_w, i32_w]
           rfl
          refine take_ (i := 6) (N := some 34) (v := ?_) (a' := ?_) #[true, true, true, true, true, true, true, false, false] rfl rfl (take_ofW HT_.out HW_.out (by kernel_rfl)) (fun _ _ _ h => h) (Or.inl ⟨by rfl, ?_⟩) hHeld ?_ ?_
          rotate_left
          ·rintro w' ⟨s0, s1, s2, s3⟩
           go_simp
           with_reducible rfl
          rotate_left
          ·simp only [Act.put, List.setIfInBounds_toArray, List.set_cons_zero, List.set_cons_succ, i64_w, i32_w]
           rfl
          refine pure_ (i := 7) (N := some 35) (v := ?_) (a' := ?_) #[true, true, true, true, true, true, true, true, false] rfl rfl (any_of HT_.out (by kernel_rfl)) (fun _ _ _ h => h) (Or.inl ⟨by rfl, ?_⟩) ?_ ?_
          rotate_left
          ·intro w'
           go_simp
           with_reducible rfl
          rotate_left
          ·simp only [Act.put, List.setIfInBounds_toArray, List.set_cons_zero, List.set_cons_succ, i64_w, i32_w]
           rfl
          refine pure_ (i := 8) (N := some 27) (v := ?_) (a' := ?_) #[true, true, true, true, true, true, true, true, true] rfl rfl (any_of HT_.out (by kernel_rfl)) (fun _ _ _ h => h) (Or.inl ⟨by rfl, ?_⟩) ?_ ?_
          rotate_left
          ·intro w'
           go_simp
           with_reducible rfl
          rotate_left
          ·simp only [Act.put, List.setIfInBounds_toArray, List.set_cons_zero, List.set_cons_succ, i64_w, i32_w]
           rfl
          refine done_ (done_of HT_.out (by kernel_rfl)) ?_
          try go_wp2_with (first | ((with_reducible refine gate_callee (f := 50) rfl ?_); refine goesL_ (some 38) rfl rfl Try.func50 (by kernel_rfl) rfl #[.slice (some ad231) l1.length c1] rfl gl_ ?_; (with_reducible refine (impl_reversed.calls k _ _ l1 t244 _ ?side1 ?side2 A30.out).mono ?_); (case side1 => repeat (first | exact (Kd.V_reads' HO1.out).2.2 | (with_reducible refine Kd.C_alloc ?_ _) | (with_reducible refine Kd.C_drewN ?_ _) | (with_reducible refine Kd.C_drew ?_))); (case side2 => exact (Kd.V_reads' HO1.out).2.1); rintro e w44 ⟨v245, rfl, ho0, hb⟩; refine ⟨_, rfl, ?_⟩; have n0_ := Aside0.mk (Kd.V_elder' (vk_ HO0.out) (Kd.R_base ho0) hb); have n1_ := Aside0.mk (Kd.V_elder' (vk_ HO1.out) (Kd.R_base ho0) hb); have n2_ := Aside0.mk (Kd.R_lower (Kd.R_newB (Kd.R_newB (Kd.R_newM (M := fun k_ => (w.heap.size ≤ k_)) ho0 (below_size (bws_ HB.out)) (fun k_ h_ => h_)) (g := gb229) (o := .cells #[.int .i64 ((rd_T50 l0 0).f0), .int .i64 ((rd_T50 l0 0).f1)] 50 (0, 0)) (bk_ BK229.out)) (g := gb230) (o := .cells #[.int .i64 ((rd_T50 l0 (ji4)).f0), .int .i64 ((rd_T50 l0 (ji4)).f1)] 50 (0, 0)) (bk_ BK230.out)) (below_size (bws_ HB.out))); have n3_ := Aside0.mk (blk_below (bk_ BK229.out) hb); have n4_ := Aside0.mk (blk_below (bk_ BK230.out) hb); have n5_ := Aside0.mk (below_step (bws_ HB.out) hb); clear HO0; clear HO1; clear BK229; clear BK230; clear HB; have HO0 := n0_; have HO1 := n1_; have HO246 := n2_; have BK229 := n3_; have BK230 := n4_; have HB := n5_; clear n0_ n1_ n2_ n3_ n4_ n5_; (try clear hb); (try clear hb2); (try clear hk); (try clear hi); (try clear ho0); obtain ⟨Ao46, co46, eo46⟩ := Kd.R_slice HO246.out; subst eo46; have q45 : (1 : Int) ≤ ((t244.length : Int) : Int) := od_; obtain ⟨i045, hi045, _, hsz45, _⟩ := info_parts info50; have hroom45 : t244.length ≤ co46 := (Kd.R_reads' HO246.out).2.1; have hC45 : Kd.F k50 _ _ Ao46 t244.length t244 := (Kd.V_at (base := w.heap.size) (Kd.V_mono (ok' := (fun k_ => (((((P0_ k_ ∨ P1_ k_) ∨ w.heap.size ≤ k_) ∧ True) ∧ k_ ≠ gb229) ∧ k_ ≠ gb230))) (Kd.R_V HO246.out) (fun k_ hk => ⟨⟨⟨(.inr (hk.1.1.1)), trivial⟩, hk.1.2⟩, hk.2⟩))).2.2; have hcut45 := cut_from (P := Try.prog) 24 50 .i64 Try.underlying24 hi045 2 hsz45 Ao46 t244.length co46 1 (by omega) q45; have hr45 := Kd.F_cut (m := (1 : Int).toNat) (c := co46) hC45 (by omega) hroom45; obtain ⟨A45, hA45⟩ : ∃ A_z, A_z = (if co46 = (1 : Int).toNat then Ao46 else (Ao46 : Option Addr).map (·.add ((1 : Int).toNat * 2))) := ⟨_, rfl⟩; obtain ⟨c45, hc45⟩ : ∃ c_z, c_z = co46 - (1 : Int).toNat := ⟨_, rfl⟩; have hy45 : y247.length = t244.length - (1 : Int).toNat := (by rw [Ny247.out, List.length_drop] <;> omega); rw [show (t244).drop (1 : Int).toNat = y247 from Ny247.out.symm] at hr45; replace hr45 : Kd.F k50 _ _ A45 y247.length y247 := (by rw [hA45]; exact hr45); rw [← hy45, ← hA45, ← hc45] at hcut45; have HO251 := Aside0.mk (show Kd.V k50 50 _ w.heap.size _ (.slice A45 y247.length c45) y247 from Kd.V_mk (by rw [hy45, hc45]; exact Nat.sub_le_sub_right hroom45 _) hr45); have HC251 := Aside0.mk (show y247.length ≤ c45 from by rw [hy45, hc45]; exact Nat.sub_le_sub_right hroom45 _); clear hr45 hC45 hroom45 hi045 hsz45 hc45; have KY45 := Aside0.mk hy45; have KA45 := Aside0.mk hA45; clear hy45 hA45; replace q45 := eq_true q45) | ((with_reducible refine gate_dst (N := 40) rfl ?_); refine Kd.N_lit (Kd.slice 50 k50) _ 24 ?hg (N' := 40) ?hd (xs := ([l0, y247] : List (List (S50)))) (inner := [.slice (some ad227) l0.length c0, .slice A45 y247.length c45]) (ok := (fun k_ => ((P0_ k_ ∨ P1_ k_) ∨ w.heap.size ≤ k_) ∧ k_ ≠ gb229 ∧ k_ ≠ gb230)) (okp := (fun k_ => ((P0_ k_ ∨ P1_ k_) ∨ w.heap.size ≤ k_) ∧ k_ ≠ gb229 ∧ k_ ≠ gb230)) ?hr ?hp (fun _ hk => hk) ((show ∀ k_, w44.heap.size ≤ k_ → (fun k_ => ((P0_ k_ ∨ P1_ k_) ∨ w.heap.size ≤ k_) ∧ k_ ≠ gb229 ∧ k_ ≠ gb230) k_ from fun k_ hk => ⟨(.inr (Nat.le_trans (below_size (bws_ HB.out)) hk)), Kd.freshB (g := gb229) (o := .cells #[.int .i64 ((rd_T50 l0 0).f0), .int .i64 ((rd_T50 l0 0).f1)] 50 (0, 0)) (bk_ BK229.out) k_ hk, Kd.freshB (g := gb230) (o := .cells #[.int .i64 ((rd_T50 l0 (ji4)).f0), .int .i64 ((rd_T50 l0 (ji4)).f1)] 50 (0, 0)) (bk_ BK230.out) k_ hk⟩) _ (Nat.le_refl _)) (Below.refl _ _) (Nat.le_refl _) (by simp) ?_; (case hd => rfl); (case hg => rfl); (case hr => first | (go_simp; done) | (go_simp; rfl)); (case hp => exact (Reps.one (show Kd.FK (Kd.slice 50 k50) _ _ l0 [.slice (some ad227) l0.length c0] from (Kd.FK_slice_mk (Kd.V_reads' (Kd.V_mono (ok' := (fun k_ => ((P0_ k_ ∨ P1_ k_) ∨ w.heap.size ≤ k_) ∧ k_ ≠ gb229 ∧ k_ ≠ gb230)) (HO0.out) (fun k_ hk => ⟨hk.1.1, ⟨hk.1.2.1, hk.1.2.2⟩⟩))).2.1 (Kd.V_F (Kd.V_mono (ok' := (fun k_ => ((P0_ k_ ∨ P1_ k_) ∨ w.heap.size ≤ k_) ∧ k_ ≠ gb229 ∧ k_ ≠ gb230)) (HO0.out) (fun k_ hk => ⟨hk.1.1, ⟨hk.1.2.1, hk.1.2.2⟩⟩))))) (Reps.one (show Kd.FK (Kd.slice 50 k50) _ _ y247 [.slice A45 y247.length c45] from (Kd.FK_slice_mk (Kd.V_reads' (Kd.V_mono (ok' := (fun k_ => ((P0_ k_ ∨ P1_ k_) ∨ w.heap.size ≤ k_) ∧ k_ ≠ gb229 ∧ k_ ≠ gb230)) (HO251.out) (fun k_ hk => ⟨hk.1.1.1, ⟨hk.1.2, hk.2⟩⟩))).2.1 (Kd.V_F (Kd.V_mono (ok' := (fun k_ => ((P0_ k_ ∨ P1_ k_) ∨ w.heap.size ≤ k_) ∧ k_ ≠ gb229 ∧ k_ ≠ gb230)) (HO251.out) (fun k_ hk => ⟨hk.1.1.1, ⟨hk.1.2, hk.2⟩⟩))))) (Reps.none _ _)))); intro v253 w47 ho48 hb hg_ hnew_; clear hg_ hnew_; (first | rw [← Ny252.out] at ho48 | (simp only [Int.reduceToNat] at ho48; rw [← Ny252.out] at ho48)); have n0_ := Aside0.mk (Kd.V_elder' (vk_ HO0.out) (Kd.N_base ho48) hb); have n1_ := Aside0.mk (Kd.V_elder' (vk_ HO1.out) (Kd.N_base ho48) hb); have n2_ := Aside0.mk (Kd.R_below (by (with_reducible repeat (first | apply Kd.R_alloc | apply Kd.R_drewN | apply Kd.R_drew)); exact HO246.out) hb); have n3_ := Aside0.mk (Kd.V_elder' (vk_ HO251.out) (Kd.N_base ho48) hb); have n4_ := Aside0.mk (Kd.N_lower ho48 (below_size (bws_ HB.out))); have n5_ := Aside0.mk (blk_below (bk_ BK229.out) hb); have n6_ := Aside0.mk (blk_below (bk_ BK230.out) hb); have n7_ := Aside0.mk (below_step (bws_ HB.out) hb); clear HO0; clear HO1; clear HO246; clear HO251; clear BK229; clear BK230; clear HB; have HO0 := n0_; have HO1 := n1_; have HO246 := n2_; have HO251 := n3_; have HO254 := n4_; have BK229 := n5_; have BK230 := n6_; have HB := n7_; clear n0_ n1_ n2_ n3_ n4_ n5_ n6_ n7_; clear hb ho48; obtain ⟨Ao49, co49, eo49⟩ := Kd.N_slice HO254.out; subst eo49) | ((with_reducible refine gate_callee (f := 49) rfl ?_); refine goesL_ (some 41) rfl rfl Try.func49 (by kernel_rfl) rfl #[.slice Ao49 y252.length co49] rfl gl_ ?_; (with_reducible refine (impl_Place_49.calls k _ _ y252 t255 _ ?side1 ?side2 A32.out).mono ?_); (case side1 => repeat (first | exact (Kd.N_reads' HO254.out).2.2 | (with_reducible refine Kd.C_alloc ?_ _) | (with_reducible refine Kd.C_drewN ?_ _) | (with_reducible refine Kd.C_drew ?_))); (case side2 => exact (Kd.N_reads' HO254.out).2.1); rintro e w50 ⟨v256, rfl, ho0, hb⟩; refine ⟨_, rfl, ?_⟩; have n0_ := Aside0.mk (Kd.V_elder' (vk_ HO0.out) (Kd.R_base ho0) hb); have n1_ := Aside0.mk (Kd.V_elder' (vk_ HO1.out) (Kd.R_base ho0) hb); have n2_ := Aside0.mk (Kd.R_elder' (by (with_reducible repeat (first | apply Kd.R_alloc | apply Kd.R_drewN | apply Kd.R_drew)); exact HO246.out) (Kd.R_base ho0) hb); have n3_ := Aside0.mk (Kd.V_elder' (vk_ HO251.out) (Kd.R_base ho0) hb); have n4_ := Aside0.mk (Kd.N_elder' (by (with_reducible repeat (first | apply Kd.N_alloc | apply Kd.N_drewN | apply Kd.N_drew)); exact HO254.out) (Kd.R_base ho0) hb); have n5_ := Aside0.mk (Kd.R_lower (Kd.R_newB (Kd.R_newB (Kd.R_new' (Kd.R_newM (M := fun k_ => (w.heap.size ≤ k_)) ho0 (below_size (bws_ HB.out)) (fun k_ h_ => h_)) (Kd.R_lt (by (with_reducible repeat (first | apply Kd.R_alloc | apply Kd.R_drewN | apply Kd.R_drew)); exact HO246.out))) (g := gb229) (o := .cells #[.int .i64 ((rd_T50 l0 0).f0), .int .i64 ((rd_T50 l0 0).f1)] 50 (0, 0)) (bk_ BK229.out)) (g := gb230) (o := .cells #[.int .i64 ((rd_T50 l0 (ji4)).f0), .int .i64 ((rd_T50 l0 (ji4)).f1)] 50 (0, 0)) (bk_ BK230.out)) (below_size (bws_ HB.out))); have n6_ := Aside0.mk (blk_below (bk_ BK229.out) hb); have n7_ := Aside0.mk (blk_below (bk_ BK230.out) hb); have n8_ := Aside0.mk (below_step (bws_ HB.out) hb); clear HO0; clear HO1; clear HO246; clear HO251; clear HO254; clear BK229; clear BK230; clear HB; have HO0 := n0_; have HO1 := n1_; have HO246 := n2_; have HO251 := n3_; have HO254 := n4_; have HO257 := n5_; have BK229 := n6_; have BK230 := n7_; have HB := n8_; clear n0_ n1_ n2_ n3_ n4_ n5_ n6_ n7_ n8_; (try clear hb); (try clear hb2); (try clear hk); (try clear hi); (try clear ho0)))
          go_ret
          exact ⟨_, by first | rfl | (simp [errW_none, errW_some] <;> rfl) | (simp only [← hji4, ← hji26]; first | rfl | (simp [errW_none, errW_some] <;> rfl)) | (simp [*, errW_none, errW_some] <;> rfl), by (with_reducible repeat (first | apply Kd.R_alloc | apply Kd.R_drewN | apply Kd.R_drew)); exact Kd.R_mono HO257.out (fun _ hk => hk.1.1.1.1), by repeat (first | (with_reducible first | exact HB.out | apply below_alloc | apply pw_below_drewN | apply below_drew1 | refine below_set ?_ GE229.out | refine below_set ?_ GE230.out) | exact HB.out), by first | exact fun hr_ => absurd hr_ HNZ.out | exact fun hr_ => absurd hr_ NZ_.out | exact fun _ => rfl | rfl | (simp; done) | (intro _; first | rfl | (simp; done))⟩
         ·rw [if_neg c31] at H
          exact absurd H (by simp)
        ·rw [if_neg c29] at H
         have c29b0 : (((rd_T50 l0 (ji4)).f0) == ((rd_T50 l1 (ji26)).f0) && (((rd_T50 l0 (ji4)).f1) == ((rd_T50 l1 (ji26)).f1))) = false := by simpa using c29
         (try (have c29b1 : decide (((rd_T50 l0 (ji4)).f0) = ((rd_T50 l1 (ji26)).f0) && (((rd_T50 l0 (ji4)).f1) == ((rd_T50 l1 (ji26)).f1))) = false := by simpa using c29))
         (try (have c29b2 : (((rd_T50 l0 (ji4)).f0) == ((rd_T50 l1 (ji26)).f0) && (((rd_T50 l0 (ji4)).f1) == ((rd_T50 l1 (ji26)).f1))) = false := by simpa using c29))
         (try (have c29b3 : ¬ (((rd_T50 l0 (ji4)).f0) = ((rd_T50 l1 (ji26)).f0) && (((rd_T50 l0 (ji4)).f1) == ((rd_T50 l1 (ji26)).f1))) := by simpa using c29))
         clear c29
         by_cases c51 : (((rd_T50 l0 0).f0) == ((rd_T50 l1 (ji26)).f0) && (((rd_T50 l0 0).f1) == ((rd_T50 l1 (ji26)).f1))) = true
         ·rw [if_pos c51] at H
          have c51b0 : (((rd_T50 l0 0).f0) == ((rd_T50 l1 (ji26)).f0) && (((rd_T50 l0 0).f1) == ((rd_T50 l1 (ji26)).f1))) = true := c51
          (try (have c51b1 : decide (((rd_T50 l0 0).f0) = ((rd_T50 l1 (ji26)).f0) && (((rd_T50 l0 0).f1) == ((rd_T50 l1 (ji26)).f1))) = true := by simpa using c51))
          (try (have c51b2 : (((rd_T50 l0 0).f0) == ((rd_T50 l1 (ji26)).f0) && (((rd_T50 l0 0).f1) == ((rd_T50 l1 (ji26)).f1))) = true := by simpa using c51))
          clear c51
          by_cases c52 : 1 ≤ (l0.length : Int)
          ·rw [if_pos c52] at H
           have c52b0 := eq_true c52
           have c52b1 : decide (1 ≤ (l0.length : Int)) = true := decide_eq_true c52
           clear c52
           obtain ⟨y259, hy259⟩ : ∃ y_ : List (S50), y_ = (l0.drop 1) := ⟨_, rfl⟩
           replace H : ((impl_Place_49.f k (([l1, y259] : List (List (S50))))).bind fun t267 => (if 0 < (t267.length : Int) then (some t267) else none)) = some r := by first | (rw [hy259]; with_reducible exact H) | (have H2_ := (Option.bind_some _ _).symm.trans H; rw [hy259]; with_reducible exact H2_) | (have H2_ := (Option.bind_some _ _).symm.trans H; with_reducible exact H2_) | with_reducible exact H | (rw [hy259]; exact H) | exact H
           have Ny259 := Aside0.mk hy259
           clear hy259
           obtain ⟨y264, hy264⟩ : ∃ y_ : List (List (S50)), y_ = (([l1, y259] : List (List (S50)))) := ⟨_, rfl⟩
           replace H : ((impl_Place_49.f k y264).bind fun t267 => (if 0 < (t267.length : Int) then (some t267) else none)) = some r := by first | (rw [hy264]; with_reducible exact H) | (have H2_ := (Option.bind_some _ _).symm.trans H; rw [hy264]; with_reducible exact H2_) | (have H2_ := (Option.bind_some _ _).symm.trans H; with_reducible exact H2_) | with_reducible exact H | (rw [hy264]; exact H) | exact H
           have Ny264 := Aside0.mk hy264
           clear hy264
           replace H := Option.bind_eq_some_iff.mp H
           obtain ⟨t267, A530, H⟩ := H
           replace H : (if 0 < (t267.length : Int) then (some t267) else none) = some r := H
           have hnz_ : 0 < (t267.length : Int) := by
            by_cases hz_ : 0 < (t267.length : Int)
            ·exact hz_
            ·rw [if_neg hz_] at H; cases H
           rw [if_pos hnz_] at H
           have HNZ := Aside0.mk (show t267 ≠ [] from fun h_ => by rw [h_] at hnz_; simp at hnz_)
           clear hnz_
           have A53 := Aside0.mk A530
           clear A530
           obtain rfl := Option.some.inj H
           go_enter Try.func32, Try.ntmps32
           try go_wp2
           have n0_ := Aside0.mk (Kd.V_drew HO0.out)
           have n1_ := Aside0.mk (Kd.V_drew HO1.out)
           have n2_ := Aside0.mk (below_drew1 HB.out)
           clear HO0 HO1 HB
           have HO0 := n0_; have HO1 := n1_; have HB := n2_
           clear n0_ n1_ n2_
           have p227 : 0 ≤ (0 : Int) := (by omega)
           have q227 : 0 < (l0.length : Int) := od_
           obtain ⟨ad227, e227, hx227_0, hx227_1⟩ := at_T50 (Kd.V_reads' HO0.out).2.2 0 p227 q227
           cases e227
           have qi227 : (0 < l0.length) = True := eq_true (by omega)
           (try rw [show ((0 : Int)).toNat = 0 from rfl] at hx227_0)
           (try rw [show 0 * 2 = 0 from rfl] at hx227_0)
           (try rw [Addr.add_zero'] at hx227_0)
           (try rw [show ((0 : Int)).toNat = 0 from rfl] at hx227_1)
           (try rw [show 0 * 2 = 0 from rfl] at hx227_1)
           (try rw [Addr.add_zero'] at hx227_1)
           replace p227 := eq_true p227
           replace q227 := eq_true q227
           have p228 : 0 ≤ ((ji4) : Int) := od_
           have q228 : (ji4) < (l0.length : Int) := od_
           obtain ⟨ad228, e228, hx228_0, hx228_1⟩ := at_T50 (Kd.V_reads' HO0.out).2.2 (ji4) p228 q228
           obtain rfl : ad227 = ad228 := (by injection e228)
           replace p228 := eq_true p228
           replace q228 := eq_true q228
           refine start_ (n := 13) (S := fun w' => w'.cell? ad227 = some (.int .i64 ((rd_T50 l0 0).f0)) ∧ w'.cell? ⟨ad227.block, ad227.off + 1, none⟩ = some (.int .i64 ((rd_T50 l0 0).f1)) ∧ w'.cell? (ad227.add (((ji4)).toNat * 2)) = some (.int .i64 ((rd_T50 l0 (ji4)).f0)) ∧ w'.cell? ⟨(ad227.add (((ji4)).toNat * 2)).block, (ad227.add (((ji4)).toNat * 2)).off + 1, none⟩ = some (.int .i64 ((rd_T50 l0 (ji4)).f1))) (ds := []) #[false, false, false, false, false, false, false, false, false, false, false, false, false] (by kernel_rfl) rfl rfl ⟨hx227_0, hx227_1, hx228_0, hx228_1⟩ (fun hHeld => ?_); refine with_tabW impl_join.tab1 impl_join.bits1 (fun HT_ HW_ => ?_)
           generalize w.drew = w54 at HO0 HO1 HB hx227_0 hx227_1 hx228_0 hx228_1 hHeld ⊢
           refine pure_ (i := 0) (N := some 7) (v := ?_) (a' := ?_) #[true, false, false, false, false, false, false, false, false, false, false, false, false] rfl rfl (any_of HT_.out (by kernel_rfl)) (fun _ _ _ h => h) (Or.inl ⟨by rfl, ?_⟩) ?_ ?_
           rotate_left
           ·intro w'
            go_simp
            with_reducible rfl
           rotate_left
           ·simp only [Act.put, List.setIfInBounds_toArray, List.set_cons_zero, List.set_cons_succ, i64_w, i32_w]
            rfl
           refine pure_ (i := 1) (N := some 8) (v := ?_) (a' := ?_) #[true, true, false, false, false, false, false, false, false, false, false, false, false] rfl rfl (any_of HT_.out (by kernel_rfl)) (fun _ _ _ h => h) (Or.inl ⟨by rfl, ?_⟩) ?_ ?_
           rotate_left
           ·intro w'
            go_simp
            with_reducible rfl
           rotate_left
           ·simp only [Act.put, List.setIfInBounds_toArray, List.set_cons_zero, List.set_cons_succ, i64_w, i32_w]
            rfl
           refine pure_ (i := 3) (N := some 10) (v := ?_) (a' := ?_) #[true, true, false, true, false, false, false, false, false, false, false, false, false] rfl rfl (any_of HT_.out (by kernel_rfl)) (fun _ _ _ h => h) (Or.inl ⟨by rfl, ?_⟩) ?_ ?_
           rotate_left
           ·intro w'
            go_simp
            with_reducible rfl
           rotate_left
           ·simp only [Act.put, List.setIfInBounds_toArray, List.set_cons_zero, List.set_cons_succ, i64_w, i32_w]
            rfl
           refine pure_ (i := 4) (N := some 11) (v := ?_) (a' := ?_) #[true, true, false, true, true, false, false, false, false, false, false, false, false] rfl rfl (any_of HT_.out (by kernel_rfl)) (fun _ _ _ h => h) (Or.inl ⟨by rfl, ?_⟩) ?_ ?_
           rotate_left
           ·intro w'
            go_simp
            with_reducible rfl
           rotate_left
           ·simp only [Act.put, List.setIfInBounds_toArray, List.set_cons_zero, List.set_cons_succ, i64_w, i32_w]
            rfl
           refine pure_ (i := 5) (N := some 12) (v := ?_) (a' := ?_) #[true, true, false, true, true, true, false, false, false, false, false, false, false] rfl rfl (any_of HT_.out (by kernel_rfl)) (fun _ _ _ h => h) (Or.inl ⟨by rfl, ?_⟩) ?_ ?_
           rotate_left
           ·intro w'
            go_simp
            with_reducible rfl
           rotate_left
           ·simp only [Act.put, List.setIfInBounds_toArray, List.set_cons_zero, List.set_cons_succ, i64_w, i32_w]
            rfl
           refine pure_ (i := 6) (N := some 13) (v := ?_) (a' := ?_) #[true, true, false, true, true, true, true, false, false, false, false, false, false] rfl rfl (any_of HT_.out (by kernel_rfl)) (fun _ _ _ h => h) (Or.inl ⟨by rfl, ?_⟩) ?_ ?_
           rotate_left
           ·intro w'
            go_simp
            with_reducible rfl
           rotate_left
           ·simp only [Act.put, List.setIfInBounds_toArray, List.set_cons_zero, List.set_cons_succ, i64_w, i32_w]
            rfl
           refine pure_ (i := 7) (N := some 14) (v := ?_) (a' := ?_) #[true, true, false, true, true, true, true, true, false, false, false, false, false] rfl rfl (any_of HT_.out (by kernel_rfl)) (fun _ _ _ h => h) (Or.inl ⟨by rfl, ?_⟩) ?_ ?_
           rotate_left
           ·intro w'
            go_simp
            with_reducible rfl
           rotate_left
           ·simp only [Act.put, List.setIfInBounds_toArray, List.set_cons_zero, List.set_cons_succ, i64_w, i32_w]
            rfl
           refine take_ (i := 2) (N := some 9) (v := ?_) (a' := ?_) #[true, true, true, true, true, true, true, true, false, false, false, false, false] rfl rfl (take_ofW HT_.out HW_.out (by kernel_rfl)) (fun _ _ _ h => h) (Or.inl ⟨by rfl, ?_⟩) hHeld ?_ ?_
           rotate_left
           ·rintro w' ⟨s0, s1, s2, s3⟩
            go_simp
            with_reducible rfl
           rotate_left
           ·simp only [Act.put, List.setIfInBounds_toArray, List.set_cons_zero, List.set_cons_succ, i64_w, i32_w]
            rfl
           refine take_ (i := 8) (N := some 15) (v := ?_) (a' := ?_) #[true, true, true, true, true, true, true, true, true, false, false, false, false] rfl rfl (take_ofW HT_.out HW_.out (by kernel_rfl)) (fun _ _ _ h => h) (Or.inl ⟨by rfl, ?_⟩) hHeld ?_ ?_
           rotate_left
           ·rintro w' ⟨s0, s1, s2, s3⟩
            go_simp
            with_reducible rfl
           rotate_left
           ·simp only [Act.put, List.setIfInBounds_toArray, List.set_cons_zero, List.set_cons_succ, i64_w, i32_w]
            rfl
           refine join_ (σ := Nat × Nat) 2 #[true, true, true, true, true, true, true, true, true, true, true, false, false] (fun s_ => [(5, .pointer (some ⟨s_.1, 0, none⟩)), (6, .pointer (some ⟨s_.2, 0, none⟩))]) (fun s_ w' => (w'.cell? ad227 = some (.int .i64 ((rd_T50 l0 0).f0)) ∧ w'.cell? ⟨ad227.block, ad227.off + 1, none⟩ = some (.int .i64 ((rd_T50 l0 0).f1)) ∧ w'.cell? (ad227.add (((ji4)).toNat * 2)) = some (.int .i64 ((rd_T50 l0 (ji4)).f0)) ∧ w'.cell? ⟨(ad227.add (((ji4)).toNat * 2)).block, (ad227.add (((ji4)).toNat * 2)).off + 1, none⟩ = some (.int .i64 ((rd_T50 l0 (ji4)).f1))) ∧ (Kd.V k50 50 w' w.heap.size (fun k_ => ((P0_ k_ ∨ P1_ k_) ∨ w.heap.size ≤ k_) ∧ k_ ≠ s_.1 ∧ k_ ≠ s_.2) (.slice (some ad227) l0.length c0) l0) ∧ (Kd.V k50 50 w' w.heap.size (fun k_ => ((P0_ k_ ∨ P1_ k_) ∨ w.heap.size ≤ k_) ∧ k_ ≠ s_.1 ∧ k_ ≠ s_.2) (.slice A1 l1.length c1) l1) ∧ (w'.heap[s_.1]? = some (.cells #[.int .i64 0, .int .i64 0] 50 (0, 0))) ∧ (w'.heap[s_.2]? = some (.cells #[.int .i64 0, .int .i64 0] 50 (0, 0))) ∧ (w.heap.size ≤ s_.1) ∧ (w.heap.size ≤ s_.1) ∧ (s_.2 ≠ s_.1) ∧ (s_.1 ≠ s_.2) ∧ (w.heap.size ≤ s_.2) ∧ (w.heap.size ≤ s_.2) ∧ (Below w.heap.size w w')) ?_ ?_
           rotate_left
           ·intro hCont
            refine two_ (i := 9) (j := 10) (Ni := some 5) (Nj := some 6) #[true, true, true, true, true, true, true, true, true, true, false, false, false] #[true, true, true, true, true, true, true, true, true, false, true, false, false] rfl rfl rfl rfl (two_of HT_.out (by kernel_rfl)) (by decide) (by decide) (fun K hK => ?_) (fun K hK => ?_)
            ·skip
             refine box_step ?hg (N := 5) ?hd (cs := #[.int .i64 0, .int .i64 0]) (t := 50) ?hr ?_; (case hd => rfl); (case hg => rfl); (case hr => first | (go_simp; done) | (go_simp; rfl))
             intro gb229 hg w55 hbox hb
             have HS0_ := hs_ hb hHeld.1
             have HS1_ := hs_ hb hHeld.2.1
             have HS2_ := hs_ hb hHeld.2.2.1
             have HS3_ := hs_ hb hHeld.2.2.2
             have n0_ := Aside0.mk (Kd.V_below (Kd.V_elderB (vk_ HO0.out) gb229 (Nat.le_of_eq hg.symm)) hb)
             have n1_ := Aside0.mk (Kd.V_below (Kd.V_elderB (vk_ HO1.out) gb229 (Nat.le_of_eq hg.symm)) hb)
             have n2_ := Aside0.mk (below_step (bw_ HB.out) hb)
             have n3_ := Aside0.mk (hbox)
             have n4_ := Aside0.mk ((ge_ hg (bw_ HB.out)))
             have n5_ := Aside0.mk ((ge_ hg (bw_ HB.out)))
             clear HO0 HO1 HB
             have HO0 := n0_; have HO1 := n1_; have HB := n2_; have BK229 := n3_; have GW229 := n4_; have GE229 := n5_
             clear n0_ n1_ n2_ n3_ n4_ n5_ hb hbox hg
             refine hK.out _ _ ⟨HS0_, HS1_, HS2_, HS3_⟩ (fun hHeld => ?_)
             clear hK K
             refine norm_ (a' := ?_) ?_ ?_
             rotate_left
             ·show Act.put _ (some 5) _ = _
              simp only [Act.put, List.setIfInBounds_toArray, List.set_cons_zero, List.set_cons_succ, i64_w, i32_w]
              rfl
             refine one_ (i := 10) (N := some 6) #[true, true, true, true, true, true, true, true, true, true, true, false, false] rfl rfl (one_of HT_.out (by kernel_rfl)) (by decide) (fun K hK => ?_)
             refine box_step ?hg (N := 6) ?hd (cs := #[.int .i64 0, .int .i64 0]) (t := 50) ?hr ?_; (case hd => rfl); (case hg => rfl); (case hr => first | (go_simp; done) | (go_simp; rfl))
             intro gb230 hg w56 hbox hb
             have HS0_ := hs_ hb hHeld.1
             have HS1_ := hs_ hb hHeld.2.1
             have HS2_ := hs_ hb hHeld.2.2.1
             have HS3_ := hs_ hb hHeld.2.2.2
             have n0_ := Aside0.mk (Kd.V_below (Kd.V_elderB (vk_ HO0.out) gb230 (Nat.le_of_eq hg.symm)) hb)
             have n1_ := Aside0.mk (Kd.V_below (Kd.V_elderB (vk_ HO1.out) gb230 (Nat.le_of_eq hg.symm)) hb)
             have n2_ := Aside0.mk (blk_below (bk_ BK229.out) hb)
             have n3_ := Aside0.mk (below_step (bws_ HB.out) hb)
             have n4_ := Aside0.mk (hbox)
             have n5_ := Aside0.mk ((ge_ hg (bws_ HB.out)))
             have n6_ := Aside0.mk ((ge_ hg (bws_ HB.out)))
             have n7_ := Aside0.mk ((ne1_ hg (bk_ BK229.out)))
             have n8_ := Aside0.mk ((ne2_ hg (bk_ BK229.out)))
             clear HO0 HO1 BK229 HB
             have HO0 := n0_; have HO1 := n1_; have BK229 := n2_; have HB := n3_; have BK230 := n4_; have GW230 := n5_; have GE230 := n6_; have NB229_230 := n7_; have NB230_229 := n8_
             clear n0_ n1_ n2_ n3_ n4_ n5_ n6_ n7_ n8_ hb hbox hg
             refine hK.out _ _ ⟨HS0_, HS1_, HS2_, HS3_⟩ (fun hHeld => ?_)
             clear hK K
             refine norm_ (a' := ?_) ?_ ?_
             rotate_left
             ·show Act.put _ (some 6) _ = _
              simp only [Act.put, List.setIfInBounds_toArray, List.set_cons_zero, List.set_cons_succ, i64_w, i32_w]
              rfl
             exact norm_ (by simp only [putAll, Act.put, List.setIfInBounds_toArray, List.set_cons_zero, List.set_cons_succ]) (hCont (gb229, gb230) _ ⟨hHeld, (by (with_reducible repeat (first | apply Kd.V_alloc | apply Kd.V_drewN | apply Kd.V_drew)); exact Kd.V_mono HO0.out (fun _ hk => ⟨hk.1.1, ⟨hk.1.2, hk.2⟩⟩)), (by (with_reducible repeat (first | apply Kd.V_alloc | apply Kd.V_drewN | apply Kd.V_drew)); exact Kd.V_mono HO1.out (fun _ hk => ⟨hk.1.1, ⟨hk.1.2, hk.2⟩⟩)), (bk_ BK229.out), (bk_ BK230.out), GW229.out, GE229.out, NB230_229.out, NB229_230.out, GW230.out, GE230.out, (bws_ HB.out)⟩)
            ·skip
             refine box_step ?hg (N := 6) ?hd (cs := #[.int .i64 0, .int .i64 0]) (t := 50) ?hr ?_; (case hd => rfl); (case hg => rfl); (case hr => first | (go_simp; done) | (go_simp; rfl))
             intro gb230 hg w55 hbox hb
             have HS0_ := hs_ hb hHeld.1
             have HS1_ := hs_ hb hHeld.2.1
             have HS2_ := hs_ hb hHeld.2.2.1
             have HS3_ := hs_ hb hHeld.2.2.2
             have n0_ := Aside0.mk (Kd.V_below (Kd.V_elderB (vk_ HO0.out) gb230 (Nat.le_of_eq hg.symm)) hb)
             have n1_ := Aside0.mk (Kd.V_below (Kd.V_elderB (vk_ HO1.out) gb230 (Nat.le_of_eq hg.symm)) hb)
             have n2_ := Aside0.mk (below_step (bw_ HB.out) hb)
             have n3_ := Aside0.mk (hbox)
             have n4_ := Aside0.mk ((ge_ hg (bw_ HB.out)))
             have n5_ := Aside0.mk ((ge_ hg (bw_ HB.out)))
             clear HO0 HO1 HB
             have HO0 := n0_; have HO1 := n1_; have HB := n2_; have BK230 := n3_; have GW230 := n4_; have GE230 := n5_
             clear n0_ n1_ n2_ n3_ n4_ n5_ hb hbox hg
             refine hK.out _ _ ⟨HS0_, HS1_, HS2_, HS3_⟩ (fun hHeld => ?_)
             clear hK K
             refine norm_ (a' := ?_) ?_ ?_
             rotate_left
             ·show Act.put _ (some 6) _ = _
              simp only [Act.put, List.setIfInBounds_toArray, List.set_cons_zero, List.set_cons_succ, i64_w, i32_w]
              rfl
             refine one_ (i := 9) (N := some 5) #[true, true, true, true, true, true, true, true, true, true, true, false, false] rfl rfl (one_of HT_.out (by kernel_rfl)) (by decide) (fun K hK => ?_)
             refine box_step ?hg (N := 5) ?hd (cs := #[.int .i64 0, .int .i64 0]) (t := 50) ?hr ?_; (case hd => rfl); (case hg => rfl); (case hr => first | (go_simp; done) | (go_simp; rfl))
             intro gb229 hg w56 hbox hb
             have HS0_ := hs_ hb hHeld.1
             have HS1_ := hs_ hb hHeld.2.1
             have HS2_ := hs_ hb hHeld.2.2.1
             have HS3_ := hs_ hb hHeld.2.2.2
             have n0_ := Aside0.mk (Kd.V_below (Kd.V_elderB (vk_ HO0.out) gb229 (Nat.le_of_eq hg.symm)) hb)
             have n1_ := Aside0.mk (Kd.V_below (Kd.V_elderB (vk_ HO1.out) gb229 (Nat.le_of_eq hg.symm)) hb)
             have n2_ := Aside0.mk (blk_below (bk_ BK230.out) hb)
             have n3_ := Aside0.mk (below_step (bws_ HB.out) hb)
             have n4_ := Aside0.mk (hbox)
             have n5_ := Aside0.mk ((ge_ hg (bws_ HB.out)))
             have n6_ := Aside0.mk ((ge_ hg (bws_ HB.out)))
             have n7_ := Aside0.mk ((ne1_ hg (bk_ BK230.out)))
             have n8_ := Aside0.mk ((ne2_ hg (bk_ BK230.out)))
             clear HO0 HO1 BK230 HB
             have HO0 := n0_; have HO1 := n1_; have BK230 := n2_; have HB := n3_; have BK229 := n4_; have GW229 := n5_; have GE229 := n6_; have NB230_229 := n7_; have NB229_230 := n8_
             clear n0_ n1_ n2_ n3_ n4_ n5_ n6_ n7_ n8_ hb hbox hg
             refine hK.out _ _ ⟨HS0_, HS1_, HS2_, HS3_⟩ (fun hHeld => ?_)
             clear hK K
             refine norm_ (a' := ?_) ?_ ?_
             rotate_left
             ·show Act.put _ (some 5) _ = _
              simp only [Act.put, List.setIfInBounds_toArray, List.set_cons_zero, List.set_cons_succ, i64_w, i32_w]
              rfl
             exact norm_ (by simp only [putAll, Act.put, List.setIfInBounds_toArray, List.set_cons_zero, List.set_cons_succ]) (hCont (gb229, gb230) _ ⟨hHeld, (by (with_reducible repeat (first | apply Kd.V_alloc | apply Kd.V_drewN | apply Kd.V_drew)); exact Kd.V_mono HO0.out (fun _ hk => ⟨hk.1.1, ⟨hk.2, hk.1.2⟩⟩)), (by (with_reducible repeat (first | apply Kd.V_alloc | apply Kd.V_drewN | apply Kd.V_drew)); exact Kd.V_mono HO1.out (fun _ hk => ⟨hk.1.1, ⟨hk.2, hk.1.2⟩⟩)), (bk_ BK229.out), (bk_ BK230.out), GW229.out, GE229.out, NB230_229.out, NB229_230.out, GW230.out, GE230.out, (bws_ HB.out)⟩)
           rintro ⟨gb229, gb230⟩ w57 ⟨hS_, h0_, h1_, h2_, h3_, h4_, h5_, h6_, h7_, h8_, h9_, h10_⟩
           have n0_ : Aside0 (Kd.V k50 50 w57 w.heap.size (fun k_ => ((P0_ k_ ∨ P1_ k_) ∨ w.heap.size ≤ k_) ∧ k_ ≠ gb229 ∧ k_ ≠ gb230) (.slice (some ad227) l0.length c0) l0) := ⟨h0_⟩
           have n1_ : Aside0 (Kd.V k50 50 w57 w.heap.size (fun k_ => ((P0_ k_ ∨ P1_ k_) ∨ w.heap.size ≤ k_) ∧ k_ ≠ gb229 ∧ k_ ≠ gb230) (.slice A1 l1.length c1) l1) := ⟨h1_⟩
           have n2_ : Aside0 (w57.heap[gb229]? = some (.cells #[.int .i64 0, .int .i64 0] 50 (0, 0))) := ⟨h2_⟩
           have n3_ : Aside0 (w57.heap[gb230]? = some (.cells #[.int .i64 0, .int .i64 0] 50 (0, 0))) := ⟨h3_⟩
           have n4_ : Aside0 (w.heap.size ≤ gb229) := ⟨h4_⟩
           have n5_ : Aside0 (w.heap.size ≤ gb229) := ⟨h5_⟩
           have n6_ : Aside0 (gb230 ≠ gb229) := ⟨h6_⟩
           have n7_ : Aside0 (gb229 ≠ gb230) := ⟨h7_⟩
           have n8_ : Aside0 (w.heap.size ≤ gb230) := ⟨h8_⟩
           have n9_ : Aside0 (w.heap.size ≤ gb230) := ⟨h9_⟩
           have n10_ : Aside0 (Below w.heap.size w w57) := ⟨h10_⟩
           clear HO0 HO1 HB h0_ h1_ h2_ h3_ h4_ h5_ h6_ h7_ h8_ h9_ h10_
           have HO0 := n0_; have HO1 := n1_; have BK229 := n2_; have BK230 := n3_; have GW229 := n4_; have GE229 := n5_; have NB230_229 := n6_; have NB229_230 := n7_; have GW230 := n8_; have GE230 := n9_
           have HB := n10_
           clear n0_ n1_ n2_ n3_ n4_ n5_ n6_ n7_ n8_ n9_ n10_
           have hHeld : w57.cell? ad227 = some (.int .i64 ((rd_T50 l0 0).f0)) ∧ w57.cell? ⟨ad227.block, ad227.off + 1, none⟩ = some (.int .i64 ((rd_T50 l0 0).f1)) ∧ w57.cell? (ad227.add (((ji4)).toNat * 2)) = some (.int .i64 ((rd_T50 l0 (ji4)).f0)) ∧ w57.cell? ⟨(ad227.add (((ji4)).toNat * 2)).block, (ad227.add (((ji4)).toNat * 2)).off + 1, none⟩ = some (.int .i64 ((rd_T50 l0 (ji4)).f1)) := hS_
           refine norm_ (a' := ?_) ?_ ?_
           rotate_left
           ·simp only [putAll, Act.put, List.setIfInBounds_toArray, List.set_cons_zero, List.set_cons_succ]
            rfl
           refine one_ (i := 11) (N := none) #[true, true, true, true, true, true, true, true, true, true, true, true, false] rfl rfl (one_of HT_.out (by kernel_rfl)) (by decide) (fun K hK => ?_)
           have hs58 : w57.cell? ⟨gb229, 0, none⟩ = some (.int .i64 0) := (blk_cell BK229.out 0).trans rfl
           have hfs58 := blk_frozen BK229.out 0
           have hns58_1 := NB230_229.out
           have hms58_1 := NB229_230.out
           have hs59 : w57.cell? ⟨gb229, 1, none⟩ = some (.int .i64 0) := (blk_cell BK229.out 1).trans rfl
           have hfs59 := blk_frozen BK229.out 1
           have hns59_1 := NB230_229.out
           have hms59_1 := NB229_230.out
           refine skip_ (w1 := ?_) (by rfl) rfl ?_ ?_
           rotate_left
           ·go_simp
            rfl
           refine hK.out _ _ ⟨(far2_ (by first | (rw [add_block]; exact vaw_ HO0.out (fun _ hk => hk.2.1) od_) | exact vaw_ HO0.out (fun _ hk => hk.2.1) od_ | (dsimp only; exact vaw_ HO0.out (fun _ hk => hk.2.1) od_)) hHeld.1), (far2_ (by first | (rw [add_block]; exact vaw_ HO0.out (fun _ hk => hk.2.1) od_) | exact vaw_ HO0.out (fun _ hk => hk.2.1) od_ | (dsimp only; exact vaw_ HO0.out (fun _ hk => hk.2.1) od_)) hHeld.2.1), (far2_ (by first | (rw [add_block]; exact vaw_ HO0.out (fun _ hk => hk.2.1) od_) | exact vaw_ HO0.out (fun _ hk => hk.2.1) od_ | (dsimp only; exact vaw_ HO0.out (fun _ hk => hk.2.1) od_)) hHeld.2.2.1), (far2_ (by first | (rw [add_block]; exact vaw_ HO0.out (fun _ hk => hk.2.1) od_) | exact vaw_ HO0.out (fun _ hk => hk.2.1) od_ | (dsimp only; exact vaw_ HO0.out (fun _ hk => hk.2.1) od_)) hHeld.2.2.2)⟩ (fun hHeld => ?_)
           clear hK K
           refine one_ (i := 12) (N := none) #[true, true, true, true, true, true, true, true, true, true, true, true, true] rfl rfl (one_of HT_.out (by kernel_rfl)) (by decide) (fun K hK => ?_)
           have hs60 : w57.cell? ⟨gb230, 0, none⟩ = some (.int .i64 0) := (blk_cell BK230.out 0).trans rfl
           have hfs60 := blk_frozen BK230.out 0
           have hns60_0 := NB229_230.out
           have hms60_0 := NB230_229.out
           have hs61 : w57.cell? ⟨gb230, 1, none⟩ = some (.int .i64 0) := (blk_cell BK230.out 1).trans rfl
           have hfs61 := blk_frozen BK230.out 1
           have hns61_0 := NB229_230.out
           have hms61_0 := NB230_229.out
           refine skip_ (w1 := ?_) (by rfl) rfl ?_ ?_
           rotate_left
           ·go_simp
            rfl
           refine hK.out _ _ ⟨(far2_ (by first | (rw [add_block]; exact vaw_ HO0.out (fun _ hk => hk.2.2) od_) | exact vaw_ HO0.out (fun _ hk => hk.2.2) od_ | (dsimp only; exact vaw_ HO0.out (fun _ hk => hk.2.2) od_)) hHeld.1), (far2_ (by first | (rw [add_block]; exact vaw_ HO0.out (fun _ hk => hk.2.2) od_) | exact vaw_ HO0.out (fun _ hk => hk.2.2) od_ | (dsimp only; exact vaw_ HO0.out (fun _ hk => hk.2.2) od_)) hHeld.2.1), (far2_ (by first | (rw [add_block]; exact vaw_ HO0.out (fun _ hk => hk.2.2) od_) | exact vaw_ HO0.out (fun _ hk => hk.2.2) od_ | (dsimp only; exact vaw_ HO0.out (fun _ hk => hk.2.2) od_)) hHeld.2.2.1), (far2_ (by first | (rw [add_block]; exact vaw_ HO0.out (fun _ hk => hk.2.2) od_) | exact vaw_ HO0.out (fun _ hk => hk.2.2) od_ | (dsimp only; exact vaw_ HO0.out (fun _ hk => hk.2.2) od_)) hHeld.2.2.2)⟩ (fun hHeld => ?_)
           clear hK K
           refine done_ (done_of HT_.out (by kernel_rfl)) ?_
           try go_wp2
           have n0_ : Aside0 (Kd.V k50 50 ((((w57.setCell ⟨gb229, 0, none⟩ (.int .i64 ((rd_T50 l0 0).f0))).setCell ⟨gb229, 1, none⟩ (.int .i64 ((rd_T50 l0 0).f1))).setCell ⟨gb230, 0, none⟩ (.int .i64 ((rd_T50 l0 (ji4)).f0))).setCell ⟨gb230, 1, none⟩ (.int .i64 ((rd_T50 l0 (ji4)).f1))) w.heap.size (fun k_ => ((P0_ k_ ∨ P1_ k_) ∨ w.heap.size ≤ k_) ∧ k_ ≠ gb229 ∧ k_ ≠ gb230) (.slice (some ad227) l0.length c0) l0) := ⟨by (with_reducible repeat (first | apply Kd.V_alloc | apply Kd.V_drewN | apply Kd.V_drew)); exact Kd.V_mono (Kd.V_far (p := ⟨gb230, 1, none⟩) (Kd.V_far (p := ⟨gb230, 0, none⟩) (Kd.V_far (p := ⟨gb229, 1, none⟩) (Kd.V_far (p := ⟨gb229, 0, none⟩) (Kd.V_mono (Kd.V_mono HO0.out (fun k_ hk => (⟨hk, hk.2.1⟩ : _ ∧ k_ ≠ gb229))) (fun k_ hk => (⟨hk, hk.1.2.2⟩ : _ ∧ k_ ≠ gb230))) (fun _ hk => hk.1.2) (.int .i64 ((rd_T50 l0 0).f0))) (fun _ hk => hk.1.2) (.int .i64 ((rd_T50 l0 0).f1))) (fun _ hk => hk.2) (.int .i64 ((rd_T50 l0 (ji4)).f0))) (fun _ hk => hk.2) (.int .i64 ((rd_T50 l0 (ji4)).f1))) (fun _ hk => ⟨hk.1.1.1, ⟨hk.1.1.2.1, hk.1.1.2.2⟩⟩)⟩
           have n1_ : Aside0 (Kd.V k50 50 ((((w57.setCell ⟨gb229, 0, none⟩ (.int .i64 ((rd_T50 l0 0).f0))).setCell ⟨gb229, 1, none⟩ (.int .i64 ((rd_T50 l0 0).f1))).setCell ⟨gb230, 0, none⟩ (.int .i64 ((rd_T50 l0 (ji4)).f0))).setCell ⟨gb230, 1, none⟩ (.int .i64 ((rd_T50 l0 (ji4)).f1))) w.heap.size (fun k_ => ((P0_ k_ ∨ P1_ k_) ∨ w.heap.size ≤ k_) ∧ k_ ≠ gb229 ∧ k_ ≠ gb230) (.slice A1 l1.length c1) l1) := ⟨by (with_reducible repeat (first | apply Kd.V_alloc | apply Kd.V_drewN | apply Kd.V_drew)); exact Kd.V_mono (Kd.V_far (p := ⟨gb230, 1, none⟩) (Kd.V_far (p := ⟨gb230, 0, none⟩) (Kd.V_far (p := ⟨gb229, 1, none⟩) (Kd.V_far (p := ⟨gb229, 0, none⟩) (Kd.V_mono (Kd.V_mono HO1.out (fun k_ hk => (⟨hk, hk.2.1⟩ : _ ∧ k_ ≠ gb229))) (fun k_ hk => (⟨hk, hk.1.2.2⟩ : _ ∧ k_ ≠ gb230))) (fun _ hk => hk.1.2) (.int .i64 ((rd_T50 l0 0).f0))) (fun _ hk => hk.1.2) (.int .i64 ((rd_T50 l0 0).f1))) (fun _ hk => hk.2) (.int .i64 ((rd_T50 l0 (ji4)).f0))) (fun _ hk => hk.2) (.int .i64 ((rd_T50 l0 (ji4)).f1))) (fun _ hk => ⟨hk.1.1.1, ⟨hk.1.1.2.1, hk.1.1.2.2⟩⟩)⟩
           have n2_ : Aside0 (((((w57.setCell ⟨gb229, 0, none⟩ (.int .i64 ((rd_T50 l0 0).f0))).setCell ⟨gb229, 1, none⟩ (.int .i64 ((rd_T50 l0 0).f1))).setCell ⟨gb230, 0, none⟩ (.int .i64 ((rd_T50 l0 (ji4)).f0))).setCell ⟨gb230, 1, none⟩ (.int .i64 ((rd_T50 l0 (ji4)).f1))).heap[gb229]? = some (.cells #[.int .i64 ((rd_T50 l0 0).f0), .int .i64 ((rd_T50 l0 0).f1)] 50 (0, 0))) := ⟨by (with_reducible repeat (first | refine blk_drewN ?_ _ | refine blk_drew ?_ | refine blk_alloc ?_ _)); refine blk_far ?_ NB229_230.out _; (with_reducible repeat (first | refine blk_drewN ?_ _ | refine blk_drew ?_ | refine blk_alloc ?_ _)); refine blk_far ?_ NB229_230.out _; (with_reducible repeat (first | refine blk_drewN ?_ _ | refine blk_drew ?_ | refine blk_alloc ?_ _)); refine blk_put (cs := #[.int .i64 ((rd_T50 l0 0).f0), .int .i64 0]) ?_ 1 _ rfl; (with_reducible repeat (first | refine blk_drewN ?_ _ | refine blk_drew ?_ | refine blk_alloc ?_ _)); refine blk_put (cs := #[.int .i64 0, .int .i64 0]) ?_ 0 _ rfl; (with_reducible repeat (first | refine blk_drewN ?_ _ | refine blk_drew ?_ | refine blk_alloc ?_ _)); exact BK229.out⟩
           have n3_ : Aside0 (((((w57.setCell ⟨gb229, 0, none⟩ (.int .i64 ((rd_T50 l0 0).f0))).setCell ⟨gb229, 1, none⟩ (.int .i64 ((rd_T50 l0 0).f1))).setCell ⟨gb230, 0, none⟩ (.int .i64 ((rd_T50 l0 (ji4)).f0))).setCell ⟨gb230, 1, none⟩ (.int .i64 ((rd_T50 l0 (ji4)).f1))).heap[gb230]? = some (.cells #[.int .i64 ((rd_T50 l0 (ji4)).f0), .int .i64 ((rd_T50 l0 (ji4)).f1)] 50 (0, 0))) := ⟨by (with_reducible repeat (first | refine blk_drewN ?_ _ | refine blk_drew ?_ | refine blk_alloc ?_ _)); refine blk_put (cs := #[.int .i64 ((rd_T50 l0 (ji4)).f0), .int .i64 0]) ?_ 1 _ rfl; (with_reducible repeat (first | refine blk_drewN ?_ _ | refine blk_drew ?_ | refine blk_alloc ?_ _)); refine blk_put (cs := #[.int .i64 0, .int .i64 0]) ?_ 0 _ rfl; (with_reducible repeat (first | refine blk_drewN ?_ _ | refine blk_drew ?_ | refine blk_alloc ?_ _)); refine blk_far ?_ NB230_229.out _; (with_reducible repeat (first | refine blk_drewN ?_ _ | refine blk_drew ?_ | refine blk_alloc ?_ _)); refine blk_far ?_ NB230_229.out _; (with_reducible repeat (first | refine blk_drewN ?_ _ | refine blk_drew ?_ | refine blk_alloc ?_ _)); exact BK230.out⟩
           have n4_ : Aside0 (Below w.heap.size w ((((w57.setCell ⟨gb229, 0, none⟩ (.int .i64 ((rd_T50 l0 0).f0))).setCell ⟨gb229, 1, none⟩ (.int .i64 ((rd_T50 l0 0).f1))).setCell ⟨gb230, 0, none⟩ (.int .i64 ((rd_T50 l0 (ji4)).f0))).setCell ⟨gb230, 1, none⟩ (.int .i64 ((rd_T50 l0 (ji4)).f1)))) := ⟨bws_ HB.out⟩
           (try clear HO0)
           (try clear HO1)
           (try clear BK229)
           (try clear BK230)
           (try clear HB)
           generalize ((((w57.setCell ⟨gb229, 0, none⟩ (.int .i64 ((rd_T50 l0 0).f0))).setCell ⟨gb229, 1, none⟩ (.int .i64 ((rd_T50 l0 0).f1))).setCell ⟨gb230, 0, none⟩ (.int .i64 ((rd_T50 l0 (ji4)).f0))).setCell ⟨gb230, 1, none⟩ (.int .i64 ((rd_T50 l0 (ji4)).f1))) = w62 at n0_ n1_ n2_ n3_ n4_ ⊢
           have HO0 := n0_; have HO1 := n1_; have BK229 := n2_; have BK230 := n3_; have HB := n4_
           clear n0_ n1_ n2_ n3_ n4_
           have n0_ := Aside0.mk (Kd.V_drew HO0.out)
           have n1_ := Aside0.mk (Kd.V_drew HO1.out)
           have n2_ := Aside0.mk (blk_drew BK229.out)
           have n3_ := Aside0.mk (blk_drew BK230.out)
           have n4_ := Aside0.mk (below_drew1 HB.out)
           clear HO0 HO1 BK229 BK230 HB
           have HO0 := n0_; have HO1 := n1_; have BK229 := n2_; have BK230 := n3_; have HB := n4_
           clear n0_ n1_ n2_ n3_ n4_
           have p231 : 0 ≤ (0 : Int) := (by omega)
           have q231 : 0 < (l1.length : Int) := od_
           obtain ⟨ad231, e231, hx231_0, hx231_1⟩ := at_T50 (Kd.V_reads' HO1.out).2.2 0 p231 q231
           cases e231
           have qi231 : (0 < l1.length) = True := eq_true (by omega)
           (try rw [show ((0 : Int)).toNat = 0 from rfl] at hx231_0)
           (try rw [show 0 * 2 = 0 from rfl] at hx231_0)
           (try rw [Addr.add_zero'] at hx231_0)
           (try rw [show ((0 : Int)).toNat = 0 from rfl] at hx231_1)
           (try rw [show 0 * 2 = 0 from rfl] at hx231_1)
           (try rw [Addr.add_zero'] at hx231_1)
           replace p231 := eq_true p231
           replace q231 := eq_true q231
           refine start_ (n := 6) (S := fun w' => w'.cell? ⟨gb230, 0, none⟩ = some (.int .i64 ((rd_T50 l0 (ji4)).f0)) ∧ w'.cell? ⟨gb230, 1, none⟩ = some (.int .i64 ((rd_T50 l0 (ji4)).f1)) ∧ w'.cell? ad231 = some (.int .i64 ((rd_T50 l1 0).f0)) ∧ w'.cell? ⟨ad231.block, ad231.off + 1, none⟩ = some (.int .i64 ((rd_T50 l1 0).f1))) (ds := []) #[false, false, false, false, false, false] (by kernel_rfl) rfl rfl ⟨(blk_cell BK230.out 0).trans rfl, (blk_cell BK230.out 1).trans rfl, hx231_0, hx231_1⟩ (fun hHeld => ?_)
           generalize w62.drew = w63 at HO0 HO1 BK229 BK230 HB hx231_0 hx231_1 hHeld ⊢
           refine pure_ (i := 1) (N := some 18) (v := ?_) (a' := ?_) #[false, true, false, false, false, false] rfl rfl (by kernel_rfl) (fun _ _ _ h => h) (Or.inl ⟨by rfl, ?_⟩) ?_ ?_
           rotate_left
           ·intro w'
            go_simp
            with_reducible rfl
           rotate_left
           ·simp only [Act.put, List.setIfInBounds_toArray, List.set_cons_zero, List.set_cons_succ, i64_w, i32_w]
            rfl
           refine pure_ (i := 2) (N := some 19) (v := ?_) (a' := ?_) #[false, true, true, false, false, false] rfl rfl (by kernel_rfl) (fun _ _ _ h => h) (Or.inl ⟨by rfl, ?_⟩) ?_ ?_
           rotate_left
           ·intro w'
            go_simp
            with_reducible rfl
           rotate_left
           ·simp only [Act.put, List.setIfInBounds_toArray, List.set_cons_zero, List.set_cons_succ, i64_w, i32_w]
            rfl
           refine take_ (i := 0) (N := some 17) (v := ?_) (a' := ?_) #[true, true, true, false, false, false] rfl rfl (by kernel_rfl) (fun _ _ _ h => h) (Or.inl ⟨by rfl, ?_⟩) hHeld ?_ ?_
           rotate_left
           ·rintro w' ⟨s0, s1, s2, s3⟩
            go_simp
            with_reducible rfl
           rotate_left
           ·simp only [Act.put, List.setIfInBounds_toArray, List.set_cons_zero, List.set_cons_succ, i64_w, i32_w]
            rfl
           refine take_ (i := 3) (N := some 20) (v := ?_) (a' := ?_) #[true, true, true, true, false, false] rfl rfl (by kernel_rfl) (fun _ _ _ h => h) (Or.inl ⟨by rfl, ?_⟩) hHeld ?_ ?_
           rotate_left
           ·rintro w' ⟨s0, s1, s2, s3⟩
            go_simp
            with_reducible rfl
           rotate_left
           ·simp only [Act.put, List.setIfInBounds_toArray, List.set_cons_zero, List.set_cons_succ, i64_w, i32_w]
            rfl
           refine pure_ (i := 4) (N := some 21) (v := ?_) (a' := ?_) #[true, true, true, true, true, false] rfl rfl (by kernel_rfl) (fun _ _ _ h => h) (Or.inl ⟨by rfl, ?_⟩) ?_ ?_
           rotate_left
           ·intro w'
            go_simp
            with_reducible rfl
           rotate_left
           ·simp only [Act.put, List.setIfInBounds_toArray, List.set_cons_zero, List.set_cons_succ, i64_w, i32_w]
            rfl
           refine pure_ (i := 5) (N := some 16) (v := ?_) (a' := ?_) #[true, true, true, true, true, true] rfl rfl (by kernel_rfl) (fun _ _ _ h => h) (Or.inl ⟨by rfl, ?_⟩) ?_ ?_
           rotate_left
           ·intro w'
            go_simp
            with_reducible rfl
           rotate_left
           ·simp only [Act.put, List.setIfInBounds_toArray, List.set_cons_zero, List.set_cons_succ, i64_w, i32_w]
            rfl
           refine done_ (by kernel_rfl) ?_
           try go_wp2
           have n0_ := Aside0.mk (Kd.V_drew HO0.out)
           have n1_ := Aside0.mk (Kd.V_drew HO1.out)
           have n2_ := Aside0.mk (blk_drew BK229.out)
           have n3_ := Aside0.mk (blk_drew BK230.out)
           have n4_ := Aside0.mk (below_drew1 HB.out)
           clear HO0 HO1 BK229 BK230 HB
           have HO0 := n0_; have HO1 := n1_; have BK229 := n2_; have BK230 := n3_; have HB := n4_
           clear n0_ n1_ n2_ n3_ n4_
           have p243 : 0 ≤ ((ji26) : Int) := od_
           have q243 : (ji26) < (l1.length : Int) := od_
           obtain ⟨ad243, e243, hx243_0, hx243_1⟩ := at_T50 (Kd.V_reads' HO1.out).2.2 (ji26) p243 q243
           obtain rfl : ad231 = ad243 := (by injection e243)
           replace p243 := eq_true p243
           replace q243 := eq_true q243
           refine start_ (n := 9) (S := fun w' => w'.cell? ⟨gb230, 0, none⟩ = some (.int .i64 ((rd_T50 l0 (ji4)).f0)) ∧ w'.cell? ⟨gb230, 1, none⟩ = some (.int .i64 ((rd_T50 l0 (ji4)).f1)) ∧ w'.cell? (ad231.add (((ji26)).toNat * 2)) = some (.int .i64 ((rd_T50 l1 (ji26)).f0)) ∧ w'.cell? ⟨(ad231.add (((ji26)).toNat * 2)).block, (ad231.add (((ji26)).toNat * 2)).off + 1, none⟩ = some (.int .i64 ((rd_T50 l1 (ji26)).f1))) (ds := []) #[false, false, false, false, false, false, false, false, false] (by kernel_rfl) rfl rfl ⟨(blk_cell BK230.out 0).trans rfl, (blk_cell BK230.out 1).trans rfl, hx243_0, hx243_1⟩ (fun hHeld => ?_); refine with_tabW impl_join.tab4 impl_join.bits4 (fun HT_ HW_ => ?_)
           generalize w63.drew = w64 at HO0 HO1 BK229 BK230 HB hx243_0 hx243_1 hHeld ⊢
           refine pure_ (i := 1) (N := some 29) (v := ?_) (a' := ?_) #[false, true, false, false, false, false, false, false, false] rfl rfl (any_of HT_.out (by kernel_rfl)) (fun _ _ _ h => h) (Or.inl ⟨by rfl, ?_⟩) ?_ ?_
           rotate_left
           ·intro w'
            go_simp
            with_reducible rfl
           rotate_left
           ·simp only [Act.put, List.setIfInBounds_toArray, List.set_cons_zero, List.set_cons_succ, i64_w, i32_w]
            rfl
           refine pure_ (i := 2) (N := some 30) (v := ?_) (a' := ?_) #[false, true, true, false, false, false, false, false, false] rfl rfl (any_of HT_.out (by kernel_rfl)) (fun _ _ _ h => h) (Or.inl ⟨by rfl, ?_⟩) ?_ ?_
           rotate_left
           ·intro w'
            go_simp
            with_reducible rfl
           rotate_left
           ·simp only [Act.put, List.setIfInBounds_toArray, List.set_cons_zero, List.set_cons_succ, i64_w, i32_w]
            rfl
           refine pure_ (i := 3) (N := some 31) (v := ?_) (a' := ?_) #[false, true, true, true, false, false, false, false, false] rfl rfl (any_of HT_.out (by kernel_rfl)) (fun _ _ _ h => h) (Or.inl ⟨by rfl, ?_⟩) ?_ ?_
           rotate_left
           ·intro w'
            go_simp
            with_reducible rfl
           rotate_left
           ·simp only [Act.put, List.setIfInBounds_toArray, List.set_cons_zero, List.set_cons_succ, i64_w, i32_w]
            rfl
           refine pure_ (i := 4) (N := some 32) (v := ?_) (a' := ?_) #[false, true, true, true, true, false, false, false, false] rfl rfl (any_of HT_.out (by kernel_rfl)) (fun _ _ _ h => h) (Or.inl ⟨by rfl, ?_⟩) ?_ ?_
           rotate_left
           ·intro w'
            go_simp
            with_reducible rfl
           rotate_left
           ·simp only [Act.put, List.setIfInBounds_toArray, List.set_cons_zero, List.set_cons_succ, i64_w, i32_w]
            rfl
           refine pure_ (i := 5) (N := some 33) (v := ?_) (a' := ?_) #[false, true, true, true, true, true, false, false, false] rfl rfl (any_of HT_.out (by kernel_rfl)) (fun _ _ _ h => h) (Or.inl ⟨by rfl, ?_⟩) ?_ ?_
           rotate_left
           ·intro w'
            go_simp
            with_reducible rfl
           rotate_left
           ·simp only [Act.put, List.setIfInBounds_toArray, List.set_cons_zero, List.set_cons_succ, i64_w, i32_w]
            rfl
           refine take_ (i := 0) (N := some 28) (v := ?_) (a' := ?_) #[true, true, true, true, true, true, false, false, false] rfl rfl (take_ofW HT_.out HW_.out (by kernel_rfl)) (fun _ _ _ h => h) (Or.inl ⟨by rfl, ?_⟩) hHeld ?_ ?_
           rotate_left
           ·rintro w' ⟨s0, s1, s2, s3⟩
            go_simp
            with_reducible rfl
           rotate_left
           ·simp only [Act.put, List.setIfInBounds_toArray, List.set_cons_zero, List.set_cons_succ, i64_w, i32_w]
            rfl
           refine take_ (i := 6) (N := some 34) (v := ?_) (a' := ?_) #[true, true, true, true, true, true, true, false, false] rfl rfl (take_ofW HT_.out HW_.out (by kernel_rfl)) (fun _ _ _ h => h) (Or.inl ⟨by rfl, ?_⟩) hHeld ?_ ?_
           rotate_left
           ·rintro w' ⟨s0, s1, s2, s3⟩
            go_simp
            with_reducible rfl
           rotate_left
           ·simp only [Act.put, List.setIfInBounds_toArray, List.set_cons_zero, List.set_cons_succ, i64_w, i32_w]
            rfl
           refine pure_ (i := 7) (N := some 35) (v := ?_) (a' := ?_) #[true, true, true, true, true, true, true, true, false] rfl rfl (any_of HT_.out (by kernel_rfl)) (fun _ _ _ h => h) (Or.inl ⟨by rfl, ?_⟩) ?_ ?_
           rotate_left
           ·intro w'
            go_simp
            with_reducible rfl
           rotate_left
           ·simp only [Act.put, List.setIfInBounds_toArray, List.set_cons_zero, List.set_cons_succ, i64_w, i32_w]
            rfl
           refine pure_ (i := 8) (N := some 27) (v := ?_) (a' := ?_) #[true, true, true, true, true, true, true, true, true] rfl rfl (any_of HT_.out (by kernel_rfl)) (fun _ _ _ h => h) (Or.inl ⟨by rfl, ?_⟩) ?_ ?_
           rotate_left
           ·intro w'
            go_simp
            with_reducible rfl
           rotate_left
           ·simp only [Act.put, List.setIfInBounds_toArray, List.set_cons_zero, List.set_cons_succ, i64_w, i32_w]
            rfl
           refine done_ (done_of HT_.out (by kernel_rfl)) ?_
           try go_wp2
           have n0_ := Aside0.mk (Kd.V_drew HO0.out)
           have n1_ := Aside0.mk (Kd.V_drew HO1.out)
           have n2_ := Aside0.mk (blk_drew BK229.out)
           have n3_ := Aside0.mk (blk_drew BK230.out)
           have n4_ := Aside0.mk (below_drew1 HB.out)
           clear HO0 HO1 BK229 BK230 HB
           have HO0 := n0_; have HO1 := n1_; have BK229 := n2_; have BK230 := n3_; have HB := n4_
           clear n0_ n1_ n2_ n3_ n4_
           have p258 : 0 ≤ ((ji26) : Int) := od_
           have q258 : (ji26) < (l1.length : Int) := od_
           obtain ⟨ad258, e258, hx258_0, hx258_1⟩ := at_T50 (Kd.V_reads' HO1.out).2.2 (ji26) p258 q258
           obtain rfl : ad231 = ad258 := (by injection e258)
           replace p258 := eq_true p258
           replace q258 := eq_true q258
           refine start_ (n := 9) (S := fun w' => w'.cell? ⟨gb229, 0, none⟩ = some (.int .i64 ((rd_T50 l0 0).f0)) ∧ w'.cell? ⟨gb229, 1, none⟩ = some (.int .i64 ((rd_T50 l0 0).f1)) ∧ w'.cell? (ad231.add (((ji26)).toNat * 2)) = some (.int .i64 ((rd_T50 l1 (ji26)).f0)) ∧ w'.cell? ⟨(ad231.add (((ji26)).toNat * 2)).block, (ad231.add (((ji26)).toNat * 2)).off + 1, none⟩ = some (.int .i64 ((rd_T50 l1 (ji26)).f1))) (ds := []) #[false, false, false, false, false, false, false, false, false] (by kernel_rfl) rfl rfl ⟨(blk_cell BK229.out 0).trans rfl, (blk_cell BK229.out 1).trans rfl, hx258_0, hx258_1⟩ (fun hHeld => ?_); refine with_tabW impl_join.tab6 impl_join.bits6 (fun HT_ HW_ => ?_)
           generalize w64.drew = w65 at HO0 HO1 BK229 BK230 HB hx258_0 hx258_1 hHeld ⊢
           refine pure_ (i := 1) (N := some 44) (v := ?_) (a' := ?_) #[false, true, false, false, false, false, false, false, false] rfl rfl (any_of HT_.out (by kernel_rfl)) (fun _ _ _ h => h) (Or.inl ⟨by rfl, ?_⟩) ?_ ?_
           rotate_left
           ·intro w'
            go_simp
            with_reducible rfl
           rotate_left
           ·simp only [Act.put, List.setIfInBounds_toArray, List.set_cons_zero, List.set_cons_succ, i64_w, i32_w]
            rfl
           refine pure_ (i := 2) (N := some 45) (v := ?_) (a' := ?_) #[false, true, true, false, false, false, false, false, false] rfl rfl (any_of HT_.out (by kernel_rfl)) (fun _ _ _ h => h) (Or.inl ⟨by rfl, ?_⟩) ?_ ?_
           rotate_left
           ·intro w'
            go_simp
            with_reducible rfl
           rotate_left
           ·simp only [Act.put, List.setIfInBounds_toArray, List.set_cons_zero, List.set_cons_succ, i64_w, i32_w]
            rfl
           refine pure_ (i := 3) (N := some 46) (v := ?_) (a' := ?_) #[false, true, true, true, false, false, false, false, false] rfl rfl (any_of HT_.out (by kernel_rfl)) (fun _ _ _ h => h) (Or.inl ⟨by rfl, ?_⟩) ?_ ?_
           rotate_left
           ·intro w'
            go_simp
            with_reducible rfl
           rotate_left
           ·simp only [Act.put, List.setIfInBounds_toArray, List.set_cons_zero, List.set_cons_succ, i64_w, i32_w]
            rfl
           refine pure_ (i := 4) (N := some 47) (v := ?_) (a' := ?_) #[false, true, true, true, true, false, false, false, false] rfl rfl (any_of HT_.out (by kernel_rfl)) (fun _ _ _ h => h) (Or.inl ⟨by rfl, ?_⟩) ?_ ?_
           rotate_left
           ·intro w'
            go_simp
            with_reducible rfl
           rotate_left
           ·simp only [Act.put, List.setIfInBounds_toArray, List.set_cons_zero, List.set_cons_succ, i64_w, i32_w]
            rfl
           refine pure_ (i := 5) (N := some 48) (v := ?_) (a' := ?_) #[false, true, true, true, true, true, false, false, false] rfl rfl (any_of HT_.out (by kernel_rfl)) (fun _ _ _ h => h) (Or.inl ⟨by rfl, ?_⟩) ?_ ?_
           rotate_left
           ·intro w'
            go_simp
            with_reducible rfl
           rotate_left
           ·simp only [Act.put, List.setIfInBounds_toArray, List.set_cons_zero, List.set_cons_succ, i64_w, i32_w]
            rfl
           refine take_ (i := 0) (N := some 43) (v := ?_) (a' := ?_) #[true, true, true, true, true, true, false, false, false] rfl rfl (take_ofW HT_.out HW_.out (by kernel_rfl)) (fun _ _ _ h => h) (Or.inl ⟨by rfl, ?_⟩) hHeld ?_ ?_
           rotate_left
           ·rintro w' ⟨s0, s1, s2, s3⟩
            go_simp
            with_reducible rfl
           rotate_left
           ·simp only [Act.put, List.setIfInBounds_toArray, List.set_cons_zero, List.set_cons_succ, i64_w, i32_w]
            rfl
           refine take_ (i := 6) (N := some 49) (v := ?_) (a' := ?_) #[true, true, true, true, true, true, true, false, false] rfl rfl (take_ofW HT_.out HW_.out (by kernel_rfl)) (fun _ _ _ h => h) (Or.inl ⟨by rfl, ?_⟩) hHeld ?_ ?_
           rotate_left
           ·rintro w' ⟨s0, s1, s2, s3⟩
            go_simp
            with_reducible rfl
           rotate_left
           ·simp only [Act.put, List.setIfInBounds_toArray, List.set_cons_zero, List.set_cons_succ, i64_w, i32_w]
            rfl
           refine pure_ (i := 7) (N := some 50) (v := ?_) (a' := ?_) #[true, true, true, true, true, true, true, true, false] rfl rfl (any_of HT_.out (by kernel_rfl)) (fun _ _ _ h => h) (Or.inl ⟨by rfl, ?_⟩) ?_ ?_
           rotate_left
           ·intro w'
            go_simp
            with_reducible rfl
           rotate_left
           ·simp only [Act.put, List.setIfInBounds_toArray, List.set_cons_zero, List.set_cons_succ, i64_w, i32_w]
            rfl
           refine pure_ (i := 8) (N := some 42) (v := ?_) (a' := ?_) #[true, true, true, true, true, true, true, true, true] rfl rfl (any_of HT_.out (by kernel_rfl)) (fun _ _ _ h => h) (Or.inl ⟨by rfl, ?_⟩) ?_ ?_
           rotate_left
           ·intro w'
            go_simp
            with_reducible rfl
           rotate_left
           ·simp only [Act.put, List.setIfInBounds_toArray, List.set_cons_zero, List.set_cons_succ, i64_w, i32_w]
            rfl
           refine done_ (done_of HT_.out (by kernel_rfl)) ?_
           have q66 : (1 : Int) ≤ ((l0.length : Int) : Int) := od_
           obtain ⟨i066, hi066, _, hsz66, _⟩ := info_parts info50
           have hroom66 : l0.length ≤ c0 := (Kd.V_reads' HO0.out).2.1
           have hC66 : Kd.F k50 _ _ (some ad227) l0.length l0 := (Kd.V_at (base := w.heap.size) HO0.out).2.2
           have hcut66 := cut_from (P := Try.prog) 24 50 .i64 Try.underlying24 hi066 2 hsz66 (some ad227) l0.length c0 1 (by omega) q66
           have hr66 := Kd.F_cut (m := (1 : Int).toNat) (c := c0) hC66 (by omega) hroom66
           obtain ⟨A66, hA66⟩ : ∃ A_z, A_z = (if c0 = (1 : Int).toNat then (some ad227) else ((some ad227) : Option Addr).map (·.add ((1 : Int).toNat * 2))) := ⟨_, rfl⟩
           obtain ⟨c66, hc66⟩ : ∃ c_z, c_z = c0 - (1 : Int).toNat := ⟨_, rfl⟩
           have hy66 : y259.length = l0.length - (1 : Int).toNat := (by rw [Ny259.out, List.length_drop] <;> omega)
           rw [show (l0).drop (1 : Int).toNat = y259 from Ny259.out.symm] at hr66
           replace hr66 : Kd.F k50 _ _ A66 y259.length y259 := (by rw [hA66]; exact hr66)
           rw [← hy66, ← hA66, ← hc66] at hcut66
           have HO263 := Aside0.mk (show Kd.V k50 50 _ w.heap.size _ (.slice A66 y259.length c66) y259 from Kd.V_mk (by rw [hy66, hc66]; exact Nat.sub_le_sub_right hroom66 _) hr66)
           have HC263 := Aside0.mk (show y259.length ≤ c66 from by rw [hy66, hc66]; exact Nat.sub_le_sub_right hroom66 _)
           clear hr66 hC66 hroom66 hi066 hsz66 hc66
           have KY66 := Aside0.mk hy66
           have KA66 := Aside0.mk hA66
           clear hy66 hA66
           replace q66 := eq_true q66
           try go_wp2_with (first | ((with_reducible refine gate_dst (N := 54) rfl ?_); refine Kd.N_lit (Kd.slice 50 k50) _ 24 ?hg (N' := 54) ?hd (xs := ([l1, y259] : List (List (S50)))) (inner := [.slice (some ad231) l1.length c1, .slice A66 y259.length c66]) (ok := (fun k_ => ((P0_ k_ ∨ P1_ k_) ∨ w.heap.size ≤ k_) ∧ k_ ≠ gb229 ∧ k_ ≠ gb230)) (okp := (fun k_ => ((P0_ k_ ∨ P1_ k_) ∨ w.heap.size ≤ k_) ∧ k_ ≠ gb229 ∧ k_ ≠ gb230)) ?hr ?hp (fun _ hk => hk) ((show ∀ k_, w65.heap.size ≤ k_ → (fun k_ => ((P0_ k_ ∨ P1_ k_) ∨ w.heap.size ≤ k_) ∧ k_ ≠ gb229 ∧ k_ ≠ gb230) k_ from fun k_ hk => ⟨(.inr (Nat.le_trans (below_size (bws_ HB.out)) hk)), Kd.freshB (g := gb229) (o := .cells #[.int .i64 ((rd_T50 l0 0).f0), .int .i64 ((rd_T50 l0 0).f1)] 50 (0, 0)) (bk_ BK229.out) k_ hk, Kd.freshB (g := gb230) (o := .cells #[.int .i64 ((rd_T50 l0 (ji4)).f0), .int .i64 ((rd_T50 l0 (ji4)).f1)] 50 (0, 0)) (bk_ BK230.out) k_ hk⟩) _ (Nat.le_refl _)) (Below.refl _ _) (Nat.le_refl _) (by simp) ?_; (case hd => rfl); (case hg => rfl); (case hr => first | (go_simp; done) | (go_simp; rfl)); (case hp => exact (Reps.one (show Kd.FK (Kd.slice 50 k50) _ _ l1 [.slice (some ad231) l1.length c1] from (Kd.FK_slice_mk (Kd.V_reads' (Kd.V_mono (ok' := (fun k_ => ((P0_ k_ ∨ P1_ k_) ∨ w.heap.size ≤ k_) ∧ k_ ≠ gb229 ∧ k_ ≠ gb230)) (HO1.out) (fun k_ hk => ⟨hk.1, ⟨hk.2.1, hk.2.2⟩⟩))).2.1 (Kd.V_F (Kd.V_mono (ok' := (fun k_ => ((P0_ k_ ∨ P1_ k_) ∨ w.heap.size ≤ k_) ∧ k_ ≠ gb229 ∧ k_ ≠ gb230)) (HO1.out) (fun k_ hk => ⟨hk.1, ⟨hk.2.1, hk.2.2⟩⟩))))) (Reps.one (show Kd.FK (Kd.slice 50 k50) _ _ y259 [.slice A66 y259.length c66] from (Kd.FK_slice_mk (Kd.V_reads' (Kd.V_mono (ok' := (fun k_ => ((P0_ k_ ∨ P1_ k_) ∨ w.heap.size ≤ k_) ∧ k_ ≠ gb229 ∧ k_ ≠ gb230)) (HO263.out) (fun k_ hk => ⟨hk.1, ⟨hk.2.1, hk.2.2⟩⟩))).2.1 (Kd.V_F (Kd.V_mono (ok' := (fun k_ => ((P0_ k_ ∨ P1_ k_) ∨ w.heap.size ≤ k_) ∧ k_ ≠ gb229 ∧ k_ ≠ gb230)) (HO263.out) (fun k_ hk => ⟨hk.1, ⟨hk.2.1, hk.2.2⟩⟩))))) (Reps.none _ _)))); intro v265 w67 ho68 hb hg_ hnew_; clear hg_ hnew_; (first | rw [← Ny264.out] at ho68 | (simp only [Int.reduceToNat] at ho68; rw [← Ny264.out] at ho68)); have n0_ := Aside0.mk (Kd.V_elder' (vk_ HO0.out) (Kd.N_base ho68) hb); have n1_ := Aside0.mk (Kd.V_elder' (vk_ HO1.out) (Kd.N_base ho68) hb); have n2_ := Aside0.mk (Kd.V_elder' (vk_ HO263.out) (Kd.N_base ho68) hb); have n3_ := Aside0.mk (Kd.N_lower ho68 (below_size (bws_ HB.out))); have n4_ := Aside0.mk (blk_below (bk_ BK229.out) hb); have n5_ := Aside0.mk (blk_below (bk_ BK230.out) hb); have n6_ := Aside0.mk (below_step (bws_ HB.out) hb); clear HO0; clear HO1; clear HO263; clear BK229; clear BK230; clear HB; have HO0 := n0_; have HO1 := n1_; have HO263 := n2_; have HO266 := n3_; have BK229 := n4_; have BK230 := n5_; have HB := n6_; clear n0_ n1_ n2_ n3_ n4_ n5_ n6_; clear hb ho68; obtain ⟨Ao69, co69, eo69⟩ := Kd.N_slice HO266.out; subst eo69) | ((with_reducible refine gate_callee (f := 49) rfl ?_); refine goesL_ (some 55) rfl rfl Try.func49 (by kernel_rfl) rfl #[.slice Ao69 y264.length co69] rfl gl_ ?_; (with_reducible refine (impl_Place_49.calls k _ _ y264 t267 _ ?side1 ?side2 A53.out).mono ?_); (case side1 => repeat (first | exact (Kd.N_reads' HO266.out).2.2 | (with_reducible refine Kd.C_alloc ?_ _) | (with_reducible refine Kd.C_drewN ?_ _) | (with_reducible refine Kd.C_drew ?_))); (case side2 => exact (Kd.N_reads' HO266.out).2.1); rintro e w70 ⟨v268, rfl, ho0, hb⟩; refine ⟨_, rfl, ?_⟩; have n0_ := Aside0.mk (Kd.V_elder' (vk_ HO0.out) (Kd.R_base ho0) hb); have n1_ := Aside0.mk (Kd.V_elder' (vk_ HO1.out) (Kd.R_base ho0) hb); have n2_ := Aside0.mk (Kd.V_elder' (vk_ HO263.out) (Kd.R_base ho0) hb); have n3_ := Aside0.mk (Kd.N_elder' (by (with_reducible repeat (first | apply Kd.N_alloc | apply Kd.N_drewN | apply Kd.N_drew)); exact HO266.out) (Kd.R_base ho0) hb); have n4_ := Aside0.mk (Kd.R_lower (Kd.R_newB (Kd.R_newB (Kd.R_newM (M := fun k_ => (w.heap.size ≤ k_)) ho0 (below_size (bws_ HB.out)) (fun k_ h_ => h_)) (g := gb229) (o := .cells #[.int .i64 ((rd_T50 l0 0).f0), .int .i64 ((rd_T50 l0 0).f1)] 50 (0, 0)) (bk_ BK229.out)) (g := gb230) (o := .cells #[.int .i64 ((rd_T50 l0 (ji4)).f0), .int .i64 ((rd_T50 l0 (ji4)).f1)] 50 (0, 0)) (bk_ BK230.out)) (below_size (bws_ HB.out))); have n5_ := Aside0.mk (blk_below (bk_ BK229.out) hb); have n6_ := Aside0.mk (blk_below (bk_ BK230.out) hb); have n7_ := Aside0.mk (below_step (bws_ HB.out) hb); clear HO0; clear HO1; clear HO263; clear HO266; clear BK229; clear BK230; clear HB; have HO0 := n0_; have HO1 := n1_; have HO263 := n2_; have HO266 := n3_; have HO269 := n4_; have BK229 := n5_; have BK230 := n6_; have HB := n7_; clear n0_ n1_ n2_ n3_ n4_ n5_ n6_ n7_; (try clear hb); (try clear hb2); (try clear hk); (try clear hi); (try clear ho0)))
           go_ret
           exact ⟨_, by first | rfl | (simp [errW_none, errW_some] <;> rfl) | (simp only [← hji4, ← hji26]; first | rfl | (simp [errW_none, errW_some] <;> rfl)) | (simp [*, errW_none, errW_some] <;> rfl), by (with_reducible repeat (first | apply Kd.R_alloc | apply Kd.R_drewN | apply Kd.R_drew)); exact Kd.R_mono HO269.out (fun _ hk => hk.1.1.1), by repeat (first | (with_reducible first | exact HB.out | apply below_alloc | apply pw_below_drewN | apply below_drew1 | refine below_set ?_ GE229.out | refine below_set ?_ GE230.out) | exact HB.out), by first | exact fun hr_ => absurd hr_ HNZ.out | exact fun hr_ => absurd hr_ NZ_.out | exact fun _ => rfl | rfl | (simp; done) | (intro _; first | rfl | (simp; done))⟩
          ·rw [if_neg c52] at H
           exact absurd H (by simp)
         ·rw [if_neg c51] at H
          have c51b0 : (((rd_T50 l0 0).f0) == ((rd_T50 l1 (ji26)).f0) && (((rd_T50 l0 0).f1) == ((rd_T50 l1 (ji26)).f1))) = false := by simpa using c51
          (try (have c51b1 : decide (((rd_T50 l0 0).f0) = ((rd_T50 l1 (ji26)).f0) && (((rd_T50 l0 0).f1) == ((rd_T50 l1 (ji26)).f1))) = false := by simpa using c51))
          (try (have c51b2 : (((rd_T50 l0 0).f0) == ((rd_T50 l1 (ji26)).f0) && (((rd_T50 l0 0).f1) == ((rd_T50 l1 (ji26)).f1))) = false := by simpa using c51))
          (try (have c51b3 : ¬ (((rd_T50 l0 0).f0) = ((rd_T50 l1 (ji26)).f0) && (((rd_T50 l0 0).f1) == ((rd_T50 l1 (ji26)).f1))) := by simpa using c51))
          clear c51
          by_cases c71 : (((rd_T50 l0 0).f0) == ((rd_T50 l1 0).f0) && (((rd_T50 l0 0).f1) == ((rd_T50 l1 0).f1))) = true
          ·rw [if_pos c71] at H
           have c71b0 : (((rd_T50 l0 0).f0) == ((rd_T50 l1 0).f0) && (((rd_T50 l0 0).f1) == ((rd_T50 l1 0).f1))) = true := c71
           (try (have c71b1 : decide (((rd_T50 l0 0).f0) = ((rd_T50 l1 0).f0) && (((rd_T50 l0 0).f1) == ((rd_T50 l1 0).f1))) = true := by simpa using c71))
           (try (have c71b2 : (((rd_T50 l0 0).f0) == ((rd_T50 l1 0).f0) && (((rd_T50 l0 0).f1) == ((rd_T50 l1 0).f1))) = true := by simpa using c71))
           clear c71
           replace H := Option.bind_eq_some_iff.mp H
           obtain ⟨t271, A720, H⟩ := H
           replace H : (if 1 ≤ (l0.length : Int) then ((impl_Place_49.f k (([t271, (l0.drop 1)] : List (List (S50))))).bind fun t282 => (if 0 < (t282.length : Int) then (some t282) else none)) else (none)) = some r := H
           have A72 := Aside0.mk A720
           clear A720
           by_cases c73 : 1 ≤ (l0.length : Int)
           ·rw [if_pos c73] at H
            have c73b0 := eq_true c73
            have c73b1 : decide (1 ≤ (l0.length : Int)) = true := decide_eq_true c73
            clear c73
            obtain ⟨y274, hy274⟩ : ∃ y_ : List (S50), y_ = (l0.drop 1) := ⟨_, rfl⟩
            replace H : ((impl_Place_49.f k (([t271, y274] : List (List (S50))))).bind fun t282 => (if 0 < (t282.length : Int) then (some t282) else none)) = some r := by first | (rw [hy274]; with_reducible exact H) | (have H2_ := (Option.bind_some _ _).symm.trans H; rw [hy274]; with_reducible exact H2_) | (have H2_ := (Option.bind_some _ _).symm.trans H; with_reducible exact H2_) | with_reducible exact H | (rw [hy274]; exact H) | exact H
            have Ny274 := Aside0.mk hy274
            clear hy274
            obtain ⟨y279, hy279⟩ : ∃ y_ : List (List (S50)), y_ = (([t271, y274] : List (List (S50)))) := ⟨_, rfl⟩
            replace H : ((impl_Place_49.f k y279).bind fun t282 => (if 0 < (t282.length : Int) then (some t282) else none)) = some r := by first | (rw [hy279]; with_reducible exact H) | (have H2_ := (Option.bind_some _ _).symm.trans H; rw [hy279]; with_reducible exact H2_) | (have H2_ := (Option.bind_some _ _).symm.trans H; with_reducible exact H2_) | with_reducible exact H | (rw [hy279]; exact H) | exact H
            have Ny279 := Aside0.mk hy279
            clear hy279
            replace H := Option.bind_eq_some_iff.mp H
            obtain ⟨t282, A740, H⟩ := H
            replace H : (if 0 < (t282.length : Int) then (some t282) else none) = some r := H
            have hnz_ : 0 < (t282.length : Int) := by
             by_cases hz_ : 0 < (t282.length : Int)
             ·exact hz_
             ·rw [if_neg hz_] at H; cases H
            rw [if_pos hnz_] at H
            have HNZ := Aside0.mk (show t282 ≠ [] from fun h_ => by rw [h_] at hnz_; simp at hnz_)
            clear hnz_
            have A74 := Aside0.mk A740
            clear A740
            obtain rfl := Option.some.inj H
            go_enter Try.func32, Try.ntmps32
            try go_wp2
            have n0_ := Aside0.mk (Kd.V_drew HO0.out)
            have n1_ := Aside0.mk (Kd.V_drew HO1.out)
            have n2_ := Aside0.mk (below_drew1 HB.out)
            clear HO0 HO1 HB
            have HO0 := n0_; have HO1 := n1_; have HB := n2_
            clear n0_ n1_ n2_
            have p227 : 0 ≤ (0 : Int) := (by omega)
            have q227 : 0 < (l0.length : Int) := od_
            obtain ⟨ad227, e227, hx227_0, hx227_1⟩ := at_T50 (Kd.V_reads' HO0.out).2.2 0 p227 q227
            cases e227
            have qi227 : (0 < l0.length) = True := eq_true (by omega)
            (try rw [show ((0 : Int)).toNat = 0 from rfl] at hx227_0)
            (try rw [show 0 * 2 = 0 from rfl] at hx227_0)
            (try rw [Addr.add_zero'] at hx227_0)
            (try rw [show ((0 : Int)).toNat = 0 from rfl] at hx227_1)
            (try rw [show 0 * 2 = 0 from rfl] at hx227_1)
            (try rw [Addr.add_zero'] at hx227_1)
            replace p227 := eq_true p227
            replace q227 := eq_true q227
            have p228 : 0 ≤ ((ji4) : Int) := od_
            have q228 : (ji4) < (l0.length : Int) := od_
            obtain ⟨ad228, e228, hx228_0, hx228_1⟩ := at_T50 (Kd.V_reads' HO0.out).2.2 (ji4) p228 q228
            obtain rfl : ad227 = ad228 := (by injection e228)
            replace p228 := eq_true p228
            replace q228 := eq_true q228
            refine start_ (n := 13) (S := fun w' => w'.cell? ad227 = some (.int .i64 ((rd_T50 l0 0).f0)) ∧ w'.cell? ⟨ad227.block, ad227.off + 1, none⟩ = some (.int .i64 ((rd_T50 l0 0).f1)) ∧ w'.cell? (ad227.add (((ji4)).toNat * 2)) = some (.int .i64 ((rd_T50 l0 (ji4)).f0)) ∧ w'.cell? ⟨(ad227.add (((ji4)).toNat * 2)).block, (ad227.add (((ji4)).toNat * 2)).off + 1, none⟩ = some (.int .i64 ((rd_T50 l0 (ji4)).f1))) (ds := []) #[false, false, false, false, false, false, false, false, false, false, false, false, false] (by kernel_rfl) rfl rfl ⟨hx227_0, hx227_1, hx228_0, hx228_1⟩ (fun hHeld => ?_); refine with_tabW impl_join.tab1 impl_join.bits1 (fun HT_ HW_ => ?_)
            generalize w.drew = w75 at HO0 HO1 HB hx227_0 hx227_1 hx228_0 hx228_1 hHeld ⊢
            refine pure_ (i := 0) (N := some 7) (v := ?_) (a' := ?_) #[true, false, false, false, false, false, false, false, false, false, false, false, false] rfl rfl (any_of HT_.out (by kernel_rfl)) (fun _ _ _ h => h) (Or.inl ⟨by rfl, ?_⟩) ?_ ?_
            rotate_left
            ·intro w'
             go_simp
             with_reducible rfl
            rotate_left
            ·simp only [Act.put, List.setIfInBounds_toArray, List.set_cons_zero, List.set_cons_succ, i64_w, i32_w]
             rfl
            refine pure_ (i := 1) (N := some 8) (v := ?_) (a' := ?_) #[true, true, false, false, false, false, false, false, false, false, false, false, false] rfl rfl (any_of HT_.out (by kernel_rfl)) (fun _ _ _ h => h) (Or.inl ⟨by rfl, ?_⟩) ?_ ?_
            rotate_left
            ·intro w'
             go_simp
             with_reducible rfl
            rotate_left
            ·simp only [Act.put, List.setIfInBounds_toArray, List.set_cons_zero, List.set_cons_succ, i64_w, i32_w]
             rfl
            refine pure_ (i := 3) (N := some 10) (v := ?_) (a' := ?_) #[true, true, false, true, false, false, false, false, false, false, false, false, false] rfl rfl (any_of HT_.out (by kernel_rfl)) (fun _ _ _ h => h) (Or.inl ⟨by rfl, ?_⟩) ?_ ?_
            rotate_left
            ·intro w'
             go_simp
             with_reducible rfl
            rotate_left
            ·simp only [Act.put, List.setIfInBounds_toArray, List.set_cons_zero, List.set_cons_succ, i64_w, i32_w]
             rfl
            refine pure_ (i := 4) (N := some 11) (v := ?_) (a' := ?_) #[true, true, false, true, true, false, false, false, false, false, false, false, false] rfl rfl (any_of HT_.out (by kernel_rfl)) (fun _ _ _ h => h) (Or.inl ⟨by rfl, ?_⟩) ?_ ?_
            rotate_left
            ·intro w'
             go_simp
             with_reducible rfl
            rotate_left
            ·simp only [Act.put, List.setIfInBounds_toArray, List.set_cons_zero, List.set_cons_succ, i64_w, i32_w]
             rfl
            refine pure_ (i := 5) (N := some 12) (v := ?_) (a' := ?_) #[true, true, false, true, true, true, false, false, false, false, false, false, false] rfl rfl (any_of HT_.out (by kernel_rfl)) (fun _ _ _ h => h) (Or.inl ⟨by rfl, ?_⟩) ?_ ?_
            rotate_left
            ·intro w'
             go_simp
             with_reducible rfl
            rotate_left
            ·simp only [Act.put, List.setIfInBounds_toArray, List.set_cons_zero, List.set_cons_succ, i64_w, i32_w]
             rfl
            refine pure_ (i := 6) (N := some 13) (v := ?_) (a' := ?_) #[true, true, false, true, true, true, true, false, false, false, false, false, false] rfl rfl (any_of HT_.out (by kernel_rfl)) (fun _ _ _ h => h) (Or.inl ⟨by rfl, ?_⟩) ?_ ?_
            rotate_left
            ·intro w'
             go_simp
             with_reducible rfl
            rotate_left
            ·simp only [Act.put, List.setIfInBounds_toArray, List.set_cons_zero, List.set_cons_succ, i64_w, i32_w]
             rfl
            refine pure_ (i := 7) (N := some 14) (v := ?_) (a' := ?_) #[true, true, false, true, true, true, true, true, false, false, false, false, false] rfl rfl (any_of HT_.out (by kernel_rfl)) (fun _ _ _ h => h) (Or.inl ⟨by rfl, ?_⟩) ?_ ?_
            rotate_left
            ·intro w'
             go_simp
             with_reducible rfl
            rotate_left
            ·simp only [Act.put, List.setIfInBounds_toArray, List.set_cons_zero, List.set_cons_succ, i64_w, i32_w]
             rfl
            refine take_ (i := 2) (N := some 9) (v := ?_) (a' := ?_) #[true, true, true, true, true, true, true, true, false, false, false, false, false] rfl rfl (take_ofW HT_.out HW_.out (by kernel_rfl)) (fun _ _ _ h => h) (Or.inl ⟨by rfl, ?_⟩) hHeld ?_ ?_
            rotate_left
            ·rintro w' ⟨s0, s1, s2, s3⟩
             go_simp
             with_reducible rfl
            rotate_left
            ·simp only [Act.put, List.setIfInBounds_toArray, List.set_cons_zero, List.set_cons_succ, i64_w, i32_w]
             rfl
            refine take_ (i := 8) (N := some 15) (v := ?_) (a' := ?_) #[true, true, true, true, true, true, true, true, true, false, false, false, false] rfl rfl (take_ofW HT_.out HW_.out (by kernel_rfl)) (fun _ _ _ h => h) (Or.inl ⟨by rfl, ?_⟩) hHeld ?_ ?_
            rotate_left
            ·rintro w' ⟨s0, s1, s2, s3⟩
             go_simp
             with_reducible rfl
            rotate_left
            ·simp only [Act.put, List.setIfInBounds_toArray, List.set_cons_zero, List.set_cons_succ, i64_w, i32_w]
             rfl
            refine join_ (σ := Nat × Nat) 2 #[true, true, true, true, true, true, true, true, true, true, true, false, false] (fun s_ => [(5, .pointer (some ⟨s_.1, 0, none⟩)), (6, .pointer (some ⟨s_.2, 0, none⟩))]) (fun s_ w' => (w'.cell? ad227 = some (.int .i64 ((rd_T50 l0 0).f0)) ∧ w'.cell? ⟨ad227.block, ad227.off + 1, none⟩ = some (.int .i64 ((rd_T50 l0 0).f1)) ∧ w'.cell? (ad227.add (((ji4)).toNat * 2)) = some (.int .i64 ((rd_T50 l0 (ji4)).f0)) ∧ w'.cell? ⟨(ad227.add (((ji4)).toNat * 2)).block, (ad227.add (((ji4)).toNat * 2)).off + 1, none⟩ = some (.int .i64 ((rd_T50 l0 (ji4)).f1))) ∧ (Kd.V k50 50 w' w.heap.size (fun k_ => ((P0_ k_ ∨ P1_ k_) ∨ w.heap.size ≤ k_) ∧ k_ ≠ s_.1 ∧ k_ ≠ s_.2) (.slice (some ad227) l0.length c0) l0) ∧ (Kd.V k50 50 w' w.heap.size (fun k_ => ((P0_ k_ ∨ P1_ k_) ∨ w.heap.size ≤ k_) ∧ k_ ≠ s_.1 ∧ k_ ≠ s_.2) (.slice A1 l1.length c1) l1) ∧ (w'.heap[s_.1]? = some (.cells #[.int .i64 0, .int .i64 0] 50 (0, 0))) ∧ (w'.heap[s_.2]? = some (.cells #[.int .i64 0, .int .i64 0] 50 (0, 0))) ∧ (w.heap.size ≤ s_.1) ∧ (w.heap.size ≤ s_.1) ∧ (s_.2 ≠ s_.1) ∧ (s_.1 ≠ s_.2) ∧ (w.heap.size ≤ s_.2) ∧ (w.heap.size ≤ s_.2) ∧ (Below w.heap.size w w')) ?_ ?_
            rotate_left
            ·intro hCont
             refine two_ (i := 9) (j := 10) (Ni := some 5) (Nj := some 6) #[true, true, true, true, true, true, true, true, true, true, false, false, false] #[true, true, true, true, true, true, true, true, true, false, true, false, false] rfl rfl rfl rfl (two_of HT_.out (by kernel_rfl)) (by decide) (by decide) (fun K hK => ?_) (fun K hK => ?_)
             ·skip
              refine box_step ?hg (N := 5) ?hd (cs := #[.int .i64 0, .int .i64 0]) (t := 50) ?hr ?_; (case hd => rfl); (case hg => rfl); (case hr => first | (go_simp; done) | (go_simp; rfl))
              intro gb229 hg w76 hbox hb
              have HS0_ := hs_ hb hHeld.1
              have HS1_ := hs_ hb hHeld.2.1
              have HS2_ := hs_ hb hHeld.2.2.1
              have HS3_ := hs_ hb hHeld.2.2.2
              have n0_ := Aside0.mk (Kd.V_below (Kd.V_elderB (vk_ HO0.out) gb229 (Nat.le_of_eq hg.symm)) hb)
              have n1_ := Aside0.mk (Kd.V_below (Kd.V_elderB (vk_ HO1.out) gb229 (Nat.le_of_eq hg.symm)) hb)
              have n2_ := Aside0.mk (below_step (bw_ HB.out) hb)
              have n3_ := Aside0.mk (hbox)
              have n4_ := Aside0.mk ((ge_ hg (bw_ HB.out)))
              have n5_ := Aside0.mk ((ge_ hg (bw_ HB.out)))
              clear HO0 HO1 HB
              have HO0 := n0_; have HO1 := n1_; have HB := n2_; have BK229 := n3_; have GW229 := n4_; have GE229 := n5_
              clear n0_ n1_ n2_ n3_ n4_ n5_ hb hbox hg
              refine hK.out _ _ ⟨HS0_, HS1_, HS2_, HS3_⟩ (fun hHeld => ?_)
              clear hK K
              refine norm_ (a' := ?_) ?_ ?_
              rotate_left
              ·show Act.put _ (some 5) _ = _
               simp only [Act.put, List.setIfInBounds_toArray, List.set_cons_zero, List.set_cons_succ, i64_w, i32_w]
               rfl
              refine one_ (i := 10) (N := some 6) #[true, true, true, true, true, true, true, true, true, true, true, false, false] rfl rfl (one_of HT_.out (by kernel_rfl)) (by decide) (fun K hK => ?_)
              refine box_step ?hg (N := 6) ?hd (cs := #[.int .i64 0, .int .i64 0]) (t := 50) ?hr ?_; (case hd => rfl); (case hg => rfl); (case hr => first | (go_simp; done) | (go_simp; rfl))
              intro gb230 hg w77 hbox hb
              have HS0_ := hs_ hb hHeld.1
              have HS1_ := hs_ hb hHeld.2.1
              have HS2_ := hs_ hb hHeld.2.2.1
              have HS3_ := hs_ hb hHeld.2.2.2
              have n0_ := Aside0.mk (Kd.V_below (Kd.V_elderB (vk_ HO0.out) gb230 (Nat.le_of_eq hg.symm)) hb)
              have n1_ := Aside0.mk (Kd.V_below (Kd.V_elderB (vk_ HO1.out) gb230 (Nat.le_of_eq hg.symm)) hb)
              have n2_ := Aside0.mk (blk_below (bk_ BK229.out) hb)
              have n3_ := Aside0.mk (below_step (bws_ HB.out) hb)
              have n4_ := Aside0.mk (hbox)
              have n5_ := Aside0.mk ((ge_ hg (bws_ HB.out)))
              have n6_ := Aside0.mk ((ge_ hg (bws_ HB.out)))
              have n7_ := Aside0.mk ((ne1_ hg (bk_ BK229.out)))
              have n8_ := Aside0.mk ((ne2_ hg (bk_ BK229.out)))
              clear HO0 HO1 BK229 HB
              have HO0 := n0_; have HO1 := n1_; have BK229 := n2_; have HB := n3_; have BK230 := n4_; have GW230 := n5_; have GE230 := n6_; have NB229_230 := n7_; have NB230_229 := n8_
              clear n0_ n1_ n2_ n3_ n4_ n5_ n6_ n7_ n8_ hb hbox hg
              refine hK.out _ _ ⟨HS0_, HS1_, HS2_, HS3_⟩ (fun hHeld => ?_)
              clear hK K
              refine norm_ (a' := ?_) ?_ ?_
              rotate_left
              ·show Act.put _ (some 6) _ = _
               simp only [Act.put, List.setIfInBounds_toArray, List.set_cons_zero, List.set_cons_succ, i64_w, i32_w]
               rfl
              exact norm_ (by simp only [putAll, Act.put, List.setIfInBounds_toArray, List.set_cons_zero, List.set_cons_succ]) (hCont (gb229, gb230) _ ⟨hHeld, (by (with_reducible repeat (first | apply Kd.V_alloc | apply Kd.V_drewN | apply Kd.V_drew)); exact Kd.V_mono HO0.out (fun _ hk => ⟨hk.1.1, ⟨hk.1.2, hk.2⟩⟩)), (by (with_reducible repeat (first | apply Kd.V_alloc | apply Kd.V_drewN | apply Kd.V_drew)); exact Kd.V_mono HO1.out (fun _ hk => ⟨hk.1.1, ⟨hk.1.2, hk.2⟩⟩)), (bk_ BK229.out), (bk_ BK230.out), GW229.out, GE229.out, NB230_229.out, NB229_230.out, GW230.out, GE230.out, (bws_ HB.out)⟩)
             ·skip
              refine box_step ?hg (N := 6) ?hd (cs := #[.int .i64 0, .int .i64 0]) (t := 50) ?hr ?_; (case hd => rfl); (case hg => rfl); (case hr => first | (go_simp; done) | (go_simp; rfl))
              intro gb230 hg w76 hbox hb
              have HS0_ := hs_ hb hHeld.1
              have HS1_ := hs_ hb hHeld.2.1
              have HS2_ := hs_ hb hHeld.2.2.1
              have HS3_ := hs_ hb hHeld.2.2.2
              have n0_ := Aside0.mk (Kd.V_below (Kd.V_elderB (vk_ HO0.out) gb230 (Nat.le_of_eq hg.symm)) hb)
              have n1_ := Aside0.mk (Kd.V_below (Kd.V_elderB (vk_ HO1.out) gb230 (Nat.le_of_eq hg.symm)) hb)
              have n2_ := Aside0.mk (below_step (bw_ HB.out) hb)
              have n3_ := Aside0.mk (hbox)
              have n4_ := Aside0.mk ((ge_ hg (bw_ HB.out)))
              have n5_ := Aside0.mk ((ge_ hg (bw_ HB.out)))
              clear HO0 HO1 HB
              have HO0 := n0_; have HO1 := n1_; have HB := n2_; have BK230 := n3_; have GW230 := n4_; have GE230 := n5_
              clear n0_ n1_ n2_ n3_ n4_ n5_ hb hbox hg
              refine hK.out _ _ ⟨HS0_, HS1_, HS2_, HS3_⟩ (fun hHeld => ?_)
              clear hK K
              refine norm_ (a' := ?_) ?_ ?_
              rotate_left
              ·show Act.put _ (some 6) _ = _
               simp only [Act.put, List.setIfInBounds_toArray, List.set_cons_zero, List.set_cons_succ, i64_w, i32_w]
               rfl
              refine one_ (i := 9) (N := some 5) #[true, true, true, true, true, true, true, true, true, true, true, false, false] rfl rfl (one_of HT_.out (by kernel_rfl)) (by decide) (fun K hK => ?_)
              refine box_step ?hg (N := 5) ?hd (cs := #[.int .i64 0, .int .i64 0]) (t := 50) ?hr ?_; (case hd => rfl); (case hg => rfl); (case hr => first | (go_simp; done) | (go_simp; rfl))
              intro gb229 hg w77 hbox hb
              have HS0_ := hs_ hb hHeld.1
              have HS1_ := hs_ hb hHeld.2.1
              have HS2_ := hs_ hb hHeld.2.2.1
              have HS3_ := hs_ hb hHeld.2.2.2
              have n0_ := Aside0.mk (Kd.V_below (Kd.V_elderB (vk_ HO0.out) gb229 (Nat.le_of_eq hg.symm)) hb)
              have n1_ := Aside0.mk (Kd.V_below (Kd.V_elderB (vk_ HO1.out) gb229 (Nat.le_of_eq hg.symm)) hb)
              have n2_ := Aside0.mk (blk_below (bk_ BK230.out) hb)
              have n3_ := Aside0.mk (below_step (bws_ HB.out) hb)
              have n4_ := Aside0.mk (hbox)
              have n5_ := Aside0.mk ((ge_ hg (bws_ HB.out)))
              have n6_ := Aside0.mk ((ge_ hg (bws_ HB.out)))
              have n7_ := Aside0.mk ((ne1_ hg (bk_ BK230.out)))
              have n8_ := Aside0.mk ((ne2_ hg (bk_ BK230.out)))
              clear HO0 HO1 BK230 HB
              have HO0 := n0_; have HO1 := n1_; have BK230 := n2_; have HB := n3_; have BK229 := n4_; have GW229 := n5_; have GE229 := n6_; have NB230_229 := n7_; have NB229_230 := n8_
              clear n0_ n1_ n2_ n3_ n4_ n5_ n6_ n7_ n8_ hb hbox hg
              refine hK.out _ _ ⟨HS0_, HS1_, HS2_, HS3_⟩ (fun hHeld => ?_)
              clear hK K
              refine norm_ (a' := ?_) ?_ ?_
              rotate_left
              ·show Act.put _ (some 5) _ = _
               simp only [Act.put, List.setIfInBounds_toArray, List.set_cons_zero, List.set_cons_succ, i64_w, i32_w]
               rfl
              exact norm_ (by simp only [putAll, Act.put, List.setIfInBounds_toArray, List.set_cons_zero, List.set_cons_succ]) (hCont (gb229, gb230) _ ⟨hHeld, (by (with_reducible repeat (first | apply Kd.V_alloc | apply Kd.V_drewN | apply Kd.V_drew)); exact Kd.V_mono HO0.out (fun _ hk => ⟨hk.1.1, ⟨hk.2, hk.1.2⟩⟩)), (by (with_reducible repeat (first | apply Kd.V_alloc | apply Kd.V_drewN | apply Kd.V_drew)); exact Kd.V_mono HO1.out (fun _ hk => ⟨hk.1.1, ⟨hk.2, hk.1.2⟩⟩)), (bk_ BK229.out), (bk_ BK230.out), GW229.out, GE229.out, NB230_229.out, NB229_230.out, GW230.out, GE230.out, (bws_ HB.out)⟩)
            rintro ⟨gb229, gb230⟩ w78 ⟨hS_, h0_, h1_, h2_, h3_, h4_, h5_, h6_, h7_, h8_, h9_, h10_⟩
            have n0_ : Aside0 (Kd.V k50 50 w78 w.heap.size (fun k_ => ((P0_ k_ ∨ P1_ k_) ∨ w.heap.size ≤ k_) ∧ k_ ≠ gb229 ∧ k_ ≠ gb230) (.slice (some ad227) l0.length c0) l0) := ⟨h0_⟩
            have n1_ : Aside0 (Kd.V k50 50 w78 w.heap.size (fun k_ => ((P0_ k_ ∨ P1_ k_) ∨ w.heap.size ≤ k_) ∧ k_ ≠ gb229 ∧ k_ ≠ gb230) (.slice A1 l1.length c1) l1) := ⟨h1_⟩
            have n2_ : Aside0 (w78.heap[gb229]? = some (.cells #[.int .i64 0, .int .i64 0] 50 (0, 0))) := ⟨h2_⟩
            have n3_ : Aside0 (w78.heap[gb230]? = some (.cells #[.int .i64 0, .int .i64 0] 50 (0, 0))) := ⟨h3_⟩
            have n4_ : Aside0 (w.heap.size ≤ gb229) := ⟨h4_⟩
            have n5_ : Aside0 (w.heap.size ≤ gb229) := ⟨h5_⟩
            have n6_ : Aside0 (gb230 ≠ gb229) := ⟨h6_⟩
            have n7_ : Aside0 (gb229 ≠ gb230) := ⟨h7_⟩
            have n8_ : Aside0 (w.heap.size ≤ gb230) := ⟨h8_⟩
            have n9_ : Aside0 (w.heap.size ≤ gb230) := ⟨h9_⟩
            have n10_ : Aside0 (Below w.heap.size w w78) := ⟨h10_⟩
            clear HO0 HO1 HB h0_ h1_ h2_ h3_ h4_ h5_ h6_ h7_ h8_ h9_ h10_
            have HO0 := n0_; have HO1 := n1_; have BK229 := n2_; have BK230 := n3_; have GW229 := n4_; have GE229 := n5_; have NB230_229 := n6_; have NB229_230 := n7_; have GW230 := n8_; have GE230 := n9_
            have HB := n10_
            clear n0_ n1_ n2_ n3_ n4_ n5_ n6_ n7_ n8_ n9_ n10_
            have hHeld : w78.cell? ad227 = some (.int .i64 ((rd_T50 l0 0).f0)) ∧ w78.cell? ⟨ad227.block, ad227.off + 1, none⟩ = some (.int .i64 ((rd_T50 l0 0).f1)) ∧ w78.cell? (ad227.add (((ji4)).toNat * 2)) = some (.int .i64 ((rd_T50 l0 (ji4)).f0)) ∧ w78.cell? ⟨(ad227.add (((ji4)).toNat * 2)).block, (ad227.add (((ji4)).toNat * 2)).off + 1, none⟩ = some (.int .i64 ((rd_T50 l0 (ji4)).f1)) := hS_
            refine norm_ (a' := ?_) ?_ ?_
            rotate_left
            ·simp only [putAll, Act.put, List.setIfInBounds_toArray, List.set_cons_zero, List.set_cons_succ]
             rfl
            refine one_ (i := 11) (N := none) #[true, true, true, true, true, true, true, true, true, true, true, true, false] rfl rfl (one_of HT_.out (by kernel_rfl)) (by decide) (fun K hK => ?_)
            have hs79 : w78.cell? ⟨gb229, 0, none⟩ = some (.int .i64 0) := (blk_cell BK229.out 0).trans rfl
            have hfs79 := blk_frozen BK229.out 0
            have hns79_1 := NB230_229.out
            have hms79_1 := NB229_230.out
            have hs80 : w78.cell? ⟨gb229, 1, none⟩ = some (.int .i64 0) := (blk_cell BK229.out 1).trans rfl
            have hfs80 := blk_frozen BK229.out 1
            have hns80_1 := NB230_229.out
            have hms80_1 := NB229_230.out
            refine skip_ (w1 := ?_) (by rfl) rfl ?_ ?_
            rotate_left
            ·go_simp
             rfl
            refine hK.out _ _ ⟨(far2_ (by first | (rw [add_block]; exact vaw_ HO0.out (fun _ hk => hk.2.1) od_) | exact vaw_ HO0.out (fun _ hk => hk.2.1) od_ | (dsimp only; exact vaw_ HO0.out (fun _ hk => hk.2.1) od_)) hHeld.1), (far2_ (by first | (rw [add_block]; exact vaw_ HO0.out (fun _ hk => hk.2.1) od_) | exact vaw_ HO0.out (fun _ hk => hk.2.1) od_ | (dsimp only; exact vaw_ HO0.out (fun _ hk => hk.2.1) od_)) hHeld.2.1), (far2_ (by first | (rw [add_block]; exact vaw_ HO0.out (fun _ hk => hk.2.1) od_) | exact vaw_ HO0.out (fun _ hk => hk.2.1) od_ | (dsimp only; exact vaw_ HO0.out (fun _ hk => hk.2.1) od_)) hHeld.2.2.1), (far2_ (by first | (rw [add_block]; exact vaw_ HO0.out (fun _ hk => hk.2.1) od_) | exact vaw_ HO0.out (fun _ hk => hk.2.1) od_ | (dsimp only; exact vaw_ HO0.out (fun _ hk => hk.2.1) od_)) hHeld.2.2.2)⟩ (fun hHeld => ?_)
            clear hK K
            refine one_ (i := 12) (N := none) #[true, true, true, true, true, true, true, true, true, true, true, true, true] rfl rfl (one_of HT_.out (by kernel_rfl)) (by decide) (fun K hK => ?_)
            have hs81 : w78.cell? ⟨gb230, 0, none⟩ = some (.int .i64 0) := (blk_cell BK230.out 0).trans rfl
            have hfs81 := blk_frozen BK230.out 0
            have hns81_0 := NB229_230.out
            have hms81_0 := NB230_229.out
            have hs82 : w78.cell? ⟨gb230, 1, none⟩ = some (.int .i64 0) := (blk_cell BK230.out 1).trans rfl
            have hfs82 := blk_frozen BK230.out 1
            have hns82_0 := NB229_230.out
            have hms82_0 := NB230_229.out
            refine skip_ (w1 := ?_) (by rfl) rfl ?_ ?_
            rotate_left
            ·go_simp
             rfl
            refine hK.out _ _ ⟨(far2_ (by first | (rw [add_block]; exact vaw_ HO0.out (fun _ hk => hk.2.2) od_) | exact vaw_ HO0.out (fun _ hk => hk.2.2) od_ | (dsimp only; exact vaw_ HO0.out (fun _ hk => hk.2.2) od_)) hHeld.1), (far2_ (by first | (rw [add_block]; exact vaw_ HO0.out (fun _ hk => hk.2.2) od_) | exact vaw_ HO0.out (fun _ hk => hk.2.2) od_ | (dsimp only; exact vaw_ HO0.out (fun _ hk => hk.2.2) od_)) hHeld.2.1), (far2_ (by first | (rw [add_block]; exact vaw_ HO0.out (fun _ hk => hk.2.2) od_) | exact vaw_ HO0.out (fun _ hk => hk.2.2) od_ | (dsimp only; exact vaw_ HO0.out (fun _ hk => hk.2.2) od_)) hHeld.2.2.1), (far2_ (by first | (rw [add_block]; exact vaw_ HO0.out (fun _ hk => hk.2.2) od_) | exact vaw_ HO0.out (fun _ hk => hk.2.2) od_ | (dsimp only; exact vaw_ HO0.out (fun _ hk => hk.2.2) od_)) hHeld.2.2.2)⟩ (fun hHeld => ?_)
            clear hK K
            refine done_ (done_of HT_.out (by kernel_rfl)) ?_
            try go_wp2
            have n0_ : Aside0 (Kd.V k50 50 ((((w78.setCell ⟨gb229, 0, none⟩ (.int .i64 ((rd_T50 l0 0).f0))).setCell ⟨gb229, 1, none⟩ (.int .i64 ((rd_T50 l0 0).f1))).setCell ⟨gb230, 0, none⟩ (.int .i64 ((rd_T50 l0 (ji4)).f0))).setCell ⟨gb230, 1, none⟩ (.int .i64 ((rd_T50 l0 (ji4)).f1))) w.heap.size (fun k_ => ((P0_ k_ ∨ P1_ k_) ∨ w.heap.size ≤ k_) ∧ k_ ≠ gb229 ∧ k_ ≠ gb230) (.slice (some ad227) l0.length c0) l0) := ⟨by (with_reducible repeat (first | apply Kd.V_alloc | apply Kd.V_drewN | apply Kd.V_drew)); exact Kd.V_mono (Kd.V_far (p := ⟨gb230, 1, none⟩) (Kd.V_far (p := ⟨gb230, 0, none⟩) (Kd.V_far (p := ⟨gb229, 1, none⟩) (Kd.V_far (p := ⟨gb229, 0, none⟩) (Kd.V_mono (Kd.V_mono HO0.out (fun k_ hk => (⟨hk, hk.2.1⟩ : _ ∧ k_ ≠ gb229))) (fun k_ hk => (⟨hk, hk.1.2.2⟩ : _ ∧ k_ ≠ gb230))) (fun _ hk => hk.1.2) (.int .i64 ((rd_T50 l0 0).f0))) (fun _ hk => hk.1.2) (.int .i64 ((rd_T50 l0 0).f1))) (fun _ hk => hk.2) (.int .i64 ((rd_T50 l0 (ji4)).f0))) (fun _ hk => hk.2) (.int .i64 ((rd_T50 l0 (ji4)).f1))) (fun _ hk => ⟨hk.1.1.1, ⟨hk.1.1.2.1, hk.1.1.2.2⟩⟩)⟩
            have n1_ : Aside0 (Kd.V k50 50 ((((w78.setCell ⟨gb229, 0, none⟩ (.int .i64 ((rd_T50 l0 0).f0))).setCell ⟨gb229, 1, none⟩ (.int .i64 ((rd_T50 l0 0).f1))).setCell ⟨gb230, 0, none⟩ (.int .i64 ((rd_T50 l0 (ji4)).f0))).setCell ⟨gb230, 1, none⟩ (.int .i64 ((rd_T50 l0 (ji4)).f1))) w.heap.size (fun k_ => ((P0_ k_ ∨ P1_ k_) ∨ w.heap.size ≤ k_) ∧ k_ ≠ gb229 ∧ k_ ≠ gb230) (.slice A1 l1.length c1) l1) := ⟨by (with_reducible repeat (first | apply Kd.V_alloc | apply Kd.V_drewN | apply Kd.V_drew)); exact Kd.V_mono (Kd.V_far (p := ⟨gb230, 1, none⟩) (Kd.V_far (p := ⟨gb230, 0, none⟩) (Kd.V_far (p := ⟨gb229, 1, none⟩) (Kd.V_far (p := ⟨gb229, 0, none⟩) (Kd.V_mono (Kd.V_mono HO1.out (fun k_ hk => (⟨hk, hk.2.1⟩ : _ ∧ k_ ≠ gb229))) (fun k_ hk => (⟨hk, hk.1.2.2⟩ : _ ∧ k_ ≠ gb230))) (fun _ hk => hk.1.2) (.int .i64 ((rd_T50 l0 0).f0))) (fun _ hk => hk.1.2) (.int .i64 ((rd_T50 l0 0).f1))) (fun _ hk => hk.2) (.int .i64 ((rd_T50 l0 (ji4)).f0))) (fun _ hk => hk.2) (.int .i64 ((rd_T50 l0 (ji4)).f1))) (fun _ hk => ⟨hk.1.1.1, ⟨hk.1.1.2.1, hk.1.1.2.2⟩⟩)⟩
            have n2_ : Aside0 (((((w78.setCell ⟨gb229, 0, none⟩ (.int .i64 ((rd_T50 l0 0).f0))).setCell ⟨gb229, 1, none⟩ (.int .i64 ((rd_T50 l0 0).f1))).setCell ⟨gb230, 0, none⟩ (.int .i64 ((rd_T50 l0 (ji4)).f0))).setCell ⟨gb230, 1, none⟩ (.int .i64 ((rd_T50 l0 (ji4)).f1))).heap[gb229]? = some (.cells #[.int .i64 ((rd_T50 l0 0).f0), .int .i64 ((rd_T50 l0 0).f1)] 50 (0, 0))) := ⟨by (with_reducible repeat (first | refine blk_drewN ?_ _ | refine blk_drew ?_ | refine blk_alloc ?_ _)); refine blk_far ?_ NB229_230.out _; (with_reducible repeat (first | refine blk_drewN ?_ _ | refine blk_drew ?_ | refine blk_alloc ?_ _)); refine blk_far ?_ NB229_230.out _; (with_reducible repeat (first | refine blk_drewN ?_ _ | refine blk_drew ?_ | refine blk_alloc ?_ _)); refine blk_put (cs := #[.int .i64 ((rd_T50 l0 0).f0), .int .i64 0]) ?_ 1 _ rfl; (with_reducible repeat (first | refine blk_drewN ?_ _ | refine blk_drew ?_ | refine blk_alloc ?_ _)); refine blk_put (cs := #[.int .i64 0, .int .i64 0]) ?_ 0 _ rfl; (with_reducible repeat (first | refine blk_drewN ?_ _ | refine blk_drew ?_ | refine blk_alloc ?_ _)); exact BK229.out⟩
            have n3_ : Aside0 (((((w78.setCell ⟨gb229, 0, none⟩ (.int .i64 ((rd_T50 l0 0).f0))).setCell ⟨gb229, 1, none⟩ (.int .i64 ((rd_T50 l0 0).f1))).setCell ⟨gb230, 0, none⟩ (.int .i64 ((rd_T50 l0 (ji4)).f0))).setCell ⟨gb230, 1, none⟩ (.int .i64 ((rd_T50 l0 (ji4)).f1))).heap[gb230]? = some (.cells #[.int .i64 ((rd_T50 l0 (ji4)).f0), .int .i64 ((rd_T50 l0 (ji4)).f1)] 50 (0, 0))) := ⟨by (with_reducible repeat (first | refine blk_drewN ?_ _ | refine blk_drew ?_ | refine blk_alloc ?_ _)); refine blk_put (cs := #[.int .i64 ((rd_T50 l0 (ji4)).f0), .int .i64 0]) ?_ 1 _ rfl; (with_reducible repeat (first | refine blk_drewN ?_ _ | refine blk_drew ?_ | refine blk_alloc ?_ _)); refine blk_put (cs := #[.int .i64 0, .int .i64 0]) ?_ 0 _ rfl; (with_reducible repeat (first | refine blk_drewN ?_ _ | refine blk_drew ?_ | refine blk_alloc ?_ _)); refine blk_far ?_ NB230_229.out _; (with_reducible repeat (first | refine blk_drewN ?_ _ | refine blk_drew ?_ | refine blk_alloc ?_ _)); refine blk_far ?_ NB230_229.out _; (with_reducible repeat (first | refine blk_drewN ?_ _ | refine blk_drew ?_ | refine blk_alloc ?_ _)); exact BK230.out⟩
            have n4_ : Aside0 (Below w.heap.size w ((((w78.setCell ⟨gb229, 0, none⟩ (.int .i64 ((rd_T50 l0 0).f0))).setCell ⟨gb229, 1, none⟩ (.int .i64 ((rd_T50 l0 0).f1))).setCell ⟨gb230, 0, none⟩ (.int .i64 ((rd_T50 l0 (ji4)).f0))).setCell ⟨gb230, 1, none⟩ (.int .i64 ((rd_T50 l0 (ji4)).f1)))) := ⟨bws_ HB.out⟩
            (try clear HO0)
            (try clear HO1)
            (try clear BK229)
            (try clear BK230)
            (try clear HB)
            generalize ((((w78.setCell ⟨gb229, 0, none⟩ (.int .i64 ((rd_T50 l0 0).f0))).setCell ⟨gb229, 1, none⟩ (.int .i64 ((rd_T50 l0 0).f1))).setCell ⟨gb230, 0, none⟩ (.int .i64 ((rd_T50 l0 (ji4)).f0))).setCell ⟨gb230, 1, none⟩ (.int .i64 ((rd_T50 l0 (ji4)).f1))) = w83 at n0_ n1_ n2_ n3_ n4_ ⊢
            have HO0 := n0_; have HO1 := n1_; have BK229 := n2_; have BK230 := n3_; have HB := n4_
            clear n0_ n1_ n2_ n3_ n4_
            have n0_ := Aside0.mk (Kd.V_drew HO0.out)
            have n1_ := Aside0.mk (Kd.V_drew HO1.out)
            have n2_ := Aside0.mk (blk_drew BK229.out)
            have n3_ := Aside0.mk (blk_drew BK230.out)
            have n4_ := Aside0.mk (below_drew1 HB.out)
            clear HO0 HO1 BK229 BK230 HB
            have HO0 := n0_; have HO1 := n1_; have BK229 := n2_; have BK230 := n3_; have HB := n4_
            clear n0_ n1_ n2_ n3_ n4_
            have p231 : 0 ≤ (0 : Int) := (by omega)
            have q231 : 0 < (l1.length : Int) := od_
            obtain ⟨ad231, e231, hx231_0, hx231_1⟩ := at_T50 (Kd.V_reads' HO1.out).2.2 0 p231 q231
            cases e231
            have qi231 : (0 < l1.length) = True := eq_true (by omega)
            (try rw [show ((0 : Int)).toNat = 0 from rfl] at hx231_0)
            (try rw [show 0 * 2 = 0 from rfl] at hx231_0)
            (try rw [Addr.add_zero'] at hx231_0)
            (try rw [show ((0 : Int)).toNat = 0 from rfl] at hx231_1)
            (try rw [show 0 * 2 = 0 from rfl] at hx231_1)
            (try rw [Addr.add_zero'] at hx231_1)
            replace p231 := eq_true p231
            replace q231 := eq_true q231
            refine start_ (n := 6) (S := fun w' => w'.cell? ⟨gb230, 0, none⟩ = some (.int .i64 ((rd_T50 l0 (ji4)).f0)) ∧ w'.cell? ⟨gb230, 1, none⟩ = some (.int .i64 ((rd_T50 l0 (ji4)).f1)) ∧ w'.cell? ad231 = some (.int .i64 ((rd_T50 l1 0).f0)) ∧ w'.cell? ⟨ad231.block, ad231.off + 1, none⟩ = some (.int .i64 ((rd_T50 l1 0).f1))) (ds := []) #[false, false, false, false, false, false] (by kernel_rfl) rfl rfl ⟨(blk_cell BK230.out 0).trans rfl, (blk_cell BK230.out 1).trans rfl, hx231_0, hx231_1⟩ (fun hHeld => ?_)
            generalize w83.drew = w84 at HO0 HO1 BK229 BK230 HB hx231_0 hx231_1 hHeld ⊢
            refine pure_ (i := 1) (N := some 18) (v := ?_) (a' := ?_) #[false, true, false, false, false, false] rfl rfl (by kernel_rfl) (fun _ _ _ h => h) (Or.inl ⟨by rfl, ?_⟩) ?_ ?_
            rotate_left
            ·intro w'
             go_simp
             with_reducible rfl
            rotate_left
            ·simp only [Act.put, List.setIfInBounds_toArray, List.set_cons_zero, List.set_cons_succ, i64_w, i32_w]
             rfl
            refine pure_ (i := 2) (N := some 19) (v := ?_) (a' := ?_) #[false, true, true, false, false, false] rfl rfl (by kernel_rfl) (fun _ _ _ h => h) (Or.inl ⟨by rfl, ?_⟩) ?_ ?_
            rotate_left
            ·intro w'
             go_simp
             with_reducible rfl
            rotate_left
            ·simp only [Act.put, List.setIfInBounds_toArray, List.set_cons_zero, List.set_cons_succ, i64_w, i32_w]
             rfl
            refine take_ (i := 0) (N := some 17) (v := ?_) (a' := ?_) #[true, true, true, false, false, false] rfl rfl (by kernel_rfl) (fun _ _ _ h => h) (Or.inl ⟨by rfl, ?_⟩) hHeld ?_ ?_
            rotate_left
            ·rintro w' ⟨s0, s1, s2, s3⟩
             go_simp
             with_reducible rfl
            rotate_left
            ·simp only [Act.put, List.setIfInBounds_toArray, List.set_cons_zero, List.set_cons_succ, i64_w, i32_w]
             rfl
            refine take_ (i := 3) (N := some 20) (v := ?_) (a' := ?_) #[true, true, true, true, false, false] rfl rfl (by kernel_rfl) (fun _ _ _ h => h) (Or.inl ⟨by rfl, ?_⟩) hHeld ?_ ?_
            rotate_left
            ·rintro w' ⟨s0, s1, s2, s3⟩
             go_simp
             with_reducible rfl
            rotate_left
            ·simp only [Act.put, List.setIfInBounds_toArray, List.set_cons_zero, List.set_cons_succ, i64_w, i32_w]
             rfl
            refine pure_ (i := 4) (N := some 21) (v := ?_) (a' := ?_) #[true, true, true, true, true, false] rfl rfl (by kernel_rfl) (fun _ _ _ h => h) (Or.inl ⟨by rfl, ?_⟩) ?_ ?_
            rotate_left
            ·intro w'
             go_simp
             with_reducible rfl
            rotate_left
            ·simp only [Act.put, List.setIfInBounds_toArray, List.set_cons_zero, List.set_cons_succ, i64_w, i32_w]
             rfl
            refine pure_ (i := 5) (N := some 16) (v := ?_) (a' := ?_) #[true, true, true, true, true, true] rfl rfl (by kernel_rfl) (fun _ _ _ h => h) (Or.inl ⟨by rfl, ?_⟩) ?_ ?_
            rotate_left
            ·intro w'
             go_simp
             with_reducible rfl
            rotate_left
            ·simp only [Act.put, List.setIfInBounds_toArray, List.set_cons_zero, List.set_cons_succ, i64_w, i32_w]
             rfl
            refine done_ (by kernel_rfl) ?_
            try go_wp2
            have n0_ := Aside0.mk (Kd.V_drew HO0.out)
            have n1_ := Aside0.mk (Kd.V_drew HO1.out)
            have n2_ := Aside0.mk (blk_drew BK229.out)
            have n3_ := Aside0.mk (blk_drew BK230.out)
            have n4_ := Aside0.mk (below_drew1 HB.out)
            clear HO0 HO1 BK229 BK230 HB
            have HO0 := n0_; have HO1 := n1_; have BK229 := n2_; have BK230 := n3_; have HB := n4_
            clear n0_ n1_ n2_ n3_ n4_
            have p243 : 0 ≤ ((ji26) : Int) := od_
            have q243 : (ji26) < (l1.length : Int) := od_
            obtain ⟨ad243, e243, hx243_0, hx243_1⟩ := at_T50 (Kd.V_reads' HO1.out).2.2 (ji26) p243 q243
            obtain rfl : ad231 = ad243 := (by injection e243)
            replace p243 := eq_true p243
            replace q243 := eq_true q243
            refine start_ (n := 9) (S := fun w' => w'.cell? ⟨gb230, 0, none⟩ = some (.int .i64 ((rd_T50 l0 (ji4)).f0)) ∧ w'.cell? ⟨gb230, 1, none⟩ = some (.int .i64 ((rd_T50 l0 (ji4)).f1)) ∧ w'.cell? (ad231.add (((ji26)).toNat * 2)) = some (.int .i64 ((rd_T50 l1 (ji26)).f0)) ∧ w'.cell? ⟨(ad231.add (((ji26)).toNat * 2)).block, (ad231.add (((ji26)).toNat * 2)).off + 1, none⟩ = some (.int .i64 ((rd_T50 l1 (ji26)).f1))) (ds := []) #[false, false, false, false, false, false, false, false, false] (by kernel_rfl) rfl rfl ⟨(blk_cell BK230.out 0).trans rfl, (blk_cell BK230.out 1).trans rfl, hx243_0, hx243_1⟩ (fun hHeld => ?_); refine with_tabW impl_join.tab4 impl_join.bits4 (fun HT_ HW_ => ?_)
            generalize w84.drew = w85 at HO0 HO1 BK229 BK230 HB hx243_0 hx243_1 hHeld ⊢
            refine pure_ (i := 1) (N := some 29) (v := ?_) (a' := ?_) #[false, true, false, false, false, false, false, false, false] rfl rfl (any_of HT_.out (by kernel_rfl)) (fun _ _ _ h => h) (Or.inl ⟨by rfl, ?_⟩) ?_ ?_
            rotate_left
            ·intro w'
             go_simp
             with_reducible rfl
            rotate_left
            ·simp only [Act.put, List.setIfInBounds_toArray, List.set_cons_zero, List.set_cons_succ, i64_w, i32_w]
             rfl
            refine pure_ (i := 2) (N := some 30) (v := ?_) (a' := ?_) #[false, true, true, false, false, false, false, false, false] rfl rfl (any_of HT_.out (by kernel_rfl)) (fun _ _ _ h => h) (Or.inl ⟨by rfl, ?_⟩) ?_ ?_
            rotate_left
            ·intro w'
             go_simp
             with_reducible rfl
            rotate_left
            ·simp only [Act.put, List.setIfInBounds_toArray, List.set_cons_zero, List.set_cons_succ, i64_w, i32_w]
             rfl
            refine pure_ (i := 3) (N := some 31) (v := ?_) (a' := ?_) #[false, true, true, true, false, false, false, false, false] rfl rfl (any_of HT_.out (by kernel_rfl)) (fun _ _ _ h => h) (Or.inl ⟨by rfl, ?_⟩) ?_ ?_
            rotate_left
            ·intro w'
             go_simp
             with_reducible rfl
            rotate_left
            ·simp only [Act.put, List.setIfInBounds_toArray, List.set_cons_zero, List.set_cons_succ, i64_w, i32_w]
             rfl
            refine pure_ (i := 4) (N := some 32) (v := ?_) (a' := ?_) #[false, true, true, true, true, false, false, false, false] rfl rfl (any_of HT_.out (by kernel_rfl)) (fun _ _ _ h => h) (Or.inl ⟨by rfl, ?_⟩) ?_ ?_
            rotate_left
            ·intro w'
             go_simp
             with_reducible rfl
            rotate_left
            ·simp only [Act.put, List.setIfInBounds_toArray, List.set_cons_zero, List.set_cons_succ, i64_w, i32_w]
             rfl
            refine pure_ (i := 5) (N := some 33) (v := ?_) (a' := ?_) #[false, true, true, true, true, true, false, false, false] rfl rfl (any_of HT_.out (by kernel_rfl)) (fun _ _ _ h => h) (Or.inl ⟨by rfl, ?_⟩) ?_ ?_
            rotate_left
            ·intro w'
             go_simp
             with_reducible rfl
            rotate_left
            ·simp only [Act.put, List.setIfInBounds_toArray, List.set_cons_zero, List.set_cons_succ, i64_w, i32_w]
             rfl
            refine take_ (i := 0) (N := some 28) (v := ?_) (a' := ?_) #[true, true, true, true, true, true, false, false, false] rfl rfl (take_ofW HT_.out HW_.out (by kernel_rfl)) (fun _ _ _ h => h) (Or.inl ⟨by rfl, ?_⟩) hHeld ?_ ?_
            rotate_left
            ·rintro w' ⟨s0, s1, s2, s3⟩
             go_simp
             with_reducible rfl
            rotate_left
            ·simp only [Act.put, List.setIfInBounds_toArray, List.set_cons_zero, List.set_cons_succ, i64_w, i32_w]
             rfl
            refine take_ (i := 6) (N := some 34) (v := ?_) (a' := ?_) #[true, true, true, true, true, true, true, false, false] rfl rfl (take_ofW HT_.out HW_.out (by kernel_rfl)) (fun _ _ _ h => h) (Or.inl ⟨by rfl, ?_⟩) hHeld ?_ ?_
            rotate_left
            ·rintro w' ⟨s0, s1, s2, s3⟩
             go_simp
             with_reducible rfl
            rotate_left
            ·simp only [Act.put, List.setIfInBounds_toArray, List.set_cons_zero, List.set_cons_succ, i64_w, i32_w]
             rfl
            refine pure_ (i := 7) (N := some 35) (v := ?_) (a' := ?_) #[true, true, true, true, true, true, true, true, false] rfl rfl (any_of HT_.out (by kernel_rfl)) (fun _ _ _ h => h) (Or.inl ⟨by rfl, ?_⟩) ?_ ?_
            rotate_left
            ·intro w'
             go_simp
             with_reducible rfl
            rotate_left
            ·simp only [Act.put, List.setIfInBounds_toArray, List.set_cons_zero, List.set_cons_succ, i64_w, i32_w]
             rfl
            refine pure_ (i := 8) (N := some 27) (v := ?_) (a' := ?_) #[true, true, true, true, true, true, true, true, true] rfl rfl (any_of HT_.out (by kernel_rfl)) (fun _ _ _ h => h) (Or.inl ⟨by rfl, ?_⟩) ?_ ?_
            rotate_left
            ·intro w'
             go_simp
             with_reducible rfl
            rotate_left
            ·simp only [Act.put, List.setIfInBounds_toArray, List.set_cons_zero, List.set_cons_succ, i64_w, i32_w]
             rfl
            refine done_ (done_of HT_.out (by kernel_rfl)) ?_
            try go_wp2
            have n0_ := Aside0.mk (Kd.V_drew HO0.out)
            have n1_ := Aside0.mk (Kd.V_drew HO1.out)
            have n2_ := Aside0.mk (blk_drew BK229.out)
            have n3_ := Aside0.mk (blk_drew BK230.out)
            have n4_ := Aside0.mk (below_drew1 HB.out)
            clear HO0 HO1 BK229 BK230 HB
            have HO0 := n0_; have HO1 := n1_; have BK229 := n2_; have BK230 := n3_; have HB := n4_
            clear n0_ n1_ n2_ n3_ n4_
            have p258 : 0 ≤ ((ji26) : Int) := od_
            have q258 : (ji26) < (l1.length : Int) := od_
            obtain ⟨ad258, e258, hx258_0, hx258_1⟩ := at_T50 (Kd.V_reads' HO1.out).2.2 (ji26) p258 q258
            obtain rfl : ad231 = ad258 := (by injection e258)
            replace p258 := eq_true p258
            replace q258 := eq_true q258
            refine start_ (n := 9) (S := fun w' => w'.cell? ⟨gb229, 0, none⟩ = some (.int .i64 ((rd_T50 l0 0).f0)) ∧ w'.cell? ⟨gb229, 1, none⟩ = some (.int .i64 ((rd_T50 l0 0).f1)) ∧ w'.cell? (ad231.add (((ji26)).toNat * 2)) = some (.int .i64 ((rd_T50 l1 (ji26)).f0)) ∧ w'.cell? ⟨(ad231.add (((ji26)).toNat * 2)).block, (ad231.add (((ji26)).toNat * 2)).off + 1, none⟩ = some (.int .i64 ((rd_T50 l1 (ji26)).f1))) (ds := []) #[false, false, false, false, false, false, false, false, false] (by kernel_rfl) rfl rfl ⟨(blk_cell BK229.out 0).trans rfl, (blk_cell BK229.out 1).trans rfl, hx258_0, hx258_1⟩ (fun hHeld => ?_); refine with_tabW impl_join.tab6 impl_join.bits6 (fun HT_ HW_ => ?_)
            generalize w85.drew = w86 at HO0 HO1 BK229 BK230 HB hx258_0 hx258_1 hHeld ⊢
            refine pure_ (i := 1) (N := some 44) (v := ?_) (a' := ?_) #[false, true, false, false, false, false, false, false, false] rfl rfl (any_of HT_.out (by kernel_rfl)) (fun _ _ _ h => h) (Or.inl ⟨by rfl, ?_⟩) ?_ ?_
            rotate_left
            ·intro w'
             go_simp
             with_reducible rfl
            rotate_left
            ·simp only [Act.put, List.setIfInBounds_toArray, List.set_cons_zero, List.set_cons_succ, i64_w, i32_w]
             rfl
            refine pure_ (i := 2) (N := some 45) (v := ?_) (a' := ?_) #[false, true, true, false, false, false, false, false, false] rfl rfl (any_of HT_.out (by kernel_rfl)) (fun _ _ _ h => h) (Or.inl ⟨by rfl, ?_⟩) ?_ ?_
            rotate_left
            ·intro w'
             go_simp
             with_reducible rfl
            rotate_left
            ·simp only [Act.put, List.setIfInBounds_toArray, List.set_cons_zero, List.set_cons_succ, i64_w, i32_w]
             rfl
            refine pure_ (i := 3) (N := some 46) (v := ?_) (a' := ?_) #[false, true, true, true, false, false, false, false, false] rfl rfl (any_of HT_.out (by kernel_rfl)) (fun _ _ _ h => h) (Or.inl ⟨by rfl, ?_⟩) ?_ ?_
            rotate_left
            ·intro w'
             go_simp
             with_reducible rfl
            rotate_left
            ·simp only [Act.put, List.setIfInBounds_toArray, List.set_cons_zero, List.set_cons_succ, i64_w, i32_w]
             rfl
            refine pure_ (i := 4) (N := some 47) (v := ?_) (a' := ?_) #[false, true, true, true, true, false, false, false, false] rfl rfl (any_of HT_.out (by kernel_rfl)) (fun _ _ _ h => h) (Or.inl ⟨by rfl, ?_⟩) ?_ ?_
            rotate_left
            ·intro w'
             go_simp
             with_reducible rfl
            rotate_left
            ·simp only [Act.put, List.setIfInBounds_toArray, List.set_cons_zero, List.set_cons_succ, i64_w, i32_w]
             rfl
            refine pure_ (i := 5) (N := some 48) (v := ?_) (a' := ?_) #[false, true, true, true, true, true, false, false, false] rfl rfl (any_of HT_.out (by kernel_rfl)) (fun _ _ _ h => h) (Or.inl ⟨by rfl, ?_⟩) ?_ ?_
            rotate_left
            ·intro w'
             go_simp
             with_reducible rfl
            rotate_left
            ·simp only [Act.put, List.setIfInBounds_toArray, List.set_cons_zero, List.set_cons_succ, i64_w, i32_w]
             rfl
            refine take_ (i := 0) (N := some 43) (v := ?_) (a' := ?_) #[true, true, true, true, true, true, false, false, false] rfl rfl (take_ofW HT_.out HW_.out (by kernel_rfl)) (fun _ _ _ h => h) (Or.inl ⟨by rfl, ?_⟩) hHeld ?_ ?_
            rotate_left
            ·rintro w' ⟨s0, s1, s2, s3⟩
             go_simp
             with_reducible rfl
            rotate_left
            ·simp only [Act.put, List.setIfInBounds_toArray, List.set_cons_zero, List.set_cons_succ, i64_w, i32_w]
             rfl
            refine take_ (i := 6) (N := some 49) (v := ?_) (a' := ?_) #[true, true, true, true, true, true, true, false, false] rfl rfl (take_ofW HT_.out HW_.out (by kernel_rfl)) (fun _ _ _ h => h) (Or.inl ⟨by rfl, ?_⟩) hHeld ?_ ?_
            rotate_left
            ·rintro w' ⟨s0, s1, s2, s3⟩
             go_simp
             with_reducible rfl
            rotate_left
            ·simp only [Act.put, List.setIfInBounds_toArray, List.set_cons_zero, List.set_cons_succ, i64_w, i32_w]
             rfl
            refine pure_ (i := 7) (N := some 50) (v := ?_) (a' := ?_) #[true, true, true, true, true, true, true, true, false] rfl rfl (any_of HT_.out (by kernel_rfl)) (fun _ _ _ h => h) (Or.inl ⟨by rfl, ?_⟩) ?_ ?_
            rotate_left
            ·intro w'
             go_simp
             with_reducible rfl
            rotate_left
            ·simp only [Act.put, List.setIfInBounds_toArray, List.set_cons_zero, List.set_cons_succ, i64_w, i32_w]
             rfl
            refine pure_ (i := 8) (N := some 42) (v := ?_) (a' := ?_) #[true, true, true, true, true, true, true, true, true] rfl rfl (any_of HT_.out (by kernel_rfl)) (fun _ _ _ h => h) (Or.inl ⟨by rfl, ?_⟩) ?_ ?_
            rotate_left
            ·intro w'
             go_simp
             with_reducible rfl
            rotate_left
            ·simp only [Act.put, List.setIfInBounds_toArray, List.set_cons_zero, List.set_cons_succ, i64_w, i32_w]
             rfl
            refine done_ (done_of HT_.out (by kernel_rfl)) ?_
            try go_wp2
            have n0_ := Aside0.mk (Kd.V_drew HO0.out)
            have n1_ := Aside0.mk (Kd.V_drew HO1.out)
            have n2_ := Aside0.mk (blk_drew BK229.out)
            have n3_ := Aside0.mk (blk_drew BK230.out)
            have n4_ := Aside0.mk (below_drew1 HB.out)
            clear HO0 HO1 BK229 BK230 HB
            have HO0 := n0_; have HO1 := n1_; have BK229 := n2_; have BK230 := n3_; have HB := n4_
            clear n0_ n1_ n2_ n3_ n4_
            have p270 : 0 ≤ (0 : Int) := (by omega)
            have q270 : 0 < (l1.length : Int) := od_
            obtain ⟨ad270, e270, hx270_0, hx270_1⟩ := at_T50 (Kd.V_reads' HO1.out).2.2 0 p270 q270
            obtain rfl : ad231 = ad270 := (by injection e270)
            have qi270 : (0 < l1.length) = True := eq_true (by omega)
            (try rw [show ((0 : Int)).toNat = 0 from rfl] at hx270_0)
            (try rw [show 0 * 2 = 0 from rfl] at hx270_0)
            (try rw [Addr.add_zero'] at hx270_0)
            (try rw [show ((0 : Int)).toNat = 0 from rfl] at hx270_1)
            (try rw [show 0 * 2 = 0 from rfl] at hx270_1)
            (try rw [Addr.add_zero'] at hx270_1)
            replace p270 := eq_true p270
            replace q270 := eq_true q270
            refine start_ (n := 6) (S := fun w' => w'.cell? ⟨gb229, 0, none⟩ = some (.int .i64 ((rd_T50 l0 0).f0)) ∧ w'.cell? ⟨gb229, 1, none⟩ = some (.int .i64 ((rd_T50 l0 0).f1)) ∧ w'.cell? ad231 = some (.int .i64 ((rd_T50 l1 0).f0)) ∧ w'.cell? ⟨ad231.block, ad231.off + 1, none⟩ = some (.int .i64 ((rd_T50 l1 0).f1))) (ds := []) #[false, false, false, false, false, false] (by kernel_rfl) rfl rfl ⟨(blk_cell BK229.out 0).trans rfl, (blk_cell BK229.out 1).trans rfl, hx270_0, hx270_1⟩ (fun hHeld => ?_)
            generalize w86.drew = w87 at HO0 HO1 BK229 BK230 HB hx270_0 hx270_1 hHeld ⊢
            refine pure_ (i := 1) (N := some 58) (v := ?_) (a' := ?_) #[false, true, false, false, false, false] rfl rfl (by kernel_rfl) (fun _ _ _ h => h) (Or.inl ⟨by rfl, ?_⟩) ?_ ?_
            rotate_left
            ·intro w'
             go_simp
             with_reducible rfl
            rotate_left
            ·simp only [Act.put, List.setIfInBounds_toArray, List.set_cons_zero, List.set_cons_succ, i64_w, i32_w]
             rfl
            refine pure_ (i := 2) (N := some 59) (v := ?_) (a' := ?_) #[false, true, true, false, false, false] rfl rfl (by kernel_rfl) (fun _ _ _ h => h) (Or.inl ⟨by rfl, ?_⟩) ?_ ?_
            rotate_left
            ·intro w'
             go_simp
             with_reducible rfl
            rotate_left
            ·simp only [Act.put, List.setIfInBounds_toArray, List.set_cons_zero, List.set_cons_succ, i64_w, i32_w]
             rfl
            refine take_ (i := 0) (N := some 57) (v := ?_) (a' := ?_) #[true, true, true, false, false, false] rfl rfl (by kernel_rfl) (fun _ _ _ h => h) (Or.inl ⟨by rfl, ?_⟩) hHeld ?_ ?_
            rotate_left
            ·rintro w' ⟨s0, s1, s2, s3⟩
             go_simp
             with_reducible rfl
            rotate_left
            ·simp only [Act.put, List.setIfInBounds_toArray, List.set_cons_zero, List.set_cons_succ, i64_w, i32_w]
             rfl
            refine take_ (i := 3) (N := some 60) (v := ?_) (a' := ?_) #[true, true, true, true, false, false] rfl rfl (by kernel_rfl) (fun _ _ _ h => h) (Or.inl ⟨by rfl, ?_⟩) hHeld ?_ ?_
            rotate_left
            ·rintro w' ⟨s0, s1, s2, s3⟩
             go_simp
             with_reducible rfl
            rotate_left
            ·simp only [Act.put, List.setIfInBounds_toArray, List.set_cons_zero, List.set_cons_succ, i64_w, i32_w]
             rfl
            refine pure_ (i := 4) (N := some 61) (v := ?_) (a' := ?_) #[true, true, true, true, true, false] rfl rfl (by kernel_rfl) (fun _ _ _ h => h) (Or.inl ⟨by rfl, ?_⟩) ?_ ?_
            rotate_left
            ·intro w'
             go_simp
             with_reducible rfl
            rotate_left
            ·simp only [Act.put, List.setIfInBounds_toArray, List.set_cons_zero, List.set_cons_succ, i64_w, i32_w]
             rfl
            refine pure_ (i := 5) (N := some 56) (v := ?_) (a' := ?_) #[true, true, true, true, true, true] rfl rfl (by kernel_rfl) (fun _ _ _ h => h) (Or.inl ⟨by rfl, ?_⟩) ?_ ?_
            rotate_left
            ·intro w'
             go_simp
             with_reducible rfl
            rotate_left
            ·simp only [Act.put, List.setIfInBounds_toArray, List.set_cons_zero, List.set_cons_succ, i64_w, i32_w]
             rfl
            refine done_ (by kernel_rfl) ?_
            try go_wp2
            have n0_ := Aside0.mk (Kd.V_drew HO0.out)
            have n1_ := Aside0.mk (Kd.V_drew HO1.out)
            have n2_ := Aside0.mk (blk_drew BK229.out)
            have n3_ := Aside0.mk (blk_drew BK230.out)
            have n4_ := Aside0.mk (below_drew1 HB.out)
            clear HO0 HO1 BK229 BK230 HB
            have HO0 := n0_; have HO1 := n1_; have BK229 := n2_; have BK230 := n3_; have HB := n4_
            clear n0_ n1_ n2_ n3_ n4_
            have q89 : (1 : Int) ≤ ((l0.length : Int) : Int) := od_
            obtain ⟨i089, hi089, _, hsz89, _⟩ := info_parts info50
            have hroom89 : l0.length ≤ c0 := (Kd.V_reads' HO0.out).2.1
            have hC89 : Kd.F k50 _ _ (some ad227) l0.length l0 := (Kd.V_at (base := w.heap.size) HO0.out).2.2
            have hcut89 := cut_from (P := Try.prog) 24 50 .i64 Try.underlying24 hi089 2 hsz89 (some ad227) l0.length c0 1 (by omega) q89
            have hr89 := Kd.F_cut (m := (1 : Int).toNat) (c := c0) hC89 (by omega) hroom89
            obtain ⟨A89, hA89⟩ : ∃ A_z, A_z = (if c0 = (1 : Int).toNat then (some ad227) else ((some ad227) : Option Addr).map (·.add ((1 : Int).toNat * 2))) := ⟨_, rfl⟩
            obtain ⟨c89, hc89⟩ : ∃ c_z, c_z = c0 - (1 : Int).toNat := ⟨_, rfl⟩
            have hy89 : y274.length = l0.length - (1 : Int).toNat := (by rw [Ny274.out, List.length_drop] <;> omega)
            rw [show (l0).drop (1 : Int).toNat = y274 from Ny274.out.symm] at hr89
            replace hr89 : Kd.F k50 _ _ A89 y274.length y274 := (by rw [hA89]; exact hr89)
            rw [← hy89, ← hA89, ← hc89] at hcut89
            have HO278 := Aside0.mk (show Kd.V k50 50 _ w.heap.size _ (.slice A89 y274.length c89) y274 from Kd.V_mk (by rw [hy89, hc89]; exact Nat.sub_le_sub_right hroom89 _) hr89)
            have HC278 := Aside0.mk (show y274.length ≤ c89 from by rw [hy89, hc89]; exact Nat.sub_le_sub_right hroom89 _)
            clear hr89 hC89 hroom89 hi089 hsz89 hc89
            have KY89 := Aside0.mk hy89
            have KA89 := Aside0.mk hA89
            clear hy89 hA89
            replace q89 := eq_true q89
            refine start_ (n := 7) (S := fun w' => True) (ds := []) #[false, false, false, false, false, false, false] (by kernel_rfl) rfl rfl trivial (fun hHeld => ?_)
            generalize w87.drew = w88 at HO0 HO1 BK229 BK230 HB HO278 hHeld ⊢
            refine pure_ (i := 0) (N := some 62) (v := ?_) (a' := ?_) #[true, false, false, false, false, false, false] rfl rfl (by kernel_rfl) (fun _ _ _ h => h) (Or.inl ⟨by rfl, ?_⟩) ?_ ?_
            rotate_left
            ·intro w'
             go_simp
             with_reducible rfl
            rotate_left
            ·simp only [Act.put, List.setIfInBounds_toArray, List.set_cons_zero, List.set_cons_succ, i64_w, i32_w]
             rfl
            refine pure_ (i := 2) (N := some 64) (v := ?_) (a' := ?_) #[true, false, true, false, false, false, false] rfl rfl (by kernel_rfl) (fun _ _ _ h => h) (Or.inl ⟨by rfl, ?_⟩) ?_ ?_
            rotate_left
            ·intro w'
             go_simp
             with_reducible rfl
            rotate_left
            ·simp only [Act.put, List.setIfInBounds_toArray, List.set_cons_zero, List.set_cons_succ, i64_w, i32_w]
             rfl
            refine pure_ (i := 3) (N := some 65) (v := ?_) (a' := ?_) #[true, false, true, true, false, false, false] rfl rfl (by kernel_rfl) (fun _ _ _ h => h) (Or.inl ⟨by rfl, ?_⟩) ?_ ?_
            rotate_left
            ·intro w'
             go_simp
             with_reducible rfl
            rotate_left
            ·simp only [Act.put, List.setIfInBounds_toArray, List.set_cons_zero, List.set_cons_succ, i64_w, i32_w]
             rfl
            refine one_ (i := 1) (N := some 63) #[true, true, true, true, false, false, false] rfl rfl (by kernel_rfl) (by decide) (fun K hK => ?_)
            refine goes_ Try.func50 (by kernel_rfl) rfl #[.slice (some ad231) l1.length c1] (by rfl) rfl rfl gl_ ?_
            with_reducible refine (impl_reversed.calls k _ _ l1 t271 _ ?side1 ?side2 A72.out).mono ?_
            (case side1 => repeat (first | exact (Kd.V_reads' HO1.out).2.2 | (with_reducible refine Kd.C_alloc ?_ _) | (with_reducible refine Kd.C_drewN ?_ _) | (with_reducible refine Kd.C_drew ?_)))
            (case side2 => exact (Kd.V_reads' HO1.out).2.1)
            rintro e w90 ⟨v272, rfl, ho0, hb⟩
            refine ⟨_, rfl, ?_⟩
            have n0_ := Aside0.mk (Kd.V_elder' (vk_ HO0.out) (Kd.R_base ho0) hb)
            have n1_ := Aside0.mk (Kd.V_elder' (vk_ HO1.out) (Kd.R_base ho0) hb)
            have n2_ := Aside0.mk (Kd.V_elder' (vk_ HO278.out) (Kd.R_base ho0) hb)
            have n3_ := Aside0.mk (Kd.R_lower (Kd.R_newB (Kd.R_newB (Kd.R_newM (M := fun k_ => (w.heap.size ≤ k_)) ho0 (below_size (bws_ HB.out)) (fun k_ h_ => h_)) (g := gb229) (o := .cells #[.int .i64 ((rd_T50 l0 0).f0), .int .i64 ((rd_T50 l0 0).f1)] 50 (0, 0)) (bk_ BK229.out)) (g := gb230) (o := .cells #[.int .i64 ((rd_T50 l0 (ji4)).f0), .int .i64 ((rd_T50 l0 (ji4)).f1)] 50 (0, 0)) (bk_ BK230.out)) (below_size (bws_ HB.out)))
            have n4_ := Aside0.mk (blk_below (bk_ BK229.out) hb)
            have n5_ := Aside0.mk (blk_below (bk_ BK230.out) hb)
            have n6_ := Aside0.mk (below_step (bws_ HB.out) hb)
            clear HO0 HO1 HO278 BK229 BK230 HB
            have HO0 := n0_; have HO1 := n1_; have HO278 := n2_; have HO273 := n3_; have BK229 := n4_; have BK230 := n5_; have HB := n6_
            clear n0_ n1_ n2_ n3_ n4_ n5_ n6_
            (try clear hb)
            (try clear hb2)
            (try clear hk)
            (try clear hi)
            (try clear ho0)
            obtain ⟨Ao91, co91, eo91⟩ := Kd.R_slice HO273.out
            (first | subst eo91 | (injection eo91 with f1_ f2_ f3_; have f4_ := f1_.symm; have f5_ := f3_.symm; clear f1_ f2_ f3_; subst f4_; subst f5_))
            refine hK.out _ _ trivial (fun hHeld => ?_)
            clear hK K
            refine norm_ (a' := ?_) ?_ ?_
            rotate_left
            ·show Act.put _ (some 63) _ = _
             simp only [Act.put, List.setIfInBounds_toArray, List.set_cons_zero, List.set_cons_succ, i64_w, i32_w]
             rfl
            refine one_ (i := 4) (N := some 66) #[true, true, true, true, true, false, false] rfl rfl (by kernel_rfl) (by decide) (fun K hK => ?_)
            refine Kd.N_lit_step (Kd.slice 50 k50) _ 24 ?hg (N' := 66) ?hd (xs := ([t271, y274] : List (List (S50)))) (inner := [.slice Ao91 t271.length co91, .slice A89 y274.length c89]) (ok := (fun k_ => ((P0_ k_ ∨ P1_ k_) ∨ w.heap.size ≤ k_) ∧ k_ ≠ gb229 ∧ k_ ≠ gb230)) (okp := (fun k_ => ((P0_ k_ ∨ P1_ k_) ∨ w.heap.size ≤ k_) ∧ k_ ≠ gb229 ∧ k_ ≠ gb230)) ?hr ?hp (fun _ hk => hk) ((show ∀ k_, w90.heap.size ≤ k_ → (fun k_ => ((P0_ k_ ∨ P1_ k_) ∨ w.heap.size ≤ k_) ∧ k_ ≠ gb229 ∧ k_ ≠ gb230) k_ from fun k_ hk => ⟨(.inr (Nat.le_trans (below_size (bws_ HB.out)) hk)), Kd.freshB (g := gb229) (o := .cells #[.int .i64 ((rd_T50 l0 0).f0), .int .i64 ((rd_T50 l0 0).f1)] 50 (0, 0)) (bk_ BK229.out) k_ hk, Kd.freshB (g := gb230) (o := .cells #[.int .i64 ((rd_T50 l0 (ji4)).f0), .int .i64 ((rd_T50 l0 (ji4)).f1)] 50 (0, 0)) (bk_ BK230.out) k_ hk⟩) _ (Nat.le_refl _)) (Below.refl _ _) (Nat.le_refl _) (by simp) ?_; (case hd => rfl); (case hg => rfl); (case hr => first | (go_simp; done) | (go_simp; rfl)); (case hp => exact (Reps.one (show Kd.FK (Kd.slice 50 k50) _ _ t271 [.slice Ao91 t271.length co91] from (Kd.FK_slice_mk (Kd.R_reads' (Kd.R_mono (ok' := (fun k_ => ((P0_ k_ ∨ P1_ k_) ∨ w.heap.size ≤ k_) ∧ k_ ≠ gb229 ∧ k_ ≠ gb230)) (HO273.out) (fun k_ hk => ⟨(.inr (hk.1.1.1)), ⟨hk.1.2, hk.2⟩⟩))).2.1 (Kd.R_F (Kd.R_mono (ok' := (fun k_ => ((P0_ k_ ∨ P1_ k_) ∨ w.heap.size ≤ k_) ∧ k_ ≠ gb229 ∧ k_ ≠ gb230)) (HO273.out) (fun k_ hk => ⟨(.inr (hk.1.1.1)), ⟨hk.1.2, hk.2⟩⟩))))) (Reps.one (show Kd.FK (Kd.slice 50 k50) _ _ y274 [.slice A89 y274.length c89] from (Kd.FK_slice_mk (Kd.V_reads' (Kd.V_mono (ok' := (fun k_ => ((P0_ k_ ∨ P1_ k_) ∨ w.heap.size ≤ k_) ∧ k_ ≠ gb229 ∧ k_ ≠ gb230)) (HO278.out) (fun k_ hk => ⟨hk.1.1, ⟨hk.1.2.1, hk.1.2.2⟩⟩))).2.1 (Kd.V_F (Kd.V_mono (ok' := (fun k_ => ((P0_ k_ ∨ P1_ k_) ∨ w.heap.size ≤ k_) ∧ k_ ≠ gb229 ∧ k_ ≠ gb230)) (HO278.out) (fun k_ hk => ⟨hk.1.1, ⟨hk.1.2.1, hk.1.2.2⟩⟩))))) (Reps.none _ _))))
            intro v280 w92 ho93 hb hg_ hnew_
            clear hg_ hnew_
            (first | rw [← Ny279.out] at ho93 | (simp only [Int.reduceToNat] at ho93; rw [← Ny279.out] at ho93))
            have n0_ := Aside0.mk (Kd.V_elder' (vk_ HO0.out) (Kd.N_base ho93) hb)
            have n1_ := Aside0.mk (Kd.V_elder' (vk_ HO1.out) (Kd.N_base ho93) hb)
            have n2_ := Aside0.mk (Kd.V_elder' (vk_ HO278.out) (Kd.N_base ho93) hb)
            have n3_ := Aside0.mk (Kd.N_lower ho93 (below_size (bws_ HB.out)))
            have n4_ := Aside0.mk (blk_below (bk_ BK229.out) hb)
            have n5_ := Aside0.mk (blk_below (bk_ BK230.out) hb)
            have n6_ := Aside0.mk (below_step (bws_ HB.out) hb)
            clear HO0 HO1 HO278 BK229 BK230 HB HO273
            have HO0 := n0_; have HO1 := n1_; have HO278 := n2_; have HO281 := n3_; have BK229 := n4_; have BK230 := n5_; have HB := n6_
            clear n0_ n1_ n2_ n3_ n4_ n5_ n6_ hb ho93
            obtain ⟨Ao94, co94, eo94⟩ := Kd.N_slice HO281.out
            (first | subst eo94 | (injection eo94 with f1_ f2_ f3_; have f4_ := f1_.symm; have f5_ := f3_.symm; clear f1_ f2_ f3_; subst f4_; subst f5_))
            refine hK.out _ _ trivial (fun hHeld => ?_)
            clear hK K
            refine norm_ (a' := ?_) ?_ ?_
            rotate_left
            ·show Act.put _ (some 66) _ = _
             simp only [Act.put, List.setIfInBounds_toArray, List.set_cons_zero, List.set_cons_succ, i64_w, i32_w]
             rfl
            refine one_ (i := 5) (N := some 67) #[true, true, true, true, true, true, false] rfl rfl (by kernel_rfl) (by decide) (fun K hK => ?_)
            refine goes_ Try.func49 (by kernel_rfl) rfl #[.slice Ao94 y279.length co94] (by rfl) rfl rfl gl_ ?_
            with_reducible refine (impl_Place_49.calls k _ _ y279 t282 _ ?side1 ?side2 A74.out).mono ?_
            (case side1 => repeat (first | exact (Kd.N_reads' HO281.out).2.2 | (with_reducible refine Kd.C_alloc ?_ _) | (with_reducible refine Kd.C_drewN ?_ _) | (with_reducible refine Kd.C_drew ?_)))
            (case side2 => exact (Kd.N_reads' HO281.out).2.1)
            rintro e w95 ⟨v283, rfl, ho0, hb⟩
            refine ⟨_, rfl, ?_⟩
            have n0_ := Aside0.mk (Kd.V_elder' (vk_ HO0.out) (Kd.R_base ho0) hb)
            have n1_ := Aside0.mk (Kd.V_elder' (vk_ HO1.out) (Kd.R_base ho0) hb)
            have n2_ := Aside0.mk (Kd.V_elder' (vk_ HO278.out) (Kd.R_base ho0) hb)
            have n3_ := Aside0.mk (Kd.N_elder' (by (with_reducible repeat (first | apply Kd.N_alloc | apply Kd.N_drewN | apply Kd.N_drew)); exact HO281.out) (Kd.R_base ho0) hb)
            have n4_ := Aside0.mk (Kd.R_lower (Kd.R_newB (Kd.R_newB (Kd.R_newM (M := fun k_ => (w.heap.size ≤ k_)) ho0 (below_size (bws_ HB.out)) (fun k_ h_ => h_)) (g := gb229) (o := .cells #[.int .i64 ((rd_T50 l0 0).f0), .int .i64 ((rd_T50 l0 0).f1)] 50 (0, 0)) (bk_ BK229.out)) (g := gb230) (o := .cells #[.int .i64 ((rd_T50 l0 (ji4)).f0), .int .i64 ((rd_T50 l0 (ji4)).f1)] 50 (0, 0)) (bk_ BK230.out)) (below_size (bws_ HB.out)))
            have n5_ := Aside0.mk (blk_below (bk_ BK229.out) hb)
            have n6_ := Aside0.mk (blk_below (bk_ BK230.out) hb)
            have n7_ := Aside0.mk (below_step (bws_ HB.out) hb)
            clear HO0 HO1 HO278 HO281 BK229 BK230 HB
            have HO0 := n0_; have HO1 := n1_; have HO278 := n2_; have HO281 := n3_; have HO284 := n4_; have BK229 := n5_; have BK230 := n6_; have HB := n7_
            clear n0_ n1_ n2_ n3_ n4_ n5_ n6_ n7_
            (try clear hb)
            (try clear hb2)
            (try clear hk)
            (try clear hi)
            (try clear ho0)
            refine hK.out _ _ trivial (fun hHeld => ?_)
            clear hK K
            refine norm_ (a' := ?_) ?_ ?_
            rotate_left
            ·show Act.put _ (some 67) _ = _
             simp only [Act.put, List.setIfInBounds_toArray, List.set_cons_zero, List.set_cons_succ, i64_w, i32_w]
             rfl
            refine pure_ (i := 6) (N := some 4) (v := ?_) (a' := ?_) #[true, true, true, true, true, true, true] rfl rfl (by kernel_rfl) (fun _ _ _ h => h) (Or.inl ⟨by rfl, ?_⟩) ?_ ?_
            rotate_left
            ·intro w'
             go_simp
             with_reducible rfl
            rotate_left
            ·simp only [Act.put, List.setIfInBounds_toArray, List.set_cons_zero, List.set_cons_succ, i64_w, i32_w]
             rfl
            refine done_ (by kernel_rfl) ?_
            try go_wp2
            go_ret
            exact ⟨_, by first | rfl | (simp [errW_none, errW_some] <;> rfl) | (simp only [← hji4, ← hji26]; first | rfl | (simp [errW_none, errW_some] <;> rfl)) | (simp [*, errW_none, errW_some] <;> rfl), by (with_reducible repeat (first | apply Kd.R_alloc | apply Kd.R_drewN | apply Kd.R_drew)); exact Kd.R_mono HO284.out (fun _ hk => hk.1.1.1), by repeat (first | (with_reducible first | exact HB.out | apply below_alloc | apply pw_below_drewN | apply below_drew1 | refine below_set ?_ GE229.out | refine below_set ?_ GE230.out) | exact HB.out), by first | exact fun hr_ => absurd hr_ HNZ.out | exact fun hr_ => absurd hr_ NZ_.out | exact fun _ => rfl | rfl | (simp; done) | (intro _; first | rfl | (simp; done))⟩
           ·rw [if_neg c73] at H
            exact absurd H (by simp)
          ·rw [if_neg c71] at H
           have c71b0 : (((rd_T50 l0 0).f0) == ((rd_T50 l1 0).f0) && (((rd_T50 l0 0).f1) == ((rd_T50 l1 0).f1))) = false := by simpa using c71
           (try (have c71b1 : decide (((rd_T50 l0 0).f0) = ((rd_T50 l1 0).f0) && (((rd_T50 l0 0).f1) == ((rd_T50 l1 0).f1))) = false := by simpa using c71))
           (try (have c71b2 : (((rd_T50 l0 0).f0) == ((rd_T50 l1 0).f0) && (((rd_T50 l0 0).f1) == ((rd_T50 l1 0).f1))) = false := by simpa using c71))
           (try (have c71b3 : ¬ (((rd_T50 l0 0).f0) = ((rd_T50 l1 0).f0) && (((rd_T50 l0 0).f1) == ((rd_T50 l1 0).f1))) := by simpa using c71))
           clear c71
           obtain rfl := Option.some.inj H
           go_enter Try.func32, Try.ntmps32
           try go_wp2
           have n0_ := Aside0.mk (Kd.V_drew HO0.out)
           have n1_ := Aside0.mk (Kd.V_drew HO1.out)
           have n2_ := Aside0.mk (below_drew1 HB.out)
           clear HO0 HO1 HB
           have HO0 := n0_; have HO1 := n1_; have HB := n2_
           clear n0_ n1_ n2_
           have p227 : 0 ≤ (0 : Int) := (by omega)
           have q227 : 0 < (l0.length : Int) := od_
           obtain ⟨ad227, e227, hx227_0, hx227_1⟩ := at_T50 (Kd.V_reads' HO0.out).2.2 0 p227 q227
           cases e227
           have qi227 : (0 < l0.length) = True := eq_true (by omega)
           (try rw [show ((0 : Int)).toNat = 0 from rfl] at hx227_0)
           (try rw [show 0 * 2 = 0 from rfl] at hx227_0)
           (try rw [Addr.add_zero'] at hx227_0)
           (try rw [show ((0 : Int)).toNat = 0 from rfl] at hx227_1)
           (try rw [show 0 * 2 = 0 from rfl] at hx227_1)
           (try rw [Addr.add_zero'] at hx227_1)
           replace p227 := eq_true p227
           replace q227 := eq_true q227
           have p228 : 0 ≤ ((ji4) : Int) := od_
           have q228 : (ji4) < (l0.length : Int) := od_
           obtain ⟨ad228, e228, hx228_0, hx228_1⟩ := at_T50 (Kd.V_reads' HO0.out).2.2 (ji4) p228 q228
           obtain rfl : ad227 = ad228 := (by injection e228)
           replace p228 := eq_true p228
           replace q228 := eq_true q228
           refine start_ (n := 13) (S := fun w' => w'.cell? ad227 = some (.int .i64 ((rd_T50 l0 0).f0)) ∧ w'.cell? ⟨ad227.block, ad227.off + 1, none⟩ = some (.int .i64 ((rd_T50 l0 0).f1)) ∧ w'.cell? (ad227.add (((ji4)).toNat * 2)) = some (.int .i64 ((rd_T50 l0 (ji4)).f0)) ∧ w'.cell? ⟨(ad227.add (((ji4)).toNat * 2)).block, (ad227.add (((ji4)).toNat * 2)).off + 1, none⟩ = some (.int .i64 ((rd_T50 l0 (ji4)).f1))) (ds := []) #[false, false, false, false, false, false, false, false, false, false, false, false, false] (by kernel_rfl) rfl rfl ⟨hx227_0, hx227_1, hx228_0, hx228_1⟩ (fun hHeld => ?_); refine with_tabW impl_join.tab1 impl_join.bits1 (fun HT_ HW_ => ?_)
           generalize w.drew = w96 at HO0 HO1 HB hx227_0 hx227_1 hx228_0 hx228_1 hHeld ⊢
           refine pure_ (i := 0) (N := some 7) (v := ?_) (a' := ?_) #[true, false, false, false, false, false, false, false, false, false, false, false, false] rfl rfl (any_of HT_.out (by kernel_rfl)) (fun _ _ _ h => h) (Or.inl ⟨by rfl, ?_⟩) ?_ ?_
           rotate_left
           ·intro w'
            go_simp
            with_reducible rfl
           rotate_left
           ·simp only [Act.put, List.setIfInBounds_toArray, List.set_cons_zero, List.set_cons_succ, i64_w, i32_w]
            rfl
           refine pure_ (i := 1) (N := some 8) (v := ?_) (a' := ?_) #[true, true, false, false, false, false, false, false, false, false, false, false, false] rfl rfl (any_of HT_.out (by kernel_rfl)) (fun _ _ _ h => h) (Or.inl ⟨by rfl, ?_⟩) ?_ ?_
           rotate_left
           ·intro w'
            go_simp
            with_reducible rfl
           rotate_left
           ·simp only [Act.put, List.setIfInBounds_toArray, List.set_cons_zero, List.set_cons_succ, i64_w, i32_w]
            rfl
           refine pure_ (i := 3) (N := some 10) (v := ?_) (a' := ?_) #[true, true, false, true, false, false, false, false, false, false, false, false, false] rfl rfl (any_of HT_.out (by kernel_rfl)) (fun _ _ _ h => h) (Or.inl ⟨by rfl, ?_⟩) ?_ ?_
           rotate_left
           ·intro w'
            go_simp
            with_reducible rfl
           rotate_left
           ·simp only [Act.put, List.setIfInBounds_toArray, List.set_cons_zero, List.set_cons_succ, i64_w, i32_w]
            rfl
           refine pure_ (i := 4) (N := some 11) (v := ?_) (a' := ?_) #[true, true, false, true, true, false, false, false, false, false, false, false, false] rfl rfl (any_of HT_.out (by kernel_rfl)) (fun _ _ _ h => h) (Or.inl ⟨by rfl, ?_⟩) ?_ ?_
           rotate_left
           ·intro w'
            go_simp
            with_reducible rfl
           rotate_left
           ·simp only [Act.put, List.setIfInBounds_toArray, List.set_cons_zero, List.set_cons_succ, i64_w, i32_w]
            rfl
           refine pure_ (i := 5) (N := some 12) (v := ?_) (a' := ?_) #[true, true, false, true, true, true, false, false, false, false, false, false, false] rfl rfl (any_of HT_.out (by kernel_rfl)) (fun _ _ _ h => h) (Or.inl ⟨by rfl, ?_⟩) ?_ ?_
           rotate_left
           ·intro w'
            go_simp
            with_reducible rfl
           rotate_left
           ·simp only [Act.put, List.setIfInBounds_toArray, List.set_cons_zero, List.set_cons_succ, i64_w, i32_w]
            rfl
           refine pure_ (i := 6) (N := some 13) (v := ?_) (a' := ?_) #[true, true, false, true, true, true, true, false, false, false, false, false, false] rfl rfl (any_of HT_.out (by kernel_rfl)) (fun _ _ _ h => h) (Or.inl ⟨by rfl, ?_⟩) ?_ ?_
           rotate_left
           ·intro w'
            go_simp
            with_reducible rfl
           rotate_left
           ·simp only [Act.put, List.setIfInBounds_toArray, List.set_cons_zero, List.set_cons_succ, i64_w, i32_w]
            rfl
           refine pure_ (i := 7) (N := some 14) (v := ?_) (a' := ?_) #[true, true, false, true, true, true, true, true, false, false, false, false, false] rfl rfl (any_of HT_.out (by kernel_rfl)) (fun _ _ _ h => h) (Or.inl ⟨by rfl, ?_⟩) ?_ ?_
           rotate_left
           ·intro w'
            go_simp
            with_reducible rfl
           rotate_left
           ·simp only [Act.put, List.setIfInBounds_toArray, List.set_cons_zero, List.set_cons_succ, i64_w, i32_w]
            rfl
           refine take_ (i := 2) (N := some 9) (v := ?_) (a' := ?_) #[true, true, true, true, true, true, true, true, false, false, false, false, false] rfl rfl (take_ofW HT_.out HW_.out (by kernel_rfl)) (fun _ _ _ h => h) (Or.inl ⟨by rfl, ?_⟩) hHeld ?_ ?_
           rotate_left
           ·rintro w' ⟨s0, s1, s2, s3⟩
            go_simp
            with_reducible rfl
           rotate_left
           ·simp only [Act.put, List.setIfInBounds_toArray, List.set_cons_zero, List.set_cons_succ, i64_w, i32_w]
            rfl
           refine take_ (i := 8) (N := some 15) (v := ?_) (a' := ?_) #[true, true, true, true, true, true, true, true, true, false, false, false, false] rfl rfl (take_ofW HT_.out HW_.out (by kernel_rfl)) (fun _ _ _ h => h) (Or.inl ⟨by rfl, ?_⟩) hHeld ?_ ?_
           rotate_left
           ·rintro w' ⟨s0, s1, s2, s3⟩
            go_simp
            with_reducible rfl
           rotate_left
           ·simp only [Act.put, List.setIfInBounds_toArray, List.set_cons_zero, List.set_cons_succ, i64_w, i32_w]
            rfl
           refine join_ (σ := Nat × Nat) 2 #[true, true, true, true, true, true, true, true, true, true, true, false, false] (fun s_ => [(5, .pointer (some ⟨s_.1, 0, none⟩)), (6, .pointer (some ⟨s_.2, 0, none⟩))]) (fun s_ w' => (w'.cell? ad227 = some (.int .i64 ((rd_T50 l0 0).f0)) ∧ w'.cell? ⟨ad227.block, ad227.off + 1, none⟩ = some (.int .i64 ((rd_T50 l0 0).f1)) ∧ w'.cell? (ad227.add (((ji4)).toNat * 2)) = some (.int .i64 ((rd_T50 l0 (ji4)).f0)) ∧ w'.cell? ⟨(ad227.add (((ji4)).toNat * 2)).block, (ad227.add (((ji4)).toNat * 2)).off + 1, none⟩ = some (.int .i64 ((rd_T50 l0 (ji4)).f1))) ∧ (Kd.V k50 50 w' w.heap.size (fun k_ => ((P0_ k_ ∨ P1_ k_) ∨ w.heap.size ≤ k_) ∧ k_ ≠ s_.1 ∧ k_ ≠ s_.2) (.slice (some ad227) l0.length c0) l0) ∧ (Kd.V k50 50 w' w.heap.size (fun k_ => ((P0_ k_ ∨ P1_ k_) ∨ w.heap.size ≤ k_) ∧ k_ ≠ s_.1 ∧ k_ ≠ s_.2) (.slice A1 l1.length c1) l1) ∧ (w'.heap[s_.1]? = some (.cells #[.int .i64 0, .int .i64 0] 50 (0, 0))) ∧ (w'.heap[s_.2]? = some (.cells #[.int .i64 0, .int .i64 0] 50 (0, 0))) ∧ (w.heap.size ≤ s_.1) ∧ (w.heap.size ≤ s_.1) ∧ (s_.2 ≠ s_.1) ∧ (s_.1 ≠ s_.2) ∧ (w.heap.size ≤ s_.2) ∧ (w.heap.size ≤ s_.2) ∧ (Below w.heap.size w w')) ?_ ?_
           rotate_left
           ·intro hCont
            refine two_ (i := 9) (j := 10) (Ni := some 5) (Nj := some 6) #[true, true, true, true, true, true, true, true, true, true, false, false, false] #[true, true, true, true, true, true, true, true, true, false, true, false, false] rfl rfl rfl rfl (two_of HT_.out (by kernel_rfl)) (by decide) (by decide) (fun K hK => ?_) (fun K hK => ?_)
            ·skip
             refine box_step ?hg (N := 5) ?hd (cs := #[.int .i64 0, .int .i64 0]) (t := 50) ?hr ?_; (case hd => rfl); (case hg => rfl); (case hr => first | (go_simp; done) | (go_simp; rfl))
             intro gb229 hg w97 hbox hb
             have HS0_ := hs_ hb hHeld.1
             have HS1_ := hs_ hb hHeld.2.1
             have HS2_ := hs_ hb hHeld.2.2.1
             have HS3_ := hs_ hb hHeld.2.2.2
             have n0_ := Aside0.mk (Kd.V_below (Kd.V_elderB (vk_ HO0.out) gb229 (Nat.le_of_eq hg.symm)) hb)
             have n1_ := Aside0.mk (Kd.V_below (Kd.V_elderB (vk_ HO1.out) gb229 (Nat.le_of_eq hg.symm)) hb)
             have n2_ := Aside0.mk (below_step (bw_ HB.out) hb)
             have n3_ := Aside0.mk (hbox)
             have n4_ := Aside0.mk ((ge_ hg (bw_ HB.out)))
             have n5_ := Aside0.mk ((ge_ hg (bw_ HB.out)))
             clear HO0 HO1 HB
             have HO0 := n0_; have HO1 := n1_; have HB := n2_; have BK229 := n3_; have GW229 := n4_; have GE229 := n5_
             clear n0_ n1_ n2_ n3_ n4_ n5_ hb hbox hg
             refine hK.out _ _ ⟨HS0_, HS1_, HS2_, HS3_⟩ (fun hHeld => ?_)
             clear hK K
             refine norm_ (a' := ?_) ?_ ?_
             rotate_left
             ·show Act.put _ (some 5) _ = _
              simp only [Act.put, List.setIfInBounds_toArray, List.set_cons_zero, List.set_cons_succ, i64_w, i32_w]
              rfl
             refine one_ (i := 10) (N := some 6) #[true, true, true, true, true, true, true, true, true, true, true, false, false] rfl rfl (one_of HT_.out (by kernel_rfl)) (by decide) (fun K hK => ?_)
             refine box_step ?hg (N := 6) ?hd (cs := #[.int .i64 0, .int .i64 0]) (t := 50) ?hr ?_; (case hd => rfl); (case hg => rfl); (case hr => first | (go_simp; done) | (go_simp; rfl))
             intro gb230 hg w98 hbox hb
             have HS0_ := hs_ hb hHeld.1
             have HS1_ := hs_ hb hHeld.2.1
             have HS2_ := hs_ hb hHeld.2.2.1
             have HS3_ := hs_ hb hHeld.2.2.2
             have n0_ := Aside0.mk (Kd.V_below (Kd.V_elderB (vk_ HO0.out) gb230 (Nat.le_of_eq hg.symm)) hb)
             have n1_ := Aside0.mk (Kd.V_below (Kd.V_elderB (vk_ HO1.out) gb230 (Nat.le_of_eq hg.symm)) hb)
             have n2_ := Aside0.mk (blk_below (bk_ BK229.out) hb)
             have n3_ := Aside0.mk (below_step (bws_ HB.out) hb)
             have n4_ := Aside0.mk (hbox)
             have n5_ := Aside0.mk ((ge_ hg (bws_ HB.out)))
             have n6_ := Aside0.mk ((ge_ hg (bws_ HB.out)))
             have n7_ := Aside0.mk ((ne1_ hg (bk_ BK229.out)))
             have n8_ := Aside0.mk ((ne2_ hg (bk_ BK229.out)))
             clear HO0 HO1 BK229 HB
             have HO0 := n0_; have HO1 := n1_; have BK229 := n2_; have HB := n3_; have BK230 := n4_; have GW230 := n5_; have GE230 := n6_; have NB229_230 := n7_; have NB230_229 := n8_
             clear n0_ n1_ n2_ n3_ n4_ n5_ n6_ n7_ n8_ hb hbox hg
             refine hK.out _ _ ⟨HS0_, HS1_, HS2_, HS3_⟩ (fun hHeld => ?_)
             clear hK K
             refine norm_ (a' := ?_) ?_ ?_
             rotate_left
             ·show Act.put _ (some 6) _ = _
              simp only [Act.put, List.setIfInBounds_toArray, List.set_cons_zero, List.set_cons_succ, i64_w, i32_w]
              rfl
             exact norm_ (by simp only [putAll, Act.put, List.setIfInBounds_toArray, List.set_cons_zero, List.set_cons_succ]) (hCont (gb229, gb230) _ ⟨hHeld, (by (with_reducible repeat (first | apply Kd.V_alloc | apply Kd.V_drewN | apply Kd.V_drew)); exact Kd.V_mono HO0.out (fun _ hk => ⟨hk.1.1, ⟨hk.1.2, hk.2⟩⟩)), (by (with_reducible repeat (first | apply Kd.V_alloc | apply Kd.V_drewN | apply Kd.V_drew)); exact Kd.V_mono HO1.out (fun _ hk => ⟨hk.1.1, ⟨hk.1.2, hk.2⟩⟩)), (bk_ BK229.out), (bk_ BK230.out), GW229.out, GE229.out, NB230_229.out, NB229_230.out, GW230.out, GE230.out, (bws_ HB.out)⟩)
            ·skip
             refine box_step ?hg (N := 6) ?hd (cs := #[.int .i64 0, .int .i64 0]) (t := 50) ?hr ?_; (case hd => rfl); (case hg => rfl); (case hr => first | (go_simp; done) | (go_simp; rfl))
             intro gb230 hg w97 hbox hb
             have HS0_ := hs_ hb hHeld.1
             have HS1_ := hs_ hb hHeld.2.1
             have HS2_ := hs_ hb hHeld.2.2.1
             have HS3_ := hs_ hb hHeld.2.2.2
             have n0_ := Aside0.mk (Kd.V_below (Kd.V_elderB (vk_ HO0.out) gb230 (Nat.le_of_eq hg.symm)) hb)
             have n1_ := Aside0.mk (Kd.V_below (Kd.V_elderB (vk_ HO1.out) gb230 (Nat.le_of_eq hg.symm)) hb)
             have n2_ := Aside0.mk (below_step (bw_ HB.out) hb)
             have n3_ := Aside0.mk (hbox)
             have n4_ := Aside0.mk ((ge_ hg (bw_ HB.out)))
             have n5_ := Aside0.mk ((ge_ hg (bw_ HB.out)))
             clear HO0 HO1 HB
             have HO0 := n0_; have HO1 := n1_; have HB := n2_; have BK230 := n3_; have GW230 := n4_; have GE230 := n5_
             clear n0_ n1_ n2_ n3_ n4_ n5_ hb hbox hg
             refine hK.out _ _ ⟨HS0_, HS1_, HS2_, HS3_⟩ (fun hHeld => ?_)
             clear hK K
             refine norm_ (a' := ?_) ?_ ?_
             rotate_left
             ·show Act.put _ (some 6) _ = _
              simp only [Act.put, List.setIfInBounds_toArray, List.set_cons_zero, List.set_cons_succ, i64_w, i32_w]
              rfl
             refine one_ (i := 9) (N := some 5) #[true, true, true, true, true, true, true, true, true, true, true, false, false] rfl rfl (one_of HT_.out (by kernel_rfl)) (by decide) (fun K hK => ?_)
             refine box_step ?hg (N := 5) ?hd (cs := #[.int .i64 0, .int .i64 0]) (t := 50) ?hr ?_; (case hd => rfl); (case hg => rfl); (case hr => first | (go_simp; done) | (go_simp; rfl))
             intro gb229 hg w98 hbox hb
             have HS0_ := hs_ hb hHeld.1
             have HS1_ := hs_ hb hHeld.2.1
             have HS2_ := hs_ hb hHeld.2.2.1
             have HS3_ := hs_ hb hHeld.2.2.2
             have n0_ := Aside0.mk (Kd.V_below (Kd.V_elderB (vk_ HO0.out) gb229 (Nat.le_of_eq hg.symm)) hb)
             have n1_ := Aside0.mk (Kd.V_below (Kd.V_elderB (vk_ HO1.out) gb229 (Nat.le_of_eq hg.symm)) hb)
             have n2_ := Aside0.mk (blk_below (bk_ BK230.out) hb)
             have n3_ := Aside0.mk (below_step (bws_ HB.out) hb)
             have n4_ := Aside0.mk (hbox)
             have n5_ := Aside0.mk ((ge_ hg (bws_ HB.out)))
             have n6_ := Aside0.mk ((ge_ hg (bws_ HB.out)))
             have n7_ := Aside0.mk ((ne1_ hg (bk_ BK230.out)))
             have n8_ := Aside0.mk ((ne2_ hg (bk_ BK230.out)))
             clear HO0 HO1 BK230 HB
             have HO0 := n0_; have HO1 := n1_; have BK230 := n2_; have HB := n3_; have BK229 := n4_; have GW229 := n5_; have GE229 := n6_; have NB230_229 := n7_; have NB229_230 := n8_
             clear n0_ n1_ n2_ n3_ n4_ n5_ n6_ n7_ n8_ hb hbox hg
             refine hK.out _ _ ⟨HS0_, HS1_, HS2_, HS3_⟩ (fun hHeld => ?_)
             clear hK K
             refine norm_ (a' := ?_) ?_ ?_
             rotate_left
             ·show Act.put _ (some 5) _ = _
              simp only [Act.put, List.setIfInBounds_toArray, List.set_cons_zero, List.set_cons_succ, i64_w, i32_w]
              rfl
             exact norm_ (by simp only [putAll, Act.put, List.setIfInBounds_toArray, List.set_cons_zero, List.set_cons_succ]) (hCont (gb229, gb230) _ ⟨hHeld, (by (with_reducible repeat (first | apply Kd.V_alloc | apply Kd.V_drewN | apply Kd.V_drew)); exact Kd.V_mono HO0.out (fun _ hk => ⟨hk.1.1, ⟨hk.2, hk.1.2⟩⟩)), (by (with_reducible repeat (first | apply Kd.V_alloc | apply Kd.V_drewN | apply Kd.V_drew)); exact Kd.V_mono HO1.out (fun _ hk => ⟨hk.1.1, ⟨hk.2, hk.1.2⟩⟩)), (bk_ BK229.out), (bk_ BK230.out), GW229.out, GE229.out, NB230_229.out, NB229_230.out, GW230.out, GE230.out, (bws_ HB.out)⟩)
           rintro ⟨gb229, gb230⟩ w99 ⟨hS_, h0_, h1_, h2_, h3_, h4_, h5_, h6_, h7_, h8_, h9_, h10_⟩
           have n0_ : Aside0 (Kd.V k50 50 w99 w.heap.size (fun k_ => ((P0_ k_ ∨ P1_ k_) ∨ w.heap.size ≤ k_) ∧ k_ ≠ gb229 ∧ k_ ≠ gb230) (.slice (some ad227) l0.length c0) l0) := ⟨h0_⟩
           have n1_ : Aside0 (Kd.V k50 50 w99 w.heap.size (fun k_ => ((P0_ k_ ∨ P1_ k_) ∨ w.heap.size ≤ k_) ∧ k_ ≠ gb229 ∧ k_ ≠ gb230) (.slice A1 l1.length c1) l1) := ⟨h1_⟩
           have n2_ : Aside0 (w99.heap[gb229]? = some (.cells #[.int .i64 0, .int .i64 0] 50 (0, 0))) := ⟨h2_⟩
           have n3_ : Aside0 (w99.heap[gb230]? = some (.cells #[.int .i64 0, .int .i64 0] 50 (0, 0))) := ⟨h3_⟩
           have n4_ : Aside0 (w.heap.size ≤ gb229) := ⟨h4_⟩
           have n5_ : Aside0 (w.heap.size ≤ gb229) := ⟨h5_⟩
           have n6_ : Aside0 (gb230 ≠ gb229) := ⟨h6_⟩
           have n7_ : Aside0 (gb229 ≠ gb230) := ⟨h7_⟩
           have n8_ : Aside0 (w.heap.size ≤ gb230) := ⟨h8_⟩
           have n9_ : Aside0 (w.heap.size ≤ gb230) := ⟨h9_⟩
           have n10_ : Aside0 (Below w.heap.size w w99) := ⟨h10_⟩
           clear HO0 HO1 HB h0_ h1_ h2_ h3_ h4_ h5_ h6_ h7_ h8_ h9_ h10_
           have HO0 := n0_; have HO1 := n1_; have BK229 := n2_; have BK230 := n3_; have GW229 := n4_; have GE229 := n5_; have NB230_229 := n6_; have NB229_230 := n7_; have GW230 := n8_; have GE230 := n9_
           have HB := n10_
           clear n0_ n1_ n2_ n3_ n4_ n5_ n6_ n7_ n8_ n9_ n10_
           have hHeld : w99.cell? ad227 = some (.int .i64 ((rd_T50 l0 0).f0)) ∧ w99.cell? ⟨ad227.block, ad227.off + 1, none⟩ = some (.int .i64 ((rd_T50 l0 0).f1)) ∧ w99.cell? (ad227.add (((ji4)).toNat * 2)) = some (.int .i64 ((rd_T50 l0 (ji4)).f0)) ∧ w99.cell? ⟨(ad227.add (((ji4)).toNat * 2)).block, (ad227.add (((ji4)).toNat * 2)).off + 1, none⟩ = some (.int .i64 ((rd_T50 l0 (ji4)).f1)) := hS_
           refine norm_ (a' := ?_) ?_ ?_
           rotate_left
           ·simp only [putAll, Act.put, List.setIfInBounds_toArray, List.set_cons_zero, List.set_cons_succ]
            rfl
           refine one_ (i := 11) (N := none) #[true, true, true, true, true, true, true, true, true, true, true, true, false] rfl rfl (one_of HT_.out (by kernel_rfl)) (by decide) (fun K hK => ?_)
           have hs100 : w99.cell? ⟨gb229, 0, none⟩ = some (.int .i64 0) := (blk_cell BK229.out 0).trans rfl
           have hfs100 := blk_frozen BK229.out 0
           have hns100_1 := NB230_229.out
           have hms100_1 := NB229_230.out
           have hs101 : w99.cell? ⟨gb229, 1, none⟩ = some (.int .i64 0) := (blk_cell BK229.out 1).trans rfl
           have hfs101 := blk_frozen BK229.out 1
           have hns101_1 := NB230_229.out
           have hms101_1 := NB229_230.out
           refine skip_ (w1 := ?_) (by rfl) rfl ?_ ?_
           rotate_left
           ·go_simp
            rfl
           refine hK.out _ _ ⟨(far2_ (by first | (rw [add_block]; exact vaw_ HO0.out (fun _ hk => hk.2.1) od_) | exact vaw_ HO0.out (fun _ hk => hk.2.1) od_ | (dsimp only; exact vaw_ HO0.out (fun _ hk => hk.2.1) od_)) hHeld.1), (far2_ (by first | (rw [add_block]; exact vaw_ HO0.out (fun _ hk => hk.2.1) od_) | exact vaw_ HO0.out (fun _ hk => hk.2.1) od_ | (dsimp only; exact vaw_ HO0.out (fun _ hk => hk.2.1) od_)) hHeld.2.1), (far2_ (by first | (rw [add_block]; exact vaw_ HO0.out (fun _ hk => hk.2.1) od_) | exact vaw_ HO0.out (fun _ hk => hk.2.1) od_ | (dsimp only; exact vaw_ HO0.out (fun _ hk => hk.2.1) od_)) hHeld.2.2.1), (far2_ (by first | (rw [add_block]; exact vaw_ HO0.out (fun _ hk => hk.2.1) od_) | exact vaw_ HO0.out (fun _ hk => hk.2.1) od_ | (dsimp only; exact vaw_ HO0.out (fun _ hk => hk.2.1) od_)) hHeld.2.2.2)⟩ (fun hHeld => ?_)
           clear hK K
           refine one_ (i := 12) (N := none) #[true, true, true, true, true, true, true, true, true, true, true, true, true] rfl rfl (one_of HT_.out (by kernel_rfl)) (by decide) (fun K hK => ?_)
           have hs102 : w99.cell? ⟨gb230, 0, none⟩ = some (.int .i64 0) := (blk_cell BK230.out 0).trans rfl
           have hfs102 := blk_frozen BK230.out 0
           have hns102_0 := NB229_230.out
           have hms102_0 := NB230_229.out
           have hs103 : w99.cell? ⟨gb230, 1, none⟩ = some (.int .i64 0) := (blk_cell BK230.out 1).trans rfl
           have hfs103 := blk_frozen BK230.out 1
           have hns103_0 := NB229_230.out
           have hms103_0 := NB230_229.out
           refine skip_ (w1 := ?_) (by rfl) rfl ?_ ?_
           rotate_left
           ·go_simp
            rfl
           refine hK.out _ _ ⟨(far2_ (by first | (rw [add_block]; exact vaw_ HO0.out (fun _ hk => hk.2.2) od_) | exact vaw_ HO0.out (fun _ hk => hk.2.2) od_ | (dsimp only; exact vaw_ HO0.out (fun _ hk => hk.2.2) od_)) hHeld.1), (far2_ (by first | (rw [add_block]; exact vaw_ HO0.out (fun _ hk => hk.2.2) od_) | exact vaw_ HO0.out (fun _ hk => hk.2.2) od_ | (dsimp only; exact vaw_ HO0.out (fun _ hk => hk.2.2) od_)) hHeld.2.1), (far2_ (by first | (rw [add_block]; exact vaw_ HO0.out (fun _ hk => hk.2.2) od_) | exact vaw_ HO0.out (fun _ hk => hk.2.2) od_ | (dsimp only; exact vaw_ HO0.out (fun _ hk => hk.2.2) od_)) hHeld.2.2.1), (far2_ (by first | (rw [add_block]; exact vaw_ HO0.out (fun _ hk => hk.2.2) od_) | exact vaw_ HO0.out (fun _ hk => hk.2.2) od_ | (dsimp only; exact vaw_ HO0.out (fun _ hk => hk.2.2) od_)) hHeld.2.2.2)⟩ (fun hHeld => ?_)
           clear hK K
           refine done_ (done_of HT_.out (by kernel_rfl)) ?_
           try go_wp2
           have n0_ : Aside0 (Kd.V k50 50 ((((w99.setCell ⟨gb229, 0, none⟩ (.int .i64 ((rd_T50 l0 0).f0))).setCell ⟨gb229, 1, none⟩ (.int .i64 ((rd_T50 l0 0).f1))).setCell ⟨gb230, 0, none⟩ (.int .i64 ((rd_T50 l0 (ji4)).f0))).setCell ⟨gb230, 1, none⟩ (.int .i64 ((rd_T50 l0 (ji4)).f1))) w.heap.size (fun k_ => ((P0_ k_ ∨ P1_ k_) ∨ w.heap.size ≤ k_) ∧ k_ ≠ gb229 ∧ k_ ≠ gb230) (.slice (some ad227) l0.length c0) l0) := ⟨by (with_reducible repeat (first | apply Kd.V_alloc | apply Kd.V_drewN | apply Kd.V_drew)); exact Kd.V_mono (Kd.V_far (p := ⟨gb230, 1, none⟩) (Kd.V_far (p := ⟨gb230, 0, none⟩) (Kd.V_far (p := ⟨gb229, 1, none⟩) (Kd.V_far (p := ⟨gb229, 0, none⟩) (Kd.V_mono (Kd.V_mono HO0.out (fun k_ hk => (⟨hk, hk.2.1⟩ : _ ∧ k_ ≠ gb229))) (fun k_ hk => (⟨hk, hk.1.2.2⟩ : _ ∧ k_ ≠ gb230))) (fun _ hk => hk.1.2) (.int .i64 ((rd_T50 l0 0).f0))) (fun _ hk => hk.1.2) (.int .i64 ((rd_T50 l0 0).f1))) (fun _ hk => hk.2) (.int .i64 ((rd_T50 l0 (ji4)).f0))) (fun _ hk => hk.2) (.int .i64 ((rd_T50 l0 (ji4)).f1))) (fun _ hk => ⟨hk.1.1.1, ⟨hk.1.1.2.1, hk.1.1.2.2⟩⟩)⟩
           have n1_ : Aside0 (Kd.V k50 50 ((((w99.setCell ⟨gb229, 0, none⟩ (.int .i64 ((rd_T50 l0 0).f0))).setCell ⟨gb229, 1, none⟩ (.int .i64 ((rd_T50 l0 0).f1))).setCell ⟨gb230, 0, none⟩ (.int .i64 ((rd_T50 l0 (ji4)).f0))).setCell ⟨gb230, 1, none⟩ (.int .i64 ((rd_T50 l0 (ji4)).f1))) w.heap.size (fun k_ => ((P0_ k_ ∨ P1_ k_) ∨ w.heap.size ≤ k_) ∧ k_ ≠ gb229 ∧ k_ ≠ gb230) (.slice A1 l1.length c1) l1) := ⟨by (with_reducible repeat (first | apply Kd.V_alloc | apply Kd.V_drewN | apply Kd.V_drew)); exact Kd.V_mono (Kd.V_far (p := ⟨gb230, 1, none⟩) (Kd.V_far (p := ⟨gb230, 0, none⟩) (Kd.V_far (p := ⟨gb229, 1, none⟩) (Kd.V_far (p := ⟨gb229, 0, none⟩) (Kd.V_mono (Kd.V_mono HO1.out (fun k_ hk => (⟨hk, hk.2.1⟩ : _ ∧ k_ ≠ gb229))) (fun k_ hk => (⟨hk, hk.1.2.2⟩ : _ ∧ k_ ≠ gb230))) (fun _ hk => hk.1.2) (.int .i64 ((rd_T50 l0 0).f0))) (fun _ hk => hk.1.2) (.int .i64 ((rd_T50 l0 0).f1))) (fun _ hk => hk.2) (.int .i64 ((rd_T50 l0 (ji4)).f0))) (fun _ hk => hk.2) (.int .i64 ((rd_T50 l0 (ji4)).f1))) (fun _ hk => ⟨hk.1.1.1, ⟨hk.1.1.2.1, hk.1.1.2.2⟩⟩)⟩
           have n2_ : Aside0 (((((w99.setCell ⟨gb229, 0, none⟩ (.int .i64 ((rd_T50 l0 0).f0))).setCell ⟨gb229, 1, none⟩ (.int .i64 ((rd_T50 l0 0).f1))).setCell ⟨gb230, 0, none⟩ (.int .i64 ((rd_T50 l0 (ji4)).f0))).setCell ⟨gb230, 1, none⟩ (.int .i64 ((rd_T50 l0 (ji4)).f1))).heap[gb229]? = some (.cells #[.int .i64 ((rd_T50 l0 0).f0), .int .i64 ((rd_T50 l0 0).f1)] 50 (0, 0))) := ⟨by (with_reducible repeat (first | refine blk_drewN ?_ _ | refine blk_drew ?_ | refine blk_alloc ?_ _)); refine blk_far ?_ NB229_230.out _; (with_reducible repeat (first | refine blk_drewN ?_ _ | refine blk_drew ?_ | refine blk_alloc ?_ _)); refine blk_far ?_ NB229_230.out _; (with_reducible repeat (first | refine blk_drewN ?_ _ | refine blk_drew ?_ | refine blk_alloc ?_ _)); refine blk_put (cs := #[.int .i64 ((rd_T50 l0 0).f0), .int .i64 0]) ?_ 1 _ rfl; (with_reducible repeat (first | refine blk_drewN ?_ _ | refine blk_drew ?_ | refine blk_alloc ?_ _)); refine blk_put (cs := #[.int .i64 0, .int .i64 0]) ?_ 0 _ rfl; (with_reducible repeat (first | refine blk_drewN ?_ _ | refine blk_drew ?_ | refine blk_alloc ?_ _)); exact BK229.out⟩
           have n3_ : Aside0 (((((w99.setCell ⟨gb229, 0, none⟩ (.int .i64 ((rd_T50 l0 0).f0))).setCell ⟨gb229, 1, none⟩ (.int .i64 ((rd_T50 l0 0).f1))).setCell ⟨gb230, 0, none⟩ (.int .i64 ((rd_T50 l0 (ji4)).f0))).setCell ⟨gb230, 1, none⟩ (.int .i64 ((rd_T50 l0 (ji4)).f1))).heap[gb230]? = some (.cells #[.int .i64 ((rd_T50 l0 (ji4)).f0), .int .i64 ((rd_T50 l0 (ji4)).f1)] 50 (0, 0))) := ⟨by (with_reducible repeat (first | refine blk_drewN ?_ _ | refine blk_drew ?_ | refine blk_alloc ?_ _)); refine blk_put (cs := #[.int .i64 ((rd_T50 l0 (ji4)).f0), .int .i64 0]) ?_ 1 _ rfl; (with_reducible repeat (first | refine blk_drewN ?_ _ | refine blk_drew ?_ | refine blk_alloc ?_ _)); refine blk_put (cs := #[.int .i64 0, .int .i64 0]) ?_ 0 _ rfl; (with_reducible repeat (first | refine blk_drewN ?_ _ | refine blk_drew ?_ | refine blk_alloc ?_ _)); refine blk_far ?_ NB230_229.out _; (with_reducible repeat (first | refine blk_drewN ?_ _ | refine blk_drew ?_ | refine blk_alloc ?_ _)); refine blk_far ?_ NB230_229.out _; (with_reducible repeat (first | refine blk_drewN ?_ _ | refine blk_drew ?_ | refine blk_alloc ?_ _)); exact BK230.out⟩
           have n4_ : Aside0 (Below w.heap.size w ((((w99.setCell ⟨gb229, 0, none⟩ (.int .i64 ((rd_T50 l0 0).f0))).setCell ⟨gb229, 1, none⟩ (.int .i64 ((rd_T50 l0 0).f1))).setCell ⟨gb230, 0, none⟩ (.int .i64 ((rd_T50 l0 (ji4)).f0))).setCell ⟨gb230, 1, none⟩ (.int .i64 ((rd_T50 l0 (ji4)).f1)))) := ⟨bws_ HB.out⟩
           (try clear HO0)
           (try clear HO1)
           (try clear BK229)
           (try clear BK230)
           (try clear HB)
           generalize ((((w99.setCell ⟨gb229, 0, none⟩ (.int .i64 ((rd_T50 l0 0).f0))).setCell ⟨gb229, 1, none⟩ (.int .i64 ((rd_T50 l0 0).f1))).setCell ⟨gb230, 0, none⟩ (.int .i64 ((rd_T50 l0 (ji4)).f0))).setCell ⟨gb230, 1, none⟩ (.int .i64 ((rd_T50 l0 (ji4)).f1))) = w104 at n0_ n1_ n2_ n3_ n4_ ⊢
           have HO0 := n0_; have HO1 := n1_; have BK229 := n2_; have BK230 := n3_; have HB := n4_
           clear n0_ n1_ n2_ n3_ n4_
           have n0_ := Aside0.mk (Kd.V_drew HO0.out)
           have n1_ := Aside0.mk (Kd.V_drew HO1.out)
           have n2_ := Aside0.mk (blk_drew BK229.out)
           have n3_ := Aside0.mk (blk_drew BK230.out)
           have n4_ := Aside0.mk (below_drew1 HB.out)
           clear HO0 HO1 BK229 BK230 HB
           have HO0 := n0_; have HO1 := n1_; have BK229 := n2_; have BK230 := n3_; have HB := n4_
           clear n0_ n1_ n2_ n3_ n4_
           have p231 : 0 ≤ (0 : Int) := (by omega)
           have q231 : 0 < (l1.length : Int) := od_
           obtain ⟨ad231, e231, hx231_0, hx231_1⟩ := at_T50 (Kd.V_reads' HO1.out).2.2 0 p231 q231
           cases e231
           have qi231 : (0 < l1.length) = True := eq_true (by omega)
           (try rw [show ((0 : Int)).toNat = 0 from rfl] at hx231_0)
           (try rw [show 0 * 2 = 0 from rfl] at hx231_0)
           (try rw [Addr.add_zero'] at hx231_0)
           (try rw [show ((0 : Int)).toNat = 0 from rfl] at hx231_1)
           (try rw [show 0 * 2 = 0 from rfl] at hx231_1)
           (try rw [Addr.add_zero'] at hx231_1)
           replace p231 := eq_true p231
           replace q231 := eq_true q231
           refine start_ (n := 6) (S := fun w' => w'.cell? ⟨gb230, 0, none⟩ = some (.int .i64 ((rd_T50 l0 (ji4)).f0)) ∧ w'.cell? ⟨gb230, 1, none⟩ = some (.int .i64 ((rd_T50 l0 (ji4)).f1)) ∧ w'.cell? ad231 = some (.int .i64 ((rd_T50 l1 0).f0)) ∧ w'.cell? ⟨ad231.block, ad231.off + 1, none⟩ = some (.int .i64 ((rd_T50 l1 0).f1))) (ds := []) #[false, false, false, false, false, false] (by kernel_rfl) rfl rfl ⟨(blk_cell BK230.out 0).trans rfl, (blk_cell BK230.out 1).trans rfl, hx231_0, hx231_1⟩ (fun hHeld => ?_)
           generalize w104.drew = w105 at HO0 HO1 BK229 BK230 HB hx231_0 hx231_1 hHeld ⊢
           refine pure_ (i := 1) (N := some 18) (v := ?_) (a' := ?_) #[false, true, false, false, false, false] rfl rfl (by kernel_rfl) (fun _ _ _ h => h) (Or.inl ⟨by rfl, ?_⟩) ?_ ?_
           rotate_left
           ·intro w'
            go_simp
            with_reducible rfl
           rotate_left
           ·simp only [Act.put, List.setIfInBounds_toArray, List.set_cons_zero, List.set_cons_succ, i64_w, i32_w]
            rfl
           refine pure_ (i := 2) (N := some 19) (v := ?_) (a' := ?_) #[false, true, true, false, false, false] rfl rfl (by kernel_rfl) (fun _ _ _ h => h) (Or.inl ⟨by rfl, ?_⟩) ?_ ?_
           rotate_left
           ·intro w'
            go_simp
            with_reducible rfl
           rotate_left
           ·simp only [Act.put, List.setIfInBounds_toArray, List.set_cons_zero, List.set_cons_succ, i64_w, i32_w]
            rfl
           refine take_ (i := 0) (N := some 17) (v := ?_) (a' := ?_) #[true, true, true, false, false, false] rfl rfl (by kernel_rfl) (fun _ _ _ h => h) (Or.inl ⟨by rfl, ?_⟩) hHeld ?_ ?_
           rotate_left
           ·rintro w' ⟨s0, s1, s2, s3⟩
            go_simp
            with_reducible rfl
           rotate_left
           ·simp only [Act.put, List.setIfInBounds_toArray, List.set_cons_zero, List.set_cons_succ, i64_w, i32_w]
            rfl
           refine take_ (i := 3) (N := some 20) (v := ?_) (a' := ?_) #[true, true, true, true, false, false] rfl rfl (by kernel_rfl) (fun _ _ _ h => h) (Or.inl ⟨by rfl, ?_⟩) hHeld ?_ ?_
           rotate_left
           ·rintro w' ⟨s0, s1, s2, s3⟩
            go_simp
            with_reducible rfl
           rotate_left
           ·simp only [Act.put, List.setIfInBounds_toArray, List.set_cons_zero, List.set_cons_succ, i64_w, i32_w]
            rfl
           refine pure_ (i := 4) (N := some 21) (v := ?_) (a' := ?_) #[true, true, true, true, true, false] rfl rfl (by kernel_rfl) (fun _ _ _ h => h) (Or.inl ⟨by rfl, ?_⟩) ?_ ?_
           rotate_left
           ·intro w'
            go_simp
            with_reducible rfl
           rotate_left
           ·simp only [Act.put, List.setIfInBounds_toArray, List.set_cons_zero, List.set_cons_succ, i64_w, i32_w]
            rfl
           refine pure_ (i := 5) (N := some 16) (v := ?_) (a' := ?_) #[true, true, true, true, true, true] rfl rfl (by kernel_rfl) (fun _ _ _ h => h) (Or.inl ⟨by rfl, ?_⟩) ?_ ?_
           rotate_left
           ·intro w'
            go_simp
            with_reducible rfl
           rotate_left
           ·simp only [Act.put, List.setIfInBounds_toArray, List.set_cons_zero, List.set_cons_succ, i64_w, i32_w]
            rfl
           refine done_ (by kernel_rfl) ?_
           try go_wp2
           have n0_ := Aside0.mk (Kd.V_drew HO0.out)
           have n1_ := Aside0.mk (Kd.V_drew HO1.out)
           have n2_ := Aside0.mk (blk_drew BK229.out)
           have n3_ := Aside0.mk (blk_drew BK230.out)
           have n4_ := Aside0.mk (below_drew1 HB.out)
           clear HO0 HO1 BK229 BK230 HB
           have HO0 := n0_; have HO1 := n1_; have BK229 := n2_; have BK230 := n3_; have HB := n4_
           clear n0_ n1_ n2_ n3_ n4_
           have p243 : 0 ≤ ((ji26) : Int) := od_
           have q243 : (ji26) < (l1.length : Int) := od_
           obtain ⟨ad243, e243, hx243_0, hx243_1⟩ := at_T50 (Kd.V_reads' HO1.out).2.2 (ji26) p243 q243
           obtain rfl : ad231 = ad243 := (by injection e243)
           replace p243 := eq_true p243
           replace q243 := eq_true q243
           refine start_ (n := 9) (S := fun w' => w'.cell? ⟨gb230, 0, none⟩ = some (.int .i64 ((rd_T50 l0 (ji4)).f0)) ∧ w'.cell? ⟨gb230, 1, none⟩ = some (.int .i64 ((rd_T50 l0 (ji4)).f1)) ∧ w'.cell? (ad231.add (((ji26)).toNat * 2)) = some (.int .i64 ((rd_T50 l1 (ji26)).f0)) ∧ w'.cell? ⟨(ad231.add (((ji26)).toNat * 2)).block, (ad231.add (((ji26)).toNat * 2)).off + 1, none⟩ = some (.int .i64 ((rd_T50 l1 (ji26)).f1))) (ds := []) #[false, false, false, false, false, false, false, false, false] (by kernel_rfl) rfl rfl ⟨(blk_cell BK230.out 0).trans rfl, (blk_cell BK230.out 1).trans rfl, hx243_0, hx243_1⟩ (fun hHeld => ?_); refine with_tabW impl_join.tab4 impl_join.bits4 (fun HT_ HW_ => ?_)
           generalize w105.drew = w106 at HO0 HO1 BK229 BK230 HB hx243_0 hx243_1 hHeld ⊢
           refine pure_ (i := 1) (N := some 29) (v := ?_) (a' := ?_) #[false, true, false, false, false, false, false, false, false] rfl rfl (any_of HT_.out (by kernel_rfl)) (fun _ _ _ h => h) (Or.inl ⟨by rfl, ?_⟩) ?_ ?_
           rotate_left
           ·intro w'
            go_simp
            with_reducible rfl
           rotate_left
           ·simp only [Act.put, List.setIfInBounds_toArray, List.set_cons_zero, List.set_cons_succ, i64_w, i32_w]
            rfl
           refine pure_ (i := 2) (N := some 30) (v := ?_) (a' := ?_) #[false, true, true, false, false, false, false, false, false] rfl rfl (any_of HT_.out (by kernel_rfl)) (fun _ _ _ h => h) (Or.inl ⟨by rfl, ?_⟩) ?_ ?_
           rotate_left
           ·intro w'
            go_simp
            with_reducible rfl
           rotate_left
           ·simp only [Act.put, List.setIfInBounds_toArray, List.set_cons_zero, List.set_cons_succ, i64_w, i32_w]
            rfl
           refine pure_ (i := 3) (N := some 31) (v := ?_) (a' := ?_) #[false, true, true, true, false, false, false, false, false] rfl rfl (any_of HT_.out (by kernel_rfl)) (fun _ _ _ h => h) (Or.inl ⟨by rfl, ?_⟩) ?_ ?_
           rotate_left
           ·intro w'
            go_simp
            with_reducible rfl
           rotate_left
           ·simp only [Act.put, List.setIfInBounds_toArray, List.set_cons_zero, List.set_cons_succ, i64_w, i32_w]
            rfl
           refine pure_ (i := 4) (N := some 32) (v := ?_) (a' := ?_) #[false, true, true, true, true, false, false, false, false] rfl rfl (any_of HT_.out (by kernel_rfl)) (fun _ _ _ h => h) (Or.inl ⟨by rfl, ?_⟩) ?_ ?_
           rotate_left
           ·intro w'
            go_simp
            with_reducible rfl
           rotate_left
           ·simp only [Act.put, List.setIfInBounds_toArray, List.set_cons_zero, List.set_cons_succ, i64_w, i32_w]
            rfl
           refine pure_ (i := 5) (N := some 33) (v := ?_) (a' := ?_) #[false, true, true, true, true, true, false, false, false] rfl rfl (any_of HT_.out (by kernel_rfl)) (fun _ _ _ h => h) (Or.inl ⟨by rfl, ?_⟩) ?_ ?_
           rotate_left
           ·intro w'
            go_simp
            with_reducible rfl
           rotate_left
           ·simp only [Act.put, List.setIfInBounds_toArray, List.set_cons_zero, List.set_cons_succ, i64_w, i32_w]
            rfl
           refine take_ (i := 0) (N := some 28) (v := ?_) (a' := ?_) #[true, true, true, true, true, true, false, false, false] rfl rfl (take_ofW HT_.out HW_.out (by kernel_rfl)) (fun _ _ _ h => h) (Or.inl ⟨by rfl, ?_⟩) hHeld ?_ ?_
           rotate_left
           ·rintro w' ⟨s0, s1, s2, s3⟩
            go_simp
            with_reducible rfl
           rotate_left
           ·simp only [Act.put, List.setIfInBounds_toArray, List.set_cons_zero, List.set_cons_succ, i64_w, i32_w]
            rfl
           refine take_ (i := 6) (N := some 34) (v := ?_) (a' := ?_) #[true, true, true, true, true, true, true, false, false] rfl rfl (take_ofW HT_.out HW_.out (by kernel_rfl)) (fun _ _ _ h => h) (Or.inl ⟨by rfl, ?_⟩) hHeld ?_ ?_
           rotate_left
           ·rintro w' ⟨s0, s1, s2, s3⟩
            go_simp
            with_reducible rfl
           rotate_left
           ·simp only [Act.put, List.setIfInBounds_toArray, List.set_cons_zero, List.set_cons_succ, i64_w, i32_w]
            rfl
           refine pure_ (i := 7) (N := some 35) (v := ?_) (a' := ?_) #[true, true, true, true, true, true, true, true, false] rfl rfl (any_of HT_.out (by kernel_rfl)) (fun _ _ _ h => h) (Or.inl ⟨by rfl, ?_⟩) ?_ ?_
           rotate_left
           ·intro w'
            go_simp
            with_reducible rfl
           rotate_left
           ·simp only [Act.put, List.setIfInBounds_toArray, List.set_cons_zero, List.set_cons_succ, i64_w, i32_w]
            rfl
           refine pure_ (i := 8) (N := some 27) (v := ?_) (a' := ?_) #[true, true, true, true, true, true, true, true, true] rfl rfl (any_of HT_.out (by kernel_rfl)) (fun _ _ _ h => h) (Or.inl ⟨by rfl, ?_⟩) ?_ ?_
           rotate_left
           ·intro w'
            go_simp
            with_reducible rfl
           rotate_left
           ·simp only [Act.put, List.setIfInBounds_toArray, List.set_cons_zero, List.set_cons_succ, i64_w, i32_w]
            rfl
           refine done_ (done_of HT_.out (by kernel_rfl)) ?_
           try go_wp2
           have n0_ := Aside0.mk (Kd.V_drew HO0.out)
           have n1_ := Aside0.mk (Kd.V_drew HO1.out)
           have n2_ := Aside0.mk (blk_drew BK229.out)
           have n3_ := Aside0.mk (blk_drew BK230.out)
           have n4_ := Aside0.mk (below_drew1 HB.out)
           clear HO0 HO1 BK229 BK230 HB
           have HO0 := n0_; have HO1 := n1_; have BK229 := n2_; have BK230 := n3_; have HB := n4_
           clear n0_ n1_ n2_ n3_ n4_
           have p258 : 0 ≤ ((ji26) : Int) := od_
           have q258 : (ji26) < (l1.length : Int) := od_
           obtain ⟨ad258, e258, hx258_0, hx258_1⟩ := at_T50 (Kd.V_reads' HO1.out).2.2 (ji26) p258 q258
           obtain rfl : ad231 = ad258 := (by injection e258)
           replace p258 := eq_true p258
           replace q258 := eq_true q258
           refine start_ (n := 9) (S := fun w' => w'.cell? ⟨gb229, 0, none⟩ = some (.int .i64 ((rd_T50 l0 0).f0)) ∧ w'.cell? ⟨gb229, 1, none⟩ = some (.int .i64 ((rd_T50 l0 0).f1)) ∧ w'.cell? (ad231.add (((ji26)).toNat * 2)) = some (.int .i64 ((rd_T50 l1 (ji26)).f0)) ∧ w'.cell? ⟨(ad231.add (((ji26)).toNat * 2)).block, (ad231.add (((ji26)).toNat * 2)).off + 1, none⟩ = some (.int .i64 ((rd_T50 l1 (ji26)).f1))) (ds := []) #[false, false, false, false, false, false, false, false, false] (by kernel_rfl) rfl rfl ⟨(blk_cell BK229.out 0).trans rfl, (blk_cell BK229.out 1).trans rfl, hx258_0, hx258_1⟩ (fun hHeld => ?_); refine with_tabW impl_join.tab6 impl_join.bits6 (fun HT_ HW_ => ?_)
           generalize w106.drew = w107 at HO0 HO1 BK229 BK230 HB hx258_0 hx258_1 hHeld ⊢
           refine pure_ (i := 1) (N := some 44) (v := ?_) (a' := ?_) #[false, true, false, false, false, false, false, false, false] rfl rfl (any_of HT_.out (by kernel_rfl)) (fun _ _ _ h => h) (Or.inl ⟨by rfl, ?_⟩) ?_ ?_
           rotate_left
           ·intro w'
            go_simp
            with_reducible rfl
           rotate_left
           ·simp only [Act.put, List.setIfInBounds_toArray, List.set_cons_zero, List.set_cons_succ, i64_w, i32_w]
            rfl
           refine pure_ (i := 2) (N := some 45) (v := ?_) (a' := ?_) #[false, true, true, false, false, false, false, false, false] rfl rfl (any_of HT_.out (by kernel_rfl)) (fun _ _ _ h => h) (Or.inl ⟨by rfl, ?_⟩) ?_ ?_
           rotate_left
           ·intro w'
            go_simp
            with_reducible rfl
           rotate_left
           ·simp only [Act.put, List.setIfInBounds_toArray, List.set_cons_zero, List.set_cons_succ, i64_w, i32_w]
            rfl
           refine pure_ (i := 3) (N := some 46) (v := ?_) (a' := ?_) #[false, true, true, true, false, false, false, false, false] rfl rfl (any_of HT_.out (by kernel_rfl)) (fun _ _ _ h => h) (Or.inl ⟨by rfl, ?_⟩) ?_ ?_
           rotate_left
           ·intro w'
            go_simp
            with_reducible rfl
           rotate_left
           ·simp only [Act.put, List.setIfInBounds_toArray, List.set_cons_zero, List.set_cons_succ, i64_w, i32_w]
            rfl
           refine pure_ (i := 4) (N := some 47) (v := ?_) (a' := ?_) #[false, true, true, true, true, false, false, false, false] rfl rfl (any_of HT_.out (by kernel_rfl)) (fun _ _ _ h => h) (Or.inl ⟨by rfl, ?_⟩) ?_ ?_
           rotate_left
           ·intro w'
            go_simp
            with_reducible rfl
           rotate_left
           ·simp only [Act.put, List.setIfInBounds_toArray, List.set_cons_zero, List.set_cons_succ, i64_w, i32_w]
            rfl
           refine pure_ (i := 5) (N := some 48) (v := ?_) (a' := ?_) #[false, true, true, true, true, true, false, false, false] rfl rfl (any_of HT_.out (by kernel_rfl)) (fun _ _ _ h => h) (Or.inl ⟨by rfl, ?_⟩) ?_ ?_
           rotate_left
           ·intro w'
            go_simp
            with_reducible rfl
           rotate_left
           ·simp only [Act.put, List.setIfInBounds_toArray, List.set_cons_zero, List.set_cons_succ, i64_w, i32_w]
            rfl
           refine take_ (i := 0) (N := some 43) (v := ?_) (a' := ?_) #[true, true, true, true, true, true, false, false, false] rfl rfl (take_ofW HT_.out HW_.out (by kernel_rfl)) (fun _ _ _ h => h) (Or.inl ⟨by rfl, ?_⟩) hHeld ?_ ?_
           rotate_left
           ·rintro w' ⟨s0, s1, s2, s3⟩
            go_simp
            with_reducible rfl
           rotate_left
           ·simp only [Act.put, List.setIfInBounds_toArray, List.set_cons_zero, List.set_cons_succ, i64_w, i32_w]
            rfl
           refine take_ (i := 6) (N := some 49) (v := ?_) (a' := ?_) #[true, true, true, true, true, true, true, false, false] rfl rfl (take_ofW HT_.out HW_.out (by kernel_rfl)) (fun _ _ _ h => h) (Or.inl ⟨by rfl, ?_⟩) hHeld ?_ ?_
           rotate_left
           ·rintro w' ⟨s0, s1, s2, s3⟩
            go_simp
            with_reducible rfl
           rotate_left
           ·simp only [Act.put, List.setIfInBounds_toArray, List.set_cons_zero, List.set_cons_succ, i64_w, i32_w]
            rfl
           refine pure_ (i := 7) (N := some 50) (v := ?_) (a' := ?_) #[true, true, true, true, true, true, true, true, false] rfl rfl (any_of HT_.out (by kernel_rfl)) (fun _ _ _ h => h) (Or.inl ⟨by rfl, ?_⟩) ?_ ?_
           rotate_left
           ·intro w'
            go_simp
            with_reducible rfl
           rotate_left
           ·simp only [Act.put, List.setIfInBounds_toArray, List.set_cons_zero, List.set_cons_succ, i64_w, i32_w]
            rfl
           refine pure_ (i := 8) (N := some 42) (v := ?_) (a' := ?_) #[true, true, true, true, true, true, true, true, true] rfl rfl (any_of HT_.out (by kernel_rfl)) (fun _ _ _ h => h) (Or.inl ⟨by rfl, ?_⟩) ?_ ?_
           rotate_left
           ·intro w'
            go_simp
            with_reducible rfl
           rotate_left
           ·simp only [Act.put, List.setIfInBounds_toArray, List.set_cons_zero, List.set_cons_succ, i64_w, i32_w]
            rfl
           refine done_ (done_of HT_.out (by kernel_rfl)) ?_
           try go_wp2
           have n0_ := Aside0.mk (Kd.V_drew HO0.out)
           have n1_ := Aside0.mk (Kd.V_drew HO1.out)
           have n2_ := Aside0.mk (blk_drew BK229.out)
           have n3_ := Aside0.mk (blk_drew BK230.out)
           have n4_ := Aside0.mk (below_drew1 HB.out)
           clear HO0 HO1 BK229 BK230 HB
           have HO0 := n0_; have HO1 := n1_; have BK229 := n2_; have BK230 := n3_; have HB := n4_
           clear n0_ n1_ n2_ n3_ n4_
           have p270 : 0 ≤ (0 : Int) := (by omega)
           have q270 : 0 < (l1.length : Int) := od_
           obtain ⟨ad270, e270, hx270_0, hx270_1⟩ := at_T50 (Kd.V_reads' HO1.out).2.2 0 p270 q270
           obtain rfl : ad231 = ad270 := (by injection e270)
           have qi270 : (0 < l1.length) = True := eq_true (by omega)
           (try rw [show ((0 : Int)).toNat = 0 from rfl] at hx270_0)
           (try rw [show 0 * 2 = 0 from rfl] at hx270_0)
           (try rw [Addr.add_zero'] at hx270_0)
           (try rw [show ((0 : Int)).toNat = 0 from rfl] at hx270_1)
           (try rw [show 0 * 2 = 0 from rfl] at hx270_1)
           (try rw [Addr.add_zero'] at hx270_1)
           replace p270 := eq_true p270
           replace q270 := eq_true q270
           refine start_ (n := 6) (S := fun w' => w'.cell? ⟨gb229, 0, none⟩ = some (.int .i64 ((rd_T50 l0 0).f0)) ∧ w'.cell? ⟨gb229, 1, none⟩ = some (.int .i64 ((rd_T50 l0 0).f1)) ∧ w'.cell? ad231 = some (.int .i64 ((rd_T50 l1 0).f0)) ∧ w'.cell? ⟨ad231.block, ad231.off + 1, none⟩ = some (.int .i64 ((rd_T50 l1 0).f1))) (ds := []) #[false, false, false, false, false, false] (by kernel_rfl) rfl rfl ⟨(blk_cell BK229.out 0).trans rfl, (blk_cell BK229.out 1).trans rfl, hx270_0, hx270_1⟩ (fun hHeld => ?_)
           generalize w107.drew = w108 at HO0 HO1 BK229 BK230 HB hx270_0 hx270_1 hHeld ⊢
           refine pure_ (i := 1) (N := some 58) (v := ?_) (a' := ?_) #[false, true, false, false, false, false] rfl rfl (by kernel_rfl) (fun _ _ _ h => h) (Or.inl ⟨by rfl, ?_⟩) ?_ ?_
           rotate_left
           ·intro w'
            go_simp
            with_reducible rfl
           rotate_left
           ·simp only [Act.put, List.setIfInBounds_toArray, List.set_cons_zero, List.set_cons_succ, i64_w, i32_w]
            rfl
           refine pure_ (i := 2) (N := some 59) (v := ?_) (a' := ?_) #[false, true, true, false, false, false] rfl rfl (by kernel_rfl) (fun _ _ _ h => h) (Or.inl ⟨by rfl, ?_⟩) ?_ ?_
           rotate_left
           ·intro w'
            go_simp
            with_reducible rfl
           rotate_left
           ·simp only [Act.put, List.setIfInBounds_toArray, List.set_cons_zero, List.set_cons_succ, i64_w, i32_w]
            rfl
           refine take_ (i := 0) (N := some 57) (v := ?_) (a' := ?_) #[true, true, true, false, false, false] rfl rfl (by kernel_rfl) (fun _ _ _ h => h) (Or.inl ⟨by rfl, ?_⟩) hHeld ?_ ?_
           rotate_left
           ·rintro w' ⟨s0, s1, s2, s3⟩
            go_simp
            with_reducible rfl
           rotate_left
           ·simp only [Act.put, List.setIfInBounds_toArray, List.set_cons_zero, List.set_cons_succ, i64_w, i32_w]
            rfl
           refine take_ (i := 3) (N := some 60) (v := ?_) (a' := ?_) #[true, true, true, true, false, false] rfl rfl (by kernel_rfl) (fun _ _ _ h => h) (Or.inl ⟨by rfl, ?_⟩) hHeld ?_ ?_
           rotate_left
           ·rintro w' ⟨s0, s1, s2, s3⟩
            go_simp
            with_reducible rfl
           rotate_left
           ·simp only [Act.put, List.setIfInBounds_toArray, List.set_cons_zero, List.set_cons_succ, i64_w, i32_w]
            rfl
           refine pure_ (i := 4) (N := some 61) (v := ?_) (a' := ?_) #[true, true, true, true, true, false] rfl rfl (by kernel_rfl) (fun _ _ _ h => h) (Or.inl ⟨by rfl, ?_⟩) ?_ ?_
           rotate_left
           ·intro w'
            go_simp
            with_reducible rfl
           rotate_left
           ·simp only [Act.put, List.setIfInBounds_toArray, List.set_cons_zero, List.set_cons_succ, i64_w, i32_w]
            rfl
           refine pure_ (i := 5) (N := some 56) (v := ?_) (a' := ?_) #[true, true, true, true, true, true] rfl rfl (by kernel_rfl) (fun _ _ _ h => h) (Or.inl ⟨by rfl, ?_⟩) ?_ ?_
           rotate_left
           ·intro w'
            go_simp
            with_reducible rfl
           rotate_left
           ·simp only [Act.put, List.setIfInBounds_toArray, List.set_cons_zero, List.set_cons_succ, i64_w, i32_w]
            rfl
           refine done_ (by kernel_rfl) ?_
           try go_wp2
           go_ret
           exact ⟨_, by first | rfl | (simp [errW_none, errW_some] <;> rfl) | (simp only [← hji4, ← hji26]; first | rfl | (simp [errW_none, errW_some] <;> rfl)) | (simp [*, errW_none, errW_some] <;> rfl), by first | exact Kd.R_nil _ _ _ _ _ | exact Kd.N_nil _ _ _ _ _ | exact Kd.V_nil _ _ _ _ _ | exact Kd.Q_nil _ _ _ _ _ | exact Kd.S_nil _ _ _ _ _, by repeat (first | (with_reducible first | exact HB.out | apply below_alloc | apply pw_below_drewN | apply below_drew1 | refine below_set ?_ GE229.out | refine below_set ?_ GE230.out) | exact HB.out), by first | exact fun hr_ => absurd hr_ HNZ.out | exact fun hr_ => absurd hr_ NZ_.out | exact fun _ => rfl | rfl | (simp; done) | (intro _; first | rfl | (simp; done))⟩
       ·rw [if_neg c28] at H
        exact absurd H (by simp)
      ·rw [if_neg c27] at H
       exact absurd H (by simp)
    ·rw [if_neg c7] at H
     exact absurd H (by simp)
   ·rw [if_neg c6] at H
    exact absurd H (by simp)
  ·rw [if_neg c5] at H
   exact absurd H (by simp)
 ·rw [if_neg c3] at H
  exact absurd H (by simp)

end Go.Proofs.Ytpgfgkgjjdfjlaa.Print
