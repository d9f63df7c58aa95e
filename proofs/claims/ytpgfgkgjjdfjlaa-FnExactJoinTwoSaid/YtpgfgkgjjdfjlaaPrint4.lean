-- Printed by a program of this session out of the translation; not trusted: Lean checks it.
-- SQUEEZED
-- SHRUNK
import Derived.Test.YtpgfgkgjjdfjlaaPrint0
import Derived.Test.YtpgfgkgjjdfjlaaPrint1
import Derived.Test.YtpgfgkgjjdfjlaaPrint3
namespace Go.Proofs.Ytpgfgkgjjdfjlaa.Print
open Go.RowKit Go.Proofs.YtpgfgkgjjdfjlaaW.PrintWords Go.Proofs.YtpgfgkgjjdfjlaaW.PrintLast Go.Proofs.YtpgfgkgjjdfjlaaW.PrintMore
attribute [local go_sem] max2_int min2_int max_two min_two max_three min_three max_four min_four   -- for this text's walks alone
set_option linter.unusedVariables false
set_option linter.unusedSimpArgs false

attribute [local go_sem high] eqA50
/-! ### spec_l10Join: function 28 -/
def spec_l10Join.f (k : Nat) (l0 : List (S50)) (l1 : List (S50)) : Option ((List (S50)) × Bool) := if 0 < (l0.length : Int) then (if 0 ≤ (wrap64 ((l0.length : Int) - 1)) then (if (wrap64 ((l0.length : Int) - 1)) < (l0.length : Int) then (if 0 < (l1.length : Int) then (if (((rd_T50 l0 (wrap64 ((l0.length : Int) - 1))).f0) == ((rd_T50 l1 0).f0) && (((rd_T50 l0 (wrap64 ((l0.length : Int) - 1))).f1) == ((rd_T50 l1 0).f1))) = true then ((some (([] : List (S50)) : List (S50))).bind fun y120 => (if y120.length + l0.length < 8796093022208 then ((some (y120 ++ l0 : List (S50))).bind fun y123 => (if 1 ≤ (l1.length : Int) then ((some (l1.drop 1 : List (S50))).bind fun y126 => (if y123.length + y126.length < 8796093022208 then (some ((y123 ++ y126), true)) else (none))) else (none))) else (none))) else (if 0 ≤ (wrap64 ((l1.length : Int) - 1)) then (if (wrap64 ((l1.length : Int) - 1)) < (l1.length : Int) then (if (((rd_T50 l0 (wrap64 ((l0.length : Int) - 1))).f0) == ((rd_T50 l1 (wrap64 ((l1.length : Int) - 1))).f0) && (((rd_T50 l0 (wrap64 ((l0.length : Int) - 1))).f1) == ((rd_T50 l1 (wrap64 ((l1.length : Int) - 1))).f1))) = true then ((some (([] : List (S50)) : List (S50))).bind fun y134 => (if y134.length + l0.length < 8796093022208 then ((some (y134 ++ l0 : List (S50))).bind fun y137 => ((spec_l10Back.f k l1).bind fun t140 => (if 1 ≤ (t140.length : Int) then ((some (t140.drop 1 : List (S50))).bind fun y143 => (if y137.length + y143.length < 8796093022208 then (some ((y137 ++ y143), true)) else (none))) else (none)))) else (none))) else (if (((rd_T50 l0 0).f0) == ((rd_T50 l1 (wrap64 ((l1.length : Int) - 1))).f0) && (((rd_T50 l0 0).f1) == ((rd_T50 l1 (wrap64 ((l1.length : Int) - 1))).f1))) = true then ((some (([] : List (S50)) : List (S50))).bind fun y151 => (if y151.length + l1.length < 8796093022208 then ((some (y151 ++ l1 : List (S50))).bind fun y154 => (if 1 ≤ (l0.length : Int) then ((some (l0.drop 1 : List (S50))).bind fun y157 => (if y154.length + y157.length < 8796093022208 then (some ((y154 ++ y157), true)) else (none))) else (none))) else (none))) else (if (((rd_T50 l0 0).f0) == ((rd_T50 l1 0).f0) && (((rd_T50 l0 0).f1) == ((rd_T50 l1 0).f1))) = true then ((spec_l10Back.f k l1).bind fun t165 => (if 1 ≤ (l0.length : Int) then ((some (l0.drop 1 : List (S50))).bind fun y168 => (if t165.length + y168.length < 8796093022208 then (some ((t165 ++ y168), true)) else (none))) else (none))) else (some (([] : List (S50)), false))))) else (none)) else (none))) else (none)) else (none)) else (none)) else (none)
theorem spec_l10Join.mono : ∀ a0 a1 k, LeO (spec_l10Join.f k a0 a1) (spec_l10Join.f (k + 1) a0 a1) := by
 intro a0 a1 k
 unfold spec_l10Join.f
 repeat' first
   | (with_reducible exact spec_l10Back.mono _ _)
   | (with_reducible exact LeO.refl _)
   | (with_reducible exact LeO.none _)
   | (with_reducible refine LeO.ite ?_ ?_)
   | (with_reducible refine LeO.bind ?_ (fun _ => ?_))
   | exact spec_l10Back.mono _ _
   | exact LeO.none _
   | refine LeO.ite ?_ ?_
   | refine LeO.bind ?_ (fun _ => ?_)
def spec_l10Join.T4 : Bool × List (List Nat × List Nat) := (true, [([], []), ([], []), ([0, 1], [0, 1]), ([], []), ([3], [3]), ([2, 4, 2], [2, 4]), ([5, 5, 0, 1, 2, 3, 4, 5], [5]), ([6, 0, 1, 2, 3, 4, 5, 6], [])])
def spec_l10Join.B4 : List Nat := [0, 0, 3, 0, 8, 31, 63, 127]
theorem spec_l10Join.tab4 : rtab .any (opsOf Try.f28 4) = spec_l10Join.T4 := by kernel_rfl
theorem spec_l10Join.bits4 : waitsOk spec_l10Join.T4.2 spec_l10Join.B4 = true := by kernel_rfl
def spec_l10Join.T5 : Bool × List (List Nat × List Nat) := (true, [([], []), ([], []), ([], []), ([2], [2]), ([3], [3]), ([1, 4], [1, 4]), ([5], [5]), ([0, 6], [0, 6]), ([7], [7])])
def spec_l10Join.B5 : List Nat := [0, 0, 0, 4, 12, 30, 62, 127, 255]
theorem spec_l10Join.tab5 : rtab .any (opsOf Try.f28 5) = spec_l10Join.T5 := by kernel_rfl
theorem spec_l10Join.bits5 : waitsOk spec_l10Join.T5.2 spec_l10Join.B5 = true := by kernel_rfl
def spec_l10Join.T7 : Bool × List (List Nat × List Nat) := (true, [([], []), ([], []), ([], []), ([2], [2]), ([3], [3]), ([1, 4], [1, 4]), ([5], [5]), ([0, 6], [0, 6]), ([7], [7])])
def spec_l10Join.B7 : List Nat := [0, 0, 0, 4, 12, 30, 62, 127, 255]
theorem spec_l10Join.tab7 : rtab .any (opsOf Try.f28 7) = spec_l10Join.T7 := by kernel_rfl
theorem spec_l10Join.bits7 : waitsOk spec_l10Join.T7.2 spec_l10Join.B7 = true := by kernel_rfl
def spec_l10Join.T8 : Bool × List (List Nat × List Nat) := (true, [([], []), ([], []), ([0, 1], [0, 1]), ([], []), ([3], [3]), ([2, 4, 2], [2, 4]), ([5, 5, 0, 1, 2, 3, 4, 5], [5]), ([6, 0, 1, 2, 3, 4, 5, 6], [])])
def spec_l10Join.B8 : List Nat := [0, 0, 3, 0, 8, 31, 63, 127]
theorem spec_l10Join.tab8 : rtab .any (opsOf Try.f28 8) = spec_l10Join.T8 := by kernel_rfl
theorem spec_l10Join.bits8 : waitsOk spec_l10Join.T8.2 spec_l10Join.B8 = true := by kernel_rfl
set_option maxHeartbeats 8000000 in
set_option maxRecDepth 100000 in
theorem spec_l10Join.calls (k : Nat) (A0 : Option Addr) (c0 : Nat) (l0 : List (S50)) (A1 : Option Addr) (c1 : Nat) (l1 : List (S50)) (r1 : List (S50)) (r2 : Bool) (w : World) (hr0 : Kd.C k50 w A0 l0.length l0) (hc0 : l0.length ≤ c0) (hr1 : Kd.C k50 w A1 l1.length l1) (hc1 : l1.length ≤ c1) (h : spec_l10Join.f k l0 l1 = some (r1, r2)) :
  Calls Try.prog 28 #[.slice A0 l0.length c0, .slice A1 l1.length c1] w fun e w' => ∃ v0_ : Value, e = .returned (.tuple #[v0_, .bool r2]) ∧ Kd.R k50 50 w' w.heap.size (fun _ => True) v0_ r1 ∧ Below w.heap.size w w' := by
 have hu50 := Try.underlying50
 have HR0 := Aside0.mk hr0
 have HC0 := Aside0.mk hc0
 clear hr0 hc0
 have HR1 := Aside0.mk hr1
 have HC1 := Aside0.mk hc1
 clear hr1 hc1
 have HB := Aside0.mk (Below.refl w.heap.size w)
 have H : (if 0 < (l0.length : Int) then (if 0 ≤ (wrap64 ((l0.length : Int) - 1)) then (if (wrap64 ((l0.length : Int) - 1)) < (l0.length : Int) then (if 0 < (l1.length : Int) then (if (((rd_T50 l0 (wrap64 ((l0.length : Int) - 1))).f0) == ((rd_T50 l1 0).f0) && (((rd_T50 l0 (wrap64 ((l0.length : Int) - 1))).f1) == ((rd_T50 l1 0).f1))) = true then ((some (([] : List (S50)) : List (S50))).bind fun y120 => (if y120.length + l0.length < 8796093022208 then ((some (y120 ++ l0 : List (S50))).bind fun y123 => (if 1 ≤ (l1.length : Int) then ((some (l1.drop 1 : List (S50))).bind fun y126 => (if y123.length + y126.length < 8796093022208 then (some ((y123 ++ y126), true)) else (none))) else (none))) else (none))) else (if 0 ≤ (wrap64 ((l1.length : Int) - 1)) then (if (wrap64 ((l1.length : Int) - 1)) < (l1.length : Int) then (if (((rd_T50 l0 (wrap64 ((l0.length : Int) - 1))).f0) == ((rd_T50 l1 (wrap64 ((l1.length : Int) - 1))).f0) && (((rd_T50 l0 (wrap64 ((l0.length : Int) - 1))).f1) == ((rd_T50 l1 (wrap64 ((l1.length : Int) - 1))).f1))) = true then ((some (([] : List (S50)) : List (S50))).bind fun y134 => (if y134.length + l0.length < 8796093022208 then ((some (y134 ++ l0 : List (S50))).bind fun y137 => ((spec_l10Back.f k l1).bind fun t140 => (if 1 ≤ (t140.length : Int) then ((some (t140.drop 1 : List (S50))).bind fun y143 => (if y137.length + y143.length < 8796093022208 then (some ((y137 ++ y143), true)) else (none))) else (none)))) else (none))) else (if (((rd_T50 l0 0).f0) == ((rd_T50 l1 (wrap64 ((l1.length : Int) - 1))).f0) && (((rd_T50 l0 0).f1) == ((rd_T50 l1 (wrap64 ((l1.length : Int) - 1))).f1))) = true then ((some (([] : List (S50)) : List (S50))).bind fun y151 => (if y151.length + l1.length < 8796093022208 then ((some (y151 ++ l1 : List (S50))).bind fun y154 => (if 1 ≤ (l0.length : Int) then ((some (l0.drop 1 : List (S50))).bind fun y157 => (if y154.length + y157.length < 8796093022208 then (some ((y154 ++ y157), true)) else (none))) else (none))) else (none))) else (if (((rd_T50 l0 0).f0) == ((rd_T50 l1 0).f0) && (((rd_T50 l0 0).f1) == ((rd_T50 l1 0).f1))) = true then ((spec_l10Back.f k l1).bind fun t165 => (if 1 ≤ (l0.length : Int) then ((some (l0.drop 1 : List (S50))).bind fun y168 => (if t165.length + y168.length < 8796093022208 then (some ((t165 ++ y168), true)) else (none))) else (none))) else (some (([] : List (S50)), false))))) else (none)) else (none))) else (none)) else (none)) else (none)) else (none)) = some (r1, r2) := h
 clear h
 by_cases c3 : 0 < (l0.length : Int)
 ·rw [if_pos c3] at H
  have c3b0 : decide (0 < (l0.length : Int)) = true := decide_eq_true c3
  have c3b1 : decide (0 < l0.length) = true := decide_eq_true (by omega)
  clear c3
  obtain ⟨ji4, hji4⟩ : ∃ j_ : Int, (wrap64 ((l0.length : Int) - 1)) = j_ := ⟨_, rfl⟩
  replace H : (if 0 ≤ (ji4) then (if (ji4) < (l0.length : Int) then (if 0 < (l1.length : Int) then (if (((rd_T50 l0 (ji4)).f0) == ((rd_T50 l1 0).f0) && (((rd_T50 l0 (ji4)).f1) == ((rd_T50 l1 0).f1))) = true then ((some (([] : List (S50)) : List (S50))).bind fun y120 => (if y120.length + l0.length < 8796093022208 then ((some (y120 ++ l0 : List (S50))).bind fun y123 => (if 1 ≤ (l1.length : Int) then ((some (l1.drop 1 : List (S50))).bind fun y126 => (if y123.length + y126.length < 8796093022208 then (some ((y123 ++ y126), true)) else (none))) else (none))) else (none))) else (if 0 ≤ (wrap64 ((l1.length : Int) - 1)) then (if (wrap64 ((l1.length : Int) - 1)) < (l1.length : Int) then (if (((rd_T50 l0 (ji4)).f0) == ((rd_T50 l1 (wrap64 ((l1.length : Int) - 1))).f0) && (((rd_T50 l0 (ji4)).f1) == ((rd_T50 l1 (wrap64 ((l1.length : Int) - 1))).f1))) = true then ((some (([] : List (S50)) : List (S50))).bind fun y134 => (if y134.length + l0.length < 8796093022208 then ((some (y134 ++ l0 : List (S50))).bind fun y137 => ((spec_l10Back.f k l1).bind fun t140 => (if 1 ≤ (t140.length : Int) then ((some (t140.drop 1 : List (S50))).bind fun y143 => (if y137.length + y143.length < 8796093022208 then (some ((y137 ++ y143), true)) else (none))) else (none)))) else (none))) else (if (((rd_T50 l0 0).f0) == ((rd_T50 l1 (wrap64 ((l1.length : Int) - 1))).f0) && (((rd_T50 l0 0).f1) == ((rd_T50 l1 (wrap64 ((l1.length : Int) - 1))).f1))) = true then ((some (([] : List (S50)) : List (S50))).bind fun y151 => (if y151.length + l1.length < 8796093022208 then ((some (y151 ++ l1 : List (S50))).bind fun y154 => (if 1 ≤ (l0.length : Int) then ((some (l0.drop 1 : List (S50))).bind fun y157 => (if y154.length + y157.length < 8796093022208 then (some ((y154 ++ y157), true)) else (none))) else (none))) else (none))) else (if (((rd_T50 l0 0).f0) == ((rd_T50 l1 0).f0) && (((rd_T50 l0 0).f1) == ((rd_T50 l1 0).f1))) = true then ((spec_l10Back.f k l1).bind fun t165 => (if 1 ≤ (l0.length : Int) then ((some (l0.drop 1 : List (S50))).bind fun y168 => (if t165.length + y168.length < 8796093022208 then (some ((t165 ++ y168), true)) else (none))) else (none))) else (some (([] : List (S50)), false))))) else (none)) else (none))) else (none)) else (none)) else (none)) = some (r1, r2) := by first | (rw [hji4] at H; exact H) | (simp only [hji4] at H ⊢; exact H)
  have hji4w : (IntKind.i64.wrap ((l0.length : Int) - 1)) = ji4 := (i64_w _).trans hji4
  by_cases c5 : 0 ≤ (ji4)
  ·rw [if_pos c5] at H
   have c5b0 : decide (0 ≤ (ji4)) = true := decide_eq_true c5
   clear c5
   by_cases c6 : (ji4) < (l0.length : Int)
   ·rw [if_pos c6] at H
    have c6b0 : decide ((ji4) < (l0.length : Int)) = true := decide_eq_true c6
    clear c6
    by_cases c7 : 0 < (l1.length : Int)
    ·rw [if_pos c7] at H
     have c7b0 : decide (0 < (l1.length : Int)) = true := decide_eq_true c7
     have c7b1 : decide (0 < l1.length) = true := decide_eq_true (by omega)
     clear c7
     by_cases c8 : (((rd_T50 l0 (ji4)).f0) == ((rd_T50 l1 0).f0) && (((rd_T50 l0 (ji4)).f1) == ((rd_T50 l1 0).f1))) = true
     ·rw [if_pos c8] at H
      have c8b0 : (((rd_T50 l0 (ji4)).f0) == ((rd_T50 l1 0).f0) && (((rd_T50 l0 (ji4)).f1) == ((rd_T50 l1 0).f1))) = true := c8
      (try (have c8b1 : decide (((rd_T50 l0 (ji4)).f0) = ((rd_T50 l1 0).f0) && (((rd_T50 l0 (ji4)).f1) == ((rd_T50 l1 0).f1))) = true := by simpa using c8))
      (try (have c8b2 : (((rd_T50 l0 (ji4)).f0) == ((rd_T50 l1 0).f0) && (((rd_T50 l0 (ji4)).f1) == ((rd_T50 l1 0).f1))) = true := by simpa using c8))
      clear c8
      obtain ⟨y120, hy120⟩ : ∃ y_ : List (S50), y_ = (([] : List (S50))) := ⟨_, rfl⟩
      replace H : (if y120.length + l0.length < 8796093022208 then ((some (y120 ++ l0 : List (S50))).bind fun y123 => (if 1 ≤ (l1.length : Int) then ((some (l1.drop 1 : List (S50))).bind fun y126 => (if y123.length + y126.length < 8796093022208 then (some ((y123 ++ y126), true)) else (none))) else (none))) else (none)) = some (r1, r2) := by first | (rw [hy120]; with_reducible exact H) | (have H2_ := (Option.bind_some _ _).symm.trans H; rw [hy120]; with_reducible exact H2_) | (have H2_ := (Option.bind_some _ _).symm.trans H; with_reducible exact H2_) | with_reducible exact H | (rw [hy120]; exact H) | exact H
      have Ny120 := Aside0.mk hy120
      clear hy120
      by_cases c9 : y120.length + l0.length < 8796093022208
      ·rw [if_pos c9] at H
       have LMc9 := Aside0.mk c9
       clear c9
       obtain ⟨y123, hy123⟩ : ∃ y_ : List (S50), y_ = (y120 ++ l0) := ⟨_, rfl⟩
       replace H : (if 1 ≤ (l1.length : Int) then ((some (l1.drop 1 : List (S50))).bind fun y126 => (if y123.length + y126.length < 8796093022208 then (some ((y123 ++ y126), true)) else (none))) else (none)) = some (r1, r2) := by first | (rw [hy123]; with_reducible exact H) | (have H2_ := (Option.bind_some _ _).symm.trans H; rw [hy123]; with_reducible exact H2_) | (have H2_ := (Option.bind_some _ _).symm.trans H; with_reducible exact H2_) | with_reducible exact H | (rw [hy123]; exact H) | exact H
       have Ny123 := Aside0.mk hy123
       clear hy123
       by_cases c10 : 1 ≤ (l1.length : Int)
       ·rw [if_pos c10] at H
        have c10b0 := eq_true c10
        have c10b1 : decide (1 ≤ (l1.length : Int)) = true := decide_eq_true c10
        clear c10
        obtain ⟨y126, hy126⟩ : ∃ y_ : List (S50), y_ = (l1.drop 1) := ⟨_, rfl⟩
        replace H : (if y123.length + y126.length < 8796093022208 then (some ((y123 ++ y126), true)) else (none)) = some (r1, r2) := by first | (rw [hy126]; with_reducible exact H) | (have H2_ := (Option.bind_some _ _).symm.trans H; rw [hy126]; with_reducible exact H2_) | (have H2_ := (Option.bind_some _ _).symm.trans H; with_reducible exact H2_) | with_reducible exact H | (rw [hy126]; exact H) | exact H
        have Ny126 := Aside0.mk hy126
        clear hy126
        by_cases c11 : y123.length + y126.length < 8796093022208
        ·rw [if_pos c11] at H
         have LMc11 := Aside0.mk c11
         clear c11
         obtain ⟨y130, hy130⟩ : ∃ y_ : List (S50), y_ = (y123 ++ y126) := ⟨_, rfl⟩
         replace H : (some (y130, true)) = some (r1, r2) := by first | (rw [hy130]; with_reducible exact H) | (have H2_ := (Option.bind_some _ _).symm.trans H; rw [hy130]; with_reducible exact H2_) | (have H2_ := (Option.bind_some _ _).symm.trans H; with_reducible exact H2_) | with_reducible exact H | (rw [hy130]; exact H) | exact H
         have Ny130 := Aside0.mk hy130
         clear hy130
         simp only [Option.some.injEq, Prod.mk.injEq] at H
         obtain ⟨rfl, rfl⟩ := H
         have p115 : 0 ≤ (0 : Int) := (by omega)
         have q115 : 0 < (l0.length : Int) := od_
         obtain ⟨ad115, e115, hx115_0, hx115_1⟩ := at_T50 HR0.out 0 p115 q115
         cases e115
         have qi115 : (0 < l0.length) = True := eq_true (by omega)
         (try rw [show ((0 : Int)).toNat = 0 from rfl] at hx115_0)
         (try rw [show 0 * 2 = 0 from rfl] at hx115_0)
         (try rw [Addr.add_zero'] at hx115_0)
         (try rw [show ((0 : Int)).toNat = 0 from rfl] at hx115_1)
         (try rw [show 0 * 2 = 0 from rfl] at hx115_1)
         (try rw [Addr.add_zero'] at hx115_1)
         replace p115 := eq_true p115
         replace q115 := eq_true q115
         go_enter Try.func28, Try.ntmps28
         try go_wp2_with (first | ((with_reducible refine gate_dst (N := 6) rfl ?_); refine box_event ?hg (N := 6) ?hd (cs := #[.int .i64 0, .int .i64 0]) (t := 50) ?hr ?_; (case hd => rfl); (case hg => rfl); (case hr => first | (go_simp; done) | (go_simp; rfl)); intro gb116 hg w12 hbox hb; have n0_ := Aside0.mk (below_step (bw_ HB.out) hb); have n1_ := Aside0.mk (hbox); have n2_ := Aside0.mk ((ge_ hg (bw_ HB.out))); have n3_ := Aside0.mk ((ge_ hg (bw_ HB.out))); clear HB; have HB := n0_; have BK116 := n1_; have GW116 := n2_; have GE116 := n3_; clear n0_ n1_ n2_ n3_; clear hb hbox hg; have hcz13_0 : w12.cell? ⟨gb116, 0, none⟩ = some (.int .i64 0) := (blk_cell BK116.out 0).trans rfl; have hcz13_1 : w12.cell? ⟨gb116, 1, none⟩ = some (.int .i64 0) := (blk_cell BK116.out 1).trans rfl; have hfz13_0 := blk_frozen BK116.out 0; have hfz13_1 := blk_frozen BK116.out 1; have p117 : 0 ≤ ((ji4) : Int) := od_; have q117 : (ji4) < (l0.length : Int) := od_; obtain ⟨ad117, e117, hx117_0, hx117_1⟩ := at_T50 HR0.out (ji4) p117 q117; obtain rfl : ad115 = ad117 := (by injection e117); have hn117_0 : ad115.block ≠ gb116 := Nat.ne_of_lt (Nat.lt_of_lt_of_le (by have := World.block_lt_of_cell? _ _ hx117_0; first | rwa [add_block] at this | exact this) GW116.out); have hn117_1 : ad115.block ≠ gb116 := Nat.ne_of_lt (Nat.lt_of_lt_of_le (by have := World.block_lt_of_cell? _ _ hx117_0; first | rwa [add_block] at this | exact this) GW116.out); replace hx117_0 := (HB.out.cell (World.block_lt_of_cell? w _ hx117_0)).trans hx117_0; replace hx117_1 := (HB.out.cell (World.block_lt_of_cell? w _ hx117_1)).trans hx117_1; replace hx117_0 := (cell_far (p := ⟨gb116, 0, none⟩) (by first | (rw [add_block]; exact hn117_0) | (show (Addr.add _ _).block ≠ _; rw [add_block]; exact hn117_0) | exact hn117_0) (.int .i64 ((rd_T50 l0 0).f0))).trans hx117_0; replace hx117_1 := (cell_far (p := ⟨gb116, 0, none⟩) (by first | (rw [add_block]; exact hn117_0) | (show (Addr.add _ _).block ≠ _; rw [add_block]; exact hn117_0) | exact hn117_0) (.int .i64 ((rd_T50 l0 0).f0))).trans hx117_1; replace hx117_0 := (cell_far (p := ⟨gb116, 1, none⟩) (by first | (rw [add_block]; exact hn117_1) | (show (Addr.add _ _).block ≠ _; rw [add_block]; exact hn117_1) | exact hn117_1) (.int .i64 ((rd_T50 l0 0).f1))).trans hx117_0; replace hx117_1 := (cell_far (p := ⟨gb116, 1, none⟩) (by first | (rw [add_block]; exact hn117_1) | (show (Addr.add _ _).block ≠ _; rw [add_block]; exact hn117_1) | exact hn117_1) (.int .i64 ((rd_T50 l0 0).f1))).trans hx117_1; clear hn117_0; clear hn117_1; replace p117 := eq_true p117; replace q117 := eq_true q117) | ((with_reducible refine gate_dst (N := 7) rfl ?_); refine box_event ?hg (N := 7) ?hd (cs := #[.int .i64 0, .int .i64 0]) (t := 50) ?hr ?_; (case hd => rfl); (case hg => rfl); (case hr => first | (go_simp; done) | (go_simp; rfl)); intro gb118 hg w14 hbox hb; have n0_ := Aside0.mk (blk_below (g := gb116) (o := .cells #[.int .i64 ((rd_T50 l0 0).f0), .int .i64 ((rd_T50 l0 0).f1)] 50 (0, 0)) (by (with_reducible repeat (first | refine blk_drewN ?_ _ | refine blk_drew ?_ | refine blk_alloc ?_ _)); refine blk_put (cs := #[.int .i64 ((rd_T50 l0 0).f0), .int .i64 0]) ?_ 1 _ rfl; (with_reducible repeat (first | refine blk_drewN ?_ _ | refine blk_drew ?_ | refine blk_alloc ?_ _)); refine blk_put (cs := #[.int .i64 0, .int .i64 0]) ?_ 0 _ rfl; (with_reducible repeat (first | refine blk_drewN ?_ _ | refine blk_drew ?_ | refine blk_alloc ?_ _)); exact BK116.out) hb); have n1_ := Aside0.mk (below_step (bws_ HB.out) hb); have n2_ := Aside0.mk (hbox); have n3_ := Aside0.mk ((ge_ hg (bws_ HB.out))); have n4_ := Aside0.mk ((ge_ hg (bws_ HB.out))); have n5_ := Aside0.mk ((by rw [hg]; exact Nat.ne_of_lt (blk_lt (g := gb116) (o := .cells #[.int .i64 ((rd_T50 l0 0).f0), .int .i64 ((rd_T50 l0 0).f1)] 50 (0, 0)) (by (with_reducible repeat (first | refine blk_drewN ?_ _ | refine blk_drew ?_ | refine blk_alloc ?_ _)); refine blk_put (cs := #[.int .i64 ((rd_T50 l0 0).f0), .int .i64 0]) ?_ 1 _ rfl; (with_reducible repeat (first | refine blk_drewN ?_ _ | refine blk_drew ?_ | refine blk_alloc ?_ _)); refine blk_put (cs := #[.int .i64 0, .int .i64 0]) ?_ 0 _ rfl; (with_reducible repeat (first | refine blk_drewN ?_ _ | refine blk_drew ?_ | refine blk_alloc ?_ _)); exact BK116.out)) : gb116 ≠ gb118)); have n6_ := Aside0.mk ((by rw [hg]; exact Nat.ne_of_gt (blk_lt (g := gb116) (o := .cells #[.int .i64 ((rd_T50 l0 0).f0), .int .i64 ((rd_T50 l0 0).f1)] 50 (0, 0)) (by (with_reducible repeat (first | refine blk_drewN ?_ _ | refine blk_drew ?_ | refine blk_alloc ?_ _)); refine blk_put (cs := #[.int .i64 ((rd_T50 l0 0).f0), .int .i64 0]) ?_ 1 _ rfl; (with_reducible repeat (first | refine blk_drewN ?_ _ | refine blk_drew ?_ | refine blk_alloc ?_ _)); refine blk_put (cs := #[.int .i64 0, .int .i64 0]) ?_ 0 _ rfl; (with_reducible repeat (first | refine blk_drewN ?_ _ | refine blk_drew ?_ | refine blk_alloc ?_ _)); exact BK116.out)) : gb118 ≠ gb116)); clear BK116; clear HB; have BK116 := n0_; have HB := n1_; have BK118 := n2_; have GW118 := n3_; have GE118 := n4_; have NB116_118 := n5_; have NB118_116 := n6_; clear n0_ n1_ n2_ n3_ n4_ n5_ n6_; clear hb hbox hg; have hnb15 := NB118_116.out; have hnc15 := NB116_118.out; have hcz16_0 : w14.cell? ⟨gb118, 0, none⟩ = some (.int .i64 0) := (blk_cell BK118.out 0).trans rfl; have hcz16_1 : w14.cell? ⟨gb118, 1, none⟩ = some (.int .i64 0) := (blk_cell BK118.out 1).trans rfl; have hfz16_0 := blk_frozen BK118.out 0; have hfz16_1 := blk_frozen BK118.out 1))
         have n0_ : Aside0 (((w14.setCell ⟨gb118, 0, none⟩ (.int .i64 ((rd_T50 l0 (ji4)).f0))).setCell ⟨gb118, 1, none⟩ (.int .i64 ((rd_T50 l0 (ji4)).f1))).heap[gb116]? = some (.cells #[.int .i64 ((rd_T50 l0 0).f0), .int .i64 ((rd_T50 l0 0).f1)] 50 (0, 0))) := ⟨by (with_reducible repeat (first | refine blk_drewN ?_ _ | refine blk_drew ?_ | refine blk_alloc ?_ _)); refine blk_far ?_ NB116_118.out _; (with_reducible repeat (first | refine blk_drewN ?_ _ | refine blk_drew ?_ | refine blk_alloc ?_ _)); refine blk_far ?_ NB116_118.out _; (with_reducible repeat (first | refine blk_drewN ?_ _ | refine blk_drew ?_ | refine blk_alloc ?_ _)); exact BK116.out⟩
         have n1_ : Aside0 (((w14.setCell ⟨gb118, 0, none⟩ (.int .i64 ((rd_T50 l0 (ji4)).f0))).setCell ⟨gb118, 1, none⟩ (.int .i64 ((rd_T50 l0 (ji4)).f1))).heap[gb118]? = some (.cells #[.int .i64 ((rd_T50 l0 (ji4)).f0), .int .i64 ((rd_T50 l0 (ji4)).f1)] 50 (0, 0))) := ⟨by (with_reducible repeat (first | refine blk_drewN ?_ _ | refine blk_drew ?_ | refine blk_alloc ?_ _)); refine blk_put (cs := #[.int .i64 ((rd_T50 l0 (ji4)).f0), .int .i64 0]) ?_ 1 _ rfl; (with_reducible repeat (first | refine blk_drewN ?_ _ | refine blk_drew ?_ | refine blk_alloc ?_ _)); refine blk_put (cs := #[.int .i64 0, .int .i64 0]) ?_ 0 _ rfl; (with_reducible repeat (first | refine blk_drewN ?_ _ | refine blk_drew ?_ | refine blk_alloc ?_ _)); exact BK118.out⟩
         have n2_ : Aside0 (Below w.heap.size w ((w14.setCell ⟨gb118, 0, none⟩ (.int .i64 ((rd_T50 l0 (ji4)).f0))).setCell ⟨gb118, 1, none⟩ (.int .i64 ((rd_T50 l0 (ji4)).f1)))) := ⟨bws_ HB.out⟩
         (try clear BK116)
         (try clear BK118)
         (try clear HB)
         generalize ((w14.setCell ⟨gb118, 0, none⟩ (.int .i64 ((rd_T50 l0 (ji4)).f0))).setCell ⟨gb118, 1, none⟩ (.int .i64 ((rd_T50 l0 (ji4)).f1))) = w17 at n0_ n1_ n2_ ⊢
         have BK116 := n0_; have BK118 := n1_; have HB := n2_
         clear n0_ n1_ n2_
         have n0_ := Aside0.mk (blk_drew BK116.out)
         have n1_ := Aside0.mk (blk_drew BK118.out)
         have n2_ := Aside0.mk (below_drew1 HB.out)
         clear BK116 BK118 HB
         have BK116 := n0_; have BK118 := n1_; have HB := n2_
         clear n0_ n1_ n2_
         have p119 : 0 ≤ (0 : Int) := (by omega)
         have q119 : 0 < (l1.length : Int) := od_
         obtain ⟨ad119, e119, hx119_0, hx119_1⟩ := at_T50 HR1.out 0 p119 q119
         have hw119_1 := hx119_1
         (try rw [show ((0 : Int)).toNat = 0 from rfl] at hw119_1)
         (try rw [show 0 * 2 = 0 from rfl] at hw119_1)
         (try rw [Addr.add_zero'] at hw119_1)
         have hw119_0 := hx119_0
         (try rw [show ((0 : Int)).toNat = 0 from rfl] at hw119_0)
         (try rw [show 0 * 2 = 0 from rfl] at hw119_0)
         (try rw [Addr.add_zero'] at hw119_0)
         cases e119
         have qi119 : (0 < l1.length) = True := eq_true (by omega)
         (try rw [show ((0 : Int)).toNat = 0 from rfl] at hx119_0)
         (try rw [show 0 * 2 = 0 from rfl] at hx119_0)
         (try rw [Addr.add_zero'] at hx119_0)
         (try rw [show ((0 : Int)).toNat = 0 from rfl] at hx119_1)
         (try rw [show 0 * 2 = 0 from rfl] at hx119_1)
         (try rw [Addr.add_zero'] at hx119_1)
         replace hx119_0 := (HB.out.cell (World.block_lt_of_cell? w _ hx119_0)).trans hx119_0
         replace hx119_1 := (HB.out.cell (World.block_lt_of_cell? w _ hx119_1)).trans hx119_1
         replace p119 := eq_true p119
         replace q119 := eq_true q119
         refine start_ (n := 6) (S := fun w' => w'.cell? ⟨gb118, 0, none⟩ = some (.int .i64 ((rd_T50 l0 (ji4)).f0)) ∧ w'.cell? ⟨gb118, 1, none⟩ = some (.int .i64 ((rd_T50 l0 (ji4)).f1)) ∧ w'.cell? ad119 = some (.int .i64 ((rd_T50 l1 0).f0)) ∧ w'.cell? ⟨ad119.block, ad119.off + 1, none⟩ = some (.int .i64 ((rd_T50 l1 0).f1))) (ds := []) #[false, false, false, false, false, false] (by kernel_rfl) rfl rfl ⟨(blk_cell BK118.out 0).trans rfl, (blk_cell BK118.out 1).trans rfl, ((HB.out.cell (World.block_lt_of_cell? w _ hw119_0)).trans hw119_0), ((HB.out.cell (World.block_lt_of_cell? w _ hw119_1)).trans hw119_1)⟩ (fun hHeld => ?_)
         generalize w17.drew = w18 at BK116 BK118 HB hx119_0 hx119_1 hHeld ⊢
         refine pure_ (i := 1) (N := some 19) (v := ?_) (a' := ?_) #[false, true, false, false, false, false] rfl rfl (by kernel_rfl) (fun _ _ _ h => h) (Or.inl ⟨by rfl, ?_⟩) ?_ ?_
         rotate_left
         ·intro w'
          go_simp
          with_reducible rfl
         rotate_left
         ·simp only [Act.put, List.setIfInBounds_toArray, List.set_cons_zero, List.set_cons_succ, i64_w, i32_w]
          rfl
         refine pure_ (i := 2) (N := some 20) (v := ?_) (a' := ?_) #[false, true, true, false, false, false] rfl rfl (by kernel_rfl) (fun _ _ _ h => h) (Or.inl ⟨by rfl, ?_⟩) ?_ ?_
         rotate_left
         ·intro w'
          go_simp
          with_reducible rfl
         rotate_left
         ·simp only [Act.put, List.setIfInBounds_toArray, List.set_cons_zero, List.set_cons_succ, i64_w, i32_w]
          rfl
         refine take_ (i := 0) (N := some 18) (v := ?_) (a' := ?_) #[true, true, true, false, false, false] rfl rfl (by kernel_rfl) (fun _ _ _ h => h) (Or.inl ⟨by rfl, ?_⟩) hHeld ?_ ?_
         rotate_left
         ·rintro w' ⟨s0, s1, s2, s3⟩
          go_simp
          with_reducible rfl
         rotate_left
         ·simp only [Act.put, List.setIfInBounds_toArray, List.set_cons_zero, List.set_cons_succ, i64_w, i32_w]
          rfl
         refine take_ (i := 3) (N := some 21) (v := ?_) (a' := ?_) #[true, true, true, true, false, false] rfl rfl (by kernel_rfl) (fun _ _ _ h => h) (Or.inl ⟨by rfl, ?_⟩) hHeld ?_ ?_
         rotate_left
         ·rintro w' ⟨s0, s1, s2, s3⟩
          go_simp
          with_reducible rfl
         rotate_left
         ·simp only [Act.put, List.setIfInBounds_toArray, List.set_cons_zero, List.set_cons_succ, i64_w, i32_w]
          rfl
         refine pure_ (i := 4) (N := some 22) (v := ?_) (a' := ?_) #[true, true, true, true, true, false] rfl rfl (by kernel_rfl) (fun _ _ _ h => h) (Or.inl ⟨by rfl, ?_⟩) ?_ ?_
         rotate_left
         ·intro w'
          go_simp
          with_reducible rfl
         rotate_left
         ·simp only [Act.put, List.setIfInBounds_toArray, List.set_cons_zero, List.set_cons_succ, i64_w, i32_w]
          rfl
         refine pure_ (i := 5) (N := some 17) (v := ?_) (a' := ?_) #[true, true, true, true, true, true] rfl rfl (by kernel_rfl) (fun _ _ _ h => h) (Or.inl ⟨by rfl, ?_⟩) ?_ ?_
         rotate_left
         ·intro w'
          go_simp
          with_reducible rfl
         rotate_left
         ·simp only [Act.put, List.setIfInBounds_toArray, List.set_cons_zero, List.set_cons_succ, i64_w, i32_w]
          rfl
         refine done_ (by kernel_rfl) ?_
         try go_wp2
         have n0_ := Aside0.mk (blk_drew BK116.out)
         have n1_ := Aside0.mk (blk_drew BK118.out)
         have n2_ := Aside0.mk (below_drew1 HB.out)
         clear BK116 BK118 HB
         have BK116 := n0_; have BK118 := n1_; have HB := n2_
         clear n0_ n1_ n2_
         have q20 : (1 : Int) ≤ ((l1.length : Int) : Int) := od_
         obtain ⟨i020, hi020, _, hsz20, _⟩ := info_parts info50
         have hroom20 : l1.length ≤ c1 := HC1.out
         have hC20 : Kd.C k50 _ (some ad119) l1.length l1 := HR1.out
         have hcut20 := cut_from (P := Try.prog) 24 50 .i64 Try.underlying24 hi020 2 hsz20 (some ad119) l1.length c1 1 (by omega) q20
         have hr20 := Kd.C_drop (m := (1 : Int).toNat) (c := c1) hC20 (by omega) hroom20
         obtain ⟨A20, hA20⟩ : ∃ A_z, A_z = (if c1 = (1 : Int).toNat then (some ad119) else ((some ad119) : Option Addr).map (·.add ((1 : Int).toNat * 2))) := ⟨_, rfl⟩
         obtain ⟨c20, hc20⟩ : ∃ c_z, c_z = c1 - (1 : Int).toNat := ⟨_, rfl⟩
         have hy20 : y126.length = l1.length - (1 : Int).toNat := (by rw [Ny126.out, List.length_drop] <;> omega)
         rw [show (l1).drop (1 : Int).toNat = y126 from Ny126.out.symm] at hr20
         replace hr20 : Kd.C k50 _ A20 y126.length y126 := (by rw [hA20]; exact hr20)
         rw [← hy20, ← hA20, ← hc20] at hcut20
         have HR129 := Aside0.mk hr20
         have HC129 := Aside0.mk (show y126.length ≤ c20 from by rw [hy20, hc20]; exact Nat.sub_le_sub_right hroom20 _)
         clear hr20 hC20 hroom20 hi020 hsz20 hc20
         have KY20 := Aside0.mk hy20
         have KA20 := Aside0.mk hA20
         clear hy20 hA20
         replace q20 := eq_true q20
         refine start_ (n := 8) (S := fun w' => True) (ds := []) #[false, false, false, false, false, false, false, false] (by kernel_rfl) rfl rfl trivial (fun hHeld => ?_); refine with_tabW spec_l10Join.tab4 spec_l10Join.bits4 (fun HT_ HW_ => ?_)
         generalize w18.drew = w19 at BK116 BK118 HB HR129 hHeld ⊢
         refine pure_ (i := 1) (N := some 24) (v := ?_) (a' := ?_) #[false, true, false, false, false, false, false, false] rfl rfl (any_of HT_.out (by kernel_rfl)) (fun _ _ _ h => h) (Or.inl ⟨by rfl, ?_⟩) ?_ ?_
         rotate_left
         ·intro w'
          go_simp
          with_reducible rfl
         rotate_left
         ·simp only [Act.put, List.setIfInBounds_toArray, List.set_cons_zero, List.set_cons_succ, i64_w, i32_w]
          rfl
         refine pure_ (i := 3) (N := some 26) (v := ?_) (a' := ?_) #[false, true, false, true, false, false, false, false] rfl rfl (any_of HT_.out (by kernel_rfl)) (fun _ _ _ h => h) (Or.inl ⟨by rfl, ?_⟩) ?_ ?_
         rotate_left
         ·intro w'
          go_simp
          with_reducible rfl
         rotate_left
         ·simp only [Act.put, List.setIfInBounds_toArray, List.set_cons_zero, List.set_cons_succ, i64_w, i32_w]
          rfl
         refine pure_ (i := 4) (N := some 27) (v := ?_) (a' := ?_) #[false, true, false, true, true, false, false, false] rfl rfl (any_of HT_.out (by kernel_rfl)) (fun _ _ _ h => h) (Or.inl ⟨by rfl, ?_⟩) ?_ ?_
         rotate_left
         ·intro w'
          go_simp
          with_reducible rfl
         rotate_left
         ·simp only [Act.put, List.setIfInBounds_toArray, List.set_cons_zero, List.set_cons_succ, i64_w, i32_w]
          rfl
         refine one_ (i := 0) (N := some 23) #[true, true, false, true, true, false, false, false] rfl rfl (one_of HT_.out (by kernel_rfl)) (by decide) (fun K hK => ?_)
         refine Kd.R_lit_step k50 _ 50 ?hg (N := 23) ?hd (xs := ([] : List (S50))) (inner := []) (ok := fun _ => True) (okp := fun _ => True) ?hr ?hp (fun _ hk => hk) trivial (Below.refl _ _) (Nat.le_refl _) (by simp) ?_; (case hd => rfl); (case hg => rfl); (case hr => first | (go_simp; done) | (go_simp; rfl)); (case hp => exact (Reps.none _ _))
         intro v121 w21 ho22 hb hg_ hnew_
         clear hg_ hnew_
         (first | rw [← Ny120.out] at ho22 | (simp only [Int.reduceToNat] at ho22; rw [← Ny120.out] at ho22))
         have n0_ := Aside0.mk (Kd.R_lower (Kd.R_newB (Kd.R_newB ho22 (g := gb116) (o := .cells #[.int .i64 ((rd_T50 l0 0).f0), .int .i64 ((rd_T50 l0 0).f1)] 50 (0, 0)) (bk_ BK116.out)) (g := gb118) (o := .cells #[.int .i64 ((rd_T50 l0 (ji4)).f0), .int .i64 ((rd_T50 l0 (ji4)).f1)] 50 (0, 0)) (bk_ BK118.out)) (below_size (bws_ HB.out)))
         have n1_ := Aside0.mk (blk_below (bk_ BK116.out) hb)
         have n2_ := Aside0.mk (blk_below (bk_ BK118.out) hb)
         have n3_ := Aside0.mk (below_step (bws_ HB.out) hb)
         clear BK116 BK118 HB
         have HO122 := n0_; have BK116 := n1_; have BK118 := n2_; have HB := n3_
         clear n0_ n1_ n2_ n3_ hb ho22
         refine hK.out _ _ trivial (fun hHeld => ?_)
         clear hK K
         refine norm_ (a' := ?_) ?_ ?_
         rotate_left
         ·show Act.put _ (some 23) _ = _
          simp only [Act.put, List.setIfInBounds_toArray, List.set_cons_zero, List.set_cons_succ, i64_w, i32_w]
          rfl
         refine one_ (i := 2) (N := some 25) #[true, true, true, true, true, false, false, false] rfl rfl (one_of HT_.out (by kernel_rfl)) (by decide) (fun K hK => ?_)
         refine Kd.R_append_rows_step k50 (w0 := w) w.heap.size (by rfl) (.tmp 23) (.tmp 24) 24 50 (.agg #[(.int .i64 0), (.int .i64 0)]) 16 rfl Try.underlying24 info50 rfl (by decide) (by omega) v121 y120 l0 _ _ _ (fun k_ => k_ ≠ gb116 ∧ k_ ≠ gb118) (fun _ => False) rfl rfl ?aO ?aR (fun _ _ h => h) (fun _ h => h.elim) ?aF ?aB ?aS ?aL ?_
         (case aR => repeat (first | exact (Kd.C_below HR0.out HB.out) | (with_reducible refine Kd.C_alloc ?_ _) | (with_reducible refine Kd.C_drewN ?_ _) | (with_reducible refine Kd.C_drew ?_)))
         (case aB => exact (bws_ HB.out))
         (case aF => exact (fun k_ hk => ⟨Kd.freshB (g := gb116) (o := .cells #[.int .i64 ((rd_T50 l0 0).f0), .int .i64 ((rd_T50 l0 0).f1)] 50 (0, 0)) (bk_ BK116.out) k_ hk, Kd.freshB (g := gb118) (o := .cells #[.int .i64 ((rd_T50 l0 (ji4)).f0), .int .i64 ((rd_T50 l0 (ji4)).f1)] 50 (0, 0)) (bk_ BK118.out) k_ hk⟩))
         (case aO => exact (by (with_reducible repeat (first | apply Kd.R_alloc | apply Kd.R_drewN | apply Kd.R_drew)); exact Kd.R_mono HO122.out (fun _ hk => ⟨hk.1.2, hk.2⟩)))
         (case aS => exact (below_size (bws_ HB.out)))
         (case aL => have := LMc9.out; omega)
         intro v124 w23 ho hb hg hat
         rw [← Ny123.out] at ho
         have n0_ := Aside0.mk (blk_grown (g := gb116) (o := .cells #[.int .i64 ((rd_T50 l0 0).f0), .int .i64 ((rd_T50 l0 0).f1)] 50 (0, 0)) (bk_ BK116.out) hg (Kd.R_away HO122.out (fun _ hk => hk.1.2)))
         have n1_ := Aside0.mk (blk_grown (g := gb118) (o := .cells #[.int .i64 ((rd_T50 l0 (ji4)).f0), .int .i64 ((rd_T50 l0 (ji4)).f1)] 50 (0, 0)) (bk_ BK118.out) hg (Kd.R_away HO122.out (fun _ hk => hk.2)))
         have n2_ := Aside0.mk (hb)
         have n3_ := Aside0.mk (ho)
         clear BK116 BK118 HB HO122
         have BK116 := n0_; have BK118 := n1_; have HB := n2_; have HO125 := n3_
         clear n0_ n1_ n2_ n3_ ho hb hg hat
         refine hK.out _ _ trivial (fun hHeld => ?_)
         clear hK K
         refine norm_ (a' := ?_) ?_ ?_
         rotate_left
         ·show Act.put _ (some 25) _ = _
          simp only [Act.put, List.setIfInBounds_toArray, List.set_cons_zero, List.set_cons_succ, i64_w, i32_w]
          rfl
         refine one_ (i := 5) (N := some 28) #[true, true, true, true, true, true, false, false] rfl rfl (one_of HT_.out (by kernel_rfl)) (by decide) (fun K hK => ?_)
         refine Kd.R_append_rows_step k50 (w0 := w) w.heap.size (by rfl) (.tmp 25) (.tmp 27) 24 50 (.agg #[(.int .i64 0), (.int .i64 0)]) 16 rfl Try.underlying24 info50 rfl (by decide) (by omega) v124 y123 y126 _ _ _ (fun k_ => k_ ≠ gb116 ∧ k_ ≠ gb118) (fun _ => False) rfl rfl ?aO ?aR (fun _ _ h => h) (fun _ h => h.elim) ?aF ?aB ?aS ?aL ?_
         (case aR => repeat (first | exact (Kd.C_below HR129.out HB.out) | (with_reducible refine Kd.C_alloc ?_ _) | (with_reducible refine Kd.C_drewN ?_ _) | (with_reducible refine Kd.C_drew ?_)))
         (case aB => exact (bws_ HB.out))
         (case aF => exact (fun k_ hk => ⟨Kd.freshB (g := gb116) (o := .cells #[.int .i64 ((rd_T50 l0 0).f0), .int .i64 ((rd_T50 l0 0).f1)] 50 (0, 0)) (bk_ BK116.out) k_ hk, Kd.freshB (g := gb118) (o := .cells #[.int .i64 ((rd_T50 l0 (ji4)).f0), .int .i64 ((rd_T50 l0 (ji4)).f1)] 50 (0, 0)) (bk_ BK118.out) k_ hk⟩))
         (case aO => exact (by (with_reducible repeat (first | apply Kd.R_alloc | apply Kd.R_drewN | apply Kd.R_drew)); exact HO125.out))
         (case aS => exact (below_size (bws_ HB.out)))
         (case aL => have := LMc11.out; omega)
         intro v131 w24 ho hb hg hat
         rw [← Ny130.out] at ho
         have n0_ := Aside0.mk (blk_grown (g := gb116) (o := .cells #[.int .i64 ((rd_T50 l0 0).f0), .int .i64 ((rd_T50 l0 0).f1)] 50 (0, 0)) (bk_ BK116.out) hg (Kd.R_away HO125.out (fun _ hk => hk.1)))
         have n1_ := Aside0.mk (blk_grown (g := gb118) (o := .cells #[.int .i64 ((rd_T50 l0 (ji4)).f0), .int .i64 ((rd_T50 l0 (ji4)).f1)] 50 (0, 0)) (bk_ BK118.out) hg (Kd.R_away HO125.out (fun _ hk => hk.2)))
         have n2_ := Aside0.mk (hb)
         have n3_ := Aside0.mk (ho)
         clear BK116 BK118 HB HO125
         have BK116 := n0_; have BK118 := n1_; have HB := n2_; have HO132 := n3_
         clear n0_ n1_ n2_ n3_ ho hb hg hat
         refine hK.out _ _ trivial (fun hHeld => ?_)
         clear hK K
         refine norm_ (a' := ?_) ?_ ?_
         rotate_left
         ·show Act.put _ (some 28) _ = _
          simp only [Act.put, List.setIfInBounds_toArray, List.set_cons_zero, List.set_cons_succ, i64_w, i32_w]
          rfl
         refine pure_ (i := 6) (N := some 4) (v := ?_) (a' := ?_) #[true, true, true, true, true, true, true, false] rfl rfl (any_of HT_.out (by kernel_rfl)) (fun _ _ _ h => h) (Or.inl ⟨by rfl, ?_⟩) ?_ ?_
         rotate_left
         ·intro w'
          go_simp
          with_reducible rfl
         rotate_left
         ·simp only [Act.put, List.setIfInBounds_toArray, List.set_cons_zero, List.set_cons_succ, i64_w, i32_w]
          rfl
         refine pure_ (i := 7) (N := some 5) (v := ?_) (a' := ?_) #[true, true, true, true, true, true, true, true] rfl rfl (any_of HT_.out (by kernel_rfl)) (fun _ _ _ h => h) (Or.inl ⟨by rfl, ?_⟩) ?_ ?_
         rotate_left
         ·intro w'
          go_simp
          with_reducible rfl
         rotate_left
         ·simp only [Act.put, List.setIfInBounds_toArray, List.set_cons_zero, List.set_cons_succ, i64_w, i32_w]
          rfl
         refine done_ (done_of HT_.out (by kernel_rfl)) ?_
         try go_wp2
         go_ret2
         exact ⟨_, by first | rfl | (simp [errW_none, errW_some] <;> rfl) | (simp only [← hji4]; first | rfl | (simp [errW_none, errW_some] <;> rfl)) | (simp [*, errW_none, errW_some] <;> rfl), by (with_reducible repeat (first | apply Kd.R_alloc | apply Kd.R_drewN | apply Kd.R_drew)); exact Kd.R_mono HO132.out (fun _ hk => trivial), by repeat (first | (with_reducible first | exact HB.out | apply below_alloc | apply pw_below_drewN | apply below_drew1 | refine below_set ?_ GE116.out | refine below_set ?_ GE118.out) | exact HB.out)⟩
        ·rw [if_neg c11] at H
         exact absurd H (by simp)
       ·rw [if_neg c10] at H
        exact absurd H (by simp)
      ·rw [if_neg c9] at H
       exact absurd H (by simp)
     ·rw [if_neg c8] at H
      have c8b0 : (((rd_T50 l0 (ji4)).f0) == ((rd_T50 l1 0).f0) && (((rd_T50 l0 (ji4)).f1) == ((rd_T50 l1 0).f1))) = false := by simpa using c8
      (try (have c8b1 : decide (((rd_T50 l0 (ji4)).f0) = ((rd_T50 l1 0).f0) && (((rd_T50 l0 (ji4)).f1) == ((rd_T50 l1 0).f1))) = false := by simpa using c8))
      (try (have c8b2 : (((rd_T50 l0 (ji4)).f0) == ((rd_T50 l1 0).f0) && (((rd_T50 l0 (ji4)).f1) == ((rd_T50 l1 0).f1))) = false := by simpa using c8))
      (try (have c8b3 : ¬ (((rd_T50 l0 (ji4)).f0) = ((rd_T50 l1 0).f0) && (((rd_T50 l0 (ji4)).f1) == ((rd_T50 l1 0).f1))) := by simpa using c8))
      clear c8
      obtain ⟨ji25, hji25⟩ : ∃ j_ : Int, (wrap64 ((l1.length : Int) - 1)) = j_ := ⟨_, rfl⟩
      replace H : (if 0 ≤ (ji25) then (if (ji25) < (l1.length : Int) then (if (((rd_T50 l0 (ji4)).f0) == ((rd_T50 l1 (ji25)).f0) && (((rd_T50 l0 (ji4)).f1) == ((rd_T50 l1 (ji25)).f1))) = true then ((some (([] : List (S50)) : List (S50))).bind fun y134 => (if y134.length + l0.length < 8796093022208 then ((some (y134 ++ l0 : List (S50))).bind fun y137 => ((spec_l10Back.f k l1).bind fun t140 => (if 1 ≤ (t140.length : Int) then ((some (t140.drop 1 : List (S50))).bind fun y143 => (if y137.length + y143.length < 8796093022208 then (some ((y137 ++ y143), true)) else (none))) else (none)))) else (none))) else (if (((rd_T50 l0 0).f0) == ((rd_T50 l1 (ji25)).f0) && (((rd_T50 l0 0).f1) == ((rd_T50 l1 (ji25)).f1))) = true then ((some (([] : List (S50)) : List (S50))).bind fun y151 => (if y151.length + l1.length < 8796093022208 then ((some (y151 ++ l1 : List (S50))).bind fun y154 => (if 1 ≤ (l0.length : Int) then ((some (l0.drop 1 : List (S50))).bind fun y157 => (if y154.length + y157.length < 8796093022208 then (some ((y154 ++ y157), true)) else (none))) else (none))) else (none))) else (if (((rd_T50 l0 0).f0) == ((rd_T50 l1 0).f0) && (((rd_T50 l0 0).f1) == ((rd_T50 l1 0).f1))) = true then ((spec_l10Back.f k l1).bind fun t165 => (if 1 ≤ (l0.length : Int) then ((some (l0.drop 1 : List (S50))).bind fun y168 => (if t165.length + y168.length < 8796093022208 then (some ((t165 ++ y168), true)) else (none))) else (none))) else (some (([] : List (S50)), false))))) else (none)) else (none)) = some (r1, r2) := by first | (rw [hji25] at H; exact H) | (simp only [hji25] at H ⊢; exact H)
      have hji25w : (IntKind.i64.wrap ((l1.length : Int) - 1)) = ji25 := (i64_w _).trans hji25
      by_cases c26 : 0 ≤ (ji25)
      ·rw [if_pos c26] at H
       have c26b0 : decide (0 ≤ (ji25)) = true := decide_eq_true c26
       clear c26
       by_cases c27 : (ji25) < (l1.length : Int)
       ·rw [if_pos c27] at H
        have c27b0 : decide ((ji25) < (l1.length : Int)) = true := decide_eq_true c27
        clear c27
        by_cases c28 : (((rd_T50 l0 (ji4)).f0) == ((rd_T50 l1 (ji25)).f0) && (((rd_T50 l0 (ji4)).f1) == ((rd_T50 l1 (ji25)).f1))) = true
        ·rw [if_pos c28] at H
         have c28b0 : (((rd_T50 l0 (ji4)).f0) == ((rd_T50 l1 (ji25)).f0) && (((rd_T50 l0 (ji4)).f1) == ((rd_T50 l1 (ji25)).f1))) = true := c28
         (try (have c28b1 : decide (((rd_T50 l0 (ji4)).f0) = ((rd_T50 l1 (ji25)).f0) && (((rd_T50 l0 (ji4)).f1) == ((rd_T50 l1 (ji25)).f1))) = true := by simpa using c28))
         (try (have c28b2 : (((rd_T50 l0 (ji4)).f0) == ((rd_T50 l1 (ji25)).f0) && (((rd_T50 l0 (ji4)).f1) == ((rd_T50 l1 (ji25)).f1))) = true := by simpa using c28))
         clear c28
         obtain ⟨y134, hy134⟩ : ∃ y_ : List (S50), y_ = (([] : List (S50))) := ⟨_, rfl⟩
         replace H : (if y134.length + l0.length < 8796093022208 then ((some (y134 ++ l0 : List (S50))).bind fun y137 => ((spec_l10Back.f k l1).bind fun t140 => (if 1 ≤ (t140.length : Int) then ((some (t140.drop 1 : List (S50))).bind fun y143 => (if y137.length + y143.length < 8796093022208 then (some ((y137 ++ y143), true)) else (none))) else (none)))) else (none)) = some (r1, r2) := by first | (rw [hy134]; with_reducible exact H) | (have H2_ := (Option.bind_some _ _).symm.trans H; rw [hy134]; with_reducible exact H2_) | (have H2_ := (Option.bind_some _ _).symm.trans H; with_reducible exact H2_) | with_reducible exact H | (rw [hy134]; exact H) | exact H
         have Ny134 := Aside0.mk hy134
         clear hy134
         by_cases c29 : y134.length + l0.length < 8796093022208
         ·rw [if_pos c29] at H
          have LMc29 := Aside0.mk c29
          clear c29
          obtain ⟨y137, hy137⟩ : ∃ y_ : List (S50), y_ = (y134 ++ l0) := ⟨_, rfl⟩
          replace H : ((spec_l10Back.f k l1).bind fun t140 => (if 1 ≤ (t140.length : Int) then ((some (t140.drop 1 : List (S50))).bind fun y143 => (if y137.length + y143.length < 8796093022208 then (some ((y137 ++ y143), true)) else (none))) else (none))) = some (r1, r2) := by first | (rw [hy137]; with_reducible exact H) | (have H2_ := (Option.bind_some _ _).symm.trans H; rw [hy137]; with_reducible exact H2_) | (have H2_ := (Option.bind_some _ _).symm.trans H; with_reducible exact H2_) | with_reducible exact H | (rw [hy137]; exact H) | exact H
          have Ny137 := Aside0.mk hy137
          clear hy137
          replace H := Option.bind_eq_some_iff.mp H
          obtain ⟨t140, A300, H⟩ := H
          replace H : (if 1 ≤ (t140.length : Int) then ((some (t140.drop 1 : List (S50))).bind fun y143 => (if y137.length + y143.length < 8796093022208 then (some ((y137 ++ y143), true)) else (none))) else (none)) = some (r1, r2) := H
          have A30 := Aside0.mk A300
          clear A300
          by_cases c31 : 1 ≤ (t140.length : Int)
          ·rw [if_pos c31] at H
           have c31b0 := eq_true c31
           have c31b1 : decide (1 ≤ (t140.length : Int)) = true := decide_eq_true c31
           clear c31
           obtain ⟨y143, hy143⟩ : ∃ y_ : List (S50), y_ = (t140.drop 1) := ⟨_, rfl⟩
           replace H : (if y137.length + y143.length < 8796093022208 then (some ((y137 ++ y143), true)) else (none)) = some (r1, r2) := by first | (rw [hy143]; with_reducible exact H) | (have H2_ := (Option.bind_some _ _).symm.trans H; rw [hy143]; with_reducible exact H2_) | (have H2_ := (Option.bind_some _ _).symm.trans H; with_reducible exact H2_) | with_reducible exact H | (rw [hy143]; exact H) | exact H
           have Ny143 := Aside0.mk hy143
           clear hy143
           by_cases c32 : y137.length + y143.length < 8796093022208
           ·rw [if_pos c32] at H
            have LMc32 := Aside0.mk c32
            clear c32
            obtain ⟨y147, hy147⟩ : ∃ y_ : List (S50), y_ = (y137 ++ y143) := ⟨_, rfl⟩
            replace H : (some (y147, true)) = some (r1, r2) := by first | (rw [hy147]; with_reducible exact H) | (have H2_ := (Option.bind_some _ _).symm.trans H; rw [hy147]; with_reducible exact H2_) | (have H2_ := (Option.bind_some _ _).symm.trans H; with_reducible exact H2_) | with_reducible exact H | (rw [hy147]; exact H) | exact H
            have Ny147 := Aside0.mk hy147
            clear hy147
            simp only [Option.some.injEq, Prod.mk.injEq] at H
            obtain ⟨rfl, rfl⟩ := H
            have p115 : 0 ≤ (0 : Int) := (by omega)
            have q115 : 0 < (l0.length : Int) := od_
            obtain ⟨ad115, e115, hx115_0, hx115_1⟩ := at_T50 HR0.out 0 p115 q115
            cases e115
            have qi115 : (0 < l0.length) = True := eq_true (by omega)
            (try rw [show ((0 : Int)).toNat = 0 from rfl] at hx115_0)
            (try rw [show 0 * 2 = 0 from rfl] at hx115_0)
            (try rw [Addr.add_zero'] at hx115_0)
            (try rw [show ((0 : Int)).toNat = 0 from rfl] at hx115_1)
            (try rw [show 0 * 2 = 0 from rfl] at hx115_1)
            (try rw [Addr.add_zero'] at hx115_1)
            replace p115 := eq_true p115
            replace q115 := eq_true q115
            go_enter Try.func28, Try.ntmps28
            try go_wp2_with (first | ((with_reducible refine gate_dst (N := 6) rfl ?_); refine box_event ?hg (N := 6) ?hd (cs := #[.int .i64 0, .int .i64 0]) (t := 50) ?hr ?_; (case hd => rfl); (case hg => rfl); (case hr => first | (go_simp; done) | (go_simp; rfl)); intro gb116 hg w33 hbox hb; have n0_ := Aside0.mk (below_step (bw_ HB.out) hb); have n1_ := Aside0.mk (hbox); have n2_ := Aside0.mk ((ge_ hg (bw_ HB.out))); have n3_ := Aside0.mk ((ge_ hg (bw_ HB.out))); clear HB; have HB := n0_; have BK116 := n1_; have GW116 := n2_; have GE116 := n3_; clear n0_ n1_ n2_ n3_; clear hb hbox hg; have hcz34_0 : w33.cell? ⟨gb116, 0, none⟩ = some (.int .i64 0) := (blk_cell BK116.out 0).trans rfl; have hcz34_1 : w33.cell? ⟨gb116, 1, none⟩ = some (.int .i64 0) := (blk_cell BK116.out 1).trans rfl; have hfz34_0 := blk_frozen BK116.out 0; have hfz34_1 := blk_frozen BK116.out 1; have p117 : 0 ≤ ((ji4) : Int) := od_; have q117 : (ji4) < (l0.length : Int) := od_; obtain ⟨ad117, e117, hx117_0, hx117_1⟩ := at_T50 HR0.out (ji4) p117 q117; obtain rfl : ad115 = ad117 := (by injection e117); have hn117_0 : ad115.block ≠ gb116 := Nat.ne_of_lt (Nat.lt_of_lt_of_le (by have := World.block_lt_of_cell? _ _ hx117_0; first | rwa [add_block] at this | exact this) GW116.out); have hn117_1 : ad115.block ≠ gb116 := Nat.ne_of_lt (Nat.lt_of_lt_of_le (by have := World.block_lt_of_cell? _ _ hx117_0; first | rwa [add_block] at this | exact this) GW116.out); replace hx117_0 := (HB.out.cell (World.block_lt_of_cell? w _ hx117_0)).trans hx117_0; replace hx117_1 := (HB.out.cell (World.block_lt_of_cell? w _ hx117_1)).trans hx117_1; replace hx117_0 := (cell_far (p := ⟨gb116, 0, none⟩) (by first | (rw [add_block]; exact hn117_0) | (show (Addr.add _ _).block ≠ _; rw [add_block]; exact hn117_0) | exact hn117_0) (.int .i64 ((rd_T50 l0 0).f0))).trans hx117_0; replace hx117_1 := (cell_far (p := ⟨gb116, 0, none⟩) (by first | (rw [add_block]; exact hn117_0) | (show (Addr.add _ _).block ≠ _; rw [add_block]; exact hn117_0) | exact hn117_0) (.int .i64 ((rd_T50 l0 0).f0))).trans hx117_1; replace hx117_0 := (cell_far (p := ⟨gb116, 1, none⟩) (by first | (rw [add_block]; exact hn117_1) | (show (Addr.add _ _).block ≠ _; rw [add_block]; exact hn117_1) | exact hn117_1) (.int .i64 ((rd_T50 l0 0).f1))).trans hx117_0; replace hx117_1 := (cell_far (p := ⟨gb116, 1, none⟩) (by first | (rw [add_block]; exact hn117_1) | (show (Addr.add _ _).block ≠ _; rw [add_block]; exact hn117_1) | exact hn117_1) (.int .i64 ((rd_T50 l0 0).f1))).trans hx117_1; clear hn117_0; clear hn117_1; replace p117 := eq_true p117; replace q117 := eq_true q117) | ((with_reducible refine gate_dst (N := 7) rfl ?_); refine box_event ?hg (N := 7) ?hd (cs := #[.int .i64 0, .int .i64 0]) (t := 50) ?hr ?_; (case hd => rfl); (case hg => rfl); (case hr => first | (go_simp; done) | (go_simp; rfl)); intro gb118 hg w35 hbox hb; have n0_ := Aside0.mk (blk_below (g := gb116) (o := .cells #[.int .i64 ((rd_T50 l0 0).f0), .int .i64 ((rd_T50 l0 0).f1)] 50 (0, 0)) (by (with_reducible repeat (first | refine blk_drewN ?_ _ | refine blk_drew ?_ | refine blk_alloc ?_ _)); refine blk_put (cs := #[.int .i64 ((rd_T50 l0 0).f0), .int .i64 0]) ?_ 1 _ rfl; (with_reducible repeat (first | refine blk_drewN ?_ _ | refine blk_drew ?_ | refine blk_alloc ?_ _)); refine blk_put (cs := #[.int .i64 0, .int .i64 0]) ?_ 0 _ rfl; (with_reducible repeat (first | refine blk_drewN ?_ _ | refine blk_drew ?_ | refine blk_alloc ?_ _)); exact BK116.out) hb); have n1_ := Aside0.mk (below_step (bws_ HB.out) hb); have n2_ := Aside0.mk (hbox); have n3_ := Aside0.mk ((ge_ hg (bws_ HB.out))); have n4_ := Aside0.mk ((ge_ hg (bws_ HB.out))); have n5_ := Aside0.mk ((by rw [hg]; exact Nat.ne_of_lt (blk_lt (g := gb116) (o := .cells #[.int .i64 ((rd_T50 l0 0).f0), .int .i64 ((rd_T50 l0 0).f1)] 50 (0, 0)) (by (with_reducible repeat (first | refine blk_drewN ?_ _ | refine blk_drew ?_ | refine blk_alloc ?_ _)); refine blk_put (cs := #[.int .i64 ((rd_T50 l0 0).f0), .int .i64 0]) ?_ 1 _ rfl; (with_reducible repeat (first | refine blk_drewN ?_ _ | refine blk_drew ?_ | refine blk_alloc ?_ _)); refine blk_put (cs := #[.int .i64 0, .int .i64 0]) ?_ 0 _ rfl; (with_reducible repeat (first | refine blk_drewN ?_ _ | refine blk_drew ?_ | refine blk_alloc ?_ _)); exact BK116.out)) : gb116 ≠ gb118)); have n6_ := Aside0.mk ((by rw [hg]; exact Nat.ne_of_gt (blk_lt (g := gb116) (o := .cells #[.int .i64 ((rd_T50 l0 0).f0), .int .i64 ((rd_T50 l0 0).f1)] 50 (0, 0)) (by (with_reducible repeat (first | refine blk_drewN ?_ _ | refine blk_drew ?_ | refine blk_alloc ?_ _)); refine blk_put (cs := #[.int .i64 ((rd_T50 l0 0).f0), .int .i64 0]) ?_ 1 _ rfl; (with_reducible repeat (first | refine blk_drewN ?_ _ | refine blk_drew ?_ | refine blk_alloc ?_ _)); refine blk_put (cs := #[.int .i64 0, .int .i64 0]) ?_ 0 _ rfl; (with_reducible repeat (first | refine blk_drewN ?_ _ | refine blk_drew ?_ | refine blk_alloc ?_ _)); exact BK116.out)) : gb118 ≠ gb116)); clear BK116; clear HB; have BK116 := n0_; have HB := n1_; have BK118 := n2_; have GW118 := n3_; have GE118 := n4_; have NB116_118 := n5_; have NB118_116 := n6_; clear n0_ n1_ n2_ n3_ n4_ n5_ n6_; clear hb hbox hg; have hnb36 := NB118_116.out; have hnc36 := NB116_118.out; have hcz37_0 : w35.cell? ⟨gb118, 0, none⟩ = some (.int .i64 0) := (blk_cell BK118.out 0).trans rfl; have hcz37_1 : w35.cell? ⟨gb118, 1, none⟩ = some (.int .i64 0) := (blk_cell BK118.out 1).trans rfl; have hfz37_0 := blk_frozen BK118.out 0; have hfz37_1 := blk_frozen BK118.out 1))
            have n0_ : Aside0 (((w35.setCell ⟨gb118, 0, none⟩ (.int .i64 ((rd_T50 l0 (ji4)).f0))).setCell ⟨gb118, 1, none⟩ (.int .i64 ((rd_T50 l0 (ji4)).f1))).heap[gb116]? = some (.cells #[.int .i64 ((rd_T50 l0 0).f0), .int .i64 ((rd_T50 l0 0).f1)] 50 (0, 0))) := ⟨by (with_reducible repeat (first | refine blk_drewN ?_ _ | refine blk_drew ?_ | refine blk_alloc ?_ _)); refine blk_far ?_ NB116_118.out _; (with_reducible repeat (first | refine blk_drewN ?_ _ | refine blk_drew ?_ | refine blk_alloc ?_ _)); refine blk_far ?_ NB116_118.out _; (with_reducible repeat (first | refine blk_drewN ?_ _ | refine blk_drew ?_ | refine blk_alloc ?_ _)); exact BK116.out⟩
            have n1_ : Aside0 (((w35.setCell ⟨gb118, 0, none⟩ (.int .i64 ((rd_T50 l0 (ji4)).f0))).setCell ⟨gb118, 1, none⟩ (.int .i64 ((rd_T50 l0 (ji4)).f1))).heap[gb118]? = some (.cells #[.int .i64 ((rd_T50 l0 (ji4)).f0), .int .i64 ((rd_T50 l0 (ji4)).f1)] 50 (0, 0))) := ⟨by (with_reducible repeat (first | refine blk_drewN ?_ _ | refine blk_drew ?_ | refine blk_alloc ?_ _)); refine blk_put (cs := #[.int .i64 ((rd_T50 l0 (ji4)).f0), .int .i64 0]) ?_ 1 _ rfl; (with_reducible repeat (first | refine blk_drewN ?_ _ | refine blk_drew ?_ | refine blk_alloc ?_ _)); refine blk_put (cs := #[.int .i64 0, .int .i64 0]) ?_ 0 _ rfl; (with_reducible repeat (first | refine blk_drewN ?_ _ | refine blk_drew ?_ | refine blk_alloc ?_ _)); exact BK118.out⟩
            have n2_ : Aside0 (Below w.heap.size w ((w35.setCell ⟨gb118, 0, none⟩ (.int .i64 ((rd_T50 l0 (ji4)).f0))).setCell ⟨gb118, 1, none⟩ (.int .i64 ((rd_T50 l0 (ji4)).f1)))) := ⟨bws_ HB.out⟩
            (try clear BK116)
            (try clear BK118)
            (try clear HB)
            generalize ((w35.setCell ⟨gb118, 0, none⟩ (.int .i64 ((rd_T50 l0 (ji4)).f0))).setCell ⟨gb118, 1, none⟩ (.int .i64 ((rd_T50 l0 (ji4)).f1))) = w38 at n0_ n1_ n2_ ⊢
            have BK116 := n0_; have BK118 := n1_; have HB := n2_
            clear n0_ n1_ n2_
            have n0_ := Aside0.mk (blk_drew BK116.out)
            have n1_ := Aside0.mk (blk_drew BK118.out)
            have n2_ := Aside0.mk (below_drew1 HB.out)
            clear BK116 BK118 HB
            have BK116 := n0_; have BK118 := n1_; have HB := n2_
            clear n0_ n1_ n2_
            have p119 : 0 ≤ (0 : Int) := (by omega)
            have q119 : 0 < (l1.length : Int) := od_
            obtain ⟨ad119, e119, hx119_0, hx119_1⟩ := at_T50 HR1.out 0 p119 q119
            have hw119_1 := hx119_1
            (try rw [show ((0 : Int)).toNat = 0 from rfl] at hw119_1)
            (try rw [show 0 * 2 = 0 from rfl] at hw119_1)
            (try rw [Addr.add_zero'] at hw119_1)
            have hw119_0 := hx119_0
            (try rw [show ((0 : Int)).toNat = 0 from rfl] at hw119_0)
            (try rw [show 0 * 2 = 0 from rfl] at hw119_0)
            (try rw [Addr.add_zero'] at hw119_0)
            cases e119
            have qi119 : (0 < l1.length) = True := eq_true (by omega)
            (try rw [show ((0 : Int)).toNat = 0 from rfl] at hx119_0)
            (try rw [show 0 * 2 = 0 from rfl] at hx119_0)
            (try rw [Addr.add_zero'] at hx119_0)
            (try rw [show ((0 : Int)).toNat = 0 from rfl] at hx119_1)
            (try rw [show 0 * 2 = 0 from rfl] at hx119_1)
            (try rw [Addr.add_zero'] at hx119_1)
            replace hx119_0 := (HB.out.cell (World.block_lt_of_cell? w _ hx119_0)).trans hx119_0
            replace hx119_1 := (HB.out.cell (World.block_lt_of_cell? w _ hx119_1)).trans hx119_1
            replace p119 := eq_true p119
            replace q119 := eq_true q119
            refine start_ (n := 6) (S := fun w' => w'.cell? ⟨gb118, 0, none⟩ = some (.int .i64 ((rd_T50 l0 (ji4)).f0)) ∧ w'.cell? ⟨gb118, 1, none⟩ = some (.int .i64 ((rd_T50 l0 (ji4)).f1)) ∧ w'.cell? ad119 = some (.int .i64 ((rd_T50 l1 0).f0)) ∧ w'.cell? ⟨ad119.block, ad119.off + 1, none⟩ = some (.int .i64 ((rd_T50 l1 0).f1))) (ds := []) #[false, false, false, false, false, false] (by kernel_rfl) rfl rfl ⟨(blk_cell BK118.out 0).trans rfl, (blk_cell BK118.out 1).trans rfl, ((HB.out.cell (World.block_lt_of_cell? w _ hw119_0)).trans hw119_0), ((HB.out.cell (World.block_lt_of_cell? w _ hw119_1)).trans hw119_1)⟩ (fun hHeld => ?_)
            generalize w38.drew = w39 at BK116 BK118 HB hx119_0 hx119_1 hHeld ⊢
            refine pure_ (i := 1) (N := some 19) (v := ?_) (a' := ?_) #[false, true, false, false, false, false] rfl rfl (by kernel_rfl) (fun _ _ _ h => h) (Or.inl ⟨by rfl, ?_⟩) ?_ ?_
            rotate_left
            ·intro w'
             go_simp
             with_reducible rfl
            rotate_left
            ·simp only [Act.put, List.setIfInBounds_toArray, List.set_cons_zero, List.set_cons_succ, i64_w, i32_w]
             rfl
            refine pure_ (i := 2) (N := some 20) (v := ?_) (a' := ?_) #[false, true, true, false, false, false] rfl rfl (by kernel_rfl) (fun _ _ _ h => h) (Or.inl ⟨by rfl, ?_⟩) ?_ ?_
            rotate_left
            ·intro w'
             go_simp
             with_reducible rfl
            rotate_left
            ·simp only [Act.put, List.setIfInBounds_toArray, List.set_cons_zero, List.set_cons_succ, i64_w, i32_w]
             rfl
            refine take_ (i := 0) (N := some 18) (v := ?_) (a' := ?_) #[true, true, true, false, false, false] rfl rfl (by kernel_rfl) (fun _ _ _ h => h) (Or.inl ⟨by rfl, ?_⟩) hHeld ?_ ?_
            rotate_left
            ·rintro w' ⟨s0, s1, s2, s3⟩
             go_simp
             with_reducible rfl
            rotate_left
            ·simp only [Act.put, List.setIfInBounds_toArray, List.set_cons_zero, List.set_cons_succ, i64_w, i32_w]
             rfl
            refine take_ (i := 3) (N := some 21) (v := ?_) (a' := ?_) #[true, true, true, true, false, false] rfl rfl (by kernel_rfl) (fun _ _ _ h => h) (Or.inl ⟨by rfl, ?_⟩) hHeld ?_ ?_
            rotate_left
            ·rintro w' ⟨s0, s1, s2, s3⟩
             go_simp
             with_reducible rfl
            rotate_left
            ·simp only [Act.put, List.setIfInBounds_toArray, List.set_cons_zero, List.set_cons_succ, i64_w, i32_w]
             rfl
            refine pure_ (i := 4) (N := some 22) (v := ?_) (a' := ?_) #[true, true, true, true, true, false] rfl rfl (by kernel_rfl) (fun _ _ _ h => h) (Or.inl ⟨by rfl, ?_⟩) ?_ ?_
            rotate_left
            ·intro w'
             go_simp
             with_reducible rfl
            rotate_left
            ·simp only [Act.put, List.setIfInBounds_toArray, List.set_cons_zero, List.set_cons_succ, i64_w, i32_w]
             rfl
            refine pure_ (i := 5) (N := some 17) (v := ?_) (a' := ?_) #[true, true, true, true, true, true] rfl rfl (by kernel_rfl) (fun _ _ _ h => h) (Or.inl ⟨by rfl, ?_⟩) ?_ ?_
            rotate_left
            ·intro w'
             go_simp
             with_reducible rfl
            rotate_left
            ·simp only [Act.put, List.setIfInBounds_toArray, List.set_cons_zero, List.set_cons_succ, i64_w, i32_w]
             rfl
            refine done_ (by kernel_rfl) ?_
            try go_wp2
            have n0_ := Aside0.mk (blk_drew BK116.out)
            have n1_ := Aside0.mk (blk_drew BK118.out)
            have n2_ := Aside0.mk (below_drew1 HB.out)
            clear BK116 BK118 HB
            have BK116 := n0_; have BK118 := n1_; have HB := n2_
            clear n0_ n1_ n2_
            have p133 : 0 ≤ ((ji25) : Int) := od_
            have q133 : (ji25) < (l1.length : Int) := od_
            obtain ⟨ad133, e133, hx133_0, hx133_1⟩ := at_T50 HR1.out (ji25) p133 q133
            have hw133_1 := hx133_1
            have hw133_0 := hx133_0
            obtain rfl : ad119 = ad133 := (by injection e133)
            replace hx133_0 := (HB.out.cell (World.block_lt_of_cell? w _ hx133_0)).trans hx133_0
            replace hx133_1 := (HB.out.cell (World.block_lt_of_cell? w _ hx133_1)).trans hx133_1
            replace p133 := eq_true p133
            replace q133 := eq_true q133
            refine start_ (n := 9) (S := fun w' => w'.cell? ⟨gb118, 0, none⟩ = some (.int .i64 ((rd_T50 l0 (ji4)).f0)) ∧ w'.cell? ⟨gb118, 1, none⟩ = some (.int .i64 ((rd_T50 l0 (ji4)).f1)) ∧ w'.cell? (ad119.add (((ji25)).toNat * 2)) = some (.int .i64 ((rd_T50 l1 (ji25)).f0)) ∧ w'.cell? ⟨(ad119.add (((ji25)).toNat * 2)).block, (ad119.add (((ji25)).toNat * 2)).off + 1, none⟩ = some (.int .i64 ((rd_T50 l1 (ji25)).f1))) (ds := []) #[false, false, false, false, false, false, false, false, false] (by kernel_rfl) rfl rfl ⟨(blk_cell BK118.out 0).trans rfl, (blk_cell BK118.out 1).trans rfl, ((HB.out.cell (World.block_lt_of_cell? w _ hw133_0)).trans hw133_0), ((HB.out.cell (World.block_lt_of_cell? w _ hw133_1)).trans hw133_1)⟩ (fun hHeld => ?_); refine with_tabW spec_l10Join.tab5 spec_l10Join.bits5 (fun HT_ HW_ => ?_)
            generalize w39.drew = w40 at BK116 BK118 HB hx133_0 hx133_1 hHeld ⊢
            refine pure_ (i := 1) (N := some 31) (v := ?_) (a' := ?_) #[false, true, false, false, false, false, false, false, false] rfl rfl (any_of HT_.out (by kernel_rfl)) (fun _ _ _ h => h) (Or.inl ⟨by rfl, ?_⟩) ?_ ?_
            rotate_left
            ·intro w'
             go_simp
             with_reducible rfl
            rotate_left
            ·simp only [Act.put, List.setIfInBounds_toArray, List.set_cons_zero, List.set_cons_succ, i64_w, i32_w]
             rfl
            refine pure_ (i := 2) (N := some 32) (v := ?_) (a' := ?_) #[false, true, true, false, false, false, false, false, false] rfl rfl (any_of HT_.out (by kernel_rfl)) (fun _ _ _ h => h) (Or.inl ⟨by rfl, ?_⟩) ?_ ?_
            rotate_left
            ·intro w'
             go_simp
             with_reducible rfl
            rotate_left
            ·simp only [Act.put, List.setIfInBounds_toArray, List.set_cons_zero, List.set_cons_succ, i64_w, i32_w]
             rfl
            refine pure_ (i := 3) (N := some 33) (v := ?_) (a' := ?_) #[false, true, true, true, false, false, false, false, false] rfl rfl (any_of HT_.out (by kernel_rfl)) (fun _ _ _ h => h) (Or.inl ⟨by rfl, ?_⟩) ?_ ?_
            rotate_left
            ·intro w'
             go_simp
             with_reducible rfl
            rotate_left
            ·simp only [Act.put, List.setIfInBounds_toArray, List.set_cons_zero, List.set_cons_succ, i64_w, i32_w]
             rfl
            refine pure_ (i := 4) (N := some 34) (v := ?_) (a' := ?_) #[false, true, true, true, true, false, false, false, false] rfl rfl (any_of HT_.out (by kernel_rfl)) (fun _ _ _ h => h) (Or.inl ⟨by rfl, ?_⟩) ?_ ?_
            rotate_left
            ·intro w'
             go_simp
             with_reducible rfl
            rotate_left
            ·simp only [Act.put, List.setIfInBounds_toArray, List.set_cons_zero, List.set_cons_succ, i64_w, i32_w]
             rfl
            refine pure_ (i := 5) (N := some 35) (v := ?_) (a' := ?_) #[false, true, true, true, true, true, false, false, false] rfl rfl (any_of HT_.out (by kernel_rfl)) (fun _ _ _ h => h) (Or.inl ⟨by rfl, ?_⟩) ?_ ?_
            rotate_left
            ·intro w'
             go_simp
             with_reducible rfl
            rotate_left
            ·simp only [Act.put, List.setIfInBounds_toArray, List.set_cons_zero, List.set_cons_succ, i64_w, i32_w]
             rfl
            refine take_ (i := 0) (N := some 30) (v := ?_) (a' := ?_) #[true, true, true, true, true, true, false, false, false] rfl rfl (take_ofW HT_.out HW_.out (by kernel_rfl)) (fun _ _ _ h => h) (Or.inl ⟨by rfl, ?_⟩) hHeld ?_ ?_
            rotate_left
            ·rintro w' ⟨s0, s1, s2, s3⟩
             go_simp
             with_reducible rfl
            rotate_left
            ·simp only [Act.put, List.setIfInBounds_toArray, List.set_cons_zero, List.set_cons_succ, i64_w, i32_w]
             rfl
            refine take_ (i := 6) (N := some 36) (v := ?_) (a' := ?_) #[true, true, true, true, true, true, true, false, false] rfl rfl (take_ofW HT_.out HW_.out (by kernel_rfl)) (fun _ _ _ h => h) (Or.inl ⟨by rfl, ?_⟩) hHeld ?_ ?_
            rotate_left
            ·rintro w' ⟨s0, s1, s2, s3⟩
             go_simp
             with_reducible rfl
            rotate_left
            ·simp only [Act.put, List.setIfInBounds_toArray, List.set_cons_zero, List.set_cons_succ, i64_w, i32_w]
             rfl
            refine pure_ (i := 7) (N := some 37) (v := ?_) (a' := ?_) #[true, true, true, true, true, true, true, true, false] rfl rfl (any_of HT_.out (by kernel_rfl)) (fun _ _ _ h => h) (Or.inl ⟨by rfl, ?_⟩) ?_ ?_
            rotate_left
            ·intro w'
             go_simp
             with_reducible rfl
            rotate_left
            ·simp only [Act.put, List.setIfInBounds_toArray, List.set_cons_zero, List.set_cons_succ, i64_w, i32_w]
             rfl
            refine pure_ (i := 8) (N := some 29) (v := ?_) (a' := ?_) #[true, true, true, true, true, true, true, true, true] rfl rfl (any_of HT_.out (by kernel_rfl)) (fun _ _ _ h => h) (Or.inl ⟨by rfl, ?_⟩) ?_ ?_
            rotate_left
            ·intro w'
             go_simp
             with_reducible rfl
            rotate_left
            ·simp only [Act.put, List.setIfInBounds_toArray, List.set_cons_zero, List.set_cons_succ, i64_w, i32_w]
             rfl
            refine done_ (done_of HT_.out (by kernel_rfl)) ?_
            try go_wp2_with (first | ((with_reducible refine gate_dst (N := 38) rfl ?_); refine Kd.R_lit k50 _ 50 ?hg (N := 38) ?hd (xs := ([] : List (S50))) (inner := []) (ok := fun _ => True) (okp := fun _ => True) ?hr ?hp (fun _ hk => hk) trivial (Below.refl _ _) (Nat.le_refl _) (by simp) ?_; (case hd => rfl); (case hg => rfl); (case hr => first | (go_simp; done) | (go_simp; rfl)); (case hp => exact (Reps.none _ _)); intro v135 w41 ho42 hb hg_ hnew_; clear hg_ hnew_; (first | rw [← Ny134.out] at ho42 | (simp only [Int.reduceToNat] at ho42; rw [← Ny134.out] at ho42)); have n0_ := Aside0.mk (Kd.R_lower (Kd.R_newB (Kd.R_newB ho42 (g := gb116) (o := .cells #[.int .i64 ((rd_T50 l0 0).f0), .int .i64 ((rd_T50 l0 0).f1)] 50 (0, 0)) (bk_ BK116.out)) (g := gb118) (o := .cells #[.int .i64 ((rd_T50 l0 (ji4)).f0), .int .i64 ((rd_T50 l0 (ji4)).f1)] 50 (0, 0)) (bk_ BK118.out)) (below_size (bws_ HB.out))); have n1_ := Aside0.mk (blk_below (bk_ BK116.out) hb); have n2_ := Aside0.mk (blk_below (bk_ BK118.out) hb); have n3_ := Aside0.mk (below_step (bws_ HB.out) hb); clear BK116; clear BK118; clear HB; have HO136 := n0_; have BK116 := n1_; have BK118 := n2_; have HB := n3_; clear n0_ n1_ n2_ n3_; clear hb ho42) | ((with_reducible refine gate_builtin (b := .append) (xs := #[.tmp 38, .tmp 39]) rfl ?_); at_builtin; refine Kd.R_append_rows k50 (w0 := w) w.heap.size rfl (.tmp 38) (.tmp 39) 24 50 (.agg #[(.int .i64 0), (.int .i64 0)]) 16 rfl Try.underlying24 info50 rfl (by decide) (by omega) v135 y134 l0 _ _ _ (fun k_ => k_ ≠ gb116 ∧ k_ ≠ gb118) (fun _ => False) rfl rfl ?aO ?aR (fun _ _ h => h) (fun _ h => h.elim) ?aF ?aB ?aS ?aL ?_; (case aR => repeat (first | exact (Kd.C_below HR0.out HB.out) | (with_reducible refine Kd.C_alloc ?_ _) | (with_reducible refine Kd.C_drewN ?_ _) | (with_reducible refine Kd.C_drew ?_))); (case aB => exact (bws_ HB.out)); (case aF => exact (fun k_ hk => ⟨Kd.freshB (g := gb116) (o := .cells #[.int .i64 ((rd_T50 l0 0).f0), .int .i64 ((rd_T50 l0 0).f1)] 50 (0, 0)) (bk_ BK116.out) k_ hk, Kd.freshB (g := gb118) (o := .cells #[.int .i64 ((rd_T50 l0 (ji4)).f0), .int .i64 ((rd_T50 l0 (ji4)).f1)] 50 (0, 0)) (bk_ BK118.out) k_ hk⟩)); (case aO => exact (by (with_reducible repeat (first | apply Kd.R_alloc | apply Kd.R_drewN | apply Kd.R_drew)); exact Kd.R_mono HO136.out (fun _ hk => ⟨hk.1.2, hk.2⟩))); (case aS => exact (below_size (bws_ HB.out))); (case aL => have := LMc29.out; omega); intro v138 w43 ho hb hg hat; rw [← Ny137.out] at ho; have n0_ := Aside0.mk (blk_grown (g := gb116) (o := .cells #[.int .i64 ((rd_T50 l0 0).f0), .int .i64 ((rd_T50 l0 0).f1)] 50 (0, 0)) (bk_ BK116.out) hg (Kd.R_away HO136.out (fun _ hk => hk.1.2))); have n1_ := Aside0.mk (blk_grown (g := gb118) (o := .cells #[.int .i64 ((rd_T50 l0 (ji4)).f0), .int .i64 ((rd_T50 l0 (ji4)).f1)] 50 (0, 0)) (bk_ BK118.out) hg (Kd.R_away HO136.out (fun _ hk => hk.2))); have n2_ := Aside0.mk (hb); have n3_ := Aside0.mk (ho); clear BK116; clear BK118; clear HB; clear HO136; have BK116 := n0_; have BK118 := n1_; have HB := n2_; have HO139 := n3_; clear n0_ n1_ n2_ n3_; clear ho hb hg hat) | ((with_reducible refine gate_callee (f := 45) rfl ?_); refine goesL_ (some 42) rfl rfl Try.func45 (by kernel_rfl) rfl #[.slice (some ad119) l1.length c1] rfl gl_ ?_; (with_reducible refine (spec_l10Back.calls k _ _ l1 t140 _ ?side1 ?side2 A30.out).mono ?_); (case side1 => repeat (first | exact (Kd.C_below HR1.out HB.out) | (with_reducible refine Kd.C_alloc ?_ _) | (with_reducible refine Kd.C_drewN ?_ _) | (with_reducible refine Kd.C_drew ?_))); (case side2 => exact HC1.out); rintro e w44 ⟨v141, rfl, ho0, hb⟩; refine ⟨_, rfl, ?_⟩; have n0_ := Aside0.mk (Kd.R_elder' (by (with_reducible repeat (first | apply Kd.R_alloc | apply Kd.R_drewN | apply Kd.R_drew)); exact HO139.out) (Kd.R_base ho0) hb); have n1_ := Aside0.mk (Kd.R_lower (Kd.R_newB (Kd.R_newB (Kd.R_new' ho0 (Kd.R_lt (by (with_reducible repeat (first | apply Kd.R_alloc | apply Kd.R_drewN | apply Kd.R_drew)); exact HO139.out))) (g := gb116) (o := .cells #[.int .i64 ((rd_T50 l0 0).f0), .int .i64 ((rd_T50 l0 0).f1)] 50 (0, 0)) (bk_ BK116.out)) (g := gb118) (o := .cells #[.int .i64 ((rd_T50 l0 (ji4)).f0), .int .i64 ((rd_T50 l0 (ji4)).f1)] 50 (0, 0)) (bk_ BK118.out)) (below_size (bws_ HB.out))); have n2_ := Aside0.mk (blk_below (bk_ BK116.out) hb); have n3_ := Aside0.mk (blk_below (bk_ BK118.out) hb); have n4_ := Aside0.mk (below_step (bws_ HB.out) hb); clear HO139; clear BK116; clear BK118; clear HB; have HO139 := n0_; have HO142 := n1_; have BK116 := n2_; have BK118 := n3_; have HB := n4_; clear n0_ n1_ n2_ n3_ n4_; (try clear hb); (try clear hb2); (try clear hk); (try clear hi); (try clear ho0); obtain ⟨Ao46, co46, eo46⟩ := Kd.R_slice HO142.out; subst eo46; have q45 : (1 : Int) ≤ ((t140.length : Int) : Int) := od_; obtain ⟨i045, hi045, _, hsz45, _⟩ := info_parts info50; have hroom45 : t140.length ≤ co46 := (Kd.R_reads' HO142.out).2.1; have hC45 : Kd.C k50 _ Ao46 t140.length t140 := (Kd.R_reads' HO142.out).2.2; have hcut45 := cut_from (P := Try.prog) 24 50 .i64 Try.underlying24 hi045 2 hsz45 Ao46 t140.length co46 1 (by omega) q45; have hr45 := Kd.C_drop (m := (1 : Int).toNat) (c := co46) hC45 (by omega) hroom45; obtain ⟨A45, hA45⟩ : ∃ A_z, A_z = (if co46 = (1 : Int).toNat then Ao46 else (Ao46 : Option Addr).map (·.add ((1 : Int).toNat * 2))) := ⟨_, rfl⟩; obtain ⟨c45, hc45⟩ : ∃ c_z, c_z = co46 - (1 : Int).toNat := ⟨_, rfl⟩; have hy45 : y143.length = t140.length - (1 : Int).toNat := (by rw [Ny143.out, List.length_drop] <;> omega); rw [show (t140).drop (1 : Int).toNat = y143 from Ny143.out.symm] at hr45; replace hr45 : Kd.C k50 _ A45 y143.length y143 := (by rw [hA45]; exact hr45); rw [← hy45, ← hA45, ← hc45] at hcut45; have HR146 := Aside0.mk hr45; have HC146 := Aside0.mk (show y143.length ≤ c45 from by rw [hy45, hc45]; exact Nat.sub_le_sub_right hroom45 _); clear hr45 hC45 hroom45 hi045 hsz45 hc45; have KY45 := Aside0.mk hy45; have KA45 := Aside0.mk hA45; clear hy45 hA45; have KL45 := Aside0.mk (show 1 ≤ t140.length from by omega); replace q45 := eq_true q45) | ((with_reducible refine gate_builtin (b := .append) (xs := #[.tmp 40, .tmp 43]) rfl ?_); at_builtin; refine Kd.R_append_rows k50 (w0 := w) w.heap.size rfl (.tmp 40) (.tmp 43) 24 50 (.agg #[(.int .i64 0), (.int .i64 0)]) 16 rfl Try.underlying24 info50 rfl (by decide) (by omega) v138 y137 y143 _ _ _ (fun k_ => some k_ ≠ (.slice Ao46 t140.length co46 : Value).ownBlock ∧ k_ ≠ gb116 ∧ k_ ≠ gb118) (fun _ => False) rfl rfl ?aO ?aR (fun _ _ h => h) (fun _ h => h.elim) ?aF ?aB ?aS ?aL ?_; (case aR => repeat (first | exact (by repeat (first | (with_reducible exact HR146.out) | (with_reducible refine Kd.C_alloc ?_ _) | (with_reducible refine Kd.C_drewN ?_ _) | (with_reducible refine Kd.C_drew ?_) | exact HR146.out)) | (with_reducible refine Kd.C_alloc ?_ _) | (with_reducible refine Kd.C_drewN ?_ _) | (with_reducible refine Kd.C_drew ?_))); (case aB => exact (bws_ HB.out)); (case aF => exact (fun k_ hk => ⟨Kd.fresh' (Kd.R_lt (by (with_reducible repeat (first | apply Kd.R_alloc | apply Kd.R_drewN | apply Kd.R_drew)); exact HO142.out)) k_ hk, Kd.freshB (g := gb116) (o := .cells #[.int .i64 ((rd_T50 l0 0).f0), .int .i64 ((rd_T50 l0 0).f1)] 50 (0, 0)) (bk_ BK116.out) k_ hk, Kd.freshB (g := gb118) (o := .cells #[.int .i64 ((rd_T50 l0 (ji4)).f0), .int .i64 ((rd_T50 l0 (ji4)).f1)] 50 (0, 0)) (bk_ BK118.out) k_ hk⟩)); (case aO => exact (by (with_reducible repeat (first | apply Kd.R_alloc | apply Kd.R_drewN | apply Kd.R_drew)); exact Kd.R_mono HO139.out (fun _ hk => ⟨hk.2, ⟨hk.1.1, hk.1.2⟩⟩))); (case aS => exact (below_size (bws_ HB.out))); (case aL => have := LMc32.out; omega); intro v148 w47 ho hb hg hat; rw [← Ny147.out] at ho; have n0_ := Aside0.mk (blk_grown (g := gb116) (o := .cells #[.int .i64 ((rd_T50 l0 0).f0), .int .i64 ((rd_T50 l0 0).f1)] 50 (0, 0)) (bk_ BK116.out) hg (Kd.R_away HO139.out (fun _ hk => hk.1.1))); have n1_ := Aside0.mk (blk_grown (g := gb118) (o := .cells #[.int .i64 ((rd_T50 l0 (ji4)).f0), .int .i64 ((rd_T50 l0 (ji4)).f1)] 50 (0, 0)) (bk_ BK118.out) hg (Kd.R_away HO139.out (fun _ hk => hk.1.2))); have n2_ := Aside0.mk (Kd.R_after (ok := (fun k_ => k_ ≠ gb116 ∧ k_ ≠ gb118)) (by (with_reducible repeat (first | apply Kd.R_alloc | apply Kd.R_drewN | apply Kd.R_drew)); exact Kd.R_mono HO142.out (fun _ hk => ⟨⟨hk.1.2, hk.2⟩, hk.1.1.2⟩)) hg hat); have n3_ := Aside0.mk (hb); have n4_ := Aside0.mk ((show Kd.C k50 w47 A45 y143.length y143 from by rw [Ny143.out, KA45.out]; exact Kd.C_drop (m := 1) (c := co46) ((Kd.R_reads' (Kd.R_after (ok := (fun k_ => k_ ≠ gb116 ∧ k_ ≠ gb118)) (by (with_reducible repeat (first | apply Kd.R_alloc | apply Kd.R_drewN | apply Kd.R_drew)); exact Kd.R_mono HO142.out (fun _ hk => ⟨⟨hk.1.2, hk.2⟩, hk.1.1.2⟩)) hg hat)).2.2) KL45.out ((Kd.R_reads' (Kd.R_after (ok := (fun k_ => k_ ≠ gb116 ∧ k_ ≠ gb118)) (by (with_reducible repeat (first | apply Kd.R_alloc | apply Kd.R_drewN | apply Kd.R_drew)); exact Kd.R_mono HO142.out (fun _ hk => ⟨⟨hk.1.2, hk.2⟩, hk.1.1.2⟩)) hg hat)).2.1))); have n5_ := Aside0.mk (ho); clear BK116; clear BK118; clear HO142; clear HB; clear HR146; clear HO139; have BK116 := n0_; have BK118 := n1_; have HO142 := n2_; have HB := n3_; have HR146 := n4_; have HO149 := n5_; clear n0_ n1_ n2_ n3_ n4_ n5_; clear ho hb hg hat))
            go_ret2
            exact ⟨_, by first | rfl | (simp [errW_none, errW_some] <;> rfl) | (simp only [← hji4, ← hji25]; first | rfl | (simp [errW_none, errW_some] <;> rfl)) | (simp [*, errW_none, errW_some] <;> rfl), by (with_reducible repeat (first | apply Kd.R_alloc | apply Kd.R_drewN | apply Kd.R_drew)); exact Kd.R_mono HO149.out (fun _ hk => trivial), by repeat (first | (with_reducible first | exact HB.out | apply below_alloc | apply pw_below_drewN | apply below_drew1 | refine below_set ?_ GE116.out | refine below_set ?_ GE118.out) | exact HB.out)⟩
           ·rw [if_neg c32] at H
            exact absurd H (by simp)
          ·rw [if_neg c31] at H
           exact absurd H (by simp)
         ·rw [if_neg c29] at H
          exact absurd H (by simp)
        ·rw [if_neg c28] at H
         have c28b0 : (((rd_T50 l0 (ji4)).f0) == ((rd_T50 l1 (ji25)).f0) && (((rd_T50 l0 (ji4)).f1) == ((rd_T50 l1 (ji25)).f1))) = false := by simpa using c28
         (try (have c28b1 : decide (((rd_T50 l0 (ji4)).f0) = ((rd_T50 l1 (ji25)).f0) && (((rd_T50 l0 (ji4)).f1) == ((rd_T50 l1 (ji25)).f1))) = false := by simpa using c28))
         (try (have c28b2 : (((rd_T50 l0 (ji4)).f0) == ((rd_T50 l1 (ji25)).f0) && (((rd_T50 l0 (ji4)).f1) == ((rd_T50 l1 (ji25)).f1))) = false := by simpa using c28))
         (try (have c28b3 : ¬ (((rd_T50 l0 (ji4)).f0) = ((rd_T50 l1 (ji25)).f0) && (((rd_T50 l0 (ji4)).f1) == ((rd_T50 l1 (ji25)).f1))) := by simpa using c28))
         clear c28
         by_cases c48 : (((rd_T50 l0 0).f0) == ((rd_T50 l1 (ji25)).f0) && (((rd_T50 l0 0).f1) == ((rd_T50 l1 (ji25)).f1))) = true
         ·rw [if_pos c48] at H
          have c48b0 : (((rd_T50 l0 0).f0) == ((rd_T50 l1 (ji25)).f0) && (((rd_T50 l0 0).f1) == ((rd_T50 l1 (ji25)).f1))) = true := c48
          (try (have c48b1 : decide (((rd_T50 l0 0).f0) = ((rd_T50 l1 (ji25)).f0) && (((rd_T50 l0 0).f1) == ((rd_T50 l1 (ji25)).f1))) = true := by simpa using c48))
          (try (have c48b2 : (((rd_T50 l0 0).f0) == ((rd_T50 l1 (ji25)).f0) && (((rd_T50 l0 0).f1) == ((rd_T50 l1 (ji25)).f1))) = true := by simpa using c48))
          clear c48
          obtain ⟨y151, hy151⟩ : ∃ y_ : List (S50), y_ = (([] : List (S50))) := ⟨_, rfl⟩
          replace H : (if y151.length + l1.length < 8796093022208 then ((some (y151 ++ l1 : List (S50))).bind fun y154 => (if 1 ≤ (l0.length : Int) then ((some (l0.drop 1 : List (S50))).bind fun y157 => (if y154.length + y157.length < 8796093022208 then (some ((y154 ++ y157), true)) else (none))) else (none))) else (none)) = some (r1, r2) := by first | (rw [hy151]; with_reducible exact H) | (have H2_ := (Option.bind_some _ _).symm.trans H; rw [hy151]; with_reducible exact H2_) | (have H2_ := (Option.bind_some _ _).symm.trans H; with_reducible exact H2_) | with_reducible exact H | (rw [hy151]; exact H) | exact H
          have Ny151 := Aside0.mk hy151
          clear hy151
          by_cases c49 : y151.length + l1.length < 8796093022208
          ·rw [if_pos c49] at H
           have LMc49 := Aside0.mk c49
           clear c49
           obtain ⟨y154, hy154⟩ : ∃ y_ : List (S50), y_ = (y151 ++ l1) := ⟨_, rfl⟩
           replace H : (if 1 ≤ (l0.length : Int) then ((some (l0.drop 1 : List (S50))).bind fun y157 => (if y154.length + y157.length < 8796093022208 then (some ((y154 ++ y157), true)) else (none))) else (none)) = some (r1, r2) := by first | (rw [hy154]; with_reducible exact H) | (have H2_ := (Option.bind_some _ _).symm.trans H; rw [hy154]; with_reducible exact H2_) | (have H2_ := (Option.bind_some _ _).symm.trans H; with_reducible exact H2_) | with_reducible exact H | (rw [hy154]; exact H) | exact H
           have Ny154 := Aside0.mk hy154
           clear hy154
           by_cases c50 : 1 ≤ (l0.length : Int)
           ·rw [if_pos c50] at H
            have c50b0 := eq_true c50
            have c50b1 : decide (1 ≤ (l0.length : Int)) = true := decide_eq_true c50
            clear c50
            obtain ⟨y157, hy157⟩ : ∃ y_ : List (S50), y_ = (l0.drop 1) := ⟨_, rfl⟩
            replace H : (if y154.length + y157.length < 8796093022208 then (some ((y154 ++ y157), true)) else (none)) = some (r1, r2) := by first | (rw [hy157]; with_reducible exact H) | (have H2_ := (Option.bind_some _ _).symm.trans H; rw [hy157]; with_reducible exact H2_) | (have H2_ := (Option.bind_some _ _).symm.trans H; with_reducible exact H2_) | with_reducible exact H | (rw [hy157]; exact H) | exact H
            have Ny157 := Aside0.mk hy157
            clear hy157
            by_cases c51 : y154.length + y157.length < 8796093022208
            ·rw [if_pos c51] at H
             have LMc51 := Aside0.mk c51
             clear c51
             obtain ⟨y161, hy161⟩ : ∃ y_ : List (S50), y_ = (y154 ++ y157) := ⟨_, rfl⟩
             replace H : (some (y161, true)) = some (r1, r2) := by first | (rw [hy161]; with_reducible exact H) | (have H2_ := (Option.bind_some _ _).symm.trans H; rw [hy161]; with_reducible exact H2_) | (have H2_ := (Option.bind_some _ _).symm.trans H; with_reducible exact H2_) | with_reducible exact H | (rw [hy161]; exact H) | exact H
             have Ny161 := Aside0.mk hy161
             clear hy161
             simp only [Option.some.injEq, Prod.mk.injEq] at H
             obtain ⟨rfl, rfl⟩ := H
             have p115 : 0 ≤ (0 : Int) := (by omega)
             have q115 : 0 < (l0.length : Int) := od_
             obtain ⟨ad115, e115, hx115_0, hx115_1⟩ := at_T50 HR0.out 0 p115 q115
             cases e115
             have qi115 : (0 < l0.length) = True := eq_true (by omega)
             (try rw [show ((0 : Int)).toNat = 0 from rfl] at hx115_0)
             (try rw [show 0 * 2 = 0 from rfl] at hx115_0)
             (try rw [Addr.add_zero'] at hx115_0)
             (try rw [show ((0 : Int)).toNat = 0 from rfl] at hx115_1)
             (try rw [show 0 * 2 = 0 from rfl] at hx115_1)
             (try rw [Addr.add_zero'] at hx115_1)
             replace p115 := eq_true p115
             replace q115 := eq_true q115
             go_enter Try.func28, Try.ntmps28
             try go_wp2_with (first | ((with_reducible refine gate_dst (N := 6) rfl ?_); refine box_event ?hg (N := 6) ?hd (cs := #[.int .i64 0, .int .i64 0]) (t := 50) ?hr ?_; (case hd => rfl); (case hg => rfl); (case hr => first | (go_simp; done) | (go_simp; rfl)); intro gb116 hg w52 hbox hb; have n0_ := Aside0.mk (below_step (bw_ HB.out) hb); have n1_ := Aside0.mk (hbox); have n2_ := Aside0.mk ((ge_ hg (bw_ HB.out))); have n3_ := Aside0.mk ((ge_ hg (bw_ HB.out))); clear HB; have HB := n0_; have BK116 := n1_; have GW116 := n2_; have GE116 := n3_; clear n0_ n1_ n2_ n3_; clear hb hbox hg; have hcz53_0 : w52.cell? ⟨gb116, 0, none⟩ = some (.int .i64 0) := (blk_cell BK116.out 0).trans rfl; have hcz53_1 : w52.cell? ⟨gb116, 1, none⟩ = some (.int .i64 0) := (blk_cell BK116.out 1).trans rfl; have hfz53_0 := blk_frozen BK116.out 0; have hfz53_1 := blk_frozen BK116.out 1; have p117 : 0 ≤ ((ji4) : Int) := od_; have q117 : (ji4) < (l0.length : Int) := od_; obtain ⟨ad117, e117, hx117_0, hx117_1⟩ := at_T50 HR0.out (ji4) p117 q117; obtain rfl : ad115 = ad117 := (by injection e117); have hn117_0 : ad115.block ≠ gb116 := Nat.ne_of_lt (Nat.lt_of_lt_of_le (by have := World.block_lt_of_cell? _ _ hx117_0; first | rwa [add_block] at this | exact this) GW116.out); have hn117_1 : ad115.block ≠ gb116 := Nat.ne_of_lt (Nat.lt_of_lt_of_le (by have := World.block_lt_of_cell? _ _ hx117_0; first | rwa [add_block] at this | exact this) GW116.out); replace hx117_0 := (HB.out.cell (World.block_lt_of_cell? w _ hx117_0)).trans hx117_0; replace hx117_1 := (HB.out.cell (World.block_lt_of_cell? w _ hx117_1)).trans hx117_1; replace hx117_0 := (cell_far (p := ⟨gb116, 0, none⟩) (by first | (rw [add_block]; exact hn117_0) | (show (Addr.add _ _).block ≠ _; rw [add_block]; exact hn117_0) | exact hn117_0) (.int .i64 ((rd_T50 l0 0).f0))).trans hx117_0; replace hx117_1 := (cell_far (p := ⟨gb116, 0, none⟩) (by first | (rw [add_block]; exact hn117_0) | (show (Addr.add _ _).block ≠ _; rw [add_block]; exact hn117_0) | exact hn117_0) (.int .i64 ((rd_T50 l0 0).f0))).trans hx117_1; replace hx117_0 := (cell_far (p := ⟨gb116, 1, none⟩) (by first | (rw [add_block]; exact hn117_1) | (show (Addr.add _ _).block ≠ _; rw [add_block]; exact hn117_1) | exact hn117_1) (.int .i64 ((rd_T50 l0 0).f1))).trans hx117_0; replace hx117_1 := (cell_far (p := ⟨gb116, 1, none⟩) (by first | (rw [add_block]; exact hn117_1) | (show (Addr.add _ _).block ≠ _; rw [add_block]; exact hn117_1) | exact hn117_1) (.int .i64 ((rd_T50 l0 0).f1))).trans hx117_1; clear hn117_0; clear hn117_1; replace p117 := eq_true p117; replace q117 := eq_true q117) | ((with_reducible refine gate_dst (N := 7) rfl ?_); refine box_event ?hg (N := 7) ?hd (cs := #[.int .i64 0, .int .i64 0]) (t := 50) ?hr ?_; (case hd => rfl); (case hg => rfl); (case hr => first | (go_simp; done) | (go_simp; rfl)); intro gb118 hg w54 hbox hb; have n0_ := Aside0.mk (blk_below (g := gb116) (o := .cells #[.int .i64 ((rd_T50 l0 0).f0), .int .i64 ((rd_T50 l0 0).f1)] 50 (0, 0)) (by (with_reducible repeat (first | refine blk_drewN ?_ _ | refine blk_drew ?_ | refine blk_alloc ?_ _)); refine blk_put (cs := #[.int .i64 ((rd_T50 l0 0).f0), .int .i64 0]) ?_ 1 _ rfl; (with_reducible repeat (first | refine blk_drewN ?_ _ | refine blk_drew ?_ | refine blk_alloc ?_ _)); refine blk_put (cs := #[.int .i64 0, .int .i64 0]) ?_ 0 _ rfl; (with_reducible repeat (first | refine blk_drewN ?_ _ | refine blk_drew ?_ | refine blk_alloc ?_ _)); exact BK116.out) hb); have n1_ := Aside0.mk (below_step (bws_ HB.out) hb); have n2_ := Aside0.mk (hbox); have n3_ := Aside0.mk ((ge_ hg (bws_ HB.out))); have n4_ := Aside0.mk ((ge_ hg (bws_ HB.out))); have n5_ := Aside0.mk ((by rw [hg]; exact Nat.ne_of_lt (blk_lt (g := gb116) (o := .cells #[.int .i64 ((rd_T50 l0 0).f0), .int .i64 ((rd_T50 l0 0).f1)] 50 (0, 0)) (by (with_reducible repeat (first | refine blk_drewN ?_ _ | refine blk_drew ?_ | refine blk_alloc ?_ _)); refine blk_put (cs := #[.int .i64 ((rd_T50 l0 0).f0), .int .i64 0]) ?_ 1 _ rfl; (with_reducible repeat (first | refine blk_drewN ?_ _ | refine blk_drew ?_ | refine blk_alloc ?_ _)); refine blk_put (cs := #[.int .i64 0, .int .i64 0]) ?_ 0 _ rfl; (with_reducible repeat (first | refine blk_drewN ?_ _ | refine blk_drew ?_ | refine blk_alloc ?_ _)); exact BK116.out)) : gb116 ≠ gb118)); have n6_ := Aside0.mk ((by rw [hg]; exact Nat.ne_of_gt (blk_lt (g := gb116) (o := .cells #[.int .i64 ((rd_T50 l0 0).f0), .int .i64 ((rd_T50 l0 0).f1)] 50 (0, 0)) (by (with_reducible repeat (first | refine blk_drewN ?_ _ | refine blk_drew ?_ | refine blk_alloc ?_ _)); refine blk_put (cs := #[.int .i64 ((rd_T50 l0 0).f0), .int .i64 0]) ?_ 1 _ rfl; (with_reducible repeat (first | refine blk_drewN ?_ _ | refine blk_drew ?_ | refine blk_alloc ?_ _)); refine blk_put (cs := #[.int .i64 0, .int .i64 0]) ?_ 0 _ rfl; (with_reducible repeat (first | refine blk_drewN ?_ _ | refine blk_drew ?_ | refine blk_alloc ?_ _)); exact BK116.out)) : gb118 ≠ gb116)); clear BK116; clear HB; have BK116 := n0_; have HB := n1_; have BK118 := n2_; have GW118 := n3_; have GE118 := n4_; have NB116_118 := n5_; have NB118_116 := n6_; clear n0_ n1_ n2_ n3_ n4_ n5_ n6_; clear hb hbox hg; have hnb55 := NB118_116.out; have hnc55 := NB116_118.out; have hcz56_0 : w54.cell? ⟨gb118, 0, none⟩ = some (.int .i64 0) := (blk_cell BK118.out 0).trans rfl; have hcz56_1 : w54.cell? ⟨gb118, 1, none⟩ = some (.int .i64 0) := (blk_cell BK118.out 1).trans rfl; have hfz56_0 := blk_frozen BK118.out 0; have hfz56_1 := blk_frozen BK118.out 1))
             have n0_ : Aside0 (((w54.setCell ⟨gb118, 0, none⟩ (.int .i64 ((rd_T50 l0 (ji4)).f0))).setCell ⟨gb118, 1, none⟩ (.int .i64 ((rd_T50 l0 (ji4)).f1))).heap[gb116]? = some (.cells #[.int .i64 ((rd_T50 l0 0).f0), .int .i64 ((rd_T50 l0 0).f1)] 50 (0, 0))) := ⟨by (with_reducible repeat (first | refine blk_drewN ?_ _ | refine blk_drew ?_ | refine blk_alloc ?_ _)); refine blk_far ?_ NB116_118.out _; (with_reducible repeat (first | refine blk_drewN ?_ _ | refine blk_drew ?_ | refine blk_alloc ?_ _)); refine blk_far ?_ NB116_118.out _; (with_reducible repeat (first | refine blk_drewN ?_ _ | refine blk_drew ?_ | refine blk_alloc ?_ _)); exact BK116.out⟩
             have n1_ : Aside0 (((w54.setCell ⟨gb118, 0, none⟩ (.int .i64 ((rd_T50 l0 (ji4)).f0))).setCell ⟨gb118, 1, none⟩ (.int .i64 ((rd_T50 l0 (ji4)).f1))).heap[gb118]? = some (.cells #[.int .i64 ((rd_T50 l0 (ji4)).f0), .int .i64 ((rd_T50 l0 (ji4)).f1)] 50 (0, 0))) := ⟨by (with_reducible repeat (first | refine blk_drewN ?_ _ | refine blk_drew ?_ | refine blk_alloc ?_ _)); refine blk_put (cs := #[.int .i64 ((rd_T50 l0 (ji4)).f0), .int .i64 0]) ?_ 1 _ rfl; (with_reducible repeat (first | refine blk_drewN ?_ _ | refine blk_drew ?_ | refine blk_alloc ?_ _)); refine blk_put (cs := #[.int .i64 0, .int .i64 0]) ?_ 0 _ rfl; (with_reducible repeat (first | refine blk_drewN ?_ _ | refine blk_drew ?_ | refine blk_alloc ?_ _)); exact BK118.out⟩
             have n2_ : Aside0 (Below w.heap.size w ((w54.setCell ⟨gb118, 0, none⟩ (.int .i64 ((rd_T50 l0 (ji4)).f0))).setCell ⟨gb118, 1, none⟩ (.int .i64 ((rd_T50 l0 (ji4)).f1)))) := ⟨bws_ HB.out⟩
             (try clear BK116)
             (try clear BK118)
             (try clear HB)
             generalize ((w54.setCell ⟨gb118, 0, none⟩ (.int .i64 ((rd_T50 l0 (ji4)).f0))).setCell ⟨gb118, 1, none⟩ (.int .i64 ((rd_T50 l0 (ji4)).f1))) = w57 at n0_ n1_ n2_ ⊢
             have BK116 := n0_; have BK118 := n1_; have HB := n2_
             clear n0_ n1_ n2_
             have n0_ := Aside0.mk (blk_drew BK116.out)
             have n1_ := Aside0.mk (blk_drew BK118.out)
             have n2_ := Aside0.mk (below_drew1 HB.out)
             clear BK116 BK118 HB
             have BK116 := n0_; have BK118 := n1_; have HB := n2_
             clear n0_ n1_ n2_
             have p119 : 0 ≤ (0 : Int) := (by omega)
             have q119 : 0 < (l1.length : Int) := od_
             obtain ⟨ad119, e119, hx119_0, hx119_1⟩ := at_T50 HR1.out 0 p119 q119
             have hw119_1 := hx119_1
             (try rw [show ((0 : Int)).toNat = 0 from rfl] at hw119_1)
             (try rw [show 0 * 2 = 0 from rfl] at hw119_1)
             (try rw [Addr.add_zero'] at hw119_1)
             have hw119_0 := hx119_0
             (try rw [show ((0 : Int)).toNat = 0 from rfl] at hw119_0)
             (try rw [show 0 * 2 = 0 from rfl] at hw119_0)
             (try rw [Addr.add_zero'] at hw119_0)
             cases e119
             have qi119 : (0 < l1.length) = True := eq_true (by omega)
             (try rw [show ((0 : Int)).toNat = 0 from rfl] at hx119_0)
             (try rw [show 0 * 2 = 0 from rfl] at hx119_0)
             (try rw [Addr.add_zero'] at hx119_0)
             (try rw [show ((0 : Int)).toNat = 0 from rfl] at hx119_1)
             (try rw [show 0 * 2 = 0 from rfl] at hx119_1)
             (try rw [Addr.add_zero'] at hx119_1)
             replace hx119_0 := (HB.out.cell (World.block_lt_of_cell? w _ hx119_0)).trans hx119_0
             replace hx119_1 := (HB.out.cell (World.block_lt_of_cell? w _ hx119_1)).trans hx119_1
             replace p119 := eq_true p119
             replace q119 := eq_true q119
             refine start_ (n := 6) (S := fun w' => w'.cell? ⟨gb118, 0, none⟩ = some (.int .i64 ((rd_T50 l0 (ji4)).f0)) ∧ w'.cell? ⟨gb118, 1, none⟩ = some (.int .i64 ((rd_T50 l0 (ji4)).f1)) ∧ w'.cell? ad119 = some (.int .i64 ((rd_T50 l1 0).f0)) ∧ w'.cell? ⟨ad119.block, ad119.off + 1, none⟩ = some (.int .i64 ((rd_T50 l1 0).f1))) (ds := []) #[false, false, false, false, false, false] (by kernel_rfl) rfl rfl ⟨(blk_cell BK118.out 0).trans rfl, (blk_cell BK118.out 1).trans rfl, ((HB.out.cell (World.block_lt_of_cell? w _ hw119_0)).trans hw119_0), ((HB.out.cell (World.block_lt_of_cell? w _ hw119_1)).trans hw119_1)⟩ (fun hHeld => ?_)
             generalize w57.drew = w58 at BK116 BK118 HB hx119_0 hx119_1 hHeld ⊢
             refine pure_ (i := 1) (N := some 19) (v := ?_) (a' := ?_) #[false, true, false, false, false, false] rfl rfl (by kernel_rfl) (fun _ _ _ h => h) (Or.inl ⟨by rfl, ?_⟩) ?_ ?_
             rotate_left
             ·intro w'
              go_simp
              with_reducible rfl
             rotate_left
             ·simp only [Act.put, List.setIfInBounds_toArray, List.set_cons_zero, List.set_cons_succ, i64_w, i32_w]
              rfl
             refine pure_ (i := 2) (N := some 20) (v := ?_) (a' := ?_) #[false, true, true, false, false, false] rfl rfl (by kernel_rfl) (fun _ _ _ h => h) (Or.inl ⟨by rfl, ?_⟩) ?_ ?_
             rotate_left
             ·intro w'
              go_simp
              with_reducible rfl
             rotate_left
             ·simp only [Act.put, List.setIfInBounds_toArray, List.set_cons_zero, List.set_cons_succ, i64_w, i32_w]
              rfl
             refine take_ (i := 0) (N := some 18) (v := ?_) (a' := ?_) #[true, true, true, false, false, false] rfl rfl (by kernel_rfl) (fun _ _ _ h => h) (Or.inl ⟨by rfl, ?_⟩) hHeld ?_ ?_
             rotate_left
             ·rintro w' ⟨s0, s1, s2, s3⟩
              go_simp
              with_reducible rfl
             rotate_left
             ·simp only [Act.put, List.setIfInBounds_toArray, List.set_cons_zero, List.set_cons_succ, i64_w, i32_w]
              rfl
             refine take_ (i := 3) (N := some 21) (v := ?_) (a' := ?_) #[true, true, true, true, false, false] rfl rfl (by kernel_rfl) (fun _ _ _ h => h) (Or.inl ⟨by rfl, ?_⟩) hHeld ?_ ?_
             rotate_left
             ·rintro w' ⟨s0, s1, s2, s3⟩
              go_simp
              with_reducible rfl
             rotate_left
             ·simp only [Act.put, List.setIfInBounds_toArray, List.set_cons_zero, List.set_cons_succ, i64_w, i32_w]
              rfl
             refine pure_ (i := 4) (N := some 22) (v := ?_) (a' := ?_) #[true, true, true, true, true, false] rfl rfl (by kernel_rfl) (fun _ _ _ h => h) (Or.inl ⟨by rfl, ?_⟩) ?_ ?_
             rotate_left
             ·intro w'
              go_simp
              with_reducible rfl
             rotate_left
             ·simp only [Act.put, List.setIfInBounds_toArray, List.set_cons_zero, List.set_cons_succ, i64_w, i32_w]
              rfl
             refine pure_ (i := 5) (N := some 17) (v := ?_) (a' := ?_) #[true, true, true, true, true, true] rfl rfl (by kernel_rfl) (fun _ _ _ h => h) (Or.inl ⟨by rfl, ?_⟩) ?_ ?_
             rotate_left
             ·intro w'
              go_simp
              with_reducible rfl
             rotate_left
             ·simp only [Act.put, List.setIfInBounds_toArray, List.set_cons_zero, List.set_cons_succ, i64_w, i32_w]
              rfl
             refine done_ (by kernel_rfl) ?_
             try go_wp2
             have n0_ := Aside0.mk (blk_drew BK116.out)
             have n1_ := Aside0.mk (blk_drew BK118.out)
             have n2_ := Aside0.mk (below_drew1 HB.out)
             clear BK116 BK118 HB
             have BK116 := n0_; have BK118 := n1_; have HB := n2_
             clear n0_ n1_ n2_
             have p133 : 0 ≤ ((ji25) : Int) := od_
             have q133 : (ji25) < (l1.length : Int) := od_
             obtain ⟨ad133, e133, hx133_0, hx133_1⟩ := at_T50 HR1.out (ji25) p133 q133
             have hw133_1 := hx133_1
             have hw133_0 := hx133_0
             obtain rfl : ad119 = ad133 := (by injection e133)
             replace hx133_0 := (HB.out.cell (World.block_lt_of_cell? w _ hx133_0)).trans hx133_0
             replace hx133_1 := (HB.out.cell (World.block_lt_of_cell? w _ hx133_1)).trans hx133_1
             replace p133 := eq_true p133
             replace q133 := eq_true q133
             refine start_ (n := 9) (S := fun w' => w'.cell? ⟨gb118, 0, none⟩ = some (.int .i64 ((rd_T50 l0 (ji4)).f0)) ∧ w'.cell? ⟨gb118, 1, none⟩ = some (.int .i64 ((rd_T50 l0 (ji4)).f1)) ∧ w'.cell? (ad119.add (((ji25)).toNat * 2)) = some (.int .i64 ((rd_T50 l1 (ji25)).f0)) ∧ w'.cell? ⟨(ad119.add (((ji25)).toNat * 2)).block, (ad119.add (((ji25)).toNat * 2)).off + 1, none⟩ = some (.int .i64 ((rd_T50 l1 (ji25)).f1))) (ds := []) #[false, false, false, false, false, false, false, false, false] (by kernel_rfl) rfl rfl ⟨(blk_cell BK118.out 0).trans rfl, (blk_cell BK118.out 1).trans rfl, ((HB.out.cell (World.block_lt_of_cell? w _ hw133_0)).trans hw133_0), ((HB.out.cell (World.block_lt_of_cell? w _ hw133_1)).trans hw133_1)⟩ (fun hHeld => ?_); refine with_tabW spec_l10Join.tab5 spec_l10Join.bits5 (fun HT_ HW_ => ?_)
             generalize w58.drew = w59 at BK116 BK118 HB hx133_0 hx133_1 hHeld ⊢
             refine pure_ (i := 1) (N := some 31) (v := ?_) (a' := ?_) #[false, true, false, false, false, false, false, false, false] rfl rfl (any_of HT_.out (by kernel_rfl)) (fun _ _ _ h => h) (Or.inl ⟨by rfl, ?_⟩) ?_ ?_
             rotate_left
             ·intro w'
              go_simp
              with_reducible rfl
             rotate_left
             ·simp only [Act.put, List.setIfInBounds_toArray, List.set_cons_zero, List.set_cons_succ, i64_w, i32_w]
              rfl
             refine pure_ (i := 2) (N := some 32) (v := ?_) (a' := ?_) #[false, true, true, false, false, false, false, false, false] rfl rfl (any_of HT_.out (by kernel_rfl)) (fun _ _ _ h => h) (Or.inl ⟨by rfl, ?_⟩) ?_ ?_
             rotate_left
             ·intro w'
              go_simp
              with_reducible rfl
             rotate_left
             ·simp only [Act.put, List.setIfInBounds_toArray, List.set_cons_zero, List.set_cons_succ, i64_w, i32_w]
              rfl
             refine pure_ (i := 3) (N := some 33) (v := ?_) (a' := ?_) #[false, true, true, true, false, false, false, false, false] rfl rfl (any_of HT_.out (by kernel_rfl)) (fun _ _ _ h => h) (Or.inl ⟨by rfl, ?_⟩) ?_ ?_
             rotate_left
             ·intro w'
              go_simp
              with_reducible rfl
             rotate_left
             ·simp only [Act.put, List.setIfInBounds_toArray, List.set_cons_zero, List.set_cons_succ, i64_w, i32_w]
              rfl
             refine pure_ (i := 4) (N := some 34) (v := ?_) (a' := ?_) #[false, true, true, true, true, false, false, false, false] rfl rfl (any_of HT_.out (by kernel_rfl)) (fun _ _ _ h => h) (Or.inl ⟨by rfl, ?_⟩) ?_ ?_
             rotate_left
             ·intro w'
              go_simp
              with_reducible rfl
             rotate_left
             ·simp only [Act.put, List.setIfInBounds_toArray, List.set_cons_zero, List.set_cons_succ, i64_w, i32_w]
              rfl
             refine pure_ (i := 5) (N := some 35) (v := ?_) (a' := ?_) #[false, true, true, true, true, true, false, false, false] rfl rfl (any_of HT_.out (by kernel_rfl)) (fun _ _ _ h => h) (Or.inl ⟨by rfl, ?_⟩) ?_ ?_
             rotate_left
             ·intro w'
              go_simp
              with_reducible rfl
             rotate_left
             ·simp only [Act.put, List.setIfInBounds_toArray, List.set_cons_zero, List.set_cons_succ, i64_w, i32_w]
              rfl
             refine take_ (i := 0) (N := some 30) (v := ?_) (a' := ?_) #[true, true, true, true, true, true, false, false, false] rfl rfl (take_ofW HT_.out HW_.out (by kernel_rfl)) (fun _ _ _ h => h) (Or.inl ⟨by rfl, ?_⟩) hHeld ?_ ?_
             rotate_left
             ·rintro w' ⟨s0, s1, s2, s3⟩
              go_simp
              with_reducible rfl
             rotate_left
             ·simp only [Act.put, List.setIfInBounds_toArray, List.set_cons_zero, List.set_cons_succ, i64_w, i32_w]
              rfl
             refine take_ (i := 6) (N := some 36) (v := ?_) (a' := ?_) #[true, true, true, true, true, true, true, false, false] rfl rfl (take_ofW HT_.out HW_.out (by kernel_rfl)) (fun _ _ _ h => h) (Or.inl ⟨by rfl, ?_⟩) hHeld ?_ ?_
             rotate_left
             ·rintro w' ⟨s0, s1, s2, s3⟩
              go_simp
              with_reducible rfl
             rotate_left
             ·simp only [Act.put, List.setIfInBounds_toArray, List.set_cons_zero, List.set_cons_succ, i64_w, i32_w]
              rfl
             refine pure_ (i := 7) (N := some 37) (v := ?_) (a' := ?_) #[true, true, true, true, true, true, true, true, false] rfl rfl (any_of HT_.out (by kernel_rfl)) (fun _ _ _ h => h) (Or.inl ⟨by rfl, ?_⟩) ?_ ?_
             rotate_left
             ·intro w'
              go_simp
              with_reducible rfl
             rotate_left
             ·simp only [Act.put, List.setIfInBounds_toArray, List.set_cons_zero, List.set_cons_succ, i64_w, i32_w]
              rfl
             refine pure_ (i := 8) (N := some 29) (v := ?_) (a' := ?_) #[true, true, true, true, true, true, true, true, true] rfl rfl (any_of HT_.out (by kernel_rfl)) (fun _ _ _ h => h) (Or.inl ⟨by rfl, ?_⟩) ?_ ?_
             rotate_left
             ·intro w'
              go_simp
              with_reducible rfl
             rotate_left
             ·simp only [Act.put, List.setIfInBounds_toArray, List.set_cons_zero, List.set_cons_succ, i64_w, i32_w]
              rfl
             refine done_ (done_of HT_.out (by kernel_rfl)) ?_
             try go_wp2
             have n0_ := Aside0.mk (blk_drew BK116.out)
             have n1_ := Aside0.mk (blk_drew BK118.out)
             have n2_ := Aside0.mk (below_drew1 HB.out)
             clear BK116 BK118 HB
             have BK116 := n0_; have BK118 := n1_; have HB := n2_
             clear n0_ n1_ n2_
             have p150 : 0 ≤ ((ji25) : Int) := od_
             have q150 : (ji25) < (l1.length : Int) := od_
             obtain ⟨ad150, e150, hx150_0, hx150_1⟩ := at_T50 HR1.out (ji25) p150 q150
             have hw150_1 := hx150_1
             have hw150_0 := hx150_0
             obtain rfl : ad119 = ad150 := (by injection e150)
             replace hx150_0 := (HB.out.cell (World.block_lt_of_cell? w _ hx150_0)).trans hx150_0
             replace hx150_1 := (HB.out.cell (World.block_lt_of_cell? w _ hx150_1)).trans hx150_1
             replace p150 := eq_true p150
             replace q150 := eq_true q150
             refine start_ (n := 9) (S := fun w' => w'.cell? ⟨gb116, 0, none⟩ = some (.int .i64 ((rd_T50 l0 0).f0)) ∧ w'.cell? ⟨gb116, 1, none⟩ = some (.int .i64 ((rd_T50 l0 0).f1)) ∧ w'.cell? (ad119.add (((ji25)).toNat * 2)) = some (.int .i64 ((rd_T50 l1 (ji25)).f0)) ∧ w'.cell? ⟨(ad119.add (((ji25)).toNat * 2)).block, (ad119.add (((ji25)).toNat * 2)).off + 1, none⟩ = some (.int .i64 ((rd_T50 l1 (ji25)).f1))) (ds := []) #[false, false, false, false, false, false, false, false, false] (by kernel_rfl) rfl rfl ⟨(blk_cell BK116.out 0).trans rfl, (blk_cell BK116.out 1).trans rfl, ((HB.out.cell (World.block_lt_of_cell? w _ hw150_0)).trans hw150_0), ((HB.out.cell (World.block_lt_of_cell? w _ hw150_1)).trans hw150_1)⟩ (fun hHeld => ?_); refine with_tabW spec_l10Join.tab7 spec_l10Join.bits7 (fun HT_ HW_ => ?_)
             generalize w59.drew = w60 at BK116 BK118 HB hx150_0 hx150_1 hHeld ⊢
             refine pure_ (i := 1) (N := some 47) (v := ?_) (a' := ?_) #[false, true, false, false, false, false, false, false, false] rfl rfl (any_of HT_.out (by kernel_rfl)) (fun _ _ _ h => h) (Or.inl ⟨by rfl, ?_⟩) ?_ ?_
             rotate_left
             ·intro w'
              go_simp
              with_reducible rfl
             rotate_left
             ·simp only [Act.put, List.setIfInBounds_toArray, List.set_cons_zero, List.set_cons_succ, i64_w, i32_w]
              rfl
             refine pure_ (i := 2) (N := some 48) (v := ?_) (a' := ?_) #[false, true, true, false, false, false, false, false, false] rfl rfl (any_of HT_.out (by kernel_rfl)) (fun _ _ _ h => h) (Or.inl ⟨by rfl, ?_⟩) ?_ ?_
             rotate_left
             ·intro w'
              go_simp
              with_reducible rfl
             rotate_left
             ·simp only [Act.put, List.setIfInBounds_toArray, List.set_cons_zero, List.set_cons_succ, i64_w, i32_w]
              rfl
             refine pure_ (i := 3) (N := some 49) (v := ?_) (a' := ?_) #[false, true, true, true, false, false, false, false, false] rfl rfl (any_of HT_.out (by kernel_rfl)) (fun _ _ _ h => h) (Or.inl ⟨by rfl, ?_⟩) ?_ ?_
             rotate_left
             ·intro w'
              go_simp
              with_reducible rfl
             rotate_left
             ·simp only [Act.put, List.setIfInBounds_toArray, List.set_cons_zero, List.set_cons_succ, i64_w, i32_w]
              rfl
             refine pure_ (i := 4) (N := some 50) (v := ?_) (a' := ?_) #[false, true, true, true, true, false, false, false, false] rfl rfl (any_of HT_.out (by kernel_rfl)) (fun _ _ _ h => h) (Or.inl ⟨by rfl, ?_⟩) ?_ ?_
             rotate_left
             ·intro w'
              go_simp
              with_reducible rfl
             rotate_left
             ·simp only [Act.put, List.setIfInBounds_toArray, List.set_cons_zero, List.set_cons_succ, i64_w, i32_w]
              rfl
             refine pure_ (i := 5) (N := some 51) (v := ?_) (a' := ?_) #[false, true, true, true, true, true, false, false, false] rfl rfl (any_of HT_.out (by kernel_rfl)) (fun _ _ _ h => h) (Or.inl ⟨by rfl, ?_⟩) ?_ ?_
             rotate_left
             ·intro w'
              go_simp
              with_reducible rfl
             rotate_left
             ·simp only [Act.put, List.setIfInBounds_toArray, List.set_cons_zero, List.set_cons_succ, i64_w, i32_w]
              rfl
             refine take_ (i := 0) (N := some 46) (v := ?_) (a' := ?_) #[true, true, true, true, true, true, false, false, false] rfl rfl (take_ofW HT_.out HW_.out (by kernel_rfl)) (fun _ _ _ h => h) (Or.inl ⟨by rfl, ?_⟩) hHeld ?_ ?_
             rotate_left
             ·rintro w' ⟨s0, s1, s2, s3⟩
              go_simp
              with_reducible rfl
             rotate_left
             ·simp only [Act.put, List.setIfInBounds_toArray, List.set_cons_zero, List.set_cons_succ, i64_w, i32_w]
              rfl
             refine take_ (i := 6) (N := some 52) (v := ?_) (a' := ?_) #[true, true, true, true, true, true, true, false, false] rfl rfl (take_ofW HT_.out HW_.out (by kernel_rfl)) (fun _ _ _ h => h) (Or.inl ⟨by rfl, ?_⟩) hHeld ?_ ?_
             rotate_left
             ·rintro w' ⟨s0, s1, s2, s3⟩
              go_simp
              with_reducible rfl
             rotate_left
             ·simp only [Act.put, List.setIfInBounds_toArray, List.set_cons_zero, List.set_cons_succ, i64_w, i32_w]
              rfl
             refine pure_ (i := 7) (N := some 53) (v := ?_) (a' := ?_) #[true, true, true, true, true, true, true, true, false] rfl rfl (any_of HT_.out (by kernel_rfl)) (fun _ _ _ h => h) (Or.inl ⟨by rfl, ?_⟩) ?_ ?_
             rotate_left
             ·intro w'
              go_simp
              with_reducible rfl
             rotate_left
             ·simp only [Act.put, List.setIfInBounds_toArray, List.set_cons_zero, List.set_cons_succ, i64_w, i32_w]
              rfl
             refine pure_ (i := 8) (N := some 45) (v := ?_) (a' := ?_) #[true, true, true, true, true, true, true, true, true] rfl rfl (any_of HT_.out (by kernel_rfl)) (fun _ _ _ h => h) (Or.inl ⟨by rfl, ?_⟩) ?_ ?_
             rotate_left
             ·intro w'
              go_simp
              with_reducible rfl
             rotate_left
             ·simp only [Act.put, List.setIfInBounds_toArray, List.set_cons_zero, List.set_cons_succ, i64_w, i32_w]
              rfl
             refine done_ (done_of HT_.out (by kernel_rfl)) ?_
             try go_wp2
             have n0_ := Aside0.mk (blk_drew BK116.out)
             have n1_ := Aside0.mk (blk_drew BK118.out)
             have n2_ := Aside0.mk (below_drew1 HB.out)
             clear BK116 BK118 HB
             have BK116 := n0_; have BK118 := n1_; have HB := n2_
             clear n0_ n1_ n2_
             have q62 : (1 : Int) ≤ ((l0.length : Int) : Int) := od_
             obtain ⟨i062, hi062, _, hsz62, _⟩ := info_parts info50
             have hroom62 : l0.length ≤ c0 := HC0.out
             have hC62 : Kd.C k50 _ (some ad115) l0.length l0 := HR0.out
             have hcut62 := cut_from (P := Try.prog) 24 50 .i64 Try.underlying24 hi062 2 hsz62 (some ad115) l0.length c0 1 (by omega) q62
             have hr62 := Kd.C_drop (m := (1 : Int).toNat) (c := c0) hC62 (by omega) hroom62
             obtain ⟨A62, hA62⟩ : ∃ A_z, A_z = (if c0 = (1 : Int).toNat then (some ad115) else ((some ad115) : Option Addr).map (·.add ((1 : Int).toNat * 2))) := ⟨_, rfl⟩
             obtain ⟨c62, hc62⟩ : ∃ c_z, c_z = c0 - (1 : Int).toNat := ⟨_, rfl⟩
             have hy62 : y157.length = l0.length - (1 : Int).toNat := (by rw [Ny157.out, List.length_drop] <;> omega)
             rw [show (l0).drop (1 : Int).toNat = y157 from Ny157.out.symm] at hr62
             replace hr62 : Kd.C k50 _ A62 y157.length y157 := (by rw [hA62]; exact hr62)
             rw [← hy62, ← hA62, ← hc62] at hcut62
             have HR160 := Aside0.mk hr62
             have HC160 := Aside0.mk (show y157.length ≤ c62 from by rw [hy62, hc62]; exact Nat.sub_le_sub_right hroom62 _)
             clear hr62 hC62 hroom62 hi062 hsz62 hc62
             have KY62 := Aside0.mk hy62
             have KA62 := Aside0.mk hA62
             clear hy62 hA62
             replace q62 := eq_true q62
             refine start_ (n := 8) (S := fun w' => True) (ds := []) #[false, false, false, false, false, false, false, false] (by kernel_rfl) rfl rfl trivial (fun hHeld => ?_); refine with_tabW spec_l10Join.tab8 spec_l10Join.bits8 (fun HT_ HW_ => ?_)
             generalize w60.drew = w61 at BK116 BK118 HB HR160 hHeld ⊢
             refine pure_ (i := 1) (N := some 55) (v := ?_) (a' := ?_) #[false, true, false, false, false, false, false, false] rfl rfl (any_of HT_.out (by kernel_rfl)) (fun _ _ _ h => h) (Or.inl ⟨by rfl, ?_⟩) ?_ ?_
             rotate_left
             ·intro w'
              go_simp
              with_reducible rfl
             rotate_left
             ·simp only [Act.put, List.setIfInBounds_toArray, List.set_cons_zero, List.set_cons_succ, i64_w, i32_w]
              rfl
             refine pure_ (i := 3) (N := some 57) (v := ?_) (a' := ?_) #[false, true, false, true, false, false, false, false] rfl rfl (any_of HT_.out (by kernel_rfl)) (fun _ _ _ h => h) (Or.inl ⟨by rfl, ?_⟩) ?_ ?_
             rotate_left
             ·intro w'
              go_simp
              with_reducible rfl
             rotate_left
             ·simp only [Act.put, List.setIfInBounds_toArray, List.set_cons_zero, List.set_cons_succ, i64_w, i32_w]
              rfl
             refine pure_ (i := 4) (N := some 58) (v := ?_) (a' := ?_) #[false, true, false, true, true, false, false, false] rfl rfl (any_of HT_.out (by kernel_rfl)) (fun _ _ _ h => h) (Or.inl ⟨by rfl, ?_⟩) ?_ ?_
             rotate_left
             ·intro w'
              go_simp
              with_reducible rfl
             rotate_left
             ·simp only [Act.put, List.setIfInBounds_toArray, List.set_cons_zero, List.set_cons_succ, i64_w, i32_w]
              rfl
             refine one_ (i := 0) (N := some 54) #[true, true, false, true, true, false, false, false] rfl rfl (one_of HT_.out (by kernel_rfl)) (by decide) (fun K hK => ?_)
             refine Kd.R_lit_step k50 _ 50 ?hg (N := 54) ?hd (xs := ([] : List (S50))) (inner := []) (ok := fun _ => True) (okp := fun _ => True) ?hr ?hp (fun _ hk => hk) trivial (Below.refl _ _) (Nat.le_refl _) (by simp) ?_; (case hd => rfl); (case hg => rfl); (case hr => first | (go_simp; done) | (go_simp; rfl)); (case hp => exact (Reps.none _ _))
             intro v152 w63 ho64 hb hg_ hnew_
             clear hg_ hnew_
             (first | rw [← Ny151.out] at ho64 | (simp only [Int.reduceToNat] at ho64; rw [← Ny151.out] at ho64))
             have n0_ := Aside0.mk (Kd.R_lower (Kd.R_newB (Kd.R_newB ho64 (g := gb116) (o := .cells #[.int .i64 ((rd_T50 l0 0).f0), .int .i64 ((rd_T50 l0 0).f1)] 50 (0, 0)) (bk_ BK116.out)) (g := gb118) (o := .cells #[.int .i64 ((rd_T50 l0 (ji4)).f0), .int .i64 ((rd_T50 l0 (ji4)).f1)] 50 (0, 0)) (bk_ BK118.out)) (below_size (bws_ HB.out)))
             have n1_ := Aside0.mk (blk_below (bk_ BK116.out) hb)
             have n2_ := Aside0.mk (blk_below (bk_ BK118.out) hb)
             have n3_ := Aside0.mk (below_step (bws_ HB.out) hb)
             clear BK116 BK118 HB
             have HO153 := n0_; have BK116 := n1_; have BK118 := n2_; have HB := n3_
             clear n0_ n1_ n2_ n3_ hb ho64
             refine hK.out _ _ trivial (fun hHeld => ?_)
             clear hK K
             refine norm_ (a' := ?_) ?_ ?_
             rotate_left
             ·show Act.put _ (some 54) _ = _
              simp only [Act.put, List.setIfInBounds_toArray, List.set_cons_zero, List.set_cons_succ, i64_w, i32_w]
              rfl
             refine one_ (i := 2) (N := some 56) #[true, true, true, true, true, false, false, false] rfl rfl (one_of HT_.out (by kernel_rfl)) (by decide) (fun K hK => ?_)
             refine Kd.R_append_rows_step k50 (w0 := w) w.heap.size (by rfl) (.tmp 54) (.tmp 55) 24 50 (.agg #[(.int .i64 0), (.int .i64 0)]) 16 rfl Try.underlying24 info50 rfl (by decide) (by omega) v152 y151 l1 _ _ _ (fun k_ => k_ ≠ gb116 ∧ k_ ≠ gb118) (fun _ => False) rfl rfl ?aO ?aR (fun _ _ h => h) (fun _ h => h.elim) ?aF ?aB ?aS ?aL ?_
             (case aR => repeat (first | exact (Kd.C_below HR1.out HB.out) | (with_reducible refine Kd.C_alloc ?_ _) | (with_reducible refine Kd.C_drewN ?_ _) | (with_reducible refine Kd.C_drew ?_)))
             (case aB => exact (bws_ HB.out))
             (case aF => exact (fun k_ hk => ⟨Kd.freshB (g := gb116) (o := .cells #[.int .i64 ((rd_T50 l0 0).f0), .int .i64 ((rd_T50 l0 0).f1)] 50 (0, 0)) (bk_ BK116.out) k_ hk, Kd.freshB (g := gb118) (o := .cells #[.int .i64 ((rd_T50 l0 (ji4)).f0), .int .i64 ((rd_T50 l0 (ji4)).f1)] 50 (0, 0)) (bk_ BK118.out) k_ hk⟩))
             (case aO => exact (by (with_reducible repeat (first | apply Kd.R_alloc | apply Kd.R_drewN | apply Kd.R_drew)); exact Kd.R_mono HO153.out (fun _ hk => ⟨hk.1.2, hk.2⟩)))
             (case aS => exact (below_size (bws_ HB.out)))
             (case aL => have := LMc49.out; omega)
             intro v155 w65 ho hb hg hat
             rw [← Ny154.out] at ho
             have n0_ := Aside0.mk (blk_grown (g := gb116) (o := .cells #[.int .i64 ((rd_T50 l0 0).f0), .int .i64 ((rd_T50 l0 0).f1)] 50 (0, 0)) (bk_ BK116.out) hg (Kd.R_away HO153.out (fun _ hk => hk.1.2)))
             have n1_ := Aside0.mk (blk_grown (g := gb118) (o := .cells #[.int .i64 ((rd_T50 l0 (ji4)).f0), .int .i64 ((rd_T50 l0 (ji4)).f1)] 50 (0, 0)) (bk_ BK118.out) hg (Kd.R_away HO153.out (fun _ hk => hk.2)))
             have n2_ := Aside0.mk (hb)
             have n3_ := Aside0.mk (ho)
             clear BK116 BK118 HB HO153
             have BK116 := n0_; have BK118 := n1_; have HB := n2_; have HO156 := n3_
             clear n0_ n1_ n2_ n3_ ho hb hg hat
             refine hK.out _ _ trivial (fun hHeld => ?_)
             clear hK K
             refine norm_ (a' := ?_) ?_ ?_
             rotate_left
             ·show Act.put _ (some 56) _ = _
              simp only [Act.put, List.setIfInBounds_toArray, List.set_cons_zero, List.set_cons_succ, i64_w, i32_w]
              rfl
             refine one_ (i := 5) (N := some 59) #[true, true, true, true, true, true, false, false] rfl rfl (one_of HT_.out (by kernel_rfl)) (by decide) (fun K hK => ?_)
             refine Kd.R_append_rows_step k50 (w0 := w) w.heap.size (by rfl) (.tmp 56) (.tmp 58) 24 50 (.agg #[(.int .i64 0), (.int .i64 0)]) 16 rfl Try.underlying24 info50 rfl (by decide) (by omega) v155 y154 y157 _ _ _ (fun k_ => k_ ≠ gb116 ∧ k_ ≠ gb118) (fun _ => False) rfl rfl ?aO ?aR (fun _ _ h => h) (fun _ h => h.elim) ?aF ?aB ?aS ?aL ?_
             (case aR => repeat (first | exact (Kd.C_below HR160.out HB.out) | (with_reducible refine Kd.C_alloc ?_ _) | (with_reducible refine Kd.C_drewN ?_ _) | (with_reducible refine Kd.C_drew ?_)))
             (case aB => exact (bws_ HB.out))
             (case aF => exact (fun k_ hk => ⟨Kd.freshB (g := gb116) (o := .cells #[.int .i64 ((rd_T50 l0 0).f0), .int .i64 ((rd_T50 l0 0).f1)] 50 (0, 0)) (bk_ BK116.out) k_ hk, Kd.freshB (g := gb118) (o := .cells #[.int .i64 ((rd_T50 l0 (ji4)).f0), .int .i64 ((rd_T50 l0 (ji4)).f1)] 50 (0, 0)) (bk_ BK118.out) k_ hk⟩))
             (case aO => exact (by (with_reducible repeat (first | apply Kd.R_alloc | apply Kd.R_drewN | apply Kd.R_drew)); exact HO156.out))
             (case aS => exact (below_size (bws_ HB.out)))
             (case aL => have := LMc51.out; omega)
             intro v162 w66 ho hb hg hat
             rw [← Ny161.out] at ho
             have n0_ := Aside0.mk (blk_grown (g := gb116) (o := .cells #[.int .i64 ((rd_T50 l0 0).f0), .int .i64 ((rd_T50 l0 0).f1)] 50 (0, 0)) (bk_ BK116.out) hg (Kd.R_away HO156.out (fun _ hk => hk.1)))
             have n1_ := Aside0.mk (blk_grown (g := gb118) (o := .cells #[.int .i64 ((rd_T50 l0 (ji4)).f0), .int .i64 ((rd_T50 l0 (ji4)).f1)] 50 (0, 0)) (bk_ BK118.out) hg (Kd.R_away HO156.out (fun _ hk => hk.2)))
             have n2_ := Aside0.mk (hb)
             have n3_ := Aside0.mk (ho)
             clear BK116 BK118 HB HO156
             have BK116 := n0_; have BK118 := n1_; have HB := n2_; have HO163 := n3_
             clear n0_ n1_ n2_ n3_ ho hb hg hat
             refine hK.out _ _ trivial (fun hHeld => ?_)
             clear hK K
             refine norm_ (a' := ?_) ?_ ?_
             rotate_left
             ·show Act.put _ (some 59) _ = _
              simp only [Act.put, List.setIfInBounds_toArray, List.set_cons_zero, List.set_cons_succ, i64_w, i32_w]
              rfl
             refine pure_ (i := 6) (N := some 4) (v := ?_) (a' := ?_) #[true, true, true, true, true, true, true, false] rfl rfl (any_of HT_.out (by kernel_rfl)) (fun _ _ _ h => h) (Or.inl ⟨by rfl, ?_⟩) ?_ ?_
             rotate_left
             ·intro w'
              go_simp
              with_reducible rfl
             rotate_left
             ·simp only [Act.put, List.setIfInBounds_toArray, List.set_cons_zero, List.set_cons_succ, i64_w, i32_w]
              rfl
             refine pure_ (i := 7) (N := some 5) (v := ?_) (a' := ?_) #[true, true, true, true, true, true, true, true] rfl rfl (any_of HT_.out (by kernel_rfl)) (fun _ _ _ h => h) (Or.inl ⟨by rfl, ?_⟩) ?_ ?_
             rotate_left
             ·intro w'
              go_simp
              with_reducible rfl
             rotate_left
             ·simp only [Act.put, List.setIfInBounds_toArray, List.set_cons_zero, List.set_cons_succ, i64_w, i32_w]
              rfl
             refine done_ (done_of HT_.out (by kernel_rfl)) ?_
             try go_wp2
             go_ret2
             exact ⟨_, by first | rfl | (simp [errW_none, errW_some] <;> rfl) | (simp only [← hji4, ← hji25]; first | rfl | (simp [errW_none, errW_some] <;> rfl)) | (simp [*, errW_none, errW_some] <;> rfl), by (with_reducible repeat (first | apply Kd.R_alloc | apply Kd.R_drewN | apply Kd.R_drew)); exact Kd.R_mono HO163.out (fun _ hk => trivial), by repeat (first | (with_reducible first | exact HB.out | apply below_alloc | apply pw_below_drewN | apply below_drew1 | refine below_set ?_ GE116.out | refine below_set ?_ GE118.out) | exact HB.out)⟩
            ·rw [if_neg c51] at H
             exact absurd H (by simp)
           ·rw [if_neg c50] at H
            exact absurd H (by simp)
          ·rw [if_neg c49] at H
           exact absurd H (by simp)
         ·rw [if_neg c48] at H
          have c48b0 : (((rd_T50 l0 0).f0) == ((rd_T50 l1 (ji25)).f0) && (((rd_T50 l0 0).f1) == ((rd_T50 l1 (ji25)).f1))) = false := by simpa using c48
          (try (have c48b1 : decide (((rd_T50 l0 0).f0) = ((rd_T50 l1 (ji25)).f0) && (((rd_T50 l0 0).f1) == ((rd_T50 l1 (ji25)).f1))) = false := by simpa using c48))
          (try (have c48b2 : (((rd_T50 l0 0).f0) == ((rd_T50 l1 (ji25)).f0) && (((rd_T50 l0 0).f1) == ((rd_T50 l1 (ji25)).f1))) = false := by simpa using c48))
          (try (have c48b3 : ¬ (((rd_T50 l0 0).f0) = ((rd_T50 l1 (ji25)).f0) && (((rd_T50 l0 0).f1) == ((rd_T50 l1 (ji25)).f1))) := by simpa using c48))
          clear c48
          by_cases c67 : (((rd_T50 l0 0).f0) == ((rd_T50 l1 0).f0) && (((rd_T50 l0 0).f1) == ((rd_T50 l1 0).f1))) = true
          ·rw [if_pos c67] at H
           have c67b0 : (((rd_T50 l0 0).f0) == ((rd_T50 l1 0).f0) && (((rd_T50 l0 0).f1) == ((rd_T50 l1 0).f1))) = true := c67
           (try (have c67b1 : decide (((rd_T50 l0 0).f0) = ((rd_T50 l1 0).f0) && (((rd_T50 l0 0).f1) == ((rd_T50 l1 0).f1))) = true := by simpa using c67))
           (try (have c67b2 : (((rd_T50 l0 0).f0) == ((rd_T50 l1 0).f0) && (((rd_T50 l0 0).f1) == ((rd_T50 l1 0).f1))) = true := by simpa using c67))
           clear c67
           replace H := Option.bind_eq_some_iff.mp H
           obtain ⟨t165, A680, H⟩ := H
           replace H : (if 1 ≤ (l0.length : Int) then ((some (l0.drop 1 : List (S50))).bind fun y168 => (if t165.length + y168.length < 8796093022208 then (some ((t165 ++ y168), true)) else (none))) else (none)) = some (r1, r2) := H
           have A68 := Aside0.mk A680
           clear A680
           by_cases c69 : 1 ≤ (l0.length : Int)
           ·rw [if_pos c69] at H
            have c69b0 := eq_true c69
            have c69b1 : decide (1 ≤ (l0.length : Int)) = true := decide_eq_true c69
            clear c69
            obtain ⟨y168, hy168⟩ : ∃ y_ : List (S50), y_ = (l0.drop 1) := ⟨_, rfl⟩
            replace H : (if t165.length + y168.length < 8796093022208 then (some ((t165 ++ y168), true)) else (none)) = some (r1, r2) := by first | (rw [hy168]; with_reducible exact H) | (have H2_ := (Option.bind_some _ _).symm.trans H; rw [hy168]; with_reducible exact H2_) | (have H2_ := (Option.bind_some _ _).symm.trans H; with_reducible exact H2_) | with_reducible exact H | (rw [hy168]; exact H) | exact H
            have Ny168 := Aside0.mk hy168
            clear hy168
            by_cases c70 : t165.length + y168.length < 8796093022208
            ·rw [if_pos c70] at H
             have LMc70 := Aside0.mk c70
             clear c70
             obtain ⟨y172, hy172⟩ : ∃ y_ : List (S50), y_ = (t165 ++ y168) := ⟨_, rfl⟩
             replace H : (some (y172, true)) = some (r1, r2) := by first | (rw [hy172]; with_reducible exact H) | (have H2_ := (Option.bind_some _ _).symm.trans H; rw [hy172]; with_reducible exact H2_) | (have H2_ := (Option.bind_some _ _).symm.trans H; with_reducible exact H2_) | with_reducible exact H | (rw [hy172]; exact H) | exact H
             have Ny172 := Aside0.mk hy172
             clear hy172
             simp only [Option.some.injEq, Prod.mk.injEq] at H
             obtain ⟨rfl, rfl⟩ := H
             have p115 : 0 ≤ (0 : Int) := (by omega)
             have q115 : 0 < (l0.length : Int) := od_
             obtain ⟨ad115, e115, hx115_0, hx115_1⟩ := at_T50 HR0.out 0 p115 q115
             cases e115
             have qi115 : (0 < l0.length) = True := eq_true (by omega)
             (try rw [show ((0 : Int)).toNat = 0 from rfl] at hx115_0)
             (try rw [show 0 * 2 = 0 from rfl] at hx115_0)
             (try rw [Addr.add_zero'] at hx115_0)
             (try rw [show ((0 : Int)).toNat = 0 from rfl] at hx115_1)
             (try rw [show 0 * 2 = 0 from rfl] at hx115_1)
             (try rw [Addr.add_zero'] at hx115_1)
             replace p115 := eq_true p115
             replace q115 := eq_true q115
             go_enter Try.func28, Try.ntmps28
             try go_wp2_with (first | ((with_reducible refine gate_dst (N := 6) rfl ?_); refine box_event ?hg (N := 6) ?hd (cs := #[.int .i64 0, .int .i64 0]) (t := 50) ?hr ?_; (case hd => rfl); (case hg => rfl); (case hr => first | (go_simp; done) | (go_simp; rfl)); intro gb116 hg w71 hbox hb; have n0_ := Aside0.mk (below_step (bw_ HB.out) hb); have n1_ := Aside0.mk (hbox); have n2_ := Aside0.mk ((ge_ hg (bw_ HB.out))); have n3_ := Aside0.mk ((ge_ hg (bw_ HB.out))); clear HB; have HB := n0_; have BK116 := n1_; have GW116 := n2_; have GE116 := n3_; clear n0_ n1_ n2_ n3_; clear hb hbox hg; have hcz72_0 : w71.cell? ⟨gb116, 0, none⟩ = some (.int .i64 0) := (blk_cell BK116.out 0).trans rfl; have hcz72_1 : w71.cell? ⟨gb116, 1, none⟩ = some (.int .i64 0) := (blk_cell BK116.out 1).trans rfl; have hfz72_0 := blk_frozen BK116.out 0; have hfz72_1 := blk_frozen BK116.out 1; have p117 : 0 ≤ ((ji4) : Int) := od_; have q117 : (ji4) < (l0.length : Int) := od_; obtain ⟨ad117, e117, hx117_0, hx117_1⟩ := at_T50 HR0.out (ji4) p117 q117; obtain rfl : ad115 = ad117 := (by injection e117); have hn117_0 : ad115.block ≠ gb116 := Nat.ne_of_lt (Nat.lt_of_lt_of_le (by have := World.block_lt_of_cell? _ _ hx117_0; first | rwa [add_block] at this | exact this) GW116.out); have hn117_1 : ad115.block ≠ gb116 := Nat.ne_of_lt (Nat.lt_of_lt_of_le (by have := World.block_lt_of_cell? _ _ hx117_0; first | rwa [add_block] at this | exact this) GW116.out); replace hx117_0 := (HB.out.cell (World.block_lt_of_cell? w _ hx117_0)).trans hx117_0; replace hx117_1 := (HB.out.cell (World.block_lt_of_cell? w _ hx117_1)).trans hx117_1; replace hx117_0 := (cell_far (p := ⟨gb116, 0, none⟩) (by first | (rw [add_block]; exact hn117_0) | (show (Addr.add _ _).block ≠ _; rw [add_block]; exact hn117_0) | exact hn117_0) (.int .i64 ((rd_T50 l0 0).f0))).trans hx117_0; replace hx117_1 := (cell_far (p := ⟨gb116, 0, none⟩) (by first | (rw [add_block]; exact hn117_0) | (show (Addr.add _ _).block ≠ _; rw [add_block]; exact hn117_0) | exact hn117_0) (.int .i64 ((rd_T50 l0 0).f0))).trans hx117_1; replace hx117_0 := (cell_far (p := ⟨gb116, 1, none⟩) (by first | (rw [add_block]; exact hn117_1) | (show (Addr.add _ _).block ≠ _; rw [add_block]; exact hn117_1) | exact hn117_1) (.int .i64 ((rd_T50 l0 0).f1))).trans hx117_0; replace hx117_1 := (cell_far (p := ⟨gb116, 1, none⟩) (by first | (rw [add_block]; exact hn117_1) | (show (Addr.add _ _).block ≠ _; rw [add_block]; exact hn117_1) | exact hn117_1) (.int .i64 ((rd_T50 l0 0).f1))).trans hx117_1; clear hn117_0; clear hn117_1; replace p117 := eq_true p117; replace q117 := eq_true q117) | ((with_reducible refine gate_dst (N := 7) rfl ?_); refine box_event ?hg (N := 7) ?hd (cs := #[.int .i64 0, .int .i64 0]) (t := 50) ?hr ?_; (case hd => rfl); (case hg => rfl); (case hr => first | (go_simp; done) | (go_simp; rfl)); intro gb118 hg w73 hbox hb; have n0_ := Aside0.mk (blk_below (g := gb116) (o := .cells #[.int .i64 ((rd_T50 l0 0).f0), .int .i64 ((rd_T50 l0 0).f1)] 50 (0, 0)) (by (with_reducible repeat (first | refine blk_drewN ?_ _ | refine blk_drew ?_ | refine blk_alloc ?_ _)); refine blk_put (cs := #[.int .i64 ((rd_T50 l0 0).f0), .int .i64 0]) ?_ 1 _ rfl; (with_reducible repeat (first | refine blk_drewN ?_ _ | refine blk_drew ?_ | refine blk_alloc ?_ _)); refine blk_put (cs := #[.int .i64 0, .int .i64 0]) ?_ 0 _ rfl; (with_reducible repeat (first | refine blk_drewN ?_ _ | refine blk_drew ?_ | refine blk_alloc ?_ _)); exact BK116.out) hb); have n1_ := Aside0.mk (below_step (bws_ HB.out) hb); have n2_ := Aside0.mk (hbox); have n3_ := Aside0.mk ((ge_ hg (bws_ HB.out))); have n4_ := Aside0.mk ((ge_ hg (bws_ HB.out))); have n5_ := Aside0.mk ((by rw [hg]; exact Nat.ne_of_lt (blk_lt (g := gb116) (o := .cells #[.int .i64 ((rd_T50 l0 0).f0), .int .i64 ((rd_T50 l0 0).f1)] 50 (0, 0)) (by (with_reducible repeat (first | refine blk_drewN ?_ _ | refine blk_drew ?_ | refine blk_alloc ?_ _)); refine blk_put (cs := #[.int .i64 ((rd_T50 l0 0).f0), .int .i64 0]) ?_ 1 _ rfl; (with_reducible repeat (first | refine blk_drewN ?_ _ | refine blk_drew ?_ | refine blk_alloc ?_ _)); refine blk_put (cs := #[.int .i64 0, .int .i64 0]) ?_ 0 _ rfl; (with_reducible repeat (first | refine blk_drewN ?_ _ | refine blk_drew ?_ | refine blk_alloc ?_ _)); exact BK116.out)) : gb116 ≠ gb118)); have n6_ := Aside0.mk ((by rw [hg]; exact Nat.ne_of_gt (blk_lt (g := gb116) (o := .cells #[.int .i64 ((rd_T50 l0 0).f0), .int .i64 ((rd_T50 l0 0).f1)] 50 (0, 0)) (by (with_reducible repeat (first | refine blk_drewN ?_ _ | refine blk_drew ?_ | refine blk_alloc ?_ _)); refine blk_put (cs := #[.int .i64 ((rd_T50 l0 0).f0), .int .i64 0]) ?_ 1 _ rfl; (with_reducible repeat (first | refine blk_drewN ?_ _ | refine blk_drew ?_ | refine blk_alloc ?_ _)); refine blk_put (cs := #[.int .i64 0, .int .i64 0]) ?_ 0 _ rfl; (with_reducible repeat (first | refine blk_drewN ?_ _ | refine blk_drew ?_ | refine blk_alloc ?_ _)); exact BK116.out)) : gb118 ≠ gb116)); clear BK116; clear HB; have BK116 := n0_; have HB := n1_; have BK118 := n2_; have GW118 := n3_; have GE118 := n4_; have NB116_118 := n5_; have NB118_116 := n6_; clear n0_ n1_ n2_ n3_ n4_ n5_ n6_; clear hb hbox hg; have hnb74 := NB118_116.out; have hnc74 := NB116_118.out; have hcz75_0 : w73.cell? ⟨gb118, 0, none⟩ = some (.int .i64 0) := (blk_cell BK118.out 0).trans rfl; have hcz75_1 : w73.cell? ⟨gb118, 1, none⟩ = some (.int .i64 0) := (blk_cell BK118.out 1).trans rfl; have hfz75_0 := blk_frozen BK118.out 0; have hfz75_1 := blk_frozen BK118.out 1))
             have n0_ : Aside0 (((w73.setCell ⟨gb118, 0, none⟩ (.int .i64 ((rd_T50 l0 (ji4)).f0))).setCell ⟨gb118, 1, none⟩ (.int .i64 ((rd_T50 l0 (ji4)).f1))).heap[gb116]? = some (.cells #[.int .i64 ((rd_T50 l0 0).f0), .int .i64 ((rd_T50 l0 0).f1)] 50 (0, 0))) := ⟨by (with_reducible repeat (first | refine blk_drewN ?_ _ | refine blk_drew ?_ | refine blk_alloc ?_ _)); refine blk_far ?_ NB116_118.out _; (with_reducible repeat (first | refine blk_drewN ?_ _ | refine blk_drew ?_ | refine blk_alloc ?_ _)); refine blk_far ?_ NB116_118.out _; (with_reducible repeat (first | refine blk_drewN ?_ _ | refine blk_drew ?_ | refine blk_alloc ?_ _)); exact BK116.out⟩
             have n1_ : Aside0 (((w73.setCell ⟨gb118, 0, none⟩ (.int .i64 ((rd_T50 l0 (ji4)).f0))).setCell ⟨gb118, 1, none⟩ (.int .i64 ((rd_T50 l0 (ji4)).f1))).heap[gb118]? = some (.cells #[.int .i64 ((rd_T50 l0 (ji4)).f0), .int .i64 ((rd_T50 l0 (ji4)).f1)] 50 (0, 0))) := ⟨by (with_reducible repeat (first | refine blk_drewN ?_ _ | refine blk_drew ?_ | refine blk_alloc ?_ _)); refine blk_put (cs := #[.int .i64 ((rd_T50 l0 (ji4)).f0), .int .i64 0]) ?_ 1 _ rfl; (with_reducible repeat (first | refine blk_drewN ?_ _ | refine blk_drew ?_ | refine blk_alloc ?_ _)); refine blk_put (cs := #[.int .i64 0, .int .i64 0]) ?_ 0 _ rfl; (with_reducible repeat (first | refine blk_drewN ?_ _ | refine blk_drew ?_ | refine blk_alloc ?_ _)); exact BK118.out⟩
             have n2_ : Aside0 (Below w.heap.size w ((w73.setCell ⟨gb118, 0, none⟩ (.int .i64 ((rd_T50 l0 (ji4)).f0))).setCell ⟨gb118, 1, none⟩ (.int .i64 ((rd_T50 l0 (ji4)).f1)))) := ⟨bws_ HB.out⟩
             (try clear BK116)
             (try clear BK118)
             (try clear HB)
             generalize ((w73.setCell ⟨gb118, 0, none⟩ (.int .i64 ((rd_T50 l0 (ji4)).f0))).setCell ⟨gb118, 1, none⟩ (.int .i64 ((rd_T50 l0 (ji4)).f1))) = w76 at n0_ n1_ n2_ ⊢
             have BK116 := n0_; have BK118 := n1_; have HB := n2_
             clear n0_ n1_ n2_
             have n0_ := Aside0.mk (blk_drew BK116.out)
             have n1_ := Aside0.mk (blk_drew BK118.out)
             have n2_ := Aside0.mk (below_drew1 HB.out)
             clear BK116 BK118 HB
             have BK116 := n0_; have BK118 := n1_; have HB := n2_
             clear n0_ n1_ n2_
             have p119 : 0 ≤ (0 : Int) := (by omega)
             have q119 : 0 < (l1.length : Int) := od_
             obtain ⟨ad119, e119, hx119_0, hx119_1⟩ := at_T50 HR1.out 0 p119 q119
             have hw119_1 := hx119_1
             (try rw [show ((0 : Int)).toNat = 0 from rfl] at hw119_1)
             (try rw [show 0 * 2 = 0 from rfl] at hw119_1)
             (try rw [Addr.add_zero'] at hw119_1)
             have hw119_0 := hx119_0
             (try rw [show ((0 : Int)).toNat = 0 from rfl] at hw119_0)
             (try rw [show 0 * 2 = 0 from rfl] at hw119_0)
             (try rw [Addr.add_zero'] at hw119_0)
             cases e119
             have qi119 : (0 < l1.length) = True := eq_true (by omega)
             (try rw [show ((0 : Int)).toNat = 0 from rfl] at hx119_0)
             (try rw [show 0 * 2 = 0 from rfl] at hx119_0)
             (try rw [Addr.add_zero'] at hx119_0)
             (try rw [show ((0 : Int)).toNat = 0 from rfl] at hx119_1)
             (try rw [show 0 * 2 = 0 from rfl] at hx119_1)
             (try rw [Addr.add_zero'] at hx119_1)
             replace hx119_0 := (HB.out.cell (World.block_lt_of_cell? w _ hx119_0)).trans hx119_0
             replace hx119_1 := (HB.out.cell (World.block_lt_of_cell? w _ hx119_1)).trans hx119_1
             replace p119 := eq_true p119
             replace q119 := eq_true q119
             refine start_ (n := 6) (S := fun w' => w'.cell? ⟨gb118, 0, none⟩ = some (.int .i64 ((rd_T50 l0 (ji4)).f0)) ∧ w'.cell? ⟨gb118, 1, none⟩ = some (.int .i64 ((rd_T50 l0 (ji4)).f1)) ∧ w'.cell? ad119 = some (.int .i64 ((rd_T50 l1 0).f0)) ∧ w'.cell? ⟨ad119.block, ad119.off + 1, none⟩ = some (.int .i64 ((rd_T50 l1 0).f1))) (ds := []) #[false, false, false, false, false, false] (by kernel_rfl) rfl rfl ⟨(blk_cell BK118.out 0).trans rfl, (blk_cell BK118.out 1).trans rfl, ((HB.out.cell (World.block_lt_of_cell? w _ hw119_0)).trans hw119_0), ((HB.out.cell (World.block_lt_of_cell? w _ hw119_1)).trans hw119_1)⟩ (fun hHeld => ?_)
             generalize w76.drew = w77 at BK116 BK118 HB hx119_0 hx119_1 hHeld ⊢
             refine pure_ (i := 1) (N := some 19) (v := ?_) (a' := ?_) #[false, true, false, false, false, false] rfl rfl (by kernel_rfl) (fun _ _ _ h => h) (Or.inl ⟨by rfl, ?_⟩) ?_ ?_
             rotate_left
             ·intro w'
              go_simp
              with_reducible rfl
             rotate_left
             ·simp only [Act.put, List.setIfInBounds_toArray, List.set_cons_zero, List.set_cons_succ, i64_w, i32_w]
              rfl
             refine pure_ (i := 2) (N := some 20) (v := ?_) (a' := ?_) #[false, true, true, false, false, false] rfl rfl (by kernel_rfl) (fun _ _ _ h => h) (Or.inl ⟨by rfl, ?_⟩) ?_ ?_
             rotate_left
             ·intro w'
              go_simp
              with_reducible rfl
             rotate_left
             ·simp only [Act.put, List.setIfInBounds_toArray, List.set_cons_zero, List.set_cons_succ, i64_w, i32_w]
              rfl
             refine take_ (i := 0) (N := some 18) (v := ?_) (a' := ?_) #[true, true, true, false, false, false] rfl rfl (by kernel_rfl) (fun _ _ _ h => h) (Or.inl ⟨by rfl, ?_⟩) hHeld ?_ ?_
             rotate_left
             ·rintro w' ⟨s0, s1, s2, s3⟩
              go_simp
              with_reducible rfl
             rotate_left
             ·simp only [Act.put, List.setIfInBounds_toArray, List.set_cons_zero, List.set_cons_succ, i64_w, i32_w]
              rfl
             refine take_ (i := 3) (N := some 21) (v := ?_) (a' := ?_) #[true, true, true, true, false, false] rfl rfl (by kernel_rfl) (fun _ _ _ h => h) (Or.inl ⟨by rfl, ?_⟩) hHeld ?_ ?_
             rotate_left
             ·rintro w' ⟨s0, s1, s2, s3⟩
              go_simp
              with_reducible rfl
             rotate_left
             ·simp only [Act.put, List.setIfInBounds_toArray, List.set_cons_zero, List.set_cons_succ, i64_w, i32_w]
              rfl
             refine pure_ (i := 4) (N := some 22) (v := ?_) (a' := ?_) #[true, true, true, true, true, false] rfl rfl (by kernel_rfl) (fun _ _ _ h => h) (Or.inl ⟨by rfl, ?_⟩) ?_ ?_
             rotate_left
             ·intro w'
              go_simp
              with_reducible rfl
             rotate_left
             ·simp only [Act.put, List.setIfInBounds_toArray, List.set_cons_zero, List.set_cons_succ, i64_w, i32_w]
              rfl
             refine pure_ (i := 5) (N := some 17) (v := ?_) (a' := ?_) #[true, true, true, true, true, true] rfl rfl (by kernel_rfl) (fun _ _ _ h => h) (Or.inl ⟨by rfl, ?_⟩) ?_ ?_
             rotate_left
             ·intro w'
              go_simp
              with_reducible rfl
             rotate_left
             ·simp only [Act.put, List.setIfInBounds_toArray, List.set_cons_zero, List.set_cons_succ, i64_w, i32_w]
              rfl
             refine done_ (by kernel_rfl) ?_
             try go_wp2
             have n0_ := Aside0.mk (blk_drew BK116.out)
             have n1_ := Aside0.mk (blk_drew BK118.out)
             have n2_ := Aside0.mk (below_drew1 HB.out)
             clear BK116 BK118 HB
             have BK116 := n0_; have BK118 := n1_; have HB := n2_
             clear n0_ n1_ n2_
             have p133 : 0 ≤ ((ji25) : Int) := od_
             have q133 : (ji25) < (l1.length : Int) := od_
             obtain ⟨ad133, e133, hx133_0, hx133_1⟩ := at_T50 HR1.out (ji25) p133 q133
             have hw133_1 := hx133_1
             have hw133_0 := hx133_0
             obtain rfl : ad119 = ad133 := (by injection e133)
             replace hx133_0 := (HB.out.cell (World.block_lt_of_cell? w _ hx133_0)).trans hx133_0
             replace hx133_1 := (HB.out.cell (World.block_lt_of_cell? w _ hx133_1)).trans hx133_1
             replace p133 := eq_true p133
             replace q133 := eq_true q133
             refine start_ (n := 9) (S := fun w' => w'.cell? ⟨gb118, 0, none⟩ = some (.int .i64 ((rd_T50 l0 (ji4)).f0)) ∧ w'.cell? ⟨gb118, 1, none⟩ = some (.int .i64 ((rd_T50 l0 (ji4)).f1)) ∧ w'.cell? (ad119.add (((ji25)).toNat * 2)) = some (.int .i64 ((rd_T50 l1 (ji25)).f0)) ∧ w'.cell? ⟨(ad119.add (((ji25)).toNat * 2)).block, (ad119.add (((ji25)).toNat * 2)).off + 1, none⟩ = some (.int .i64 ((rd_T50 l1 (ji25)).f1))) (ds := []) #[false, false, false, false, false, false, false, false, false] (by kernel_rfl) rfl rfl ⟨(blk_cell BK118.out 0).trans rfl, (blk_cell BK118.out 1).trans rfl, ((HB.out.cell (World.block_lt_of_cell? w _ hw133_0)).trans hw133_0), ((HB.out.cell (World.block_lt_of_cell? w _ hw133_1)).trans hw133_1)⟩ (fun hHeld => ?_); refine with_tabW spec_l10Join.tab5 spec_l10Join.bits5 (fun HT_ HW_ => ?_)
             generalize w77.drew = w78 at BK116 BK118 HB hx133_0 hx133_1 hHeld ⊢
             refine pure_ (i := 1) (N := some 31) (v := ?_) (a' := ?_) #[false, true, false, false, false, false, false, false, false] rfl rfl (any_of HT_.out (by kernel_rfl)) (fun _ _ _ h => h) (Or.inl ⟨by rfl, ?_⟩) ?_ ?_
             rotate_left
             ·intro w'
              go_simp
              with_reducible rfl
             rotate_left
             ·simp only [Act.put, List.setIfInBounds_toArray, List.set_cons_zero, List.set_cons_succ, i64_w, i32_w]
              rfl
             refine pure_ (i := 2) (N := some 32) (v := ?_) (a' := ?_) #[false, true, true, false, false, false, false, false, false] rfl rfl (any_of HT_.out (by kernel_rfl)) (fun _ _ _ h => h) (Or.inl ⟨by rfl, ?_⟩) ?_ ?_
             rotate_left
             ·intro w'
              go_simp
              with_reducible rfl
             rotate_left
             ·simp only [Act.put, List.setIfInBounds_toArray, List.set_cons_zero, List.set_cons_succ, i64_w, i32_w]
              rfl
             refine pure_ (i := 3) (N := some 33) (v := ?_) (a' := ?_) #[false, true, true, true, false, false, false, false, false] rfl rfl (any_of HT_.out (by kernel_rfl)) (fun _ _ _ h => h) (Or.inl ⟨by rfl, ?_⟩) ?_ ?_
             rotate_left
             ·intro w'
              go_simp
              with_reducible rfl
             rotate_left
             ·simp only [Act.put, List.setIfInBounds_toArray, List.set_cons_zero, List.set_cons_succ, i64_w, i32_w]
              rfl
             refine pure_ (i := 4) (N := some 34) (v := ?_) (a' := ?_) #[false, true, true, true, true, false, false, false, false] rfl rfl (any_of HT_.out (by kernel_rfl)) (fun _ _ _ h => h) (Or.inl ⟨by rfl, ?_⟩) ?_ ?_
             rotate_left
             ·intro w'
              go_simp
              with_reducible rfl
             rotate_left
             ·simp only [Act.put, List.setIfInBounds_toArray, List.set_cons_zero, List.set_cons_succ, i64_w, i32_w]
              rfl
             refine pure_ (i := 5) (N := some 35) (v := ?_) (a' := ?_) #[false, true, true, true, true, true, false, false, false] rfl rfl (any_of HT_.out (by kernel_rfl)) (fun _ _ _ h => h) (Or.inl ⟨by rfl, ?_⟩) ?_ ?_
             rotate_left
             ·intro w'
              go_simp
              with_reducible rfl
             rotate_left
             ·simp only [Act.put, List.setIfInBounds_toArray, List.set_cons_zero, List.set_cons_succ, i64_w, i32_w]
              rfl
             refine take_ (i := 0) (N := some 30) (v := ?_) (a' := ?_) #[true, true, true, true, true, true, false, false, false] rfl rfl (take_ofW HT_.out HW_.out (by kernel_rfl)) (fun _ _ _ h => h) (Or.inl ⟨by rfl, ?_⟩) hHeld ?_ ?_
             rotate_left
             ·rintro w' ⟨s0, s1, s2, s3⟩
              go_simp
              with_reducible rfl
             rotate_left
             ·simp only [Act.put, List.setIfInBounds_toArray, List.set_cons_zero, List.set_cons_succ, i64_w, i32_w]
              rfl
             refine take_ (i := 6) (N := some 36) (v := ?_) (a' := ?_) #[true, true, true, true, true, true, true, false, false] rfl rfl (take_ofW HT_.out HW_.out (by kernel_rfl)) (fun _ _ _ h => h) (Or.inl ⟨by rfl, ?_⟩) hHeld ?_ ?_
             rotate_left
             ·rintro w' ⟨s0, s1, s2, s3⟩
              go_simp
              with_reducible rfl
             rotate_left
             ·simp only [Act.put, List.setIfInBounds_toArray, List.set_cons_zero, List.set_cons_succ, i64_w, i32_w]
              rfl
             refine pure_ (i := 7) (N := some 37) (v := ?_) (a' := ?_) #[true, true, true, true, true, true, true, true, false] rfl rfl (any_of HT_.out (by kernel_rfl)) (fun _ _ _ h => h) (Or.inl ⟨by rfl, ?_⟩) ?_ ?_
             rotate_left
             ·intro w'
              go_simp
              with_reducible rfl
             rotate_left
             ·simp only [Act.put, List.setIfInBounds_toArray, List.set_cons_zero, List.set_cons_succ, i64_w, i32_w]
              rfl
             refine pure_ (i := 8) (N := some 29) (v := ?_) (a' := ?_) #[true, true, true, true, true, true, true, true, true] rfl rfl (any_of HT_.out (by kernel_rfl)) (fun _ _ _ h => h) (Or.inl ⟨by rfl, ?_⟩) ?_ ?_
             rotate_left
             ·intro w'
              go_simp
              with_reducible rfl
             rotate_left
             ·simp only [Act.put, List.setIfInBounds_toArray, List.set_cons_zero, List.set_cons_succ, i64_w, i32_w]
              rfl
             refine done_ (done_of HT_.out (by kernel_rfl)) ?_
             try go_wp2
             have n0_ := Aside0.mk (blk_drew BK116.out)
             have n1_ := Aside0.mk (blk_drew BK118.out)
             have n2_ := Aside0.mk (below_drew1 HB.out)
             clear BK116 BK118 HB
             have BK116 := n0_; have BK118 := n1_; have HB := n2_
             clear n0_ n1_ n2_
             have p150 : 0 ≤ ((ji25) : Int) := od_
             have q150 : (ji25) < (l1.length : Int) := od_
             obtain ⟨ad150, e150, hx150_0, hx150_1⟩ := at_T50 HR1.out (ji25) p150 q150
             have hw150_1 := hx150_1
             have hw150_0 := hx150_0
             obtain rfl : ad119 = ad150 := (by injection e150)
             replace hx150_0 := (HB.out.cell (World.block_lt_of_cell? w _ hx150_0)).trans hx150_0
             replace hx150_1 := (HB.out.cell (World.block_lt_of_cell? w _ hx150_1)).trans hx150_1
             replace p150 := eq_true p150
             replace q150 := eq_true q150
             refine start_ (n := 9) (S := fun w' => w'.cell? ⟨gb116, 0, none⟩ = some (.int .i64 ((rd_T50 l0 0).f0)) ∧ w'.cell? ⟨gb116, 1, none⟩ = some (.int .i64 ((rd_T50 l0 0).f1)) ∧ w'.cell? (ad119.add (((ji25)).toNat * 2)) = some (.int .i64 ((rd_T50 l1 (ji25)).f0)) ∧ w'.cell? ⟨(ad119.add (((ji25)).toNat * 2)).block, (ad119.add (((ji25)).toNat * 2)).off + 1, none⟩ = some (.int .i64 ((rd_T50 l1 (ji25)).f1))) (ds := []) #[false, false, false, false, false, false, false, false, false] (by kernel_rfl) rfl rfl ⟨(blk_cell BK116.out 0).trans rfl, (blk_cell BK116.out 1).trans rfl, ((HB.out.cell (World.block_lt_of_cell? w _ hw150_0)).trans hw150_0), ((HB.out.cell (World.block_lt_of_cell? w _ hw150_1)).trans hw150_1)⟩ (fun hHeld => ?_); refine with_tabW spec_l10Join.tab7 spec_l10Join.bits7 (fun HT_ HW_ => ?_)
             generalize w78.drew = w79 at BK116 BK118 HB hx150_0 hx150_1 hHeld ⊢
             refine pure_ (i := 1) (N := some 47) (v := ?_) (a' := ?_) #[false, true, false, false, false, false, false, false, false] rfl rfl (any_of HT_.out (by kernel_rfl)) (fun _ _ _ h => h) (Or.inl ⟨by rfl, ?_⟩) ?_ ?_
             rotate_left
             ·intro w'
              go_simp
              with_reducible rfl
             rotate_left
             ·simp only [Act.put, List.setIfInBounds_toArray, List.set_cons_zero, List.set_cons_succ, i64_w, i32_w]
              rfl
             refine pure_ (i := 2) (N := some 48) (v := ?_) (a' := ?_) #[false, true, true, false, false, false, false, false, false] rfl rfl (any_of HT_.out (by kernel_rfl)) (fun _ _ _ h => h) (Or.inl ⟨by rfl, ?_⟩) ?_ ?_
             rotate_left
             ·intro w'
              go_simp
              with_reducible rfl
             rotate_left
             ·simp only [Act.put, List.setIfInBounds_toArray, List.set_cons_zero, List.set_cons_succ, i64_w, i32_w]
              rfl
             refine pure_ (i := 3) (N := some 49) (v := ?_) (a' := ?_) #[false, true, true, true, false, false, false, false, false] rfl rfl (any_of HT_.out (by kernel_rfl)) (fun _ _ _ h => h) (Or.inl ⟨by rfl, ?_⟩) ?_ ?_
             rotate_left
             ·intro w'
              go_simp
              with_reducible rfl
             rotate_left
             ·simp only [Act.put, List.setIfInBounds_toArray, List.set_cons_zero, List.set_cons_succ, i64_w, i32_w]
              rfl
             refine pure_ (i := 4) (N := some 50) (v := ?_) (a' := ?_) #[false, true, true, true, true, false, false, false, false] rfl rfl (any_of HT_.out (by kernel_rfl)) (fun _ _ _ h => h) (Or.inl ⟨by rfl, ?_⟩) ?_ ?_
             rotate_left
             ·intro w'
              go_simp
              with_reducible rfl
             rotate_left
             ·simp only [Act.put, List.setIfInBounds_toArray, List.set_cons_zero, List.set_cons_succ, i64_w, i32_w]
              rfl
             refine pure_ (i := 5) (N := some 51) (v := ?_) (a' := ?_) #[false, true, true, true, true, true, false, false, false] rfl rfl (any_of HT_.out (by kernel_rfl)) (fun _ _ _ h => h) (Or.inl ⟨by rfl, ?_⟩) ?_ ?_
             rotate_left
             ·intro w'
              go_simp
              with_reducible rfl
             rotate_left
             ·simp only [Act.put, List.setIfInBounds_toArray, List.set_cons_zero, List.set_cons_succ, i64_w, i32_w]
              rfl
             refine take_ (i := 0) (N := some 46) (v := ?_) (a' := ?_) #[true, true, true, true, true, true, false, false, false] rfl rfl (take_ofW HT_.out HW_.out (by kernel_rfl)) (fun _ _ _ h => h) (Or.inl ⟨by rfl, ?_⟩) hHeld ?_ ?_
             rotate_left
             ·rintro w' ⟨s0, s1, s2, s3⟩
              go_simp
              with_reducible rfl
             rotate_left
             ·simp only [Act.put, List.setIfInBounds_toArray, List.set_cons_zero, List.set_cons_succ, i64_w, i32_w]
              rfl
             refine take_ (i := 6) (N := some 52) (v := ?_) (a' := ?_) #[true, true, true, true, true, true, true, false, false] rfl rfl (take_ofW HT_.out HW_.out (by kernel_rfl)) (fun _ _ _ h => h) (Or.inl ⟨by rfl, ?_⟩) hHeld ?_ ?_
             rotate_left
             ·rintro w' ⟨s0, s1, s2, s3⟩
              go_simp
              with_reducible rfl
             rotate_left
             ·simp only [Act.put, List.setIfInBounds_toArray, List.set_cons_zero, List.set_cons_succ, i64_w, i32_w]
              rfl
             refine pure_ (i := 7) (N := some 53) (v := ?_) (a' := ?_) #[true, true, true, true, true, true, true, true, false] rfl rfl (any_of HT_.out (by kernel_rfl)) (fun _ _ _ h => h) (Or.inl ⟨by rfl, ?_⟩) ?_ ?_
             rotate_left
             ·intro w'
              go_simp
              with_reducible rfl
             rotate_left
             ·simp only [Act.put, List.setIfInBounds_toArray, List.set_cons_zero, List.set_cons_succ, i64_w, i32_w]
              rfl
             refine pure_ (i := 8) (N := some 45) (v := ?_) (a' := ?_) #[true, true, true, true, true, true, true, true, true] rfl rfl (any_of HT_.out (by kernel_rfl)) (fun _ _ _ h => h) (Or.inl ⟨by rfl, ?_⟩) ?_ ?_
             rotate_left
             ·intro w'
              go_simp
              with_reducible rfl
             rotate_left
             ·simp only [Act.put, List.setIfInBounds_toArray, List.set_cons_zero, List.set_cons_succ, i64_w, i32_w]
              rfl
             refine done_ (done_of HT_.out (by kernel_rfl)) ?_
             try go_wp2
             have n0_ := Aside0.mk (blk_drew BK116.out)
             have n1_ := Aside0.mk (blk_drew BK118.out)
             have n2_ := Aside0.mk (below_drew1 HB.out)
             clear BK116 BK118 HB
             have BK116 := n0_; have BK118 := n1_; have HB := n2_
             clear n0_ n1_ n2_
             have p164 : 0 ≤ (0 : Int) := (by omega)
             have q164 : 0 < (l1.length : Int) := od_
             obtain ⟨ad164, e164, hx164_0, hx164_1⟩ := at_T50 HR1.out 0 p164 q164
             have hw164_1 := hx164_1
             (try rw [show ((0 : Int)).toNat = 0 from rfl] at hw164_1)
             (try rw [show 0 * 2 = 0 from rfl] at hw164_1)
             (try rw [Addr.add_zero'] at hw164_1)
             have hw164_0 := hx164_0
             (try rw [show ((0 : Int)).toNat = 0 from rfl] at hw164_0)
             (try rw [show 0 * 2 = 0 from rfl] at hw164_0)
             (try rw [Addr.add_zero'] at hw164_0)
             obtain rfl : ad119 = ad164 := (by injection e164)
             have qi164 : (0 < l1.length) = True := eq_true (by omega)
             (try rw [show ((0 : Int)).toNat = 0 from rfl] at hx164_0)
             (try rw [show 0 * 2 = 0 from rfl] at hx164_0)
             (try rw [Addr.add_zero'] at hx164_0)
             (try rw [show ((0 : Int)).toNat = 0 from rfl] at hx164_1)
             (try rw [show 0 * 2 = 0 from rfl] at hx164_1)
             (try rw [Addr.add_zero'] at hx164_1)
             replace hx164_0 := (HB.out.cell (World.block_lt_of_cell? w _ hx164_0)).trans hx164_0
             replace hx164_1 := (HB.out.cell (World.block_lt_of_cell? w _ hx164_1)).trans hx164_1
             replace p164 := eq_true p164
             replace q164 := eq_true q164
             refine start_ (n := 6) (S := fun w' => w'.cell? ⟨gb116, 0, none⟩ = some (.int .i64 ((rd_T50 l0 0).f0)) ∧ w'.cell? ⟨gb116, 1, none⟩ = some (.int .i64 ((rd_T50 l0 0).f1)) ∧ w'.cell? ad119 = some (.int .i64 ((rd_T50 l1 0).f0)) ∧ w'.cell? ⟨ad119.block, ad119.off + 1, none⟩ = some (.int .i64 ((rd_T50 l1 0).f1))) (ds := []) #[false, false, false, false, false, false] (by kernel_rfl) rfl rfl ⟨(blk_cell BK116.out 0).trans rfl, (blk_cell BK116.out 1).trans rfl, ((HB.out.cell (World.block_lt_of_cell? w _ hw164_0)).trans hw164_0), ((HB.out.cell (World.block_lt_of_cell? w _ hw164_1)).trans hw164_1)⟩ (fun hHeld => ?_)
             generalize w79.drew = w80 at BK116 BK118 HB hx164_0 hx164_1 hHeld ⊢
             refine pure_ (i := 1) (N := some 62) (v := ?_) (a' := ?_) #[false, true, false, false, false, false] rfl rfl (by kernel_rfl) (fun _ _ _ h => h) (Or.inl ⟨by rfl, ?_⟩) ?_ ?_
             rotate_left
             ·intro w'
              go_simp
              with_reducible rfl
             rotate_left
             ·simp only [Act.put, List.setIfInBounds_toArray, List.set_cons_zero, List.set_cons_succ, i64_w, i32_w]
              rfl
             refine pure_ (i := 2) (N := some 63) (v := ?_) (a' := ?_) #[false, true, true, false, false, false] rfl rfl (by kernel_rfl) (fun _ _ _ h => h) (Or.inl ⟨by rfl, ?_⟩) ?_ ?_
             rotate_left
             ·intro w'
              go_simp
              with_reducible rfl
             rotate_left
             ·simp only [Act.put, List.setIfInBounds_toArray, List.set_cons_zero, List.set_cons_succ, i64_w, i32_w]
              rfl
             refine take_ (i := 0) (N := some 61) (v := ?_) (a' := ?_) #[true, true, true, false, false, false] rfl rfl (by kernel_rfl) (fun _ _ _ h => h) (Or.inl ⟨by rfl, ?_⟩) hHeld ?_ ?_
             rotate_left
             ·rintro w' ⟨s0, s1, s2, s3⟩
              go_simp
              with_reducible rfl
             rotate_left
             ·simp only [Act.put, List.setIfInBounds_toArray, List.set_cons_zero, List.set_cons_succ, i64_w, i32_w]
              rfl
             refine take_ (i := 3) (N := some 64) (v := ?_) (a' := ?_) #[true, true, true, true, false, false] rfl rfl (by kernel_rfl) (fun _ _ _ h => h) (Or.inl ⟨by rfl, ?_⟩) hHeld ?_ ?_
             rotate_left
             ·rintro w' ⟨s0, s1, s2, s3⟩
              go_simp
              with_reducible rfl
             rotate_left
             ·simp only [Act.put, List.setIfInBounds_toArray, List.set_cons_zero, List.set_cons_succ, i64_w, i32_w]
              rfl
             refine pure_ (i := 4) (N := some 65) (v := ?_) (a' := ?_) #[true, true, true, true, true, false] rfl rfl (by kernel_rfl) (fun _ _ _ h => h) (Or.inl ⟨by rfl, ?_⟩) ?_ ?_
             rotate_left
             ·intro w'
              go_simp
              with_reducible rfl
             rotate_left
             ·simp only [Act.put, List.setIfInBounds_toArray, List.set_cons_zero, List.set_cons_succ, i64_w, i32_w]
              rfl
             refine pure_ (i := 5) (N := some 60) (v := ?_) (a' := ?_) #[true, true, true, true, true, true] rfl rfl (by kernel_rfl) (fun _ _ _ h => h) (Or.inl ⟨by rfl, ?_⟩) ?_ ?_
             rotate_left
             ·intro w'
              go_simp
              with_reducible rfl
             rotate_left
             ·simp only [Act.put, List.setIfInBounds_toArray, List.set_cons_zero, List.set_cons_succ, i64_w, i32_w]
              rfl
             refine done_ (by kernel_rfl) ?_
             try go_wp2
             have n0_ := Aside0.mk (blk_drew BK116.out)
             have n1_ := Aside0.mk (blk_drew BK118.out)
             have n2_ := Aside0.mk (below_drew1 HB.out)
             clear BK116 BK118 HB
             have BK116 := n0_; have BK118 := n1_; have HB := n2_
             clear n0_ n1_ n2_
             have q82 : (1 : Int) ≤ ((l0.length : Int) : Int) := od_
             obtain ⟨i082, hi082, _, hsz82, _⟩ := info_parts info50
             have hroom82 : l0.length ≤ c0 := HC0.out
             have hC82 : Kd.C k50 _ (some ad115) l0.length l0 := HR0.out
             have hcut82 := cut_from (P := Try.prog) 24 50 .i64 Try.underlying24 hi082 2 hsz82 (some ad115) l0.length c0 1 (by omega) q82
             have hr82 := Kd.C_drop (m := (1 : Int).toNat) (c := c0) hC82 (by omega) hroom82
             obtain ⟨A82, hA82⟩ : ∃ A_z, A_z = (if c0 = (1 : Int).toNat then (some ad115) else ((some ad115) : Option Addr).map (·.add ((1 : Int).toNat * 2))) := ⟨_, rfl⟩
             obtain ⟨c82, hc82⟩ : ∃ c_z, c_z = c0 - (1 : Int).toNat := ⟨_, rfl⟩
             have hy82 : y168.length = l0.length - (1 : Int).toNat := (by rw [Ny168.out, List.length_drop] <;> omega)
             rw [show (l0).drop (1 : Int).toNat = y168 from Ny168.out.symm] at hr82
             replace hr82 : Kd.C k50 _ A82 y168.length y168 := (by rw [hA82]; exact hr82)
             rw [← hy82, ← hA82, ← hc82] at hcut82
             have HR171 := Aside0.mk hr82
             have HC171 := Aside0.mk (show y168.length ≤ c82 from by rw [hy82, hc82]; exact Nat.sub_le_sub_right hroom82 _)
             clear hr82 hC82 hroom82 hi082 hsz82 hc82
             have KY82 := Aside0.mk hy82
             have KA82 := Aside0.mk hA82
             clear hy82 hA82
             replace q82 := eq_true q82
             refine start_ (n := 7) (S := fun w' => True) (ds := []) #[false, false, false, false, false, false, false] (by kernel_rfl) rfl rfl trivial (fun hHeld => ?_)
             generalize w80.drew = w81 at BK116 BK118 HB HR171 hHeld ⊢
             refine pure_ (i := 0) (N := some 66) (v := ?_) (a' := ?_) #[true, false, false, false, false, false, false] rfl rfl (by kernel_rfl) (fun _ _ _ h => h) (Or.inl ⟨by rfl, ?_⟩) ?_ ?_
             rotate_left
             ·intro w'
              go_simp
              with_reducible rfl
             rotate_left
             ·simp only [Act.put, List.setIfInBounds_toArray, List.set_cons_zero, List.set_cons_succ, i64_w, i32_w]
              rfl
             refine pure_ (i := 2) (N := some 68) (v := ?_) (a' := ?_) #[true, false, true, false, false, false, false] rfl rfl (by kernel_rfl) (fun _ _ _ h => h) (Or.inl ⟨by rfl, ?_⟩) ?_ ?_
             rotate_left
             ·intro w'
              go_simp
              with_reducible rfl
             rotate_left
             ·simp only [Act.put, List.setIfInBounds_toArray, List.set_cons_zero, List.set_cons_succ, i64_w, i32_w]
              rfl
             refine pure_ (i := 3) (N := some 69) (v := ?_) (a' := ?_) #[true, false, true, true, false, false, false] rfl rfl (by kernel_rfl) (fun _ _ _ h => h) (Or.inl ⟨by rfl, ?_⟩) ?_ ?_
             rotate_left
             ·intro w'
              go_simp
              with_reducible rfl
             rotate_left
             ·simp only [Act.put, List.setIfInBounds_toArray, List.set_cons_zero, List.set_cons_succ, i64_w, i32_w]
              rfl
             refine one_ (i := 1) (N := some 67) #[true, true, true, true, false, false, false] rfl rfl (by kernel_rfl) (by decide) (fun K hK => ?_)
             refine goes_ Try.func45 (by kernel_rfl) rfl #[.slice (some ad119) l1.length c1] (by rfl) rfl rfl gl_ ?_
             with_reducible refine (spec_l10Back.calls k _ _ l1 t165 _ ?side1 ?side2 A68.out).mono ?_
             (case side1 => repeat (first | exact (Kd.C_below HR1.out HB.out) | (with_reducible refine Kd.C_alloc ?_ _) | (with_reducible refine Kd.C_drewN ?_ _) | (with_reducible refine Kd.C_drew ?_)))
             (case side2 => exact HC1.out)
             rintro e w83 ⟨v166, rfl, ho0, hb⟩
             refine ⟨_, rfl, ?_⟩
             have n0_ := Aside0.mk (Kd.R_lower (Kd.R_newB (Kd.R_newB ho0 (g := gb116) (o := .cells #[.int .i64 ((rd_T50 l0 0).f0), .int .i64 ((rd_T50 l0 0).f1)] 50 (0, 0)) (bk_ BK116.out)) (g := gb118) (o := .cells #[.int .i64 ((rd_T50 l0 (ji4)).f0), .int .i64 ((rd_T50 l0 (ji4)).f1)] 50 (0, 0)) (bk_ BK118.out)) (below_size (bws_ HB.out)))
             have n1_ := Aside0.mk (blk_below (bk_ BK116.out) hb)
             have n2_ := Aside0.mk (blk_below (bk_ BK118.out) hb)
             have n3_ := Aside0.mk (below_step (bws_ HB.out) hb)
             clear BK116 BK118 HB
             have HO167 := n0_; have BK116 := n1_; have BK118 := n2_; have HB := n3_
             clear n0_ n1_ n2_ n3_
             (try clear hb)
             (try clear hb2)
             (try clear hk)
             (try clear hi)
             (try clear ho0)
             refine hK.out _ _ trivial (fun hHeld => ?_)
             clear hK K
             refine norm_ (a' := ?_) ?_ ?_
             rotate_left
             ·show Act.put _ (some 67) _ = _
              simp only [Act.put, List.setIfInBounds_toArray, List.set_cons_zero, List.set_cons_succ, i64_w, i32_w]
              rfl
             refine one_ (i := 4) (N := some 70) #[true, true, true, true, true, false, false] rfl rfl (by kernel_rfl) (by decide) (fun K hK => ?_)
             refine Kd.R_append_rows_step k50 (w0 := w) w.heap.size (by rfl) (.tmp 67) (.tmp 69) 24 50 (.agg #[(.int .i64 0), (.int .i64 0)]) 16 rfl Try.underlying24 info50 rfl (by decide) (by omega) v166 t165 y168 _ _ _ (fun k_ => k_ ≠ gb116 ∧ k_ ≠ gb118) (fun _ => False) rfl rfl ?aO ?aR (fun _ _ h => h) (fun _ h => h.elim) ?aF ?aB ?aS ?aL ?_
             (case aR => repeat (first | exact (Kd.C_below HR171.out HB.out) | (with_reducible refine Kd.C_alloc ?_ _) | (with_reducible refine Kd.C_drewN ?_ _) | (with_reducible refine Kd.C_drew ?_)))
             (case aB => exact (bws_ HB.out))
             (case aF => exact (fun k_ hk => ⟨Kd.freshB (g := gb116) (o := .cells #[.int .i64 ((rd_T50 l0 0).f0), .int .i64 ((rd_T50 l0 0).f1)] 50 (0, 0)) (bk_ BK116.out) k_ hk, Kd.freshB (g := gb118) (o := .cells #[.int .i64 ((rd_T50 l0 (ji4)).f0), .int .i64 ((rd_T50 l0 (ji4)).f1)] 50 (0, 0)) (bk_ BK118.out) k_ hk⟩))
             (case aO => exact (by (with_reducible repeat (first | apply Kd.R_alloc | apply Kd.R_drewN | apply Kd.R_drew)); exact Kd.R_mono HO167.out (fun _ hk => ⟨hk.1.2, hk.2⟩)))
             (case aS => exact (below_size (bws_ HB.out)))
             (case aL => have := LMc70.out; omega)
             intro v173 w84 ho hb hg hat
             rw [← Ny172.out] at ho
             have n0_ := Aside0.mk (blk_grown (g := gb116) (o := .cells #[.int .i64 ((rd_T50 l0 0).f0), .int .i64 ((rd_T50 l0 0).f1)] 50 (0, 0)) (bk_ BK116.out) hg (Kd.R_away HO167.out (fun _ hk => hk.1.2)))
             have n1_ := Aside0.mk (blk_grown (g := gb118) (o := .cells #[.int .i64 ((rd_T50 l0 (ji4)).f0), .int .i64 ((rd_T50 l0 (ji4)).f1)] 50 (0, 0)) (bk_ BK118.out) hg (Kd.R_away HO167.out (fun _ hk => hk.2)))
             have n2_ := Aside0.mk (hb)
             have n3_ := Aside0.mk (ho)
             clear BK116 BK118 HB HO167
             have BK116 := n0_; have BK118 := n1_; have HB := n2_; have HO174 := n3_
             clear n0_ n1_ n2_ n3_ ho hb hg hat
             refine hK.out _ _ trivial (fun hHeld => ?_)
             clear hK K
             refine norm_ (a' := ?_) ?_ ?_
             rotate_left
             ·show Act.put _ (some 70) _ = _
              simp only [Act.put, List.setIfInBounds_toArray, List.set_cons_zero, List.set_cons_succ, i64_w, i32_w]
              rfl
             refine pure_ (i := 5) (N := some 4) (v := ?_) (a' := ?_) #[true, true, true, true, true, true, false] rfl rfl (by kernel_rfl) (fun _ _ _ h => h) (Or.inl ⟨by rfl, ?_⟩) ?_ ?_
             rotate_left
             ·intro w'
              go_simp
              with_reducible rfl
             rotate_left
             ·simp only [Act.put, List.setIfInBounds_toArray, List.set_cons_zero, List.set_cons_succ, i64_w, i32_w]
              rfl
             refine pure_ (i := 6) (N := some 5) (v := ?_) (a' := ?_) #[true, true, true, true, true, true, true] rfl rfl (by kernel_rfl) (fun _ _ _ h => h) (Or.inl ⟨by rfl, ?_⟩) ?_ ?_
             rotate_left
             ·intro w'
              go_simp
              with_reducible rfl
             rotate_left
             ·simp only [Act.put, List.setIfInBounds_toArray, List.set_cons_zero, List.set_cons_succ, i64_w, i32_w]
              rfl
             refine done_ (by kernel_rfl) ?_
             try go_wp2
             go_ret2
             exact ⟨_, by first | rfl | (simp [errW_none, errW_some] <;> rfl) | (simp only [← hji4, ← hji25]; first | rfl | (simp [errW_none, errW_some] <;> rfl)) | (simp [*, errW_none, errW_some] <;> rfl), by (with_reducible repeat (first | apply Kd.R_alloc | apply Kd.R_drewN | apply Kd.R_drew)); exact Kd.R_mono HO174.out (fun _ hk => trivial), by repeat (first | (with_reducible first | exact HB.out | apply below_alloc | apply pw_below_drewN | apply below_drew1 | refine below_set ?_ GE116.out | refine below_set ?_ GE118.out) | exact HB.out)⟩
            ·rw [if_neg c70] at H
             exact absurd H (by simp)
           ·rw [if_neg c69] at H
            exact absurd H (by simp)
          ·rw [if_neg c67] at H
           have c67b0 : (((rd_T50 l0 0).f0) == ((rd_T50 l1 0).f0) && (((rd_T50 l0 0).f1) == ((rd_T50 l1 0).f1))) = false := by simpa using c67
           (try (have c67b1 : decide (((rd_T50 l0 0).f0) = ((rd_T50 l1 0).f0) && (((rd_T50 l0 0).f1) == ((rd_T50 l1 0).f1))) = false := by simpa using c67))
           (try (have c67b2 : (((rd_T50 l0 0).f0) == ((rd_T50 l1 0).f0) && (((rd_T50 l0 0).f1) == ((rd_T50 l1 0).f1))) = false := by simpa using c67))
           (try (have c67b3 : ¬ (((rd_T50 l0 0).f0) = ((rd_T50 l1 0).f0) && (((rd_T50 l0 0).f1) == ((rd_T50 l1 0).f1))) := by simpa using c67))
           clear c67
           simp only [Option.some.injEq, Prod.mk.injEq] at H
           obtain ⟨rfl, rfl⟩ := H
           have p115 : 0 ≤ (0 : Int) := (by omega)
           have q115 : 0 < (l0.length : Int) := od_
           obtain ⟨ad115, e115, hx115_0, hx115_1⟩ := at_T50 HR0.out 0 p115 q115
           cases e115
           have qi115 : (0 < l0.length) = True := eq_true (by omega)
           (try rw [show ((0 : Int)).toNat = 0 from rfl] at hx115_0)
           (try rw [show 0 * 2 = 0 from rfl] at hx115_0)
           (try rw [Addr.add_zero'] at hx115_0)
           (try rw [show ((0 : Int)).toNat = 0 from rfl] at hx115_1)
           (try rw [show 0 * 2 = 0 from rfl] at hx115_1)
           (try rw [Addr.add_zero'] at hx115_1)
           replace p115 := eq_true p115
           replace q115 := eq_true q115
           go_enter Try.func28, Try.ntmps28
           try go_wp2_with (first | ((with_reducible refine gate_dst (N := 6) rfl ?_); refine box_event ?hg (N := 6) ?hd (cs := #[.int .i64 0, .int .i64 0]) (t := 50) ?hr ?_; (case hd => rfl); (case hg => rfl); (case hr => first | (go_simp; done) | (go_simp; rfl)); intro gb116 hg w85 hbox hb; have n0_ := Aside0.mk (below_step (bw_ HB.out) hb); have n1_ := Aside0.mk (hbox); have n2_ := Aside0.mk ((ge_ hg (bw_ HB.out))); have n3_ := Aside0.mk ((ge_ hg (bw_ HB.out))); clear HB; have HB := n0_; have BK116 := n1_; have GW116 := n2_; have GE116 := n3_; clear n0_ n1_ n2_ n3_; clear hb hbox hg; have hcz86_0 : w85.cell? ⟨gb116, 0, none⟩ = some (.int .i64 0) := (blk_cell BK116.out 0).trans rfl; have hcz86_1 : w85.cell? ⟨gb116, 1, none⟩ = some (.int .i64 0) := (blk_cell BK116.out 1).trans rfl; have hfz86_0 := blk_frozen BK116.out 0; have hfz86_1 := blk_frozen BK116.out 1; have p117 : 0 ≤ ((ji4) : Int) := od_; have q117 : (ji4) < (l0.length : Int) := od_; obtain ⟨ad117, e117, hx117_0, hx117_1⟩ := at_T50 HR0.out (ji4) p117 q117; obtain rfl : ad115 = ad117 := (by injection e117); have hn117_0 : ad115.block ≠ gb116 := Nat.ne_of_lt (Nat.lt_of_lt_of_le (by have := World.block_lt_of_cell? _ _ hx117_0; first | rwa [add_block] at this | exact this) GW116.out); have hn117_1 : ad115.block ≠ gb116 := Nat.ne_of_lt (Nat.lt_of_lt_of_le (by have := World.block_lt_of_cell? _ _ hx117_0; first | rwa [add_block] at this | exact this) GW116.out); replace hx117_0 := (HB.out.cell (World.block_lt_of_cell? w _ hx117_0)).trans hx117_0; replace hx117_1 := (HB.out.cell (World.block_lt_of_cell? w _ hx117_1)).trans hx117_1; replace hx117_0 := (cell_far (p := ⟨gb116, 0, none⟩) (by first | (rw [add_block]; exact hn117_0) | (show (Addr.add _ _).block ≠ _; rw [add_block]; exact hn117_0) | exact hn117_0) (.int .i64 ((rd_T50 l0 0).f0))).trans hx117_0; replace hx117_1 := (cell_far (p := ⟨gb116, 0, none⟩) (by first | (rw [add_block]; exact hn117_0) | (show (Addr.add _ _).block ≠ _; rw [add_block]; exact hn117_0) | exact hn117_0) (.int .i64 ((rd_T50 l0 0).f0))).trans hx117_1; replace hx117_0 := (cell_far (p := ⟨gb116, 1, none⟩) (by first | (rw [add_block]; exact hn117_1) | (show (Addr.add _ _).block ≠ _; rw [add_block]; exact hn117_1) | exact hn117_1) (.int .i64 ((rd_T50 l0 0).f1))).trans hx117_0; replace hx117_1 := (cell_far (p := ⟨gb116, 1, none⟩) (by first | (rw [add_block]; exact hn117_1) | (show (Addr.add _ _).block ≠ _; rw [add_block]; exact hn117_1) | exact hn117_1) (.int .i64 ((rd_T50 l0 0).f1))).trans hx117_1; clear hn117_0; clear hn117_1; replace p117 := eq_true p117; replace q117 := eq_true q117) | ((with_reducible refine gate_dst (N := 7) rfl ?_); refine box_event ?hg (N := 7) ?hd (cs := #[.int .i64 0, .int .i64 0]) (t := 50) ?hr ?_; (case hd => rfl); (case hg => rfl); (case hr => first | (go_simp; done) | (go_simp; rfl)); intro gb118 hg w87 hbox hb; have n0_ := Aside0.mk (blk_below (g := gb116) (o := .cells #[.int .i64 ((rd_T50 l0 0).f0), .int .i64 ((rd_T50 l0 0).f1)] 50 (0, 0)) (by (with_reducible repeat (first | refine blk_drewN ?_ _ | refine blk_drew ?_ | refine blk_alloc ?_ _)); refine blk_put (cs := #[.int .i64 ((rd_T50 l0 0).f0), .int .i64 0]) ?_ 1 _ rfl; (with_reducible repeat (first | refine blk_drewN ?_ _ | refine blk_drew ?_ | refine blk_alloc ?_ _)); refine blk_put (cs := #[.int .i64 0, .int .i64 0]) ?_ 0 _ rfl; (with_reducible repeat (first | refine blk_drewN ?_ _ | refine blk_drew ?_ | refine blk_alloc ?_ _)); exact BK116.out) hb); have n1_ := Aside0.mk (below_step (bws_ HB.out) hb); have n2_ := Aside0.mk (hbox); have n3_ := Aside0.mk ((ge_ hg (bws_ HB.out))); have n4_ := Aside0.mk ((ge_ hg (bws_ HB.out))); have n5_ := Aside0.mk ((by rw [hg]; exact Nat.ne_of_lt (blk_lt (g := gb116) (o := .cells #[.int .i64 ((rd_T50 l0 0).f0), .int .i64 ((rd_T50 l0 0).f1)] 50 (0, 0)) (by (with_reducible repeat (first | refine blk_drewN ?_ _ | refine blk_drew ?_ | refine blk_alloc ?_ _)); refine blk_put (cs := #[.int .i64 ((rd_T50 l0 0).f0), .int .i64 0]) ?_ 1 _ rfl; (with_reducible repeat (first | refine blk_drewN ?_ _ | refine blk_drew ?_ | refine blk_alloc ?_ _)); refine blk_put (cs := #[.int .i64 0, .int .i64 0]) ?_ 0 _ rfl; (with_reducible repeat (first | refine blk_drewN ?_ _ | refine blk_drew ?_ | refine blk_alloc ?_ _)); exact BK116.out)) : gb116 ≠ gb118)); have n6_ := Aside0.mk ((by rw [hg]; exact Nat.ne_of_gt (blk_lt (g := gb116) (o := .cells #[.int .i64 ((rd_T50 l0 0).f0), .int .i64 ((rd_T50 l0 0).f1)] 50 (0, 0)) (by (with_reducible repeat (first | refine blk_drewN ?_ _ | refine blk_drew ?_ | refine blk_alloc ?_ _)); refine blk_put (cs := #[.int .i64 ((rd_T50 l0 0).f0), .int .i64 0]) ?_ 1 _ rfl; (with_reducible repeat (first | refine blk_drewN ?_ _ | refine blk_drew ?_ | refine blk_alloc ?_ _)); refine blk_put (cs := #[.int .i64 0, .int .i64 0]) ?_ 0 _ rfl; (with_reducible repeat (first | refine blk_drewN ?_ _ | refine blk_drew ?_ | refine blk_alloc ?_ _)); exact BK116.out)) : gb118 ≠ gb116)); clear BK116; clear HB; have BK116 := n0_; have HB := n1_; have BK118 := n2_; have GW118 := n3_; have GE118 := n4_; have NB116_118 := n5_; have NB118_116 := n6_; clear n0_ n1_ n2_ n3_ n4_ n5_ n6_; clear hb hbox hg; have hnb88 := NB118_116.out; have hnc88 := NB116_118.out; have hcz89_0 : w87.cell? ⟨gb118, 0, none⟩ = some (.int .i64 0) := (blk_cell BK118.out 0).trans rfl; have hcz89_1 : w87.cell? ⟨gb118, 1, none⟩ = some (.int .i64 0) := (blk_cell BK118.out 1).trans rfl; have hfz89_0 := blk_frozen BK118.out 0; have hfz89_1 := blk_frozen BK118.out 1))
           have n0_ : Aside0 (((w87.setCell ⟨gb118, 0, none⟩ (.int .i64 ((rd_T50 l0 (ji4)).f0))).setCell ⟨gb118, 1, none⟩ (.int .i64 ((rd_T50 l0 (ji4)).f1))).heap[gb116]? = some (.cells #[.int .i64 ((rd_T50 l0 0).f0), .int .i64 ((rd_T50 l0 0).f1)] 50 (0, 0))) := ⟨by (with_reducible repeat (first | refine blk_drewN ?_ _ | refine blk_drew ?_ | refine blk_alloc ?_ _)); refine blk_far ?_ NB116_118.out _; (with_reducible repeat (first | refine blk_drewN ?_ _ | refine blk_drew ?_ | refine blk_alloc ?_ _)); refine blk_far ?_ NB116_118.out _; (with_reducible repeat (first | refine blk_drewN ?_ _ | refine blk_drew ?_ | refine blk_alloc ?_ _)); exact BK116.out⟩
           have n1_ : Aside0 (((w87.setCell ⟨gb118, 0, none⟩ (.int .i64 ((rd_T50 l0 (ji4)).f0))).setCell ⟨gb118, 1, none⟩ (.int .i64 ((rd_T50 l0 (ji4)).f1))).heap[gb118]? = some (.cells #[.int .i64 ((rd_T50 l0 (ji4)).f0), .int .i64 ((rd_T50 l0 (ji4)).f1)] 50 (0, 0))) := ⟨by (with_reducible repeat (first | refine blk_drewN ?_ _ | refine blk_drew ?_ | refine blk_alloc ?_ _)); refine blk_put (cs := #[.int .i64 ((rd_T50 l0 (ji4)).f0), .int .i64 0]) ?_ 1 _ rfl; (with_reducible repeat (first | refine blk_drewN ?_ _ | refine blk_drew ?_ | refine blk_alloc ?_ _)); refine blk_put (cs := #[.int .i64 0, .int .i64 0]) ?_ 0 _ rfl; (with_reducible repeat (first | refine blk_drewN ?_ _ | refine blk_drew ?_ | refine blk_alloc ?_ _)); exact BK118.out⟩
           have n2_ : Aside0 (Below w.heap.size w ((w87.setCell ⟨gb118, 0, none⟩ (.int .i64 ((rd_T50 l0 (ji4)).f0))).setCell ⟨gb118, 1, none⟩ (.int .i64 ((rd_T50 l0 (ji4)).f1)))) := ⟨bws_ HB.out⟩
           (try clear BK116)
           (try clear BK118)
           (try clear HB)
           generalize ((w87.setCell ⟨gb118, 0, none⟩ (.int .i64 ((rd_T50 l0 (ji4)).f0))).setCell ⟨gb118, 1, none⟩ (.int .i64 ((rd_T50 l0 (ji4)).f1))) = w90 at n0_ n1_ n2_ ⊢
           have BK116 := n0_; have BK118 := n1_; have HB := n2_
           clear n0_ n1_ n2_
           have n0_ := Aside0.mk (blk_drew BK116.out)
           have n1_ := Aside0.mk (blk_drew BK118.out)
           have n2_ := Aside0.mk (below_drew1 HB.out)
           clear BK116 BK118 HB
           have BK116 := n0_; have BK118 := n1_; have HB := n2_
           clear n0_ n1_ n2_
           have p119 : 0 ≤ (0 : Int) := (by omega)
           have q119 : 0 < (l1.length : Int) := od_
           obtain ⟨ad119, e119, hx119_0, hx119_1⟩ := at_T50 HR1.out 0 p119 q119
           have hw119_1 := hx119_1
           (try rw [show ((0 : Int)).toNat = 0 from rfl] at hw119_1)
           (try rw [show 0 * 2 = 0 from rfl] at hw119_1)
           (try rw [Addr.add_zero'] at hw119_1)
           have hw119_0 := hx119_0
           (try rw [show ((0 : Int)).toNat = 0 from rfl] at hw119_0)
           (try rw [show 0 * 2 = 0 from rfl] at hw119_0)
           (try rw [Addr.add_zero'] at hw119_0)
           cases e119
           have qi119 : (0 < l1.length) = True := eq_true (by omega)
           (try rw [show ((0 : Int)).toNat = 0 from rfl] at hx119_0)
           (try rw [show 0 * 2 = 0 from rfl] at hx119_0)
           (try rw [Addr.add_zero'] at hx119_0)
           (try rw [show ((0 : Int)).toNat = 0 from rfl] at hx119_1)
           (try rw [show 0 * 2 = 0 from rfl] at hx119_1)
           (try rw [Addr.add_zero'] at hx119_1)
           replace hx119_0 := (HB.out.cell (World.block_lt_of_cell? w _ hx119_0)).trans hx119_0
           replace hx119_1 := (HB.out.cell (World.block_lt_of_cell? w _ hx119_1)).trans hx119_1
           replace p119 := eq_true p119
           replace q119 := eq_true q119
           refine start_ (n := 6) (S := fun w' => w'.cell? ⟨gb118, 0, none⟩ = some (.int .i64 ((rd_T50 l0 (ji4)).f0)) ∧ w'.cell? ⟨gb118, 1, none⟩ = some (.int .i64 ((rd_T50 l0 (ji4)).f1)) ∧ w'.cell? ad119 = some (.int .i64 ((rd_T50 l1 0).f0)) ∧ w'.cell? ⟨ad119.block, ad119.off + 1, none⟩ = some (.int .i64 ((rd_T50 l1 0).f1))) (ds := []) #[false, false, false, false, false, false] (by kernel_rfl) rfl rfl ⟨(blk_cell BK118.out 0).trans rfl, (blk_cell BK118.out 1).trans rfl, ((HB.out.cell (World.block_lt_of_cell? w _ hw119_0)).trans hw119_0), ((HB.out.cell (World.block_lt_of_cell? w _ hw119_1)).trans hw119_1)⟩ (fun hHeld => ?_)
           generalize w90.drew = w91 at BK116 BK118 HB hx119_0 hx119_1 hHeld ⊢
           refine pure_ (i := 1) (N := some 19) (v := ?_) (a' := ?_) #[false, true, false, false, false, false] rfl rfl (by kernel_rfl) (fun _ _ _ h => h) (Or.inl ⟨by rfl, ?_⟩) ?_ ?_
           rotate_left
           ·intro w'
            go_simp
            with_reducible rfl
           rotate_left
           ·simp only [Act.put, List.setIfInBounds_toArray, List.set_cons_zero, List.set_cons_succ, i64_w, i32_w]
            rfl
           refine pure_ (i := 2) (N := some 20) (v := ?_) (a' := ?_) #[false, true, true, false, false, false] rfl rfl (by kernel_rfl) (fun _ _ _ h => h) (Or.inl ⟨by rfl, ?_⟩) ?_ ?_
           rotate_left
           ·intro w'
            go_simp
            with_reducible rfl
           rotate_left
           ·simp only [Act.put, List.setIfInBounds_toArray, List.set_cons_zero, List.set_cons_succ, i64_w, i32_w]
            rfl
           refine take_ (i := 0) (N := some 18) (v := ?_) (a' := ?_) #[true, true, true, false, false, false] rfl rfl (by kernel_rfl) (fun _ _ _ h => h) (Or.inl ⟨by rfl, ?_⟩) hHeld ?_ ?_
           rotate_left
           ·rintro w' ⟨s0, s1, s2, s3⟩
            go_simp
            with_reducible rfl
           rotate_left
           ·simp only [Act.put, List.setIfInBounds_toArray, List.set_cons_zero, List.set_cons_succ, i64_w, i32_w]
            rfl
           refine take_ (i := 3) (N := some 21) (v := ?_) (a' := ?_) #[true, true, true, true, false, false] rfl rfl (by kernel_rfl) (fun _ _ _ h => h) (Or.inl ⟨by rfl, ?_⟩) hHeld ?_ ?_
           rotate_left
           ·rintro w' ⟨s0, s1, s2, s3⟩
            go_simp
            with_reducible rfl
           rotate_left
           ·simp only [Act.put, List.setIfInBounds_toArray, List.set_cons_zero, List.set_cons_succ, i64_w, i32_w]
            rfl
           refine pure_ (i := 4) (N := some 22) (v := ?_) (a' := ?_) #[true, true, true, true, true, false] rfl rfl (by kernel_rfl) (fun _ _ _ h => h) (Or.inl ⟨by rfl, ?_⟩) ?_ ?_
           rotate_left
           ·intro w'
            go_simp
            with_reducible rfl
           rotate_left
           ·simp only [Act.put, List.setIfInBounds_toArray, List.set_cons_zero, List.set_cons_succ, i64_w, i32_w]
            rfl
           refine pure_ (i := 5) (N := some 17) (v := ?_) (a' := ?_) #[true, true, true, true, true, true] rfl rfl (by kernel_rfl) (fun _ _ _ h => h) (Or.inl ⟨by rfl, ?_⟩) ?_ ?_
           rotate_left
           ·intro w'
            go_simp
            with_reducible rfl
           rotate_left
           ·simp only [Act.put, List.setIfInBounds_toArray, List.set_cons_zero, List.set_cons_succ, i64_w, i32_w]
            rfl
           refine done_ (by kernel_rfl) ?_
           try go_wp2
           have n0_ := Aside0.mk (blk_drew BK116.out)
           have n1_ := Aside0.mk (blk_drew BK118.out)
           have n2_ := Aside0.mk (below_drew1 HB.out)
           clear BK116 BK118 HB
           have BK116 := n0_; have BK118 := n1_; have HB := n2_
           clear n0_ n1_ n2_
           have p133 : 0 ≤ ((ji25) : Int) := od_
           have q133 : (ji25) < (l1.length : Int) := od_
           obtain ⟨ad133, e133, hx133_0, hx133_1⟩ := at_T50 HR1.out (ji25) p133 q133
           have hw133_1 := hx133_1
           have hw133_0 := hx133_0
           obtain rfl : ad119 = ad133 := (by injection e133)
           replace hx133_0 := (HB.out.cell (World.block_lt_of_cell? w _ hx133_0)).trans hx133_0
           replace hx133_1 := (HB.out.cell (World.block_lt_of_cell? w _ hx133_1)).trans hx133_1
           replace p133 := eq_true p133
           replace q133 := eq_true q133
           refine start_ (n := 9) (S := fun w' => w'.cell? ⟨gb118, 0, none⟩ = some (.int .i64 ((rd_T50 l0 (ji4)).f0)) ∧ w'.cell? ⟨gb118, 1, none⟩ = some (.int .i64 ((rd_T50 l0 (ji4)).f1)) ∧ w'.cell? (ad119.add (((ji25)).toNat * 2)) = some (.int .i64 ((rd_T50 l1 (ji25)).f0)) ∧ w'.cell? ⟨(ad119.add (((ji25)).toNat * 2)).block, (ad119.add (((ji25)).toNat * 2)).off + 1, none⟩ = some (.int .i64 ((rd_T50 l1 (ji25)).f1))) (ds := []) #[false, false, false, false, false, false, false, false, false] (by kernel_rfl) rfl rfl ⟨(blk_cell BK118.out 0).trans rfl, (blk_cell BK118.out 1).trans rfl, ((HB.out.cell (World.block_lt_of_cell? w _ hw133_0)).trans hw133_0), ((HB.out.cell (World.block_lt_of_cell? w _ hw133_1)).trans hw133_1)⟩ (fun hHeld => ?_); refine with_tabW spec_l10Join.tab5 spec_l10Join.bits5 (fun HT_ HW_ => ?_)
           generalize w91.drew = w92 at BK116 BK118 HB hx133_0 hx133_1 hHeld ⊢
           refine pure_ (i := 1) (N := some 31) (v := ?_) (a' := ?_) #[false, true, false, false, false, false, false, false, false] rfl rfl (any_of HT_.out (by kernel_rfl)) (fun _ _ _ h => h) (Or.inl ⟨by rfl, ?_⟩) ?_ ?_
           rotate_left
           ·intro w'
            go_simp
            with_reducible rfl
           rotate_left
           ·simp only [Act.put, List.setIfInBounds_toArray, List.set_cons_zero, List.set_cons_succ, i64_w, i32_w]
            rfl
           refine pure_ (i := 2) (N := some 32) (v := ?_) (a' := ?_) #[false, true, true, false, false, false, false, false, false] rfl rfl (any_of HT_.out (by kernel_rfl)) (fun _ _ _ h => h) (Or.inl ⟨by rfl, ?_⟩) ?_ ?_
           rotate_left
           ·intro w'
            go_simp
            with_reducible rfl
           rotate_left
           ·simp only [Act.put, List.setIfInBounds_toArray, List.set_cons_zero, List.set_cons_succ, i64_w, i32_w]
            rfl
           refine pure_ (i := 3) (N := some 33) (v := ?_) (a' := ?_) #[false, true, true, true, false, false, false, false, false] rfl rfl (any_of HT_.out (by kernel_rfl)) (fun _ _ _ h => h) (Or.inl ⟨by rfl, ?_⟩) ?_ ?_
           rotate_left
           ·intro w'
            go_simp
            with_reducible rfl
           rotate_left
           ·simp only [Act.put, List.setIfInBounds_toArray, List.set_cons_zero, List.set_cons_succ, i64_w, i32_w]
            rfl
           refine pure_ (i := 4) (N := some 34) (v := ?_) (a' := ?_) #[false, true, true, true, true, false, false, false, false] rfl rfl (any_of HT_.out (by kernel_rfl)) (fun _ _ _ h => h) (Or.inl ⟨by rfl, ?_⟩) ?_ ?_
           rotate_left
           ·intro w'
            go_simp
            with_reducible rfl
           rotate_left
           ·simp only [Act.put, List.setIfInBounds_toArray, List.set_cons_zero, List.set_cons_succ, i64_w, i32_w]
            rfl
           refine pure_ (i := 5) (N := some 35) (v := ?_) (a' := ?_) #[false, true, true, true, true, true, false, false, false] rfl rfl (any_of HT_.out (by kernel_rfl)) (fun _ _ _ h => h) (Or.inl ⟨by rfl, ?_⟩) ?_ ?_
           rotate_left
           ·intro w'
            go_simp
            with_reducible rfl
           rotate_left
           ·simp only [Act.put, List.setIfInBounds_toArray, List.set_cons_zero, List.set_cons_succ, i64_w, i32_w]
            rfl
           refine take_ (i := 0) (N := some 30) (v := ?_) (a' := ?_) #[true, true, true, true, true, true, false, false, false] rfl rfl (take_ofW HT_.out HW_.out (by kernel_rfl)) (fun _ _ _ h => h) (Or.inl ⟨by rfl, ?_⟩) hHeld ?_ ?_
           rotate_left
           ·rintro w' ⟨s0, s1, s2, s3⟩
            go_simp
            with_reducible rfl
           rotate_left
           ·simp only [Act.put, List.setIfInBounds_toArray, List.set_cons_zero, List.set_cons_succ, i64_w, i32_w]
            rfl
           refine take_ (i := 6) (N := some 36) (v := ?_) (a' := ?_) #[true, true, true, true, true, true, true, false, false] rfl rfl (take_ofW HT_.out HW_.out (by kernel_rfl)) (fun _ _ _ h => h) (Or.inl ⟨by rfl, ?_⟩) hHeld ?_ ?_
           rotate_left
           ·rintro w' ⟨s0, s1, s2, s3⟩
            go_simp
            with_reducible rfl
           rotate_left
           ·simp only [Act.put, List.setIfInBounds_toArray, List.set_cons_zero, List.set_cons_succ, i64_w, i32_w]
            rfl
           refine pure_ (i := 7) (N := some 37) (v := ?_) (a' := ?_) #[true, true, true, true, true, true, true, true, false] rfl rfl (any_of HT_.out (by kernel_rfl)) (fun _ _ _ h => h) (Or.inl ⟨by rfl, ?_⟩) ?_ ?_
           rotate_left
           ·intro w'
            go_simp
            with_reducible rfl
           rotate_left
           ·simp only [Act.put, List.setIfInBounds_toArray, List.set_cons_zero, List.set_cons_succ, i64_w, i32_w]
            rfl
           refine pure_ (i := 8) (N := some 29) (v := ?_) (a' := ?_) #[true, true, true, true, true, true, true, true, true] rfl rfl (any_of HT_.out (by kernel_rfl)) (fun _ _ _ h => h) (Or.inl ⟨by rfl, ?_⟩) ?_ ?_
           rotate_left
           ·intro w'
            go_simp
            with_reducible rfl
           rotate_left
           ·simp only [Act.put, List.setIfInBounds_toArray, List.set_cons_zero, List.set_cons_succ, i64_w, i32_w]
            rfl
           refine done_ (done_of HT_.out (by kernel_rfl)) ?_
           try go_wp2
           have n0_ := Aside0.mk (blk_drew BK116.out)
           have n1_ := Aside0.mk (blk_drew BK118.out)
           have n2_ := Aside0.mk (below_drew1 HB.out)
           clear BK116 BK118 HB
           have BK116 := n0_; have BK118 := n1_; have HB := n2_
           clear n0_ n1_ n2_
           have p150 : 0 ≤ ((ji25) : Int) := od_
           have q150 : (ji25) < (l1.length : Int) := od_
           obtain ⟨ad150, e150, hx150_0, hx150_1⟩ := at_T50 HR1.out (ji25) p150 q150
           have hw150_1 := hx150_1
           have hw150_0 := hx150_0
           obtain rfl : ad119 = ad150 := (by injection e150)
           replace hx150_0 := (HB.out.cell (World.block_lt_of_cell? w _ hx150_0)).trans hx150_0
           replace hx150_1 := (HB.out.cell (World.block_lt_of_cell? w _ hx150_1)).trans hx150_1
           replace p150 := eq_true p150
           replace q150 := eq_true q150
           refine start_ (n := 9) (S := fun w' => w'.cell? ⟨gb116, 0, none⟩ = some (.int .i64 ((rd_T50 l0 0).f0)) ∧ w'.cell? ⟨gb116, 1, none⟩ = some (.int .i64 ((rd_T50 l0 0).f1)) ∧ w'.cell? (ad119.add (((ji25)).toNat * 2)) = some (.int .i64 ((rd_T50 l1 (ji25)).f0)) ∧ w'.cell? ⟨(ad119.add (((ji25)).toNat * 2)).block, (ad119.add (((ji25)).toNat * 2)).off + 1, none⟩ = some (.int .i64 ((rd_T50 l1 (ji25)).f1))) (ds := []) #[false, false, false, false, false, false, false, false, false] (by kernel_rfl) rfl rfl ⟨(blk_cell BK116.out 0).trans rfl, (blk_cell BK116.out 1).trans rfl, ((HB.out.cell (World.block_lt_of_cell? w _ hw150_0)).trans hw150_0), ((HB.out.cell (World.block_lt_of_cell? w _ hw150_1)).trans hw150_1)⟩ (fun hHeld => ?_); refine with_tabW spec_l10Join.tab7 spec_l10Join.bits7 (fun HT_ HW_ => ?_)
           generalize w92.drew = w93 at BK116 BK118 HB hx150_0 hx150_1 hHeld ⊢
           refine pure_ (i := 1) (N := some 47) (v := ?_) (a' := ?_) #[false, true, false, false, false, false, false, false, false] rfl rfl (any_of HT_.out (by kernel_rfl)) (fun _ _ _ h => h) (Or.inl ⟨by rfl, ?_⟩) ?_ ?_
           rotate_left
           ·intro w'
            go_simp
            with_reducible rfl
           rotate_left
           ·simp only [Act.put, List.setIfInBounds_toArray, List.set_cons_zero, List.set_cons_succ, i64_w, i32_w]
            rfl
           refine pure_ (i := 2) (N := some 48) (v := ?_) (a' := ?_) #[false, true, true, false, false, false, false, false, false] rfl rfl (any_of HT_.out (by kernel_rfl)) (fun _ _ _ h => h) (Or.inl ⟨by rfl, ?_⟩) ?_ ?_
           rotate_left
           ·intro w'
            go_simp
            with_reducible rfl
           rotate_left
           ·simp only [Act.put, List.setIfInBounds_toArray, List.set_cons_zero, List.set_cons_succ, i64_w, i32_w]
            rfl
           refine pure_ (i := 3) (N := some 49) (v := ?_) (a' := ?_) #[false, true, true, true, false, false, false, false, false] rfl rfl (any_of HT_.out (by kernel_rfl)) (fun _ _ _ h => h) (Or.inl ⟨by rfl, ?_⟩) ?_ ?_
           rotate_left
           ·intro w'
            go_simp
            with_reducible rfl
           rotate_left
           ·simp only [Act.put, List.setIfInBounds_toArray, List.set_cons_zero, List.set_cons_succ, i64_w, i32_w]
            rfl
           refine pure_ (i := 4) (N := some 50) (v := ?_) (a' := ?_) #[false, true, true, true, true, false, false, false, false] rfl rfl (any_of HT_.out (by kernel_rfl)) (fun _ _ _ h => h) (Or.inl ⟨by rfl, ?_⟩) ?_ ?_
           rotate_left
           ·intro w'
            go_simp
            with_reducible rfl
           rotate_left
           ·simp only [Act.put, List.setIfInBounds_toArray, List.set_cons_zero, List.set_cons_succ, i64_w, i32_w]
            rfl
           refine pure_ (i := 5) (N := some 51) (v := ?_) (a' := ?_) #[false, true, true, true, true, true, false, false, false] rfl rfl (any_of HT_.out (by kernel_rfl)) (fun _ _ _ h => h) (Or.inl ⟨by rfl, ?_⟩) ?_ ?_
           rotate_left
           ·intro w'
            go_simp
            with_reducible rfl
           rotate_left
           ·simp only [Act.put, List.setIfInBounds_toArray, List.set_cons_zero, List.set_cons_succ, i64_w, i32_w]
            rfl
           refine take_ (i := 0) (N := some 46) (v := ?_) (a' := ?_) #[true, true, true, true, true, true, false, false, false] rfl rfl (take_ofW HT_.out HW_.out (by kernel_rfl)) (fun _ _ _ h => h) (Or.inl ⟨by rfl, ?_⟩) hHeld ?_ ?_
           rotate_left
           ·rintro w' ⟨s0, s1, s2, s3⟩
            go_simp
            with_reducible rfl
           rotate_left
           ·simp only [Act.put, List.setIfInBounds_toArray, List.set_cons_zero, List.set_cons_succ, i64_w, i32_w]
            rfl
           refine take_ (i := 6) (N := some 52) (v := ?_) (a' := ?_) #[true, true, true, true, true, true, true, false, false] rfl rfl (take_ofW HT_.out HW_.out (by kernel_rfl)) (fun _ _ _ h => h) (Or.inl ⟨by rfl, ?_⟩) hHeld ?_ ?_
           rotate_left
           ·rintro w' ⟨s0, s1, s2, s3⟩
            go_simp
            with_reducible rfl
           rotate_left
           ·simp only [Act.put, List.setIfInBounds_toArray, List.set_cons_zero, List.set_cons_succ, i64_w, i32_w]
            rfl
           refine pure_ (i := 7) (N := some 53) (v := ?_) (a' := ?_) #[true, true, true, true, true, true, true, true, false] rfl rfl (any_of HT_.out (by kernel_rfl)) (fun _ _ _ h => h) (Or.inl ⟨by rfl, ?_⟩) ?_ ?_
           rotate_left
           ·intro w'
            go_simp
            with_reducible rfl
           rotate_left
           ·simp only [Act.put, List.setIfInBounds_toArray, List.set_cons_zero, List.set_cons_succ, i64_w, i32_w]
            rfl
           refine pure_ (i := 8) (N := some 45) (v := ?_) (a' := ?_) #[true, true, true, true, true, true, true, true, true] rfl rfl (any_of HT_.out (by kernel_rfl)) (fun _ _ _ h => h) (Or.inl ⟨by rfl, ?_⟩) ?_ ?_
           rotate_left
           ·intro w'
            go_simp
            with_reducible rfl
           rotate_left
           ·simp only [Act.put, List.setIfInBounds_toArray, List.set_cons_zero, List.set_cons_succ, i64_w, i32_w]
            rfl
           refine done_ (done_of HT_.out (by kernel_rfl)) ?_
           try go_wp2
           have n0_ := Aside0.mk (blk_drew BK116.out)
           have n1_ := Aside0.mk (blk_drew BK118.out)
           have n2_ := Aside0.mk (below_drew1 HB.out)
           clear BK116 BK118 HB
           have BK116 := n0_; have BK118 := n1_; have HB := n2_
           clear n0_ n1_ n2_
           have p164 : 0 ≤ (0 : Int) := (by omega)
           have q164 : 0 < (l1.length : Int) := od_
           obtain ⟨ad164, e164, hx164_0, hx164_1⟩ := at_T50 HR1.out 0 p164 q164
           have hw164_1 := hx164_1
           (try rw [show ((0 : Int)).toNat = 0 from rfl] at hw164_1)
           (try rw [show 0 * 2 = 0 from rfl] at hw164_1)
           (try rw [Addr.add_zero'] at hw164_1)
           have hw164_0 := hx164_0
           (try rw [show ((0 : Int)).toNat = 0 from rfl] at hw164_0)
           (try rw [show 0 * 2 = 0 from rfl] at hw164_0)
           (try rw [Addr.add_zero'] at hw164_0)
           obtain rfl : ad119 = ad164 := (by injection e164)
           have qi164 : (0 < l1.length) = True := eq_true (by omega)
           (try rw [show ((0 : Int)).toNat = 0 from rfl] at hx164_0)
           (try rw [show 0 * 2 = 0 from rfl] at hx164_0)
           (try rw [Addr.add_zero'] at hx164_0)
           (try rw [show ((0 : Int)).toNat = 0 from rfl] at hx164_1)
           (try rw [show 0 * 2 = 0 from rfl] at hx164_1)
           (try rw [Addr.add_zero'] at hx164_1)
           replace hx164_0 := (HB.out.cell (World.block_lt_of_cell? w _ hx164_0)).trans hx164_0
           replace hx164_1 := (HB.out.cell (World.block_lt_of_cell? w _ hx164_1)).trans hx164_1
           replace p164 := eq_true p164
           replace q164 := eq_true q164
           refine start_ (n := 6) (S := fun w' => w'.cell? ⟨gb116, 0, none⟩ = some (.int .i64 ((rd_T50 l0 0).f0)) ∧ w'.cell? ⟨gb116, 1, none⟩ = some (.int .i64 ((rd_T50 l0 0).f1)) ∧ w'.cell? ad119 = some (.int .i64 ((rd_T50 l1 0).f0)) ∧ w'.cell? ⟨ad119.block, ad119.off + 1, none⟩ = some (.int .i64 ((rd_T50 l1 0).f1))) (ds := []) #[false, false, false, false, false, false] (by kernel_rfl) rfl rfl ⟨(blk_cell BK116.out 0).trans rfl, (blk_cell BK116.out 1).trans rfl, ((HB.out.cell (World.block_lt_of_cell? w _ hw164_0)).trans hw164_0), ((HB.out.cell (World.block_lt_of_cell? w _ hw164_1)).trans hw164_1)⟩ (fun hHeld => ?_)
           generalize w93.drew = w94 at BK116 BK118 HB hx164_0 hx164_1 hHeld ⊢
           refine pure_ (i := 1) (N := some 62) (v := ?_) (a' := ?_) #[false, true, false, false, false, false] rfl rfl (by kernel_rfl) (fun _ _ _ h => h) (Or.inl ⟨by rfl, ?_⟩) ?_ ?_
           rotate_left
           ·intro w'
            go_simp
            with_reducible rfl
           rotate_left
           ·simp only [Act.put, List.setIfInBounds_toArray, List.set_cons_zero, List.set_cons_succ, i64_w, i32_w]
            rfl
           refine pure_ (i := 2) (N := some 63) (v := ?_) (a' := ?_) #[false, true, true, false, false, false] rfl rfl (by kernel_rfl) (fun _ _ _ h => h) (Or.inl ⟨by rfl, ?_⟩) ?_ ?_
           rotate_left
           ·intro w'
            go_simp
            with_reducible rfl
           rotate_left
           ·simp only [Act.put, List.setIfInBounds_toArray, List.set_cons_zero, List.set_cons_succ, i64_w, i32_w]
            rfl
           refine take_ (i := 0) (N := some 61) (v := ?_) (a' := ?_) #[true, true, true, false, false, false] rfl rfl (by kernel_rfl) (fun _ _ _ h => h) (Or.inl ⟨by rfl, ?_⟩) hHeld ?_ ?_
           rotate_left
           ·rintro w' ⟨s0, s1, s2, s3⟩
            go_simp
            with_reducible rfl
           rotate_left
           ·simp only [Act.put, List.setIfInBounds_toArray, List.set_cons_zero, List.set_cons_succ, i64_w, i32_w]
            rfl
           refine take_ (i := 3) (N := some 64) (v := ?_) (a' := ?_) #[true, true, true, true, false, false] rfl rfl (by kernel_rfl) (fun _ _ _ h => h) (Or.inl ⟨by rfl, ?_⟩) hHeld ?_ ?_
           rotate_left
           ·rintro w' ⟨s0, s1, s2, s3⟩
            go_simp
            with_reducible rfl
           rotate_left
           ·simp only [Act.put, List.setIfInBounds_toArray, List.set_cons_zero, List.set_cons_succ, i64_w, i32_w]
            rfl
           refine pure_ (i := 4) (N := some 65) (v := ?_) (a' := ?_) #[true, true, true, true, true, false] rfl rfl (by kernel_rfl) (fun _ _ _ h => h) (Or.inl ⟨by rfl, ?_⟩) ?_ ?_
           rotate_left
           ·intro w'
            go_simp
            with_reducible rfl
           rotate_left
           ·simp only [Act.put, List.setIfInBounds_toArray, List.set_cons_zero, List.set_cons_succ, i64_w, i32_w]
            rfl
           refine pure_ (i := 5) (N := some 60) (v := ?_) (a' := ?_) #[true, true, true, true, true, true] rfl rfl (by kernel_rfl) (fun _ _ _ h => h) (Or.inl ⟨by rfl, ?_⟩) ?_ ?_
           rotate_left
           ·intro w'
            go_simp
            with_reducible rfl
           rotate_left
           ·simp only [Act.put, List.setIfInBounds_toArray, List.set_cons_zero, List.set_cons_succ, i64_w, i32_w]
            rfl
           refine done_ (by kernel_rfl) ?_
           try go_wp2
           go_ret2
           exact ⟨_, by first | rfl | (simp [errW_none, errW_some] <;> rfl) | (simp only [← hji4, ← hji25]; first | rfl | (simp [errW_none, errW_some] <;> rfl)) | (simp [*, errW_none, errW_some] <;> rfl), by first | exact Kd.R_nil _ _ _ _ _ | exact Kd.N_nil _ _ _ _ _ | exact Kd.V_nil _ _ _ _ _ | exact Kd.Q_nil _ _ _ _ _ | exact Kd.S_nil _ _ _ _ _, by repeat (first | (with_reducible first | exact HB.out | apply below_alloc | apply pw_below_drewN | apply below_drew1 | refine below_set ?_ GE116.out | refine below_set ?_ GE118.out) | exact HB.out)⟩
       ·rw [if_neg c27] at H
        exact absurd H (by simp)
      ·rw [if_neg c26] at H
       exact absurd H (by simp)
    ·rw [if_neg c7] at H
     exact absurd H (by simp)
   ·rw [if_neg c6] at H
    exact absurd H (by simp)
  ·rw [if_neg c5] at H
   exact absurd H (by simp)
 ·rw [if_neg c3] at H
  exact absurd H (by simp)

end Go.Proofs.Ytpgfgkgjjdfjlaa.Print
