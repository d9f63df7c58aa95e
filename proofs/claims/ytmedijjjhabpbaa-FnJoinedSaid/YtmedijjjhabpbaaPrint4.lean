-- Printed by a program of this session out of the translation; not trusted: Lean checks it.
-- SQUEEZED
-- SHRUNK
import Derived.Test.YtmedijjjhabpbaaPrint0
import Derived.Test.YtmedijjjhabpbaaPrint1
import Derived.Test.YtmedijjjhabpbaaPrint3
namespace Go.Proofs.Ytmedijjjhabpbaa.Print
open Go.RowKit Go.Proofs.YtmedijjjhabpbaaW.PrintWords Go.Proofs.YtmedijjjhabpbaaW.PrintLast Go.Proofs.YtmedijjjhabpbaaW.PrintMore
attribute [local go_sem] max2_int min2_int max_two min_two max_three min_three max_four min_four   -- for this text's walks alone
set_option linter.unusedVariables false
set_option linter.unusedSimpArgs false

attribute [local go_sem high] eqA49
/-! ### spec_l10Join: function 39 -/
def spec_l10Join.f (k : Nat) (l0 : List (S49)) (l1 : List (S49)) : Option ((List (S49)) × Bool) := if 0 < (l0.length : Int) then (if 0 ≤ (wrap64 ((l0.length : Int) - 1)) then (if (wrap64 ((l0.length : Int) - 1)) < (l0.length : Int) then (if 0 < (l1.length : Int) then (if (((rd_T49 l0 (wrap64 ((l0.length : Int) - 1))).f0) == ((rd_T49 l1 0).f0) && (((rd_T49 l0 (wrap64 ((l0.length : Int) - 1))).f1) == ((rd_T49 l1 0).f1))) = true then ((some (([] : List (S49)) : List (S49))).bind fun y122 => (if y122.length + l0.length < 8796093022208 then ((some (y122 ++ l0 : List (S49))).bind fun y125 => (if 1 ≤ (l1.length : Int) then ((some (l1.drop 1 : List (S49))).bind fun y128 => (if y125.length + y128.length < 8796093022208 then (some ((y125 ++ y128), true)) else (none))) else (none))) else (none))) else (if 0 ≤ (wrap64 ((l1.length : Int) - 1)) then (if (wrap64 ((l1.length : Int) - 1)) < (l1.length : Int) then (if (((rd_T49 l0 (wrap64 ((l0.length : Int) - 1))).f0) == ((rd_T49 l1 (wrap64 ((l1.length : Int) - 1))).f0) && (((rd_T49 l0 (wrap64 ((l0.length : Int) - 1))).f1) == ((rd_T49 l1 (wrap64 ((l1.length : Int) - 1))).f1))) = true then ((some (([] : List (S49)) : List (S49))).bind fun y136 => (if y136.length + l0.length < 8796093022208 then ((some (y136 ++ l0 : List (S49))).bind fun y139 => ((spec_l10Back.f k l1).bind fun t142 => (if 1 ≤ (t142.length : Int) then ((some (t142.drop 1 : List (S49))).bind fun y145 => (if y139.length + y145.length < 8796093022208 then (some ((y139 ++ y145), true)) else (none))) else (none)))) else (none))) else (if (((rd_T49 l0 0).f0) == ((rd_T49 l1 (wrap64 ((l1.length : Int) - 1))).f0) && (((rd_T49 l0 0).f1) == ((rd_T49 l1 (wrap64 ((l1.length : Int) - 1))).f1))) = true then ((some (([] : List (S49)) : List (S49))).bind fun y153 => (if y153.length + l1.length < 8796093022208 then ((some (y153 ++ l1 : List (S49))).bind fun y156 => (if 1 ≤ (l0.length : Int) then ((some (l0.drop 1 : List (S49))).bind fun y159 => (if y156.length + y159.length < 8796093022208 then (some ((y156 ++ y159), true)) else (none))) else (none))) else (none))) else (if (((rd_T49 l0 0).f0) == ((rd_T49 l1 0).f0) && (((rd_T49 l0 0).f1) == ((rd_T49 l1 0).f1))) = true then ((spec_l10Back.f k l1).bind fun t167 => (if 1 ≤ (l0.length : Int) then ((some (l0.drop 1 : List (S49))).bind fun y170 => (if t167.length + y170.length < 8796093022208 then (some ((t167 ++ y170), true)) else (none))) else (none))) else (some (([] : List (S49)), false))))) else (none)) else (none))) else (none)) else (none)) else (none)) else (none)
theorem spec_l10Join.mono : ∀ a0 a1 k, LeO (spec_l10Join.f k a0 a1) (spec_l10Join.f (k + 1) a0 a1) := by
 intro a0 a1 k
 unfold spec_l10Join.f
 repeat' first
   | (with_reducible exact spec_l10Back.mono _ _)
   | (with_reducible exact LeO.refl _)
   | (with_reducible exact LeO.none _)
   | (with_reducible refine LeO.ite ?_ ?_)
   | (with_reducible refine LeO.bind ?_ (fun _ => ?_))
   | exact spec_l10Back.mono _ _
   | exact LeO.none _
   | refine LeO.ite ?_ ?_
   | refine LeO.bind ?_ (fun _ => ?_)
def spec_l10Join.T4 : Bool × List (List Nat × List Nat) := (true, [([], []), ([], []), ([0, 1], [0, 1]), ([], []), ([3], [3]), ([2, 4, 2], [2, 4]), ([5, 5, 0, 1, 2, 3, 4, 5], [5]), ([6, 0, 1, 2, 3, 4, 5, 6], [])])
def spec_l10Join.B4 : List Nat := [0, 0, 3, 0, 8, 31, 63, 127]
theorem spec_l10Join.tab4 : rtab .any (opsOf Try.f39 4) = spec_l10Join.T4 := by kernel_rfl
theorem spec_l10Join.bits4 : waitsOk spec_l10Join.T4.2 spec_l10Join.B4 = true := by kernel_rfl
def spec_l10Join.T5 : Bool × List (List Nat × List Nat) := (true, [([], []), ([], []), ([], []), ([2], [2]), ([3], [3]), ([1, 4], [1, 4]), ([5], [5]), ([0, 6], [0, 6]), ([7], [7])])
def spec_l10Join.B5 : List Nat := [0, 0, 0, 4, 12, 30, 62, 127, 255]
theorem spec_l10Join.tab5 : rtab .any (opsOf Try.f39 5) = spec_l10Join.T5 := by kernel_rfl
theorem spec_l10Join.bits5 : waitsOk spec_l10Join.T5.2 spec_l10Join.B5 = true := by kernel_rfl
def spec_l10Join.T7 : Bool × List (List Nat × List Nat) := (true, [([], []), ([], []), ([], []), ([2], [2]), ([3], [3]), ([1, 4], [1, 4]), ([5], [5]), ([0, 6], [0, 6]), ([7], [7])])
def spec_l10Join.B7 : List Nat := [0, 0, 0, 4, 12, 30, 62, 127, 255]
theorem spec_l10Join.tab7 : rtab .any (opsOf Try.f39 7) = spec_l10Join.T7 := by kernel_rfl
theorem spec_l10Join.bits7 : waitsOk spec_l10Join.T7.2 spec_l10Join.B7 = true := by kernel_rfl
def spec_l10Join.T8 : Bool × List (List Nat × List Nat) := (true, [([], []), ([], []), ([0, 1], [0, 1]), ([], []), ([3], [3]), ([2, 4, 2], [2, 4]), ([5, 5, 0, 1, 2, 3, 4, 5], [5]), ([6, 0, 1, 2, 3, 4, 5, 6], [])])
def spec_l10Join.B8 : List Nat := [0, 0, 3, 0, 8, 31, 63, 127]
theorem spec_l10Join.tab8 : rtab .any (opsOf Try.f39 8) = spec_l10Join.T8 := by kernel_rfl
theorem spec_l10Join.bits8 : waitsOk spec_l10Join.T8.2 spec_l10Join.B8 = true := by kernel_rfl
set_option maxHeartbeats 8000000 in
set_option maxRecDepth 100000 in
theorem spec_l10Join.calls (k : Nat) (A0 : Option Addr) (c0 : Nat) (l0 : List (S49)) (A1 : Option Addr) (c1 : Nat) (l1 : List (S49)) (r1 : List (S49)) (r2 : Bool) (w : World) (hr0 : Kd.C k49 w A0 l0.length l0) (hc0 : l0.length ≤ c0) (hr1 : Kd.C k49 w A1 l1.length l1) (hc1 : l1.length ≤ c1) (h : spec_l10Join.f k l0 l1 = some (r1, r2)) :
  Calls Try.prog 39 #[.slice A0 l0.length c0, .slice A1 l1.length c1] w fun e w' => ∃ v0_ : Value, e = .returned (.tuple #[v0_, .bool r2]) ∧ Kd.R k49 49 w' w.heap.size (fun _ => True) v0_ r1 ∧ Below w.heap.size w w' := by
 have hu49 := Try.underlying49
 have HR0 := Aside0.mk hr0
 have HC0 := Aside0.mk hc0
 clear hr0 hc0
 have HR1 := Aside0.mk hr1
 have HC1 := Aside0.mk hc1
 clear hr1 hc1
 have HB := Aside0.mk (Below.refl w.heap.size w)
 have H : (if 0 < (l0.length : Int) then (if 0 ≤ (wrap64 ((l0.length : Int) - 1)) then (if (wrap64 ((l0.length : Int) - 1)) < (l0.length : Int) then (if 0 < (l1.length : Int) then (if (((rd_T49 l0 (wrap64 ((l0.length : Int) - 1))).f0) == ((rd_T49 l1 0).f0) && (((rd_T49 l0 (wrap64 ((l0.length : Int) - 1))).f1) == ((rd_T49 l1 0).f1))) = true then ((some (([] : List (S49)) : List (S49))).bind fun y122 => (if y122.length + l0.length < 8796093022208 then ((some (y122 ++ l0 : List (S49))).bind fun y125 => (if 1 ≤ (l1.length : Int) then ((some (l1.drop 1 : List (S49))).bind fun y128 => (if y125.length + y128.length < 8796093022208 then (some ((y125 ++ y128), true)) else (none))) else (none))) else (none))) else (if 0 ≤ (wrap64 ((l1.length : Int) - 1)) then (if (wrap64 ((l1.length : Int) - 1)) < (l1.length : Int) then (if (((rd_T49 l0 (wrap64 ((l0.length : Int) - 1))).f0) == ((rd_T49 l1 (wrap64 ((l1.length : Int) - 1))).f0) && (((rd_T49 l0 (wrap64 ((l0.length : Int) - 1))).f1) == ((rd_T49 l1 (wrap64 ((l1.length : Int) - 1))).f1))) = true then ((some (([] : List (S49)) : List (S49))).bind fun y136 => (if y136.length + l0.length < 8796093022208 then ((some (y136 ++ l0 : List (S49))).bind fun y139 => ((spec_l10Back.f k l1).bind fun t142 => (if 1 ≤ (t142.length : Int) then ((some (t142.drop 1 : List (S49))).bind fun y145 => (if y139.length + y145.length < 8796093022208 then (some ((y139 ++ y145), true)) else (none))) else (none)))) else (none))) else (if (((rd_T49 l0 0).f0) == ((rd_T49 l1 (wrap64 ((l1.length : Int) - 1))).f0) && (((rd_T49 l0 0).f1) == ((rd_T49 l1 (wrap64 ((l1.length : Int) - 1))).f1))) = true then ((some (([] : List (S49)) : List (S49))).bind fun y153 => (if y153.length + l1.length < 8796093022208 then ((some (y153 ++ l1 : List (S49))).bind fun y156 => (if 1 ≤ (l0.length : Int) then ((some (l0.drop 1 : List (S49))).bind fun y159 => (if y156.length + y159.length < 8796093022208 then (some ((y156 ++ y159), true)) else (none))) else (none))) else (none))) else (if (((rd_T49 l0 0).f0) == ((rd_T49 l1 0).f0) && (((rd_T49 l0 0).f1) == ((rd_T49 l1 0).f1))) = true then ((spec_l10Back.f k l1).bind fun t167 => (if 1 ≤ (l0.length : Int) then ((some (l0.drop 1 : List (S49))).bind fun y170 => (if t167.length + y170.length < 8796093022208 then (some ((t167 ++ y170), true)) else (none))) else (none))) else (some (([] : List (S49)), false))))) else (none)) else (none))) else (none)) else (none)) else (none)) else (none)) = some (r1, r2) := h
 clear h
 by_cases c3 : 0 < (l0.length : Int)
 ·rw [if_pos c3] at H
  have c3b0 : decide (0 < (l0.length : Int)) = true := decide_eq_true c3
  have c3b1 : decide (0 < l0.length) = true := decide_eq_true (by omega)
  clear c3
  obtain ⟨ji4, hji4⟩ : ∃ j_ : Int, (wrap64 ((l0.length : Int) - 1)) = j_ := ⟨_, rfl⟩
  replace H : (if 0 ≤ (ji4) then (if (ji4) < (l0.length : Int) then (if 0 < (l1.length : Int) then (if (((rd_T49 l0 (ji4)).f0) == ((rd_T49 l1 0).f0) && (((rd_T49 l0 (ji4)).f1) == ((rd_T49 l1 0).f1))) = true then ((some (([] : List (S49)) : List (S49))).bind fun y122 => (if y122.length + l0.length < 8796093022208 then ((some (y122 ++ l0 : List (S49))).bind fun y125 => (if 1 ≤ (l1.length : Int) then ((some (l1.drop 1 : List (S49))).bind fun y128 => (if y125.length + y128.length < 8796093022208 then (some ((y125 ++ y128), true)) else (none))) else (none))) else (none))) else (if 0 ≤ (wrap64 ((l1.length : Int) - 1)) then (if (wrap64 ((l1.length : Int) - 1)) < (l1.length : Int) then (if (((rd_T49 l0 (ji4)).f0) == ((rd_T49 l1 (wrap64 ((l1.length : Int) - 1))).f0) && (((rd_T49 l0 (ji4)).f1) == ((rd_T49 l1 (wrap64 ((l1.length : Int) - 1))).f1))) = true then ((some (([] : List (S49)) : List (S49))).bind fun y136 => (if y136.length + l0.length < 8796093022208 then ((some (y136 ++ l0 : List (S49))).bind fun y139 => ((spec_l10Back.f k l1).bind fun t142 => (if 1 ≤ (t142.length : Int) then ((some (t142.drop 1 : List (S49))).bind fun y145 => (if y139.length + y145.length < 8796093022208 then (some ((y139 ++ y145), true)) else (none))) else (none)))) else (none))) else (if (((rd_T49 l0 0).f0) == ((rd_T49 l1 (wrap64 ((l1.length : Int) - 1))).f0) && (((rd_T49 l0 0).f1) == ((rd_T49 l1 (wrap64 ((l1.length : Int) - 1))).f1))) = true then ((some (([] : List (S49)) : List (S49))).bind fun y153 => (if y153.length + l1.length < 8796093022208 then ((some (y153 ++ l1 : List (S49))).bind fun y156 => (if 1 ≤ (l0.length : Int) then ((some (l0.drop 1 : List (S49))).bind fun y159 => (if y156.length + y159.length < 8796093022208 then (some ((y156 ++ y159), true)) else (none))) else (none))) else (none))) else (if (((rd_T49 l0 0).f0) == ((rd_T49 l1 0).f0) && (((rd_T49 l0 0).f1) == ((rd_T49 l1 0).f1))) = true then ((spec_l10Back.f k l1).bind fun t167 => (if 1 ≤ (l0.length : Int) then ((some (l0.drop 1 : List (S49))).bind fun y170 => (if t167.length + y170.length < 8796093022208 then (some ((t167 ++ y170), true)) else (none))) else (none))) else (some (([] : List (S49)), false))))) else (none)) else (none))) else (none)) else (none)) else (none)) = some (r1, r2) := by first | (rw [hji4] at H; exact H) | (simp only [hji4] at H ⊢; exact H)
  have hji4w : (IntKind.i64.wrap ((l0.length : Int) - 1)) = ji4 := (i64_w _).trans hji4
  by_cases c5 : 0 ≤ (ji4)
  ·rw [if_pos c5] at H
   have c5b0 : decide (0 ≤ (ji4)) = true := decide_eq_true c5
   clear c5
   by_cases c6 : (ji4) < (l0.length : Int)
   ·rw [if_pos c6] at H
    have c6b0 : decide ((ji4) < (l0.length : Int)) = true := decide_eq_true c6
    clear c6
    by_cases c7 : 0 < (l1.length : Int)
    ·rw [if_pos c7] at H
     have c7b0 : decide (0 < (l1.length : Int)) = true := decide_eq_true c7
     have c7b1 : decide (0 < l1.length) = true := decide_eq_true (by omega)
     clear c7
     have p117 : 0 ≤ (0 : Int) := (by omega)
     have q117 : 0 < (l0.length : Int) := od_
     obtain ⟨ad117, e117, hx1000_0, hx1000_1⟩ := at_T49 HR0.out 0 p117 q117
     cases e117
     have qi117 : (0 < l0.length) = True := eq_true (by omega)
     (try rw [show ((0 : Int)).toNat = 0 from rfl] at hx1000_0)
     (try rw [show 0 * 2 = 0 from rfl] at hx1000_0)
     (try rw [Addr.add_zero'] at hx1000_0)
     (try rw [show ((0 : Int)).toNat = 0 from rfl] at hx1000_1)
     (try rw [show 0 * 2 = 0 from rfl] at hx1000_1)
     (try rw [Addr.add_zero'] at hx1000_1)
     replace p117 := eq_true p117
     replace q117 := eq_true q117
     go_enter Try.func39, Try.ntmps39
     try go_wp2_with (first | ((with_reducible refine gate_dst (N := 6) rfl ?_); refine box_event ?hg (N := 6) ?hd (cs := #[.int .i64 0, .int .i64 0]) (t := 49) ?hr ?_; (case hd => rfl); (case hg => rfl); (case hr => first | (go_simp; done) | (go_simp; rfl)); intro gb118 hg w1001 hbox hb; have n0_ := Aside0.mk (below_step (bw_ HB.out) hb); have n1_ := Aside0.mk (hbox); have n2_ := Aside0.mk ((ge_ hg (bw_ HB.out))); have n3_ := Aside0.mk ((ge_ hg (bw_ HB.out))); clear HB; have HB := n0_; have BK118 := n1_; have GW118 := n2_; have GE118 := n3_; clear n0_ n1_ n2_ n3_; clear hb hbox hg; have hcz1002_0 : w1001.cell? ⟨gb118, 0, none⟩ = some (.int .i64 0) := (blk_cell BK118.out 0).trans rfl; have hcz1002_1 : w1001.cell? ⟨gb118, 1, none⟩ = some (.int .i64 0) := (blk_cell BK118.out 1).trans rfl; have hfz1002_0 := blk_frozen BK118.out 0; have hfz1002_1 := blk_frozen BK118.out 1; have p119 : 0 ≤ ((ji4) : Int) := od_; have q119 : (ji4) < (l0.length : Int) := od_; obtain ⟨ad119, e119, hx1003_0, hx1003_1⟩ := at_T49 HR0.out (ji4) p119 q119; obtain rfl : ad117 = ad119 := (by injection e119); have hn1003_0 : ad117.block ≠ gb118 := Nat.ne_of_lt (Nat.lt_of_lt_of_le (by have := World.block_lt_of_cell? _ _ hx1003_0; first | rwa [add_block] at this | exact this) GW118.out); have hn1003_1 : ad117.block ≠ gb118 := Nat.ne_of_lt (Nat.lt_of_lt_of_le (by have := World.block_lt_of_cell? _ _ hx1003_0; first | rwa [add_block] at this | exact this) GW118.out); replace hx1003_0 := (HB.out.cell (World.block_lt_of_cell? w _ hx1003_0)).trans hx1003_0; replace hx1003_1 := (HB.out.cell (World.block_lt_of_cell? w _ hx1003_1)).trans hx1003_1; replace hx1003_0 := (cell_far (p := ⟨gb118, 0, none⟩) (by first | (rw [add_block]; exact hn1003_0) | (show (Addr.add _ _).block ≠ _; rw [add_block]; exact hn1003_0) | exact hn1003_0) (.int .i64 ((rd_T49 l0 0).f0))).trans hx1003_0; replace hx1003_1 := (cell_far (p := ⟨gb118, 0, none⟩) (by first | (rw [add_block]; exact hn1003_0) | (show (Addr.add _ _).block ≠ _; rw [add_block]; exact hn1003_0) | exact hn1003_0) (.int .i64 ((rd_T49 l0 0).f0))).trans hx1003_1; replace hx1003_0 := (cell_far (p := ⟨gb118, 1, none⟩) (by first | (rw [add_block]; exact hn1003_1) | (show (Addr.add _ _).block ≠ _; rw [add_block]; exact hn1003_1) | exact hn1003_1) (.int .i64 ((rd_T49 l0 0).f1))).trans hx1003_0; replace hx1003_1 := (cell_far (p := ⟨gb118, 1, none⟩) (by first | (rw [add_block]; exact hn1003_1) | (show (Addr.add _ _).block ≠ _; rw [add_block]; exact hn1003_1) | exact hn1003_1) (.int .i64 ((rd_T49 l0 0).f1))).trans hx1003_1; clear hn1003_0; clear hn1003_1; replace p119 := eq_true p119; replace q119 := eq_true q119) | ((with_reducible refine gate_dst (N := 7) rfl ?_); refine box_event ?hg (N := 7) ?hd (cs := #[.int .i64 0, .int .i64 0]) (t := 49) ?hr ?_; (case hd => rfl); (case hg => rfl); (case hr => first | (go_simp; done) | (go_simp; rfl)); intro gb120 hg w1004 hbox hb; have n0_ := Aside0.mk (blk_below (g := gb118) (o := .cells #[.int .i64 ((rd_T49 l0 0).f0), .int .i64 ((rd_T49 l0 0).f1)] 49 (0, 0)) (by (with_reducible repeat (first | refine blk_drewN ?_ _ | refine blk_drew ?_ | refine blk_alloc ?_ _)); refine blk_put (cs := #[.int .i64 ((rd_T49 l0 0).f0), .int .i64 0]) ?_ 1 _ rfl; (with_reducible repeat (first | refine blk_drewN ?_ _ | refine blk_drew ?_ | refine blk_alloc ?_ _)); refine blk_put (cs := #[.int .i64 0, .int .i64 0]) ?_ 0 _ rfl; (with_reducible repeat (first | refine blk_drewN ?_ _ | refine blk_drew ?_ | refine blk_alloc ?_ _)); exact BK118.out) hb); have n1_ := Aside0.mk (below_step (bwg_ GE118.out HB.out) hb); have n2_ := Aside0.mk (hbox); have n3_ := Aside0.mk ((by rw [hg]; exact (below_size (bwg_ GE118.out HB.out)) : w.heap.size ≤ gb120)); have n4_ := Aside0.mk ((by rw [hg]; exact (below_size (bwg_ GE118.out HB.out)) : w.heap.size ≤ gb120)); have n5_ := Aside0.mk ((by rw [hg]; exact Nat.ne_of_lt (blk_lt (g := gb118) (o := .cells #[.int .i64 ((rd_T49 l0 0).f0), .int .i64 ((rd_T49 l0 0).f1)] 49 (0, 0)) (by (with_reducible repeat (first | refine blk_drewN ?_ _ | refine blk_drew ?_ | refine blk_alloc ?_ _)); refine blk_put (cs := #[.int .i64 ((rd_T49 l0 0).f0), .int .i64 0]) ?_ 1 _ rfl; (with_reducible repeat (first | refine blk_drewN ?_ _ | refine blk_drew ?_ | refine blk_alloc ?_ _)); refine blk_put (cs := #[.int .i64 0, .int .i64 0]) ?_ 0 _ rfl; (with_reducible repeat (first | refine blk_drewN ?_ _ | refine blk_drew ?_ | refine blk_alloc ?_ _)); exact BK118.out)) : gb118 ≠ gb120)); have n6_ := Aside0.mk ((by rw [hg]; exact Nat.ne_of_gt (blk_lt (g := gb118) (o := .cells #[.int .i64 ((rd_T49 l0 0).f0), .int .i64 ((rd_T49 l0 0).f1)] 49 (0, 0)) (by (with_reducible repeat (first | refine blk_drewN ?_ _ | refine blk_drew ?_ | refine blk_alloc ?_ _)); refine blk_put (cs := #[.int .i64 ((rd_T49 l0 0).f0), .int .i64 0]) ?_ 1 _ rfl; (with_reducible repeat (first | refine blk_drewN ?_ _ | refine blk_drew ?_ | refine blk_alloc ?_ _)); refine blk_put (cs := #[.int .i64 0, .int .i64 0]) ?_ 0 _ rfl; (with_reducible repeat (first | refine blk_drewN ?_ _ | refine blk_drew ?_ | refine blk_alloc ?_ _)); exact BK118.out)) : gb120 ≠ gb118)); clear BK118; clear HB; have BK118 := n0_; have HB := n1_; have BK120 := n2_; have GW120 := n3_; have GE120 := n4_; have NB118_120 := n5_; have NB120_118 := n6_; clear n0_ n1_ n2_ n3_ n4_ n5_ n6_; clear hb hbox hg; have hnb1005 := NB120_118.out; have hnc1005 := NB118_120.out; have hcz1006_0 : w1004.cell? ⟨gb120, 0, none⟩ = some (.int .i64 0) := (blk_cell BK120.out 0).trans rfl; have hcz1006_1 : w1004.cell? ⟨gb120, 1, none⟩ = some (.int .i64 0) := (blk_cell BK120.out 1).trans rfl; have hfz1006_0 := blk_frozen BK120.out 0; have hfz1006_1 := blk_frozen BK120.out 1))
     have n0_ : Aside0 (((w1004.setCell ⟨gb120, 0, none⟩ (.int .i64 ((rd_T49 l0 (ji4)).f0))).setCell ⟨gb120, 1, none⟩ (.int .i64 ((rd_T49 l0 (ji4)).f1))).heap[gb118]? = some (.cells #[.int .i64 ((rd_T49 l0 0).f0), .int .i64 ((rd_T49 l0 0).f1)] 49 (0, 0))) := ⟨bf2_ NB118_120.out BK118.out⟩
     have n1_ : Aside0 (((w1004.setCell ⟨gb120, 0, none⟩ (.int .i64 ((rd_T49 l0 (ji4)).f0))).setCell ⟨gb120, 1, none⟩ (.int .i64 ((rd_T49 l0 (ji4)).f1))).heap[gb120]? = some (.cells #[.int .i64 ((rd_T49 l0 (ji4)).f0), .int .i64 ((rd_T49 l0 (ji4)).f1)] 49 (0, 0))) := ⟨by (with_reducible repeat (first | refine blk_drewN ?_ _ | refine blk_drew ?_ | refine blk_alloc ?_ _)); refine blk_put (cs := #[.int .i64 ((rd_T49 l0 (ji4)).f0), .int .i64 0]) ?_ 1 _ rfl; (with_reducible repeat (first | refine blk_drewN ?_ _ | refine blk_drew ?_ | refine blk_alloc ?_ _)); refine blk_put (cs := #[.int .i64 0, .int .i64 0]) ?_ 0 _ rfl; (with_reducible repeat (first | refine blk_drewN ?_ _ | refine blk_drew ?_ | refine blk_alloc ?_ _)); exact BK120.out⟩
     have n2_ : Aside0 (Below w.heap.size w ((w1004.setCell ⟨gb120, 0, none⟩ (.int .i64 ((rd_T49 l0 (ji4)).f0))).setCell ⟨gb120, 1, none⟩ (.int .i64 ((rd_T49 l0 (ji4)).f1)))) := ⟨bws_ HB.out⟩
     (try clear BK118)
     (try clear BK120)
     (try clear HB)
     generalize ((w1004.setCell ⟨gb120, 0, none⟩ (.int .i64 ((rd_T49 l0 (ji4)).f0))).setCell ⟨gb120, 1, none⟩ (.int .i64 ((rd_T49 l0 (ji4)).f1))) = w1007 at n0_ n1_ n2_ ⊢
     have BK118 := n0_; have BK120 := n1_; have HB := n2_
     clear n0_ n1_ n2_
     have n0_ := Aside0.mk (blk_drew BK118.out)
     have n1_ := Aside0.mk (blk_drew BK120.out)
     have n2_ := Aside0.mk (below_drew1 HB.out)
     clear BK118 BK120 HB
     have BK118 := n0_; have BK120 := n1_; have HB := n2_
     clear n0_ n1_ n2_
     have p121 : 0 ≤ (0 : Int) := (by omega)
     have q121 : 0 < (l1.length : Int) := od_
     obtain ⟨ad121, e121, hx1008_0, hx1008_1⟩ := at_T49 HR1.out 0 p121 q121
     have hw1008_1 := hx1008_1
     (try rw [show ((0 : Int)).toNat = 0 from rfl] at hw1008_1)
     (try rw [show 0 * 2 = 0 from rfl] at hw1008_1)
     (try rw [Addr.add_zero'] at hw1008_1)
     have hw1008_0 := hx1008_0
     (try rw [show ((0 : Int)).toNat = 0 from rfl] at hw1008_0)
     (try rw [show 0 * 2 = 0 from rfl] at hw1008_0)
     (try rw [Addr.add_zero'] at hw1008_0)
     cases e121
     have qi121 : (0 < l1.length) = True := eq_true (by omega)
     (try rw [show ((0 : Int)).toNat = 0 from rfl] at hx1008_0)
     (try rw [show 0 * 2 = 0 from rfl] at hx1008_0)
     (try rw [Addr.add_zero'] at hx1008_0)
     (try rw [show ((0 : Int)).toNat = 0 from rfl] at hx1008_1)
     (try rw [show 0 * 2 = 0 from rfl] at hx1008_1)
     (try rw [Addr.add_zero'] at hx1008_1)
     replace hx1008_0 := (HB.out.cell (World.block_lt_of_cell? w _ hx1008_0)).trans hx1008_0
     replace hx1008_1 := (HB.out.cell (World.block_lt_of_cell? w _ hx1008_1)).trans hx1008_1
     replace p121 := eq_true p121
     replace q121 := eq_true q121
     refine start_ (n := 6) (S := fun w' => w'.cell? ⟨gb120, 0, none⟩ = some (.int .i64 ((rd_T49 l0 (ji4)).f0)) ∧ w'.cell? ⟨gb120, 1, none⟩ = some (.int .i64 ((rd_T49 l0 (ji4)).f1)) ∧ w'.cell? ad121 = some (.int .i64 ((rd_T49 l1 0).f0)) ∧ w'.cell? ⟨ad121.block, ad121.off + 1, none⟩ = some (.int .i64 ((rd_T49 l1 0).f1))) (ds := []) #[false, false, false, false, false, false] (by kernel_rfl) rfl rfl ⟨(blk_cell BK120.out 0).trans rfl, (blk_cell BK120.out 1).trans rfl, ((HB.out.cell (World.block_lt_of_cell? w _ hw1008_0)).trans hw1008_0), ((HB.out.cell (World.block_lt_of_cell? w _ hw1008_1)).trans hw1008_1)⟩ (fun hHeld => ?_)
     generalize w1007.drew = w1009 at BK118 BK120 HB hx1008_0 hx1008_1 hHeld ⊢
     refine pure_ (i := 1) (N := some 19) (v := ?_) (a' := ?_) #[false, true, false, false, false, false] rfl rfl (by kernel_rfl) (fun _ _ _ h => h) (Or.inl ⟨by rfl, ?_⟩) ?_ ?_
     rotate_left
     ·intro w'
      go_simp
      with_reducible rfl
     rotate_left
     ·simp only [Act.put, List.setIfInBounds_toArray, List.set_cons_zero, List.set_cons_succ, i64_w, i32_w]
      rfl
     refine pure_ (i := 2) (N := some 20) (v := ?_) (a' := ?_) #[false, true, true, false, false, false] rfl rfl (by kernel_rfl) (fun _ _ _ h => h) (Or.inl ⟨by rfl, ?_⟩) ?_ ?_
     rotate_left
     ·intro w'
      go_simp
      with_reducible rfl
     rotate_left
     ·simp only [Act.put, List.setIfInBounds_toArray, List.set_cons_zero, List.set_cons_succ, i64_w, i32_w]
      rfl
     refine take_ (i := 0) (N := some 18) (v := ?_) (a' := ?_) #[true, true, true, false, false, false] rfl rfl (by kernel_rfl) (fun _ _ _ h => h) (Or.inl ⟨by rfl, ?_⟩) hHeld ?_ ?_
     rotate_left
     ·rintro w' ⟨s0, s1, s2, s3⟩
      go_simp
      with_reducible rfl
     rotate_left
     ·simp only [Act.put, List.setIfInBounds_toArray, List.set_cons_zero, List.set_cons_succ, i64_w, i32_w]
      rfl
     refine take_ (i := 3) (N := some 21) (v := ?_) (a' := ?_) #[true, true, true, true, false, false] rfl rfl (by kernel_rfl) (fun _ _ _ h => h) (Or.inl ⟨by rfl, ?_⟩) hHeld ?_ ?_
     rotate_left
     ·rintro w' ⟨s0, s1, s2, s3⟩
      go_simp
      with_reducible rfl
     rotate_left
     ·simp only [Act.put, List.setIfInBounds_toArray, List.set_cons_zero, List.set_cons_succ, i64_w, i32_w]
      rfl
     refine pure_ (i := 4) (N := some 22) (v := ?_) (a' := ?_) #[true, true, true, true, true, false] rfl rfl (by kernel_rfl) (fun _ _ _ h => h) (Or.inl ⟨by rfl, ?_⟩) ?_ ?_
     rotate_left
     ·intro w'
      go_simp
      with_reducible rfl
     rotate_left
     ·simp only [Act.put, List.setIfInBounds_toArray, List.set_cons_zero, List.set_cons_succ, i64_w, i32_w]
      rfl
     refine pure_ (i := 5) (N := some 17) (v := ?_) (a' := ?_) #[true, true, true, true, true, true] rfl rfl (by kernel_rfl) (fun _ _ _ h => h) (Or.inl ⟨by rfl, ?_⟩) ?_ ?_
     rotate_left
     ·intro w'
      go_simp
      with_reducible rfl
     rotate_left
     ·simp only [Act.put, List.setIfInBounds_toArray, List.set_cons_zero, List.set_cons_succ, i64_w, i32_w]
      rfl
     refine done_ (by kernel_rfl) ?_
     by_cases c8 : (((rd_T49 l0 (ji4)).f0) == ((rd_T49 l1 0).f0) && (((rd_T49 l0 (ji4)).f1) == ((rd_T49 l1 0).f1))) = true
     ·rw [if_pos c8] at H
      have c8b0 : (((rd_T49 l0 (ji4)).f0) == ((rd_T49 l1 0).f0) && (((rd_T49 l0 (ji4)).f1) == ((rd_T49 l1 0).f1))) = true := c8
      (try (have c8b1 : decide (((rd_T49 l0 (ji4)).f0) = ((rd_T49 l1 0).f0) && (((rd_T49 l0 (ji4)).f1) == ((rd_T49 l1 0).f1))) = true := by simpa using c8))
      (try (have c8b2 : (((rd_T49 l0 (ji4)).f0) == ((rd_T49 l1 0).f0) && (((rd_T49 l0 (ji4)).f1) == ((rd_T49 l1 0).f1))) = true := by simpa using c8))
      clear c8
      obtain ⟨y122, hy122⟩ : ∃ y_ : List (S49), y_ = (([] : List (S49))) := ⟨_, rfl⟩
      replace H : (if y122.length + l0.length < 8796093022208 then ((some (y122 ++ l0 : List (S49))).bind fun y125 => (if 1 ≤ (l1.length : Int) then ((some (l1.drop 1 : List (S49))).bind fun y128 => (if y125.length + y128.length < 8796093022208 then (some ((y125 ++ y128), true)) else (none))) else (none))) else (none)) = some (r1, r2) := by first | (rw [hy122]; with_reducible exact H) | (have H2_ := (Option.bind_some _ _).symm.trans H; rw [hy122]; with_reducible exact H2_) | (have H2_ := (Option.bind_some _ _).symm.trans H; with_reducible exact H2_) | with_reducible exact H | (rw [hy122]; exact H) | exact H
      have Ny122 := Aside0.mk hy122
      clear hy122
      (try rw [c8b0])
      (try rw [c8b1])
      (try rw [c8b2])
      by_cases c9 : y122.length + l0.length < 8796093022208
      ·rw [if_pos c9] at H
       have LMc9 := Aside0.mk c9
       clear c9
       obtain ⟨y125, hy125⟩ : ∃ y_ : List (S49), y_ = (y122 ++ l0) := ⟨_, rfl⟩
       replace H : (if 1 ≤ (l1.length : Int) then ((some (l1.drop 1 : List (S49))).bind fun y128 => (if y125.length + y128.length < 8796093022208 then (some ((y125 ++ y128), true)) else (none))) else (none)) = some (r1, r2) := by first | (rw [hy125]; with_reducible exact H) | (have H2_ := (Option.bind_some _ _).symm.trans H; rw [hy125]; with_reducible exact H2_) | (have H2_ := (Option.bind_some _ _).symm.trans H; with_reducible exact H2_) | with_reducible exact H | (rw [hy125]; exact H) | exact H
       have Ny125 := Aside0.mk hy125
       clear hy125
       by_cases c10 : 1 ≤ (l1.length : Int)
       ·rw [if_pos c10] at H
        have c10b0 := eq_true c10
        have c10b1 : decide (1 ≤ (l1.length : Int)) = true := decide_eq_true c10
        clear c10
        obtain ⟨y128, hy128⟩ : ∃ y_ : List (S49), y_ = (l1.drop 1) := ⟨_, rfl⟩
        replace H : (if y125.length + y128.length < 8796093022208 then (some ((y125 ++ y128), true)) else (none)) = some (r1, r2) := by first | (rw [hy128]; with_reducible exact H) | (have H2_ := (Option.bind_some _ _).symm.trans H; rw [hy128]; with_reducible exact H2_) | (have H2_ := (Option.bind_some _ _).symm.trans H; with_reducible exact H2_) | with_reducible exact H | (rw [hy128]; exact H) | exact H
        have Ny128 := Aside0.mk hy128
        clear hy128
        by_cases c11 : y125.length + y128.length < 8796093022208
        ·rw [if_pos c11] at H
         have LMc11 := Aside0.mk c11
         clear c11
         obtain ⟨y132, hy132⟩ : ∃ y_ : List (S49), y_ = (y125 ++ y128) := ⟨_, rfl⟩
         replace H : (some (y132, true)) = some (r1, r2) := by first | (rw [hy132]; with_reducible exact H) | (have H2_ := (Option.bind_some _ _).symm.trans H; rw [hy132]; with_reducible exact H2_) | (have H2_ := (Option.bind_some _ _).symm.trans H; with_reducible exact H2_) | with_reducible exact H | (rw [hy132]; exact H) | exact H
         have Ny132 := Aside0.mk hy132
         clear hy132
         simp only [Option.some.injEq, Prod.mk.injEq] at H
         obtain ⟨rfl, rfl⟩ := H
         try go_wp2
         have n0_ := Aside0.mk (blk_drew BK118.out)
         have n1_ := Aside0.mk (blk_drew BK120.out)
         have n2_ := Aside0.mk (below_drew1 HB.out)
         clear BK118 BK120 HB
         have BK118 := n0_; have BK120 := n1_; have HB := n2_
         clear n0_ n1_ n2_
         have q20 : (1 : Int) ≤ ((l1.length : Int) : Int) := od_
         obtain ⟨i020, hi1010, _, hsz1011, _⟩ := info_parts info49
         have hroom1011 : l1.length ≤ c1 := HC1.out
         have hC20 : Kd.C k49 _ (some ad121) l1.length l1 := HR1.out
         have hcut1011 := cut_from (P := Try.prog) 34 49 .i64 Try.underlying34 hi1010 2 hsz1011 (some ad121) l1.length c1 1 (by omega) q20
         have hr1011 := Kd.C_drop (m := (1 : Int).toNat) (c := c1) hC20 (by omega) hroom1011
         obtain ⟨A20, hA20⟩ : ∃ A_z, A_z = (if c1 = (1 : Int).toNat then (some ad121) else ((some ad121) : Option Addr).map (·.add ((1 : Int).toNat * 2))) := ⟨_, rfl⟩
         obtain ⟨c20, hc1011⟩ : ∃ c_z, c_z = c1 - (1 : Int).toNat := ⟨_, rfl⟩
         have hy1011 : y128.length = l1.length - (1 : Int).toNat := (by rw [Ny128.out, List.length_drop] <;> omega)
         rw [show (l1).drop (1 : Int).toNat = y128 from Ny128.out.symm] at hr1011
         replace hr1011 : Kd.C k49 _ A20 y128.length y128 := (by rw [hA20]; exact hr1011)
         rw [← hy1011, ← hA20, ← hc1011] at hcut1011
         have HR131 := Aside0.mk hr1011
         have HC131 := Aside0.mk (show y128.length ≤ c20 from by rw [hy1011, hc1011]; exact Nat.sub_le_sub_right hroom1011 _)
         clear hr1011 hC20 hroom1011 hi1010 hsz1011 hc1011
         have KY20 := Aside0.mk hy1011
         have KA20 := Aside0.mk hA20
         clear hy1011 hA20
         replace q20 := eq_true q20
         refine start_ (n := 8) (S := fun w' => True) (ds := []) #[false, false, false, false, false, false, false, false] (by kernel_rfl) rfl rfl trivial (fun hHeld => ?_); refine with_tabW spec_l10Join.tab4 spec_l10Join.bits4 (fun HT_ HW_ => ?_)
         generalize w1009.drew = w1012 at BK118 BK120 HB HR131 hHeld ⊢
         refine pure_ (i := 1) (N := some 24) (v := ?_) (a' := ?_) #[false, true, false, false, false, false, false, false] rfl rfl (any_of HT_.out (by kernel_rfl)) (fun _ _ _ h => h) (Or.inl ⟨by rfl, ?_⟩) ?_ ?_
         rotate_left
         ·intro w'
          go_simp
          with_reducible rfl
         rotate_left
         ·simp only [Act.put, List.setIfInBounds_toArray, List.set_cons_zero, List.set_cons_succ, i64_w, i32_w]
          rfl
         refine pure_ (i := 3) (N := some 26) (v := ?_) (a' := ?_) #[false, true, false, true, false, false, false, false] rfl rfl (any_of HT_.out (by kernel_rfl)) (fun _ _ _ h => h) (Or.inl ⟨by rfl, ?_⟩) ?_ ?_
         rotate_left
         ·intro w'
          go_simp
          with_reducible rfl
         rotate_left
         ·simp only [Act.put, List.setIfInBounds_toArray, List.set_cons_zero, List.set_cons_succ, i64_w, i32_w]
          rfl
         refine pure_ (i := 4) (N := some 27) (v := ?_) (a' := ?_) #[false, true, false, true, true, false, false, false] rfl rfl (any_of HT_.out (by kernel_rfl)) (fun _ _ _ h => h) (Or.inl ⟨by rfl, ?_⟩) ?_ ?_
         rotate_left
         ·intro w'
          go_simp
          with_reducible rfl
         rotate_left
         ·simp only [Act.put, List.setIfInBounds_toArray, List.set_cons_zero, List.set_cons_succ, i64_w, i32_w]
          rfl
         refine one_ (i := 0) (N := some 23) #[true, true, false, true, true, false, false, false] rfl rfl (one_of HT_.out (by kernel_rfl)) (by decide) (fun K hK => ?_)
         refine Kd.R_lit_step k49 _ 49 ?hg (N := 23) ?hd (xs := ([] : List (S49))) (inner := []) (ok := fun _ => True) (okp := fun _ => True) ?hr ?hp (fun _ hk => hk) trivial (Below.refl _ _) (Nat.le_refl _) (by simp) ?_; (case hd => rfl); (case hg => rfl); (case hr => first | (go_simp; done) | (go_simp; rfl)); (case hp => exact (Reps.none _ _))
         intro v123 w1013 ho1014 hb hg_ hnew_
         clear hg_ hnew_
         (first | rw [← Ny122.out] at ho1014 | (simp only [Int.reduceToNat] at ho1014; rw [← Ny122.out] at ho1014))
         have n0_ := Aside0.mk (Kd.R_lower (Kd.R_newB (Kd.R_newB ho1014 (g := gb118) (o := .cells #[.int .i64 ((rd_T49 l0 0).f0), .int .i64 ((rd_T49 l0 0).f1)] 49 (0, 0)) (bk_ BK118.out)) (g := gb120) (o := .cells #[.int .i64 ((rd_T49 l0 (ji4)).f0), .int .i64 ((rd_T49 l0 (ji4)).f1)] 49 (0, 0)) (bk_ BK120.out)) (below_size (bws_ HB.out)))
         have n1_ := Aside0.mk (blk_below (bk_ BK118.out) hb)
         have n2_ := Aside0.mk (blk_below (bk_ BK120.out) hb)
         have n3_ := Aside0.mk (below_step (bws_ HB.out) hb)
         clear BK118 BK120 HB
         have HO124 := n0_; have BK118 := n1_; have BK120 := n2_; have HB := n3_
         clear n0_ n1_ n2_ n3_ hb ho1014
         refine hK.out _ _ trivial (fun hHeld => ?_)
         clear hK K
         refine norm_ (a' := ?_) ?_ ?_
         rotate_left
         ·show Act.put _ (some 23) _ = _
          simp only [Act.put, List.setIfInBounds_toArray, List.set_cons_zero, List.set_cons_succ, i64_w, i32_w]
          rfl
         refine one_ (i := 2) (N := some 25) #[true, true, true, true, true, false, false, false] rfl rfl (one_of HT_.out (by kernel_rfl)) (by decide) (fun K hK => ?_)
         refine Kd.R_append_rows_step k49 (w0 := w) w.heap.size (by rfl) (.tmp 23) (.tmp 24) 34 49 (.agg #[(.int .i64 0), (.int .i64 0)]) 16 rfl Try.underlying34 info49 rfl (by decide) (by omega) v123 y122 l0 _ _ _ (fun k_ => k_ ≠ gb118 ∧ k_ ≠ gb120) (fun _ => False) rfl rfl ?aO ?aR (fun _ _ h => h) (fun _ h => h.elim) ?aF ?aB ?aS ?aL ?_
         (case aR => repeat (first | exact (Kd.C_below HR0.out HB.out) | (with_reducible refine Kd.C_alloc ?_ _) | (with_reducible refine Kd.C_drewN ?_ _) | (with_reducible refine Kd.C_drew ?_)))
         (case aB => exact (bws_ HB.out))
         (case aF => exact (fun k_ hk => ⟨Kd.freshB (g := gb118) (o := .cells #[.int .i64 ((rd_T49 l0 0).f0), .int .i64 ((rd_T49 l0 0).f1)] 49 (0, 0)) (bk_ BK118.out) k_ hk, Kd.freshB (g := gb120) (o := .cells #[.int .i64 ((rd_T49 l0 (ji4)).f0), .int .i64 ((rd_T49 l0 (ji4)).f1)] 49 (0, 0)) (bk_ BK120.out) k_ hk⟩))
         (case aO => exact (by (with_reducible repeat (first | apply Kd.R_alloc | apply Kd.R_drewN | apply Kd.R_drew)); exact Kd.R_mono HO124.out (fun _ hk => ⟨hk.1.2, hk.2⟩)))
         (case aS => exact (below_size (bws_ HB.out)))
         (case aL => have := LMc9.out; omega)
         intro v126 w1015 ho hb hg hat
         rw [← Ny125.out] at ho
         have n0_ := Aside0.mk (blk_grown (g := gb118) (o := .cells #[.int .i64 ((rd_T49 l0 0).f0), .int .i64 ((rd_T49 l0 0).f1)] 49 (0, 0)) (bk_ BK118.out) hg (Kd.R_away HO124.out (fun _ hk => hk.1.2)))
         have n1_ := Aside0.mk (blk_grown (g := gb120) (o := .cells #[.int .i64 ((rd_T49 l0 (ji4)).f0), .int .i64 ((rd_T49 l0 (ji4)).f1)] 49 (0, 0)) (bk_ BK120.out) hg (Kd.R_away HO124.out (fun _ hk => hk.2)))
         have n2_ := Aside0.mk (hb)
         have n3_ := Aside0.mk (ho)
         clear BK118 BK120 HB HO124
         have BK118 := n0_; have BK120 := n1_; have HB := n2_; have HO127 := n3_
         clear n0_ n1_ n2_ n3_ ho hb hg hat
         refine hK.out _ _ trivial (fun hHeld => ?_)
         clear hK K
         refine norm_ (a' := ?_) ?_ ?_
         rotate_left
         ·show Act.put _ (some 25) _ = _
          simp only [Act.put, List.setIfInBounds_toArray, List.set_cons_zero, List.set_cons_succ, i64_w, i32_w]
          rfl
         refine one_ (i := 5) (N := some 28) #[true, true, true, true, true, true, false, false] rfl rfl (one_of HT_.out (by kernel_rfl)) (by decide) (fun K hK => ?_)
         refine Kd.R_append_rows_step k49 (w0 := w) w.heap.size (by rfl) (.tmp 25) (.tmp 27) 34 49 (.agg #[(.int .i64 0), (.int .i64 0)]) 16 rfl Try.underlying34 info49 rfl (by decide) (by omega) v126 y125 y128 _ _ _ (fun k_ => k_ ≠ gb118 ∧ k_ ≠ gb120) (fun _ => False) rfl rfl ?aO ?aR (fun _ _ h => h) (fun _ h => h.elim) ?aF ?aB ?aS ?aL ?_
         (case aR => repeat (first | exact (Kd.C_below HR131.out HB.out) | (with_reducible refine Kd.C_alloc ?_ _) | (with_reducible refine Kd.C_drewN ?_ _) | (with_reducible refine Kd.C_drew ?_)))
         (case aB => exact (bws_ HB.out))
         (case aF => exact (fun k_ hk => ⟨Kd.freshB (g := gb118) (o := .cells #[.int .i64 ((rd_T49 l0 0).f0), .int .i64 ((rd_T49 l0 0).f1)] 49 (0, 0)) (bk_ BK118.out) k_ hk, Kd.freshB (g := gb120) (o := .cells #[.int .i64 ((rd_T49 l0 (ji4)).f0), .int .i64 ((rd_T49 l0 (ji4)).f1)] 49 (0, 0)) (bk_ BK120.out) k_ hk⟩))
         (case aO => exact (by (with_reducible repeat (first | apply Kd.R_alloc | apply Kd.R_drewN | apply Kd.R_drew)); exact HO127.out))
         (case aS => exact (below_size (bws_ HB.out)))
         (case aL => have := LMc11.out; omega)
         intro v133 w1016 ho hb hg hat
         rw [← Ny132.out] at ho
         have n0_ := Aside0.mk (blk_grown (g := gb118) (o := .cells #[.int .i64 ((rd_T49 l0 0).f0), .int .i64 ((rd_T49 l0 0).f1)] 49 (0, 0)) (bk_ BK118.out) hg (Kd.R_away HO127.out (fun _ hk => hk.1)))
         have n1_ := Aside0.mk (blk_grown (g := gb120) (o := .cells #[.int .i64 ((rd_T49 l0 (ji4)).f0), .int .i64 ((rd_T49 l0 (ji4)).f1)] 49 (0, 0)) (bk_ BK120.out) hg (Kd.R_away HO127.out (fun _ hk => hk.2)))
         have n2_ := Aside0.mk (hb)
         have n3_ := Aside0.mk (ho)
         clear BK118 BK120 HB HO127
         have BK118 := n0_; have BK120 := n1_; have HB := n2_; have HO134 := n3_
         clear n0_ n1_ n2_ n3_ ho hb hg hat
         refine hK.out _ _ trivial (fun hHeld => ?_)
         clear hK K
         refine norm_ (a' := ?_) ?_ ?_
         rotate_left
         ·show Act.put _ (some 28) _ = _
          simp only [Act.put, List.setIfInBounds_toArray, List.set_cons_zero, List.set_cons_succ, i64_w, i32_w]
          rfl
         refine pure_ (i := 6) (N := some 4) (v := ?_) (a' := ?_) #[true, true, true, true, true, true, true, false] rfl rfl (any_of HT_.out (by kernel_rfl)) (fun _ _ _ h => h) (Or.inl ⟨by rfl, ?_⟩) ?_ ?_
         rotate_left
         ·intro w'
          go_simp
          with_reducible rfl
         rotate_left
         ·simp only [Act.put, List.setIfInBounds_toArray, List.set_cons_zero, List.set_cons_succ, i64_w, i32_w]
          rfl
         refine pure_ (i := 7) (N := some 5) (v := ?_) (a' := ?_) #[true, true, true, true, true, true, true, true] rfl rfl (any_of HT_.out (by kernel_rfl)) (fun _ _ _ h => h) (Or.inl ⟨by rfl, ?_⟩) ?_ ?_
         rotate_left
         ·intro w'
          go_simp
          with_reducible rfl
         rotate_left
         ·simp only [Act.put, List.setIfInBounds_toArray, List.set_cons_zero, List.set_cons_succ, i64_w, i32_w]
          rfl
         refine done_ (done_of HT_.out (by kernel_rfl)) ?_
         try go_wp2
         go_ret2
         exact ⟨_, by first | rfl | (simp [errW_none, errW_some] <;> rfl) | (simp only [← hji4]; first | rfl | (simp [errW_none, errW_some] <;> rfl)) | (simp [*, errW_none, errW_some] <;> rfl), by (with_reducible repeat (first | apply Kd.R_alloc | apply Kd.R_drewN | apply Kd.R_drew)); exact Kd.R_mono HO134.out (fun _ hk => trivial), by repeat (first | (with_reducible first | exact HB.out | apply below_alloc | apply pw_below_drewN | apply below_drew1 | refine below_set ?_ GE118.out | refine below_set ?_ GE120.out) | exact HB.out)⟩
        ·rw [if_neg c11] at H
         exact absurd H (by simp)
       ·rw [if_neg c10] at H
        exact absurd H (by simp)
      ·rw [if_neg c9] at H
       exact absurd H (by simp)
     ·rw [if_neg c8] at H
      have c8b0 : (((rd_T49 l0 (ji4)).f0) == ((rd_T49 l1 0).f0) && (((rd_T49 l0 (ji4)).f1) == ((rd_T49 l1 0).f1))) = false := by simpa using c8
      (try (have c8b1 : decide (((rd_T49 l0 (ji4)).f0) = ((rd_T49 l1 0).f0) && (((rd_T49 l0 (ji4)).f1) == ((rd_T49 l1 0).f1))) = false := by simpa using c8))
      (try (have c8b2 : (((rd_T49 l0 (ji4)).f0) == ((rd_T49 l1 0).f0) && (((rd_T49 l0 (ji4)).f1) == ((rd_T49 l1 0).f1))) = false := by simpa using c8))
      (try (have c8b3 : ¬ (((rd_T49 l0 (ji4)).f0) = ((rd_T49 l1 0).f0) && (((rd_T49 l0 (ji4)).f1) == ((rd_T49 l1 0).f1))) := by simpa using c8))
      clear c8
      obtain ⟨ji25, hji25⟩ : ∃ j_ : Int, (wrap64 ((l1.length : Int) - 1)) = j_ := ⟨_, rfl⟩
      replace H : (if 0 ≤ (ji25) then (if (ji25) < (l1.length : Int) then (if (((rd_T49 l0 (ji4)).f0) == ((rd_T49 l1 (ji25)).f0) && (((rd_T49 l0 (ji4)).f1) == ((rd_T49 l1 (ji25)).f1))) = true then ((some (([] : List (S49)) : List (S49))).bind fun y136 => (if y136.length + l0.length < 8796093022208 then ((some (y136 ++ l0 : List (S49))).bind fun y139 => ((spec_l10Back.f k l1).bind fun t142 => (if 1 ≤ (t142.length : Int) then ((some (t142.drop 1 : List (S49))).bind fun y145 => (if y139.length + y145.length < 8796093022208 then (some ((y139 ++ y145), true)) else (none))) else (none)))) else (none))) else (if (((rd_T49 l0 0).f0) == ((rd_T49 l1 (ji25)).f0) && (((rd_T49 l0 0).f1) == ((rd_T49 l1 (ji25)).f1))) = true then ((some (([] : List (S49)) : List (S49))).bind fun y153 => (if y153.length + l1.length < 8796093022208 then ((some (y153 ++ l1 : List (S49))).bind fun y156 => (if 1 ≤ (l0.length : Int) then ((some (l0.drop 1 : List (S49))).bind fun y159 => (if y156.length + y159.length < 8796093022208 then (some ((y156 ++ y159), true)) else (none))) else (none))) else (none))) else (if (((rd_T49 l0 0).f0) == ((rd_T49 l1 0).f0) && (((rd_T49 l0 0).f1) == ((rd_T49 l1 0).f1))) = true then ((spec_l10Back.f k l1).bind fun t167 => (if 1 ≤ (l0.length : Int) then ((some (l0.drop 1 : List (S49))).bind fun y170 => (if t167.length + y170.length < 8796093022208 then (some ((t167 ++ y170), true)) else (none))) else (none))) else (some (([] : List (S49)), false))))) else (none)) else (none)) = some (r1, r2) := by first | (rw [hji25] at H; exact H) | (simp only [hji25] at H ⊢; exact H)
      have hji25w : (IntKind.i64.wrap ((l1.length : Int) - 1)) = ji25 := (i64_w _).trans hji25
      (try rw [c8b0])
      (try rw [c8b1])
      (try rw [c8b2])
      (try rw [c8b3])
      by_cases c26 : 0 ≤ (ji25)
      ·rw [if_pos c26] at H
       have c26b0 : decide (0 ≤ (ji25)) = true := decide_eq_true c26
       clear c26
       by_cases c27 : (ji25) < (l1.length : Int)
       ·rw [if_pos c27] at H
        have c27b0 : decide ((ji25) < (l1.length : Int)) = true := decide_eq_true c27
        clear c27
        try go_wp2
        have n0_ := Aside0.mk (blk_drew BK118.out)
        have n1_ := Aside0.mk (blk_drew BK120.out)
        have n2_ := Aside0.mk (below_drew1 HB.out)
        clear BK118 BK120 HB
        have BK118 := n0_; have BK120 := n1_; have HB := n2_
        clear n0_ n1_ n2_
        have p135 : 0 ≤ ((ji25) : Int) := od_
        have q135 : (ji25) < (l1.length : Int) := od_
        obtain ⟨ad135, e135, hx1010_0, hx1010_1⟩ := at_T49 HR1.out (ji25) p135 q135
        have hw1010_1 := hx1010_1
        have hw1010_0 := hx1010_0
        obtain rfl : ad121 = ad135 := (by injection e135)
        replace hx1010_0 := (HB.out.cell (World.block_lt_of_cell? w _ hx1010_0)).trans hx1010_0
        replace hx1010_1 := (HB.out.cell (World.block_lt_of_cell? w _ hx1010_1)).trans hx1010_1
        replace p135 := eq_true p135
        replace q135 := eq_true q135
        refine start_ (n := 9) (S := fun w' => w'.cell? ⟨gb120, 0, none⟩ = some (.int .i64 ((rd_T49 l0 (ji4)).f0)) ∧ w'.cell? ⟨gb120, 1, none⟩ = some (.int .i64 ((rd_T49 l0 (ji4)).f1)) ∧ w'.cell? (ad121.add (((ji25)).toNat * 2)) = some (.int .i64 ((rd_T49 l1 (ji25)).f0)) ∧ w'.cell? ⟨(ad121.add (((ji25)).toNat * 2)).block, (ad121.add (((ji25)).toNat * 2)).off + 1, none⟩ = some (.int .i64 ((rd_T49 l1 (ji25)).f1))) (ds := []) #[false, false, false, false, false, false, false, false, false] (by kernel_rfl) rfl rfl ⟨(blk_cell BK120.out 0).trans rfl, (blk_cell BK120.out 1).trans rfl, ((HB.out.cell (World.block_lt_of_cell? w _ hw1010_0)).trans hw1010_0), ((HB.out.cell (World.block_lt_of_cell? w _ hw1010_1)).trans hw1010_1)⟩ (fun hHeld => ?_); refine with_tabW spec_l10Join.tab5 spec_l10Join.bits5 (fun HT_ HW_ => ?_)
        generalize w1009.drew = w1011 at BK118 BK120 HB hx1010_0 hx1010_1 hHeld ⊢
        refine pure_ (i := 1) (N := some 31) (v := ?_) (a' := ?_) #[false, true, false, false, false, false, false, false, false] rfl rfl (any_of HT_.out (by kernel_rfl)) (fun _ _ _ h => h) (Or.inl ⟨by rfl, ?_⟩) ?_ ?_
        rotate_left
        ·intro w'
         go_simp
         with_reducible rfl
        rotate_left
        ·simp only [Act.put, List.setIfInBounds_toArray, List.set_cons_zero, List.set_cons_succ, i64_w, i32_w]
         rfl
        refine pure_ (i := 2) (N := some 32) (v := ?_) (a' := ?_) #[false, true, true, false, false, false, false, false, false] rfl rfl (any_of HT_.out (by kernel_rfl)) (fun _ _ _ h => h) (Or.inl ⟨by rfl, ?_⟩) ?_ ?_
        rotate_left
        ·intro w'
         go_simp
         with_reducible rfl
        rotate_left
        ·simp only [Act.put, List.setIfInBounds_toArray, List.set_cons_zero, List.set_cons_succ, i64_w, i32_w]
         rfl
        refine pure_ (i := 3) (N := some 33) (v := ?_) (a' := ?_) #[false, true, true, true, false, false, false, false, false] rfl rfl (any_of HT_.out (by kernel_rfl)) (fun _ _ _ h => h) (Or.inl ⟨by rfl, ?_⟩) ?_ ?_
        rotate_left
        ·intro w'
         go_simp
         with_reducible rfl
        rotate_left
        ·simp only [Act.put, List.setIfInBounds_toArray, List.set_cons_zero, List.set_cons_succ, i64_w, i32_w]
         rfl
        refine pure_ (i := 4) (N := some 34) (v := ?_) (a' := ?_) #[false, true, true, true, true, false, false, false, false] rfl rfl (any_of HT_.out (by kernel_rfl)) (fun _ _ _ h => h) (Or.inl ⟨by rfl, ?_⟩) ?_ ?_
        rotate_left
        ·intro w'
         go_simp
         with_reducible rfl
        rotate_left
        ·simp only [Act.put, List.setIfInBounds_toArray, List.set_cons_zero, List.set_cons_succ, i64_w, i32_w]
         rfl
        refine pure_ (i := 5) (N := some 35) (v := ?_) (a' := ?_) #[false, true, true, true, true, true, false, false, false] rfl rfl (any_of HT_.out (by kernel_rfl)) (fun _ _ _ h => h) (Or.inl ⟨by rfl, ?_⟩) ?_ ?_
        rotate_left
        ·intro w'
         go_simp
         with_reducible rfl
        rotate_left
        ·simp only [Act.put, List.setIfInBounds_toArray, List.set_cons_zero, List.set_cons_succ, i64_w, i32_w]
         rfl
        refine take_ (i := 0) (N := some 30) (v := ?_) (a' := ?_) #[true, true, true, true, true, true, false, false, false] rfl rfl (take_ofW HT_.out HW_.out (by kernel_rfl)) (fun _ _ _ h => h) (Or.inl ⟨by rfl, ?_⟩) hHeld ?_ ?_
        rotate_left
        ·rintro w' ⟨s0, s1, s2, s3⟩
         go_simp
         with_reducible rfl
        rotate_left
        ·simp only [Act.put, List.setIfInBounds_toArray, List.set_cons_zero, List.set_cons_succ, i64_w, i32_w]
         rfl
        refine take_ (i := 6) (N := some 36) (v := ?_) (a' := ?_) #[true, true, true, true, true, true, true, false, false] rfl rfl (take_ofW HT_.out HW_.out (by kernel_rfl)) (fun _ _ _ h => h) (Or.inl ⟨by rfl, ?_⟩) hHeld ?_ ?_
        rotate_left
        ·rintro w' ⟨s0, s1, s2, s3⟩
         go_simp
         with_reducible rfl
        rotate_left
        ·simp only [Act.put, List.setIfInBounds_toArray, List.set_cons_zero, List.set_cons_succ, i64_w, i32_w]
         rfl
        refine pure_ (i := 7) (N := some 37) (v := ?_) (a' := ?_) #[true, true, true, true, true, true, true, true, false] rfl rfl (any_of HT_.out (by kernel_rfl)) (fun _ _ _ h => h) (Or.inl ⟨by rfl, ?_⟩) ?_ ?_
        rotate_left
        ·intro w'
         go_simp
         with_reducible rfl
        rotate_left
        ·simp only [Act.put, List.setIfInBounds_toArray, List.set_cons_zero, List.set_cons_succ, i64_w, i32_w]
         rfl
        refine pure_ (i := 8) (N := some 29) (v := ?_) (a' := ?_) #[true, true, true, true, true, true, true, true, true] rfl rfl (any_of HT_.out (by kernel_rfl)) (fun _ _ _ h => h) (Or.inl ⟨by rfl, ?_⟩) ?_ ?_
        rotate_left
        ·intro w'
         go_simp
         with_reducible rfl
        rotate_left
        ·simp only [Act.put, List.setIfInBounds_toArray, List.set_cons_zero, List.set_cons_succ, i64_w, i32_w]
         rfl
        refine done_ (done_of HT_.out (by kernel_rfl)) ?_
        by_cases c28 : (((rd_T49 l0 (ji4)).f0) == ((rd_T49 l1 (ji25)).f0) && (((rd_T49 l0 (ji4)).f1) == ((rd_T49 l1 (ji25)).f1))) = true
        ·rw [if_pos c28] at H
         have c28b0 : (((rd_T49 l0 (ji4)).f0) == ((rd_T49 l1 (ji25)).f0) && (((rd_T49 l0 (ji4)).f1) == ((rd_T49 l1 (ji25)).f1))) = true := c28
         (try (have c28b1 : decide (((rd_T49 l0 (ji4)).f0) = ((rd_T49 l1 (ji25)).f0) && (((rd_T49 l0 (ji4)).f1) == ((rd_T49 l1 (ji25)).f1))) = true := by simpa using c28))
         (try (have c28b2 : (((rd_T49 l0 (ji4)).f0) == ((rd_T49 l1 (ji25)).f0) && (((rd_T49 l0 (ji4)).f1) == ((rd_T49 l1 (ji25)).f1))) = true := by simpa using c28))
         clear c28
         obtain ⟨y136, hy136⟩ : ∃ y_ : List (S49), y_ = (([] : List (S49))) := ⟨_, rfl⟩
         replace H : (if y136.length + l0.length < 8796093022208 then ((some (y136 ++ l0 : List (S49))).bind fun y139 => ((spec_l10Back.f k l1).bind fun t142 => (if 1 ≤ (t142.length : Int) then ((some (t142.drop 1 : List (S49))).bind fun y145 => (if y139.length + y145.length < 8796093022208 then (some ((y139 ++ y145), true)) else (none))) else (none)))) else (none)) = some (r1, r2) := by first | (rw [hy136]; with_reducible exact H) | (have H2_ := (Option.bind_some _ _).symm.trans H; rw [hy136]; with_reducible exact H2_) | (have H2_ := (Option.bind_some _ _).symm.trans H; with_reducible exact H2_) | with_reducible exact H | (rw [hy136]; exact H) | exact H
         have Ny136 := Aside0.mk hy136
         clear hy136
         (try rw [c28b0])
         (try rw [c28b1])
         (try rw [c28b2])
         by_cases c29 : y136.length + l0.length < 8796093022208
         ·rw [if_pos c29] at H
          have LMc29 := Aside0.mk c29
          clear c29
          obtain ⟨y139, hy139⟩ : ∃ y_ : List (S49), y_ = (y136 ++ l0) := ⟨_, rfl⟩
          replace H : ((spec_l10Back.f k l1).bind fun t142 => (if 1 ≤ (t142.length : Int) then ((some (t142.drop 1 : List (S49))).bind fun y145 => (if y139.length + y145.length < 8796093022208 then (some ((y139 ++ y145), true)) else (none))) else (none))) = some (r1, r2) := by first | (rw [hy139]; with_reducible exact H) | (have H2_ := (Option.bind_some _ _).symm.trans H; rw [hy139]; with_reducible exact H2_) | (have H2_ := (Option.bind_some _ _).symm.trans H; with_reducible exact H2_) | with_reducible exact H | (rw [hy139]; exact H) | exact H
          have Ny139 := Aside0.mk hy139
          clear hy139
          replace H := Option.bind_eq_some_iff.mp H
          obtain ⟨t142, A300, H⟩ := H
          replace H : (if 1 ≤ (t142.length : Int) then ((some (t142.drop 1 : List (S49))).bind fun y145 => (if y139.length + y145.length < 8796093022208 then (some ((y139 ++ y145), true)) else (none))) else (none)) = some (r1, r2) := H
          have A30 := Aside0.mk A300
          clear A300
          by_cases c31 : 1 ≤ (t142.length : Int)
          ·rw [if_pos c31] at H
           have c31b0 := eq_true c31
           have c31b1 : decide (1 ≤ (t142.length : Int)) = true := decide_eq_true c31
           clear c31
           obtain ⟨y145, hy145⟩ : ∃ y_ : List (S49), y_ = (t142.drop 1) := ⟨_, rfl⟩
           replace H : (if y139.length + y145.length < 8796093022208 then (some ((y139 ++ y145), true)) else (none)) = some (r1, r2) := by first | (rw [hy145]; with_reducible exact H) | (have H2_ := (Option.bind_some _ _).symm.trans H; rw [hy145]; with_reducible exact H2_) | (have H2_ := (Option.bind_some _ _).symm.trans H; with_reducible exact H2_) | with_reducible exact H | (rw [hy145]; exact H) | exact H
           have Ny145 := Aside0.mk hy145
           clear hy145
           by_cases c32 : y139.length + y145.length < 8796093022208
           ·rw [if_pos c32] at H
            have LMc32 := Aside0.mk c32
            clear c32
            obtain ⟨y149, hy149⟩ : ∃ y_ : List (S49), y_ = (y139 ++ y145) := ⟨_, rfl⟩
            replace H : (some (y149, true)) = some (r1, r2) := by first | (rw [hy149]; with_reducible exact H) | (have H2_ := (Option.bind_some _ _).symm.trans H; rw [hy149]; with_reducible exact H2_) | (have H2_ := (Option.bind_some _ _).symm.trans H; with_reducible exact H2_) | with_reducible exact H | (rw [hy149]; exact H) | exact H
            have Ny149 := Aside0.mk hy149
            clear hy149
            simp only [Option.some.injEq, Prod.mk.injEq] at H
            obtain ⟨rfl, rfl⟩ := H
            try go_wp2_with (first | ((with_reducible refine gate_dst (N := 38) rfl ?_); refine Kd.R_lit k49 _ 49 ?hg (N := 38) ?hd (xs := ([] : List (S49))) (inner := []) (ok := fun _ => True) (okp := fun _ => True) ?hr ?hp (fun _ hk => hk) trivial (Below.refl _ _) (Nat.le_refl _) (by simp) ?_; (case hd => rfl); (case hg => rfl); (case hr => first | (go_simp; done) | (go_simp; rfl)); (case hp => exact (Reps.none _ _)); intro v137 w1012 ho1013 hb hg_ hnew_; clear hg_ hnew_; (first | rw [← Ny136.out] at ho1013 | (simp only [Int.reduceToNat] at ho1013; rw [← Ny136.out] at ho1013)); have n0_ := Aside0.mk (Kd.R_lower (Kd.R_newB (Kd.R_newB ho1013 (g := gb118) (o := .cells #[.int .i64 ((rd_T49 l0 0).f0), .int .i64 ((rd_T49 l0 0).f1)] 49 (0, 0)) (bk_ BK118.out)) (g := gb120) (o := .cells #[.int .i64 ((rd_T49 l0 (ji4)).f0), .int .i64 ((rd_T49 l0 (ji4)).f1)] 49 (0, 0)) (bk_ BK120.out)) (below_size (bws_ HB.out))); have n1_ := Aside0.mk (blk_below (bk_ BK118.out) hb); have n2_ := Aside0.mk (blk_below (bk_ BK120.out) hb); have n3_ := Aside0.mk (below_step (bws_ HB.out) hb); clear BK118; clear BK120; clear HB; have HO138 := n0_; have BK118 := n1_; have BK120 := n2_; have HB := n3_; clear n0_ n1_ n2_ n3_; clear hb ho1013) | ((with_reducible refine gate_builtin (b := .append) (xs := #[.tmp 38, .tmp 39]) rfl ?_); at_builtin; refine Kd.R_append_rows k49 (w0 := w) w.heap.size rfl (.tmp 38) (.tmp 39) 34 49 (.agg #[(.int .i64 0), (.int .i64 0)]) 16 rfl Try.underlying34 info49 rfl (by decide) (by omega) v137 y136 l0 _ _ _ (fun k_ => k_ ≠ gb118 ∧ k_ ≠ gb120) (fun _ => False) rfl rfl ?aO ?aR (fun _ _ h => h) (fun _ h => h.elim) ?aF ?aB ?aS ?aL ?_; (case aR => repeat (first | exact (Kd.C_below HR0.out HB.out) | (with_reducible refine Kd.C_alloc ?_ _) | (with_reducible refine Kd.C_drewN ?_ _) | (with_reducible refine Kd.C_drew ?_))); (case aB => exact (bws_ HB.out)); (case aF => exact (fun k_ hk => ⟨Kd.freshB (g := gb118) (o := .cells #[.int .i64 ((rd_T49 l0 0).f0), .int .i64 ((rd_T49 l0 0).f1)] 49 (0, 0)) (bk_ BK118.out) k_ hk, Kd.freshB (g := gb120) (o := .cells #[.int .i64 ((rd_T49 l0 (ji4)).f0), .int .i64 ((rd_T49 l0 (ji4)).f1)] 49 (0, 0)) (bk_ BK120.out) k_ hk⟩)); (case aO => exact (by (with_reducible repeat (first | apply Kd.R_alloc | apply Kd.R_drewN | apply Kd.R_drew)); exact Kd.R_mono HO138.out (fun _ hk => ⟨hk.1.2, hk.2⟩))); (case aS => exact (below_size (bws_ HB.out))); (case aL => have := LMc29.out; omega); intro v140 w1014 ho hb hg hat; rw [← Ny139.out] at ho; have n0_ := Aside0.mk (blk_grown (g := gb118) (o := .cells #[.int .i64 ((rd_T49 l0 0).f0), .int .i64 ((rd_T49 l0 0).f1)] 49 (0, 0)) (bk_ BK118.out) hg (Kd.R_away HO138.out (fun _ hk => hk.1.2))); have n1_ := Aside0.mk (blk_grown (g := gb120) (o := .cells #[.int .i64 ((rd_T49 l0 (ji4)).f0), .int .i64 ((rd_T49 l0 (ji4)).f1)] 49 (0, 0)) (bk_ BK120.out) hg (Kd.R_away HO138.out (fun _ hk => hk.2))); have n2_ := Aside0.mk (hb); have n3_ := Aside0.mk (ho); clear BK118; clear BK120; clear HB; clear HO138; have BK118 := n0_; have BK120 := n1_; have HB := n2_; have HO141 := n3_; clear n0_ n1_ n2_ n3_; clear ho hb hg hat) | ((with_reducible refine gate_callee (f := 50) rfl ?_); refine goesL_ (some 42) rfl rfl Try.func50 (by kernel_rfl) rfl #[.slice (some ad121) l1.length c1] rfl gl_ ?_; (with_reducible refine (spec_l10Back.calls k _ _ l1 t142 _ ?side1 ?side2 A30.out).mono ?_); (case side1 => repeat (first | exact (Kd.C_below HR1.out HB.out) | (with_reducible refine Kd.C_alloc ?_ _) | (with_reducible refine Kd.C_drewN ?_ _) | (with_reducible refine Kd.C_drew ?_))); (case side2 => exact HC1.out); rintro e w1015 ⟨v143, rfl, ho1016, hb⟩; refine ⟨_, rfl, ?_⟩; have n0_ := Aside0.mk (Kd.R_elder' (by (with_reducible repeat (first | apply Kd.R_alloc | apply Kd.R_drewN | apply Kd.R_drew)); exact HO141.out) (Kd.R_base ho1016) hb); have n1_ := Aside0.mk (Kd.R_lower (Kd.R_newB (Kd.R_newB (Kd.R_new' ho1016 (Kd.R_lt (by (with_reducible repeat (first | apply Kd.R_alloc | apply Kd.R_drewN | apply Kd.R_drew)); exact HO141.out))) (g := gb118) (o := .cells #[.int .i64 ((rd_T49 l0 0).f0), .int .i64 ((rd_T49 l0 0).f1)] 49 (0, 0)) (bk_ BK118.out)) (g := gb120) (o := .cells #[.int .i64 ((rd_T49 l0 (ji4)).f0), .int .i64 ((rd_T49 l0 (ji4)).f1)] 49 (0, 0)) (bk_ BK120.out)) (below_size (bws_ HB.out))); have n2_ := Aside0.mk (blk_below (bk_ BK118.out) hb); have n3_ := Aside0.mk (blk_below (bk_ BK120.out) hb); have n4_ := Aside0.mk (below_step (bws_ HB.out) hb); clear HO141; clear BK118; clear BK120; clear HB; have HO141 := n0_; have HO144 := n1_; have BK118 := n2_; have BK120 := n3_; have HB := n4_; clear n0_ n1_ n2_ n3_ n4_; (try clear hb); (try clear hb1017); (try clear hk); (try clear hi); (try clear ho1016); obtain ⟨Ao46, co46, eo46⟩ := Kd.R_slice HO144.out; subst eo46; have q45 : (1 : Int) ≤ ((t142.length : Int) : Int) := od_; obtain ⟨i045, hi1018, _, hsz1019, _⟩ := info_parts info49; have hroom1019 : t142.length ≤ co46 := (Kd.R_reads' HO144.out).2.1; have hC45 : Kd.C k49 _ Ao46 t142.length t142 := (Kd.R_reads' HO144.out).2.2; have hcut1019 := cut_from (P := Try.prog) 34 49 .i64 Try.underlying34 hi1018 2 hsz1019 Ao46 t142.length co46 1 (by omega) q45; have hr1019 := Kd.C_drop (m := (1 : Int).toNat) (c := co46) hC45 (by omega) hroom1019; obtain ⟨A45, hA45⟩ : ∃ A_z, A_z = (if co46 = (1 : Int).toNat then Ao46 else (Ao46 : Option Addr).map (·.add ((1 : Int).toNat * 2))) := ⟨_, rfl⟩; obtain ⟨c45, hc1019⟩ : ∃ c_z, c_z = co46 - (1 : Int).toNat := ⟨_, rfl⟩; have hy1019 : y145.length = t142.length - (1 : Int).toNat := (by rw [Ny145.out, List.length_drop] <;> omega); rw [show (t142).drop (1 : Int).toNat = y145 from Ny145.out.symm] at hr1019; replace hr1019 : Kd.C k49 _ A45 y145.length y145 := (by rw [hA45]; exact hr1019); rw [← hy1019, ← hA45, ← hc1019] at hcut1019; have HR148 := Aside0.mk hr1019; have HC148 := Aside0.mk (show y145.length ≤ c45 from by rw [hy1019, hc1019]; exact Nat.sub_le_sub_right hroom1019 _); clear hr1019 hC45 hroom1019 hi1018 hsz1019 hc1019; have KY45 := Aside0.mk hy1019; have KA45 := Aside0.mk hA45; clear hy1019 hA45; have KL45 := Aside0.mk (show 1 ≤ t142.length from by omega); replace q45 := eq_true q45) | ((with_reducible refine gate_builtin (b := .append) (xs := #[.tmp 40, .tmp 43]) rfl ?_); at_builtin; refine Kd.R_append_rows k49 (w0 := w) w.heap.size rfl (.tmp 40) (.tmp 43) 34 49 (.agg #[(.int .i64 0), (.int .i64 0)]) 16 rfl Try.underlying34 info49 rfl (by decide) (by omega) v140 y139 y145 _ _ _ (fun k_ => some k_ ≠ (.slice Ao46 t142.length co46 : Value).ownBlock ∧ k_ ≠ gb118 ∧ k_ ≠ gb120) (fun _ => False) rfl rfl ?aO ?aR (fun _ _ h => h) (fun _ h => h.elim) ?aF ?aB ?aS ?aL ?_; (case aR => repeat (first | exact (by repeat (first | (with_reducible exact HR148.out) | (with_reducible refine Kd.C_alloc ?_ _) | (with_reducible refine Kd.C_drewN ?_ _) | (with_reducible refine Kd.C_drew ?_) | exact HR148.out)) | (with_reducible refine Kd.C_alloc ?_ _) | (with_reducible refine Kd.C_drewN ?_ _) | (with_reducible refine Kd.C_drew ?_))); (case aB => exact (bws_ HB.out)); (case aF => exact (fun k_ hk => ⟨Kd.fresh' (Kd.R_lt (by (with_reducible repeat (first | apply Kd.R_alloc | apply Kd.R_drewN | apply Kd.R_drew)); exact HO144.out)) k_ hk, Kd.freshB (g := gb118) (o := .cells #[.int .i64 ((rd_T49 l0 0).f0), .int .i64 ((rd_T49 l0 0).f1)] 49 (0, 0)) (bk_ BK118.out) k_ hk, Kd.freshB (g := gb120) (o := .cells #[.int .i64 ((rd_T49 l0 (ji4)).f0), .int .i64 ((rd_T49 l0 (ji4)).f1)] 49 (0, 0)) (bk_ BK120.out) k_ hk⟩)); (case aO => exact (by (with_reducible repeat (first | apply Kd.R_alloc | apply Kd.R_drewN | apply Kd.R_drew)); exact Kd.R_mono HO141.out (fun _ hk => ⟨hk.2, ⟨hk.1.1, hk.1.2⟩⟩))); (case aS => exact (below_size (bws_ HB.out))); (case aL => have := LMc32.out; omega); intro v150 w1020 ho hb hg hat; rw [← Ny149.out] at ho; have n0_ := Aside0.mk (blk_grown (g := gb118) (o := .cells #[.int .i64 ((rd_T49 l0 0).f0), .int .i64 ((rd_T49 l0 0).f1)] 49 (0, 0)) (bk_ BK118.out) hg (Kd.R_away HO141.out (fun _ hk => hk.1.1))); have n1_ := Aside0.mk (blk_grown (g := gb120) (o := .cells #[.int .i64 ((rd_T49 l0 (ji4)).f0), .int .i64 ((rd_T49 l0 (ji4)).f1)] 49 (0, 0)) (bk_ BK120.out) hg (Kd.R_away HO141.out (fun _ hk => hk.1.2))); have n2_ := Aside0.mk (Kd.R_after (ok := (fun k_ => k_ ≠ gb118 ∧ k_ ≠ gb120)) (by (with_reducible repeat (first | apply Kd.R_alloc | apply Kd.R_drewN | apply Kd.R_drew)); exact Kd.R_mono HO144.out (fun _ hk => ⟨⟨hk.1.2, hk.2⟩, hk.1.1.2⟩)) hg hat); have n3_ := Aside0.mk (hb); have n4_ := Aside0.mk ((show Kd.C k49 w1020 A45 y145.length y145 from by rw [Ny145.out, KA45.out]; exact Kd.C_drop (m := 1) (c := co46) ((Kd.R_reads' (Kd.R_after (ok := (fun k_ => k_ ≠ gb118 ∧ k_ ≠ gb120)) (by (with_reducible repeat (first | apply Kd.R_alloc | apply Kd.R_drewN | apply Kd.R_drew)); exact Kd.R_mono HO144.out (fun _ hk => ⟨⟨hk.1.2, hk.2⟩, hk.1.1.2⟩)) hg hat)).2.2) KL45.out ((Kd.R_reads' (Kd.R_after (ok := (fun k_ => k_ ≠ gb118 ∧ k_ ≠ gb120)) (by (with_reducible repeat (first | apply Kd.R_alloc | apply Kd.R_drewN | apply Kd.R_drew)); exact Kd.R_mono HO144.out (fun _ hk => ⟨⟨hk.1.2, hk.2⟩, hk.1.1.2⟩)) hg hat)).2.1))); have n5_ := Aside0.mk (ho); clear BK118; clear BK120; clear HO144; clear HB; clear HR148; clear HO141; have BK118 := n0_; have BK120 := n1_; have HO144 := n2_; have HB := n3_; have HR148 := n4_; have HO151 := n5_; clear n0_ n1_ n2_ n3_ n4_ n5_; clear ho hb hg hat))
            go_ret2
            exact ⟨_, by first | rfl | (simp [errW_none, errW_some] <;> rfl) | (simp only [← hji4, ← hji25]; first | rfl | (simp [errW_none, errW_some] <;> rfl)) | (simp [*, errW_none, errW_some] <;> rfl), by (with_reducible repeat (first | apply Kd.R_alloc | apply Kd.R_drewN | apply Kd.R_drew)); exact Kd.R_mono HO151.out (fun _ hk => trivial), by repeat (first | (with_reducible first | exact HB.out | apply below_alloc | apply pw_below_drewN | apply below_drew1 | refine below_set ?_ GE118.out | refine below_set ?_ GE120.out) | exact HB.out)⟩
           ·rw [if_neg c32] at H
            exact absurd H (by simp)
          ·rw [if_neg c31] at H
           exact absurd H (by simp)
         ·rw [if_neg c29] at H
          exact absurd H (by simp)
        ·rw [if_neg c28] at H
         have c28b0 : (((rd_T49 l0 (ji4)).f0) == ((rd_T49 l1 (ji25)).f0) && (((rd_T49 l0 (ji4)).f1) == ((rd_T49 l1 (ji25)).f1))) = false := by simpa using c28
         (try (have c28b1 : decide (((rd_T49 l0 (ji4)).f0) = ((rd_T49 l1 (ji25)).f0) && (((rd_T49 l0 (ji4)).f1) == ((rd_T49 l1 (ji25)).f1))) = false := by simpa using c28))
         (try (have c28b2 : (((rd_T49 l0 (ji4)).f0) == ((rd_T49 l1 (ji25)).f0) && (((rd_T49 l0 (ji4)).f1) == ((rd_T49 l1 (ji25)).f1))) = false := by simpa using c28))
         (try (have c28b3 : ¬ (((rd_T49 l0 (ji4)).f0) = ((rd_T49 l1 (ji25)).f0) && (((rd_T49 l0 (ji4)).f1) == ((rd_T49 l1 (ji25)).f1))) := by simpa using c28))
         clear c28
         (try rw [c28b0])
         (try rw [c28b1])
         (try rw [c28b2])
         (try rw [c28b3])
         try go_wp2
         have n0_ := Aside0.mk (blk_drew BK118.out)
         have n1_ := Aside0.mk (blk_drew BK120.out)
         have n2_ := Aside0.mk (below_drew1 HB.out)
         clear BK118 BK120 HB
         have BK118 := n0_; have BK120 := n1_; have HB := n2_
         clear n0_ n1_ n2_
         have p152 : 0 ≤ ((ji25) : Int) := od_
         have q152 : (ji25) < (l1.length : Int) := od_
         obtain ⟨ad152, e152, hx1012_0, hx1012_1⟩ := at_T49 HR1.out (ji25) p152 q152
         have hw1012_1 := hx1012_1
         have hw1012_0 := hx1012_0
         obtain rfl : ad121 = ad152 := (by injection e152)
         replace hx1012_0 := (HB.out.cell (World.block_lt_of_cell? w _ hx1012_0)).trans hx1012_0
         replace hx1012_1 := (HB.out.cell (World.block_lt_of_cell? w _ hx1012_1)).trans hx1012_1
         replace p152 := eq_true p152
         replace q152 := eq_true q152
         refine start_ (n := 9) (S := fun w' => w'.cell? ⟨gb118, 0, none⟩ = some (.int .i64 ((rd_T49 l0 0).f0)) ∧ w'.cell? ⟨gb118, 1, none⟩ = some (.int .i64 ((rd_T49 l0 0).f1)) ∧ w'.cell? (ad121.add (((ji25)).toNat * 2)) = some (.int .i64 ((rd_T49 l1 (ji25)).f0)) ∧ w'.cell? ⟨(ad121.add (((ji25)).toNat * 2)).block, (ad121.add (((ji25)).toNat * 2)).off + 1, none⟩ = some (.int .i64 ((rd_T49 l1 (ji25)).f1))) (ds := []) #[false, false, false, false, false, false, false, false, false] (by kernel_rfl) rfl rfl ⟨(blk_cell BK118.out 0).trans rfl, (blk_cell BK118.out 1).trans rfl, ((HB.out.cell (World.block_lt_of_cell? w _ hw1012_0)).trans hw1012_0), ((HB.out.cell (World.block_lt_of_cell? w _ hw1012_1)).trans hw1012_1)⟩ (fun hHeld => ?_); refine with_tabW spec_l10Join.tab7 spec_l10Join.bits7 (fun HT_ HW_ => ?_)
         generalize w1011.drew = w1013 at BK118 BK120 HB hx1012_0 hx1012_1 hHeld ⊢
         refine pure_ (i := 1) (N := some 47) (v := ?_) (a' := ?_) #[false, true, false, false, false, false, false, false, false] rfl rfl (any_of HT_.out (by kernel_rfl)) (fun _ _ _ h => h) (Or.inl ⟨by rfl, ?_⟩) ?_ ?_
         rotate_left
         ·intro w'
          go_simp
          with_reducible rfl
         rotate_left
         ·simp only [Act.put, List.setIfInBounds_toArray, List.set_cons_zero, List.set_cons_succ, i64_w, i32_w]
          rfl
         refine pure_ (i := 2) (N := some 48) (v := ?_) (a' := ?_) #[false, true, true, false, false, false, false, false, false] rfl rfl (any_of HT_.out (by kernel_rfl)) (fun _ _ _ h => h) (Or.inl ⟨by rfl, ?_⟩) ?_ ?_
         rotate_left
         ·intro w'
          go_simp
          with_reducible rfl
         rotate_left
         ·simp only [Act.put, List.setIfInBounds_toArray, List.set_cons_zero, List.set_cons_succ, i64_w, i32_w]
          rfl
         refine pure_ (i := 3) (N := some 49) (v := ?_) (a' := ?_) #[false, true, true, true, false, false, false, false, false] rfl rfl (any_of HT_.out (by kernel_rfl)) (fun _ _ _ h => h) (Or.inl ⟨by rfl, ?_⟩) ?_ ?_
         rotate_left
         ·intro w'
          go_simp
          with_reducible rfl
         rotate_left
         ·simp only [Act.put, List.setIfInBounds_toArray, List.set_cons_zero, List.set_cons_succ, i64_w, i32_w]
          rfl
         refine pure_ (i := 4) (N := some 50) (v := ?_) (a' := ?_) #[false, true, true, true, true, false, false, false, false] rfl rfl (any_of HT_.out (by kernel_rfl)) (fun _ _ _ h => h) (Or.inl ⟨by rfl, ?_⟩) ?_ ?_
         rotate_left
         ·intro w'
          go_simp
          with_reducible rfl
         rotate_left
         ·simp only [Act.put, List.setIfInBounds_toArray, List.set_cons_zero, List.set_cons_succ, i64_w, i32_w]
          rfl
         refine pure_ (i := 5) (N := some 51) (v := ?_) (a' := ?_) #[false, true, true, true, true, true, false, false, false] rfl rfl (any_of HT_.out (by kernel_rfl)) (fun _ _ _ h => h) (Or.inl ⟨by rfl, ?_⟩) ?_ ?_
         rotate_left
         ·intro w'
          go_simp
          with_reducible rfl
         rotate_left
         ·simp only [Act.put, List.setIfInBounds_toArray, List.set_cons_zero, List.set_cons_succ, i64_w, i32_w]
          rfl
         refine take_ (i := 0) (N := some 46) (v := ?_) (a' := ?_) #[true, true, true, true, true, true, false, false, false] rfl rfl (take_ofW HT_.out HW_.out (by kernel_rfl)) (fun _ _ _ h => h) (Or.inl ⟨by rfl, ?_⟩) hHeld ?_ ?_
         rotate_left
         ·rintro w' ⟨s0, s1, s2, s3⟩
          go_simp
          with_reducible rfl
         rotate_left
         ·simp only [Act.put, List.setIfInBounds_toArray, List.set_cons_zero, List.set_cons_succ, i64_w, i32_w]
          rfl
         refine take_ (i := 6) (N := some 52) (v := ?_) (a' := ?_) #[true, true, true, true, true, true, true, false, false] rfl rfl (take_ofW HT_.out HW_.out (by kernel_rfl)) (fun _ _ _ h => h) (Or.inl ⟨by rfl, ?_⟩) hHeld ?_ ?_
         rotate_left
         ·rintro w' ⟨s0, s1, s2, s3⟩
          go_simp
          with_reducible rfl
         rotate_left
         ·simp only [Act.put, List.setIfInBounds_toArray, List.set_cons_zero, List.set_cons_succ, i64_w, i32_w]
          rfl
         refine pure_ (i := 7) (N := some 53) (v := ?_) (a' := ?_) #[true, true, true, true, true, true, true, true, false] rfl rfl (any_of HT_.out (by kernel_rfl)) (fun _ _ _ h => h) (Or.inl ⟨by rfl, ?_⟩) ?_ ?_
         rotate_left
         ·intro w'
          go_simp
          with_reducible rfl
         rotate_left
         ·simp only [Act.put, List.setIfInBounds_toArray, List.set_cons_zero, List.set_cons_succ, i64_w, i32_w]
          rfl
         refine pure_ (i := 8) (N := some 45) (v := ?_) (a' := ?_) #[true, true, true, true, true, true, true, true, true] rfl rfl (any_of HT_.out (by kernel_rfl)) (fun _ _ _ h => h) (Or.inl ⟨by rfl, ?_⟩) ?_ ?_
         rotate_left
         ·intro w'
          go_simp
          with_reducible rfl
         rotate_left
         ·simp only [Act.put, List.setIfInBounds_toArray, List.set_cons_zero, List.set_cons_succ, i64_w, i32_w]
          rfl
         refine done_ (done_of HT_.out (by kernel_rfl)) ?_
         by_cases c48 : (((rd_T49 l0 0).f0) == ((rd_T49 l1 (ji25)).f0) && (((rd_T49 l0 0).f1) == ((rd_T49 l1 (ji25)).f1))) = true
         ·rw [if_pos c48] at H
          have c48b0 : (((rd_T49 l0 0).f0) == ((rd_T49 l1 (ji25)).f0) && (((rd_T49 l0 0).f1) == ((rd_T49 l1 (ji25)).f1))) = true := c48
          (try (have c48b1 : decide (((rd_T49 l0 0).f0) = ((rd_T49 l1 (ji25)).f0) && (((rd_T49 l0 0).f1) == ((rd_T49 l1 (ji25)).f1))) = true := by simpa using c48))
          (try (have c48b2 : (((rd_T49 l0 0).f0) == ((rd_T49 l1 (ji25)).f0) && (((rd_T49 l0 0).f1) == ((rd_T49 l1 (ji25)).f1))) = true := by simpa using c48))
          clear c48
          obtain ⟨y153, hy153⟩ : ∃ y_ : List (S49), y_ = (([] : List (S49))) := ⟨_, rfl⟩
          replace H : (if y153.length + l1.length < 8796093022208 then ((some (y153 ++ l1 : List (S49))).bind fun y156 => (if 1 ≤ (l0.length : Int) then ((some (l0.drop 1 : List (S49))).bind fun y159 => (if y156.length + y159.length < 8796093022208 then (some ((y156 ++ y159), true)) else (none))) else (none))) else (none)) = some (r1, r2) := by first | (rw [hy153]; with_reducible exact H) | (have H2_ := (Option.bind_some _ _).symm.trans H; rw [hy153]; with_reducible exact H2_) | (have H2_ := (Option.bind_some _ _).symm.trans H; with_reducible exact H2_) | with_reducible exact H | (rw [hy153]; exact H) | exact H
          have Ny153 := Aside0.mk hy153
          clear hy153
          (try rw [c48b0])
          (try rw [c48b1])
          (try rw [c48b2])
          by_cases c49 : y153.length + l1.length < 8796093022208
          ·rw [if_pos c49] at H
           have LMc49 := Aside0.mk c49
           clear c49
           obtain ⟨y156, hy156⟩ : ∃ y_ : List (S49), y_ = (y153 ++ l1) := ⟨_, rfl⟩
           replace H : (if 1 ≤ (l0.length : Int) then ((some (l0.drop 1 : List (S49))).bind fun y159 => (if y156.length + y159.length < 8796093022208 then (some ((y156 ++ y159), true)) else (none))) else (none)) = some (r1, r2) := by first | (rw [hy156]; with_reducible exact H) | (have H2_ := (Option.bind_some _ _).symm.trans H; rw [hy156]; with_reducible exact H2_) | (have H2_ := (Option.bind_some _ _).symm.trans H; with_reducible exact H2_) | with_reducible exact H | (rw [hy156]; exact H) | exact H
           have Ny156 := Aside0.mk hy156
           clear hy156
           by_cases c50 : 1 ≤ (l0.length : Int)
           ·rw [if_pos c50] at H
            have c50b0 := eq_true c50
            have c50b1 : decide (1 ≤ (l0.length : Int)) = true := decide_eq_true c50
            clear c50
            obtain ⟨y159, hy159⟩ : ∃ y_ : List (S49), y_ = (l0.drop 1) := ⟨_, rfl⟩
            replace H : (if y156.length + y159.length < 8796093022208 then (some ((y156 ++ y159), true)) else (none)) = some (r1, r2) := by first | (rw [hy159]; with_reducible exact H) | (have H2_ := (Option.bind_some _ _).symm.trans H; rw [hy159]; with_reducible exact H2_) | (have H2_ := (Option.bind_some _ _).symm.trans H; with_reducible exact H2_) | with_reducible exact H | (rw [hy159]; exact H) | exact H
            have Ny159 := Aside0.mk hy159
            clear hy159
            by_cases c51 : y156.length + y159.length < 8796093022208
            ·rw [if_pos c51] at H
             have LMc51 := Aside0.mk c51
             clear c51
             obtain ⟨y163, hy163⟩ : ∃ y_ : List (S49), y_ = (y156 ++ y159) := ⟨_, rfl⟩
             replace H : (some (y163, true)) = some (r1, r2) := by first | (rw [hy163]; with_reducible exact H) | (have H2_ := (Option.bind_some _ _).symm.trans H; rw [hy163]; with_reducible exact H2_) | (have H2_ := (Option.bind_some _ _).symm.trans H; with_reducible exact H2_) | with_reducible exact H | (rw [hy163]; exact H) | exact H
             have Ny163 := Aside0.mk hy163
             clear hy163
             simp only [Option.some.injEq, Prod.mk.injEq] at H
             obtain ⟨rfl, rfl⟩ := H
             try go_wp2
             have n0_ := Aside0.mk (blk_drew BK118.out)
             have n1_ := Aside0.mk (blk_drew BK120.out)
             have n2_ := Aside0.mk (below_drew1 HB.out)
             clear BK118 BK120 HB
             have BK118 := n0_; have BK120 := n1_; have HB := n2_
             clear n0_ n1_ n2_
             have q62 : (1 : Int) ≤ ((l0.length : Int) : Int) := od_
             obtain ⟨i062, hi1014, _, hsz1015, _⟩ := info_parts info49
             have hroom1015 : l0.length ≤ c0 := HC0.out
             have hC62 : Kd.C k49 _ (some ad117) l0.length l0 := HR0.out
             have hcut1015 := cut_from (P := Try.prog) 34 49 .i64 Try.underlying34 hi1014 2 hsz1015 (some ad117) l0.length c0 1 (by omega) q62
             have hr1015 := Kd.C_drop (m := (1 : Int).toNat) (c := c0) hC62 (by omega) hroom1015
             obtain ⟨A62, hA62⟩ : ∃ A_z, A_z = (if c0 = (1 : Int).toNat then (some ad117) else ((some ad117) : Option Addr).map (·.add ((1 : Int).toNat * 2))) := ⟨_, rfl⟩
             obtain ⟨c62, hc1015⟩ : ∃ c_z, c_z = c0 - (1 : Int).toNat := ⟨_, rfl⟩
             have hy1015 : y159.length = l0.length - (1 : Int).toNat := (by rw [Ny159.out, List.length_drop] <;> omega)
             rw [show (l0).drop (1 : Int).toNat = y159 from Ny159.out.symm] at hr1015
             replace hr1015 : Kd.C k49 _ A62 y159.length y159 := (by rw [hA62]; exact hr1015)
             rw [← hy1015, ← hA62, ← hc1015] at hcut1015
             have HR162 := Aside0.mk hr1015
             have HC162 := Aside0.mk (show y159.length ≤ c62 from by rw [hy1015, hc1015]; exact Nat.sub_le_sub_right hroom1015 _)
             clear hr1015 hC62 hroom1015 hi1014 hsz1015 hc1015
             have KY62 := Aside0.mk hy1015
             have KA62 := Aside0.mk hA62
             clear hy1015 hA62
             replace q62 := eq_true q62
             refine start_ (n := 8) (S := fun w' => True) (ds := []) #[false, false, false, false, false, false, false, false] (by kernel_rfl) rfl rfl trivial (fun hHeld => ?_); refine with_tabW spec_l10Join.tab8 spec_l10Join.bits8 (fun HT_ HW_ => ?_)
             generalize w1013.drew = w1016 at BK118 BK120 HB HR162 hHeld ⊢
             refine pure_ (i := 1) (N := some 55) (v := ?_) (a' := ?_) #[false, true, false, false, false, false, false, false] rfl rfl (any_of HT_.out (by kernel_rfl)) (fun _ _ _ h => h) (Or.inl ⟨by rfl, ?_⟩) ?_ ?_
             rotate_left
             ·intro w'
              go_simp
              with_reducible rfl
             rotate_left
             ·simp only [Act.put, List.setIfInBounds_toArray, List.set_cons_zero, List.set_cons_succ, i64_w, i32_w]
              rfl
             refine pure_ (i := 3) (N := some 57) (v := ?_) (a' := ?_) #[false, true, false, true, false, false, false, false] rfl rfl (any_of HT_.out (by kernel_rfl)) (fun _ _ _ h => h) (Or.inl ⟨by rfl, ?_⟩) ?_ ?_
             rotate_left
             ·intro w'
              go_simp
              with_reducible rfl
             rotate_left
             ·simp only [Act.put, List.setIfInBounds_toArray, List.set_cons_zero, List.set_cons_succ, i64_w, i32_w]
              rfl
             refine pure_ (i := 4) (N := some 58) (v := ?_) (a' := ?_) #[false, true, false, true, true, false, false, false] rfl rfl (any_of HT_.out (by kernel_rfl)) (fun _ _ _ h => h) (Or.inl ⟨by rfl, ?_⟩) ?_ ?_
             rotate_left
             ·intro w'
              go_simp
              with_reducible rfl
             rotate_left
             ·simp only [Act.put, List.setIfInBounds_toArray, List.set_cons_zero, List.set_cons_succ, i64_w, i32_w]
              rfl
             refine one_ (i := 0) (N := some 54) #[true, true, false, true, true, false, false, false] rfl rfl (one_of HT_.out (by kernel_rfl)) (by decide) (fun K hK => ?_)
             refine Kd.R_lit_step k49 _ 49 ?hg (N := 54) ?hd (xs := ([] : List (S49))) (inner := []) (ok := fun _ => True) (okp := fun _ => True) ?hr ?hp (fun _ hk => hk) trivial (Below.refl _ _) (Nat.le_refl _) (by simp) ?_; (case hd => rfl); (case hg => rfl); (case hr => first | (go_simp; done) | (go_simp; rfl)); (case hp => exact (Reps.none _ _))
             intro v154 w1017 ho1018 hb hg_ hnew_
             clear hg_ hnew_
             (first | rw [← Ny153.out] at ho1018 | (simp only [Int.reduceToNat] at ho1018; rw [← Ny153.out] at ho1018))
             have n0_ := Aside0.mk (Kd.R_lower (Kd.R_newB (Kd.R_newB ho1018 (g := gb118) (o := .cells #[.int .i64 ((rd_T49 l0 0).f0), .int .i64 ((rd_T49 l0 0).f1)] 49 (0, 0)) (bk_ BK118.out)) (g := gb120) (o := .cells #[.int .i64 ((rd_T49 l0 (ji4)).f0), .int .i64 ((rd_T49 l0 (ji4)).f1)] 49 (0, 0)) (bk_ BK120.out)) (below_size (bws_ HB.out)))
             have n1_ := Aside0.mk (blk_below (bk_ BK118.out) hb)
             have n2_ := Aside0.mk (blk_below (bk_ BK120.out) hb)
             have n3_ := Aside0.mk (below_step (bws_ HB.out) hb)
             clear BK118 BK120 HB
             have HO155 := n0_; have BK118 := n1_; have BK120 := n2_; have HB := n3_
             clear n0_ n1_ n2_ n3_ hb ho1018
             refine hK.out _ _ trivial (fun hHeld => ?_)
             clear hK K
             refine norm_ (a' := ?_) ?_ ?_
             rotate_left
             ·show Act.put _ (some 54) _ = _
              simp only [Act.put, List.setIfInBounds_toArray, List.set_cons_zero, List.set_cons_succ, i64_w, i32_w]
              rfl
             refine one_ (i := 2) (N := some 56) #[true, true, true, true, true, false, false, false] rfl rfl (one_of HT_.out (by kernel_rfl)) (by decide) (fun K hK => ?_)
             refine Kd.R_append_rows_step k49 (w0 := w) w.heap.size (by rfl) (.tmp 54) (.tmp 55) 34 49 (.agg #[(.int .i64 0), (.int .i64 0)]) 16 rfl Try.underlying34 info49 rfl (by decide) (by omega) v154 y153 l1 _ _ _ (fun k_ => k_ ≠ gb118 ∧ k_ ≠ gb120) (fun _ => False) rfl rfl ?aO ?aR (fun _ _ h => h) (fun _ h => h.elim) ?aF ?aB ?aS ?aL ?_
             (case aR => repeat (first | exact (Kd.C_below HR1.out HB.out) | (with_reducible refine Kd.C_alloc ?_ _) | (with_reducible refine Kd.C_drewN ?_ _) | (with_reducible refine Kd.C_drew ?_)))
             (case aB => exact (bws_ HB.out))
             (case aF => exact (fun k_ hk => ⟨Kd.freshB (g := gb118) (o := .cells #[.int .i64 ((rd_T49 l0 0).f0), .int .i64 ((rd_T49 l0 0).f1)] 49 (0, 0)) (bk_ BK118.out) k_ hk, Kd.freshB (g := gb120) (o := .cells #[.int .i64 ((rd_T49 l0 (ji4)).f0), .int .i64 ((rd_T49 l0 (ji4)).f1)] 49 (0, 0)) (bk_ BK120.out) k_ hk⟩))
             (case aO => exact (by (with_reducible repeat (first | apply Kd.R_alloc | apply Kd.R_drewN | apply Kd.R_drew)); exact Kd.R_mono HO155.out (fun _ hk => ⟨hk.1.2, hk.2⟩)))
             (case aS => exact (below_size (bws_ HB.out)))
             (case aL => have := LMc49.out; omega)
             intro v157 w1019 ho hb hg hat
             rw [← Ny156.out] at ho
             have n0_ := Aside0.mk (blk_grown (g := gb118) (o := .cells #[.int .i64 ((rd_T49 l0 0).f0), .int .i64 ((rd_T49 l0 0).f1)] 49 (0, 0)) (bk_ BK118.out) hg (Kd.R_away HO155.out (fun _ hk => hk.1.2)))
             have n1_ := Aside0.mk (blk_grown (g := gb120) (o := .cells #[.int .i64 ((rd_T49 l0 (ji4)).f0), .int .i64 ((rd_T49 l0 (ji4)).f1)] 49 (0, 0)) (bk_ BK120.out) hg (Kd.R_away HO155.out (fun _ hk => hk.2)))
             have n2_ := Aside0.mk (hb)
             have n3_ := Aside0.mk (ho)
             clear BK118 BK120 HB HO155
             have BK118 := n0_; have BK120 := n1_; have HB := n2_; have HO158 := n3_
             clear n0_ n1_ n2_ n3_ ho hb hg hat
             refine hK.out _ _ trivial (fun hHeld => ?_)
             clear hK K
             refine norm_ (a' := ?_) ?_ ?_
             rotate_left
             ·show Act.put _ (some 56) _ = _
              simp only [Act.put, List.setIfInBounds_toArray, List.set_cons_zero, List.set_cons_succ, i64_w, i32_w]
              rfl
             refine one_ (i := 5) (N := some 59) #[true, true, true, true, true, true, false, false] rfl rfl (one_of HT_.out (by kernel_rfl)) (by decide) (fun K hK => ?_)
             refine Kd.R_append_rows_step k49 (w0 := w) w.heap.size (by rfl) (.tmp 56) (.tmp 58) 34 49 (.agg #[(.int .i64 0), (.int .i64 0)]) 16 rfl Try.underlying34 info49 rfl (by decide) (by omega) v157 y156 y159 _ _ _ (fun k_ => k_ ≠ gb118 ∧ k_ ≠ gb120) (fun _ => False) rfl rfl ?aO ?aR (fun _ _ h => h) (fun _ h => h.elim) ?aF ?aB ?aS ?aL ?_
             (case aR => repeat (first | exact (Kd.C_below HR162.out HB.out) | (with_reducible refine Kd.C_alloc ?_ _) | (with_reducible refine Kd.C_drewN ?_ _) | (with_reducible refine Kd.C_drew ?_)))
             (case aB => exact (bws_ HB.out))
             (case aF => exact (fun k_ hk => ⟨Kd.freshB (g := gb118) (o := .cells #[.int .i64 ((rd_T49 l0 0).f0), .int .i64 ((rd_T49 l0 0).f1)] 49 (0, 0)) (bk_ BK118.out) k_ hk, Kd.freshB (g := gb120) (o := .cells #[.int .i64 ((rd_T49 l0 (ji4)).f0), .int .i64 ((rd_T49 l0 (ji4)).f1)] 49 (0, 0)) (bk_ BK120.out) k_ hk⟩))
             (case aO => exact (by (with_reducible repeat (first | apply Kd.R_alloc | apply Kd.R_drewN | apply Kd.R_drew)); exact HO158.out))
             (case aS => exact (below_size (bws_ HB.out)))
             (case aL => have := LMc51.out; omega)
             intro v164 w1020 ho hb hg hat
             rw [← Ny163.out] at ho
             have n0_ := Aside0.mk (blk_grown (g := gb118) (o := .cells #[.int .i64 ((rd_T49 l0 0).f0), .int .i64 ((rd_T49 l0 0).f1)] 49 (0, 0)) (bk_ BK118.out) hg (Kd.R_away HO158.out (fun _ hk => hk.1)))
             have n1_ := Aside0.mk (blk_grown (g := gb120) (o := .cells #[.int .i64 ((rd_T49 l0 (ji4)).f0), .int .i64 ((rd_T49 l0 (ji4)).f1)] 49 (0, 0)) (bk_ BK120.out) hg (Kd.R_away HO158.out (fun _ hk => hk.2)))
             have n2_ := Aside0.mk (hb)
             have n3_ := Aside0.mk (ho)
             clear BK118 BK120 HB HO158
             have BK118 := n0_; have BK120 := n1_; have HB := n2_; have HO165 := n3_
             clear n0_ n1_ n2_ n3_ ho hb hg hat
             refine hK.out _ _ trivial (fun hHeld => ?_)
             clear hK K
             refine norm_ (a' := ?_) ?_ ?_
             rotate_left
             ·show Act.put _ (some 59) _ = _
              simp only [Act.put, List.setIfInBounds_toArray, List.set_cons_zero, List.set_cons_succ, i64_w, i32_w]
              rfl
             refine pure_ (i := 6) (N := some 4) (v := ?_) (a' := ?_) #[true, true, true, true, true, true, true, false] rfl rfl (any_of HT_.out (by kernel_rfl)) (fun _ _ _ h => h) (Or.inl ⟨by rfl, ?_⟩) ?_ ?_
             rotate_left
             ·intro w'
              go_simp
              with_reducible rfl
             rotate_left
             ·simp only [Act.put, List.setIfInBounds_toArray, List.set_cons_zero, List.set_cons_succ, i64_w, i32_w]
              rfl
             refine pure_ (i := 7) (N := some 5) (v := ?_) (a' := ?_) #[true, true, true, true, true, true, true, true] rfl rfl (any_of HT_.out (by kernel_rfl)) (fun _ _ _ h => h) (Or.inl ⟨by rfl, ?_⟩) ?_ ?_
             rotate_left
             ·intro w'
              go_simp
              with_reducible rfl
             rotate_left
             ·simp only [Act.put, List.setIfInBounds_toArray, List.set_cons_zero, List.set_cons_succ, i64_w, i32_w]
              rfl
             refine done_ (done_of HT_.out (by kernel_rfl)) ?_
             try go_wp2
             go_ret2
             exact ⟨_, by first | rfl | (simp [errW_none, errW_some] <;> rfl) | (simp only [← hji4, ← hji25]; first | rfl | (simp [errW_none, errW_some] <;> rfl)) | (simp [*, errW_none, errW_some] <;> rfl), by (with_reducible repeat (first | apply Kd.R_alloc | apply Kd.R_drewN | apply Kd.R_drew)); exact Kd.R_mono HO165.out (fun _ hk => trivial), by repeat (first | (with_reducible first | exact HB.out | apply below_alloc | apply pw_below_drewN | apply below_drew1 | refine below_set ?_ GE118.out | refine below_set ?_ GE120.out) | exact HB.out)⟩
            ·rw [if_neg c51] at H
             exact absurd H (by simp)
           ·rw [if_neg c50] at H
            exact absurd H (by simp)
          ·rw [if_neg c49] at H
           exact absurd H (by simp)
         ·rw [if_neg c48] at H
          have c48b0 : (((rd_T49 l0 0).f0) == ((rd_T49 l1 (ji25)).f0) && (((rd_T49 l0 0).f1) == ((rd_T49 l1 (ji25)).f1))) = false := by simpa using c48
          (try (have c48b1 : decide (((rd_T49 l0 0).f0) = ((rd_T49 l1 (ji25)).f0) && (((rd_T49 l0 0).f1) == ((rd_T49 l1 (ji25)).f1))) = false := by simpa using c48))
          (try (have c48b2 : (((rd_T49 l0 0).f0) == ((rd_T49 l1 (ji25)).f0) && (((rd_T49 l0 0).f1) == ((rd_T49 l1 (ji25)).f1))) = false := by simpa using c48))
          (try (have c48b3 : ¬ (((rd_T49 l0 0).f0) = ((rd_T49 l1 (ji25)).f0) && (((rd_T49 l0 0).f1) == ((rd_T49 l1 (ji25)).f1))) := by simpa using c48))
          clear c48
          (try rw [c48b0])
          (try rw [c48b1])
          (try rw [c48b2])
          (try rw [c48b3])
          try go_wp2
          have n0_ := Aside0.mk (blk_drew BK118.out)
          have n1_ := Aside0.mk (blk_drew BK120.out)
          have n2_ := Aside0.mk (below_drew1 HB.out)
          clear BK118 BK120 HB
          have BK118 := n0_; have BK120 := n1_; have HB := n2_
          clear n0_ n1_ n2_
          have p166 : 0 ≤ (0 : Int) := (by omega)
          have q166 : 0 < (l1.length : Int) := od_
          obtain ⟨ad166, e166, hx1014_0, hx1014_1⟩ := at_T49 HR1.out 0 p166 q166
          have hw1014_1 := hx1014_1
          (try rw [show ((0 : Int)).toNat = 0 from rfl] at hw1014_1)
          (try rw [show 0 * 2 = 0 from rfl] at hw1014_1)
          (try rw [Addr.add_zero'] at hw1014_1)
          have hw1014_0 := hx1014_0
          (try rw [show ((0 : Int)).toNat = 0 from rfl] at hw1014_0)
          (try rw [show 0 * 2 = 0 from rfl] at hw1014_0)
          (try rw [Addr.add_zero'] at hw1014_0)
          obtain rfl : ad121 = ad166 := (by injection e166)
          have qi166 : (0 < l1.length) = True := eq_true (by omega)
          (try rw [show ((0 : Int)).toNat = 0 from rfl] at hx1014_0)
          (try rw [show 0 * 2 = 0 from rfl] at hx1014_0)
          (try rw [Addr.add_zero'] at hx1014_0)
          (try rw [show ((0 : Int)).toNat = 0 from rfl] at hx1014_1)
          (try rw [show 0 * 2 = 0 from rfl] at hx1014_1)
          (try rw [Addr.add_zero'] at hx1014_1)
          replace hx1014_0 := (HB.out.cell (World.block_lt_of_cell? w _ hx1014_0)).trans hx1014_0
          replace hx1014_1 := (HB.out.cell (World.block_lt_of_cell? w _ hx1014_1)).trans hx1014_1
          replace p166 := eq_true p166
          replace q166 := eq_true q166
          refine start_ (n := 6) (S := fun w' => w'.cell? ⟨gb118, 0, none⟩ = some (.int .i64 ((rd_T49 l0 0).f0)) ∧ w'.cell? ⟨gb118, 1, none⟩ = some (.int .i64 ((rd_T49 l0 0).f1)) ∧ w'.cell? ad121 = some (.int .i64 ((rd_T49 l1 0).f0)) ∧ w'.cell? ⟨ad121.block, ad121.off + 1, none⟩ = some (.int .i64 ((rd_T49 l1 0).f1))) (ds := []) #[false, false, false, false, false, false] (by kernel_rfl) rfl rfl ⟨(blk_cell BK118.out 0).trans rfl, (blk_cell BK118.out 1).trans rfl, ((HB.out.cell (World.block_lt_of_cell? w _ hw1014_0)).trans hw1014_0), ((HB.out.cell (World.block_lt_of_cell? w _ hw1014_1)).trans hw1014_1)⟩ (fun hHeld => ?_)
          generalize w1013.drew = w1015 at BK118 BK120 HB hx1014_0 hx1014_1 hHeld ⊢
          refine pure_ (i := 1) (N := some 62) (v := ?_) (a' := ?_) #[false, true, false, false, false, false] rfl rfl (by kernel_rfl) (fun _ _ _ h => h) (Or.inl ⟨by rfl, ?_⟩) ?_ ?_
          rotate_left
          ·intro w'
           go_simp
           with_reducible rfl
          rotate_left
          ·simp only [Act.put, List.setIfInBounds_toArray, List.set_cons_zero, List.set_cons_succ, i64_w, i32_w]
           rfl
          refine pure_ (i := 2) (N := some 63) (v := ?_) (a' := ?_) #[false, true, true, false, false, false] rfl rfl (by kernel_rfl) (fun _ _ _ h => h) (Or.inl ⟨by rfl, ?_⟩) ?_ ?_
          rotate_left
          ·intro w'
           go_simp
           with_reducible rfl
          rotate_left
          ·simp only [Act.put, List.setIfInBounds_toArray, List.set_cons_zero, List.set_cons_succ, i64_w, i32_w]
           rfl
          refine take_ (i := 0) (N := some 61) (v := ?_) (a' := ?_) #[true, true, true, false, false, false] rfl rfl (by kernel_rfl) (fun _ _ _ h => h) (Or.inl ⟨by rfl, ?_⟩) hHeld ?_ ?_
          rotate_left
          ·rintro w' ⟨s0, s1, s2, s3⟩
           go_simp
           with_reducible rfl
          rotate_left
          ·simp only [Act.put, List.setIfInBounds_toArray, List.set_cons_zero, List.set_cons_succ, i64_w, i32_w]
           rfl
          refine take_ (i := 3) (N := some 64) (v := ?_) (a' := ?_) #[true, true, true, true, false, false] rfl rfl (by kernel_rfl) (fun _ _ _ h => h) (Or.inl ⟨by rfl, ?_⟩) hHeld ?_ ?_
          rotate_left
          ·rintro w' ⟨s0, s1, s2, s3⟩
           go_simp
           with_reducible rfl
          rotate_left
          ·simp only [Act.put, List.setIfInBounds_toArray, List.set_cons_zero, List.set_cons_succ, i64_w, i32_w]
           rfl
          refine pure_ (i := 4) (N := some 65) (v := ?_) (a' := ?_) #[true, true, true, true, true, false] rfl rfl (by kernel_rfl) (fun _ _ _ h => h) (Or.inl ⟨by rfl, ?_⟩) ?_ ?_
          rotate_left
          ·intro w'
           go_simp
           with_reducible rfl
          rotate_left
          ·simp only [Act.put, List.setIfInBounds_toArray, List.set_cons_zero, List.set_cons_succ, i64_w, i32_w]
           rfl
          refine pure_ (i := 5) (N := some 60) (v := ?_) (a' := ?_) #[true, true, true, true, true, true] rfl rfl (by kernel_rfl) (fun _ _ _ h => h) (Or.inl ⟨by rfl, ?_⟩) ?_ ?_
          rotate_left
          ·intro w'
           go_simp
           with_reducible rfl
          rotate_left
          ·simp only [Act.put, List.setIfInBounds_toArray, List.set_cons_zero, List.set_cons_succ, i64_w, i32_w]
           rfl
          refine done_ (by kernel_rfl) ?_
          by_cases c67 : (((rd_T49 l0 0).f0) == ((rd_T49 l1 0).f0) && (((rd_T49 l0 0).f1) == ((rd_T49 l1 0).f1))) = true
          ·rw [if_pos c67] at H
           have c67b0 : (((rd_T49 l0 0).f0) == ((rd_T49 l1 0).f0) && (((rd_T49 l0 0).f1) == ((rd_T49 l1 0).f1))) = true := c67
           (try (have c67b1 : decide (((rd_T49 l0 0).f0) = ((rd_T49 l1 0).f0) && (((rd_T49 l0 0).f1) == ((rd_T49 l1 0).f1))) = true := by simpa using c67))
           (try (have c67b2 : (((rd_T49 l0 0).f0) == ((rd_T49 l1 0).f0) && (((rd_T49 l0 0).f1) == ((rd_T49 l1 0).f1))) = true := by simpa using c67))
           clear c67
           replace H := Option.bind_eq_some_iff.mp H
           obtain ⟨t167, A680, H⟩ := H
           replace H : (if 1 ≤ (l0.length : Int) then ((some (l0.drop 1 : List (S49))).bind fun y170 => (if t167.length + y170.length < 8796093022208 then (some ((t167 ++ y170), true)) else (none))) else (none)) = some (r1, r2) := H
           have A68 := Aside0.mk A680
           clear A680
           (try rw [c67b0])
           (try rw [c67b1])
           (try rw [c67b2])
           by_cases c69 : 1 ≤ (l0.length : Int)
           ·rw [if_pos c69] at H
            have c69b0 := eq_true c69
            have c69b1 : decide (1 ≤ (l0.length : Int)) = true := decide_eq_true c69
            clear c69
            obtain ⟨y170, hy170⟩ : ∃ y_ : List (S49), y_ = (l0.drop 1) := ⟨_, rfl⟩
            replace H : (if t167.length + y170.length < 8796093022208 then (some ((t167 ++ y170), true)) else (none)) = some (r1, r2) := by first | (rw [hy170]; with_reducible exact H) | (have H2_ := (Option.bind_some _ _).symm.trans H; rw [hy170]; with_reducible exact H2_) | (have H2_ := (Option.bind_some _ _).symm.trans H; with_reducible exact H2_) | with_reducible exact H | (rw [hy170]; exact H) | exact H
            have Ny170 := Aside0.mk hy170
            clear hy170
            by_cases c70 : t167.length + y170.length < 8796093022208
            ·rw [if_pos c70] at H
             have LMc70 := Aside0.mk c70
             clear c70
             obtain ⟨y174, hy174⟩ : ∃ y_ : List (S49), y_ = (t167 ++ y170) := ⟨_, rfl⟩
             replace H : (some (y174, true)) = some (r1, r2) := by first | (rw [hy174]; with_reducible exact H) | (have H2_ := (Option.bind_some _ _).symm.trans H; rw [hy174]; with_reducible exact H2_) | (have H2_ := (Option.bind_some _ _).symm.trans H; with_reducible exact H2_) | with_reducible exact H | (rw [hy174]; exact H) | exact H
             have Ny174 := Aside0.mk hy174
             clear hy174
             simp only [Option.some.injEq, Prod.mk.injEq] at H
             obtain ⟨rfl, rfl⟩ := H
             try go_wp2
             have n0_ := Aside0.mk (blk_drew BK118.out)
             have n1_ := Aside0.mk (blk_drew BK120.out)
             have n2_ := Aside0.mk (below_drew1 HB.out)
             clear BK118 BK120 HB
             have BK118 := n0_; have BK120 := n1_; have HB := n2_
             clear n0_ n1_ n2_
             have q82 : (1 : Int) ≤ ((l0.length : Int) : Int) := od_
             obtain ⟨i082, hi1016, _, hsz1017, _⟩ := info_parts info49
             have hroom1017 : l0.length ≤ c0 := HC0.out
             have hC82 : Kd.C k49 _ (some ad117) l0.length l0 := HR0.out
             have hcut1017 := cut_from (P := Try.prog) 34 49 .i64 Try.underlying34 hi1016 2 hsz1017 (some ad117) l0.length c0 1 (by omega) q82
             have hr1017 := Kd.C_drop (m := (1 : Int).toNat) (c := c0) hC82 (by omega) hroom1017
             obtain ⟨A82, hA82⟩ : ∃ A_z, A_z = (if c0 = (1 : Int).toNat then (some ad117) else ((some ad117) : Option Addr).map (·.add ((1 : Int).toNat * 2))) := ⟨_, rfl⟩
             obtain ⟨c82, hc1017⟩ : ∃ c_z, c_z = c0 - (1 : Int).toNat := ⟨_, rfl⟩
             have hy1017 : y170.length = l0.length - (1 : Int).toNat := (by rw [Ny170.out, List.length_drop] <;> omega)
             rw [show (l0).drop (1 : Int).toNat = y170 from Ny170.out.symm] at hr1017
             replace hr1017 : Kd.C k49 _ A82 y170.length y170 := (by rw [hA82]; exact hr1017)
             rw [← hy1017, ← hA82, ← hc1017] at hcut1017
             have HR173 := Aside0.mk hr1017
             have HC173 := Aside0.mk (show y170.length ≤ c82 from by rw [hy1017, hc1017]; exact Nat.sub_le_sub_right hroom1017 _)
             clear hr1017 hC82 hroom1017 hi1016 hsz1017 hc1017
             have KY82 := Aside0.mk hy1017
             have KA82 := Aside0.mk hA82
             clear hy1017 hA82
             replace q82 := eq_true q82
             refine start_ (n := 7) (S := fun w' => True) (ds := []) #[false, false, false, false, false, false, false] (by kernel_rfl) rfl rfl trivial (fun hHeld => ?_)
             generalize w1015.drew = w1018 at BK118 BK120 HB HR173 hHeld ⊢
             refine pure_ (i := 0) (N := some 66) (v := ?_) (a' := ?_) #[true, false, false, false, false, false, false] rfl rfl (by kernel_rfl) (fun _ _ _ h => h) (Or.inl ⟨by rfl, ?_⟩) ?_ ?_
             rotate_left
             ·intro w'
              go_simp
              with_reducible rfl
             rotate_left
             ·simp only [Act.put, List.setIfInBounds_toArray, List.set_cons_zero, List.set_cons_succ, i64_w, i32_w]
              rfl
             refine pure_ (i := 2) (N := some 68) (v := ?_) (a' := ?_) #[true, false, true, false, false, false, false] rfl rfl (by kernel_rfl) (fun _ _ _ h => h) (Or.inl ⟨by rfl, ?_⟩) ?_ ?_
             rotate_left
             ·intro w'
              go_simp
              with_reducible rfl
             rotate_left
             ·simp only [Act.put, List.setIfInBounds_toArray, List.set_cons_zero, List.set_cons_succ, i64_w, i32_w]
              rfl
             refine pure_ (i := 3) (N := some 69) (v := ?_) (a' := ?_) #[true, false, true, true, false, false, false] rfl rfl (by kernel_rfl) (fun _ _ _ h => h) (Or.inl ⟨by rfl, ?_⟩) ?_ ?_
             rotate_left
             ·intro w'
              go_simp
              with_reducible rfl
             rotate_left
             ·simp only [Act.put, List.setIfInBounds_toArray, List.set_cons_zero, List.set_cons_succ, i64_w, i32_w]
              rfl
             refine one_ (i := 1) (N := some 67) #[true, true, true, true, false, false, false] rfl rfl (by kernel_rfl) (by decide) (fun K hK => ?_)
             refine goes_ Try.func50 (by kernel_rfl) rfl #[.slice (some ad121) l1.length c1] (by rfl) rfl rfl gl_ ?_
             with_reducible refine (spec_l10Back.calls k _ _ l1 t167 _ ?side1 ?side2 A68.out).mono ?_
             (case side1 => repeat (first | exact (Kd.C_below HR1.out HB.out) | (with_reducible refine Kd.C_alloc ?_ _) | (with_reducible refine Kd.C_drewN ?_ _) | (with_reducible refine Kd.C_drew ?_)))
             (case side2 => exact HC1.out)
             rintro e w1019 ⟨v168, rfl, ho1020, hb⟩
             refine ⟨_, rfl, ?_⟩
             have n0_ := Aside0.mk (Kd.R_lower (Kd.R_newB (Kd.R_newB ho1020 (g := gb118) (o := .cells #[.int .i64 ((rd_T49 l0 0).f0), .int .i64 ((rd_T49 l0 0).f1)] 49 (0, 0)) (bk_ BK118.out)) (g := gb120) (o := .cells #[.int .i64 ((rd_T49 l0 (ji4)).f0), .int .i64 ((rd_T49 l0 (ji4)).f1)] 49 (0, 0)) (bk_ BK120.out)) (below_size (bws_ HB.out)))
             have n1_ := Aside0.mk (blk_below (bk_ BK118.out) hb)
             have n2_ := Aside0.mk (blk_below (bk_ BK120.out) hb)
             have n3_ := Aside0.mk (below_step (bws_ HB.out) hb)
             clear BK118 BK120 HB
             have HO169 := n0_; have BK118 := n1_; have BK120 := n2_; have HB := n3_
             clear n0_ n1_ n2_ n3_
             (try clear hb)
             (try clear hb1021)
             (try clear hk)
             (try clear hi)
             (try clear ho1020)
             refine hK.out _ _ trivial (fun hHeld => ?_)
             clear hK K
             refine norm_ (a' := ?_) ?_ ?_
             rotate_left
             ·show Act.put _ (some 67) _ = _
              simp only [Act.put, List.setIfInBounds_toArray, List.set_cons_zero, List.set_cons_succ, i64_w, i32_w]
              rfl
             refine one_ (i := 4) (N := some 70) #[true, true, true, true, true, false, false] rfl rfl (by kernel_rfl) (by decide) (fun K hK => ?_)
             refine Kd.R_append_rows_step k49 (w0 := w) w.heap.size (by rfl) (.tmp 67) (.tmp 69) 34 49 (.agg #[(.int .i64 0), (.int .i64 0)]) 16 rfl Try.underlying34 info49 rfl (by decide) (by omega) v168 t167 y170 _ _ _ (fun k_ => k_ ≠ gb118 ∧ k_ ≠ gb120) (fun _ => False) rfl rfl ?aO ?aR (fun _ _ h => h) (fun _ h => h.elim) ?aF ?aB ?aS ?aL ?_
             (case aR => repeat (first | exact (Kd.C_below HR173.out HB.out) | (with_reducible refine Kd.C_alloc ?_ _) | (with_reducible refine Kd.C_drewN ?_ _) | (with_reducible refine Kd.C_drew ?_)))
             (case aB => exact (bws_ HB.out))
             (case aF => exact (fun k_ hk => ⟨Kd.freshB (g := gb118) (o := .cells #[.int .i64 ((rd_T49 l0 0).f0), .int .i64 ((rd_T49 l0 0).f1)] 49 (0, 0)) (bk_ BK118.out) k_ hk, Kd.freshB (g := gb120) (o := .cells #[.int .i64 ((rd_T49 l0 (ji4)).f0), .int .i64 ((rd_T49 l0 (ji4)).f1)] 49 (0, 0)) (bk_ BK120.out) k_ hk⟩))
             (case aO => exact (by (with_reducible repeat (first | apply Kd.R_alloc | apply Kd.R_drewN | apply Kd.R_drew)); exact Kd.R_mono HO169.out (fun _ hk => ⟨hk.1.2, hk.2⟩)))
             (case aS => exact (below_size (bws_ HB.out)))
             (case aL => have := LMc70.out; omega)
             intro v175 w1022 ho hb hg hat
             rw [← Ny174.out] at ho
             have n0_ := Aside0.mk (blk_grown (g := gb118) (o := .cells #[.int .i64 ((rd_T49 l0 0).f0), .int .i64 ((rd_T49 l0 0).f1)] 49 (0, 0)) (bk_ BK118.out) hg (Kd.R_away HO169.out (fun _ hk => hk.1.2)))
             have n1_ := Aside0.mk (blk_grown (g := gb120) (o := .cells #[.int .i64 ((rd_T49 l0 (ji4)).f0), .int .i64 ((rd_T49 l0 (ji4)).f1)] 49 (0, 0)) (bk_ BK120.out) hg (Kd.R_away HO169.out (fun _ hk => hk.2)))
             have n2_ := Aside0.mk (hb)
             have n3_ := Aside0.mk (ho)
             clear BK118 BK120 HB HO169
             have BK118 := n0_; have BK120 := n1_; have HB := n2_; have HO176 := n3_
             clear n0_ n1_ n2_ n3_ ho hb hg hat
             refine hK.out _ _ trivial (fun hHeld => ?_)
             clear hK K
             refine norm_ (a' := ?_) ?_ ?_
             rotate_left
             ·show Act.put _ (some 70) _ = _
              simp only [Act.put, List.setIfInBounds_toArray, List.set_cons_zero, List.set_cons_succ, i64_w, i32_w]
              rfl
             refine pure_ (i := 5) (N := some 4) (v := ?_) (a' := ?_) #[true, true, true, true, true, true, false] rfl rfl (by kernel_rfl) (fun _ _ _ h => h) (Or.inl ⟨by rfl, ?_⟩) ?_ ?_
             rotate_left
             ·intro w'
              go_simp
              with_reducible rfl
             rotate_left
             ·simp only [Act.put, List.setIfInBounds_toArray, List.set_cons_zero, List.set_cons_succ, i64_w, i32_w]
              rfl
             refine pure_ (i := 6) (N := some 5) (v := ?_) (a' := ?_) #[true, true, true, true, true, true, true] rfl rfl (by kernel_rfl) (fun _ _ _ h => h) (Or.inl ⟨by rfl, ?_⟩) ?_ ?_
             rotate_left
             ·intro w'
              go_simp
              with_reducible rfl
             rotate_left
             ·simp only [Act.put, List.setIfInBounds_toArray, List.set_cons_zero, List.set_cons_succ, i64_w, i32_w]
              rfl
             refine done_ (by kernel_rfl) ?_
             try go_wp2
             go_ret2
             exact ⟨_, by first | rfl | (simp [errW_none, errW_some] <;> rfl) | (simp only [← hji4, ← hji25]; first | rfl | (simp [errW_none, errW_some] <;> rfl)) | (simp [*, errW_none, errW_some] <;> rfl), by (with_reducible repeat (first | apply Kd.R_alloc | apply Kd.R_drewN | apply Kd.R_drew)); exact Kd.R_mono HO176.out (fun _ hk => trivial), by repeat (first | (with_reducible first | exact HB.out | apply below_alloc | apply pw_below_drewN | apply below_drew1 | refine below_set ?_ GE118.out | refine below_set ?_ GE120.out) | exact HB.out)⟩
            ·rw [if_neg c70] at H
             exact absurd H (by simp)
           ·rw [if_neg c69] at H
            exact absurd H (by simp)
          ·rw [if_neg c67] at H
           have c67b0 : (((rd_T49 l0 0).f0) == ((rd_T49 l1 0).f0) && (((rd_T49 l0 0).f1) == ((rd_T49 l1 0).f1))) = false := by simpa using c67
           (try (have c67b1 : decide (((rd_T49 l0 0).f0) = ((rd_T49 l1 0).f0) && (((rd_T49 l0 0).f1) == ((rd_T49 l1 0).f1))) = false := by simpa using c67))
           (try (have c67b2 : (((rd_T49 l0 0).f0) == ((rd_T49 l1 0).f0) && (((rd_T49 l0 0).f1) == ((rd_T49 l1 0).f1))) = false := by simpa using c67))
           (try (have c67b3 : ¬ (((rd_T49 l0 0).f0) = ((rd_T49 l1 0).f0) && (((rd_T49 l0 0).f1) == ((rd_T49 l1 0).f1))) := by simpa using c67))
           clear c67
           simp only [Option.some.injEq, Prod.mk.injEq] at H
           obtain ⟨rfl, rfl⟩ := H
           (try rw [c67b0])
           (try rw [c67b1])
           (try rw [c67b2])
           (try rw [c67b3])
           try go_wp2
           go_ret2
           exact ⟨_, by first | rfl | (simp [errW_none, errW_some] <;> rfl) | (simp only [← hji4, ← hji25]; first | rfl | (simp [errW_none, errW_some] <;> rfl)) | (simp [*, errW_none, errW_some] <;> rfl), by first | exact Kd.R_nil _ _ _ _ _ | exact Kd.N_nil _ _ _ _ _ | exact Kd.V_nil _ _ _ _ _ | exact Kd.Q_nil _ _ _ _ _ | exact Kd.S_nil _ _ _ _ _, by repeat (first | (with_reducible first | exact HB.out | apply below_alloc | apply pw_below_drewN | apply below_drew1 | refine below_set ?_ GE118.out | refine below_set ?_ GE120.out) | exact HB.out)⟩
       ·rw [if_neg c27] at H
        exact absurd H (by simp)
      ·rw [if_neg c26] at H
       exact absurd H (by simp)
    ·rw [if_neg c7] at H
     exact absurd H (by simp)
   ·rw [if_neg c6] at H
    exact absurd H (by simp)
  ·rw [if_neg c5] at H
   exact absurd H (by simp)
 ·rw [if_neg c3] at H
  exact absurd H (by simp)
end Go.Proofs.Ytmedijjjhabpbaa.Print
