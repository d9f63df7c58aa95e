-- Printed by a program of this session out of the translation; not trusted: Lean checks it.
-- SQUEEZED
-- SHRUNK
import Derived.Test.YtfaciogcddpgdaaPrint0
import Derived.Test.YtfaciogcddpgdaaPrint9
import Derived.Test.YtfaciogcddpgdaaPrint13
import Derived.Test.YtfaciogcddpgdaaPrint23
namespace Go.Proofs.Ytfaciogcddpgdaa.Print
open Go.RowKit Go.Proofs.YtfaciogcddpgdaaW.PrintWords Go.Proofs.YtfaciogcddpgdaaW.PrintLast Go.Proofs.YtfaciogcddpgdaaW.PrintMore
attribute [local go_sem] max2_int min2_int max_two min_two max_three min_three max_four min_four   -- for this text's walks alone
set_option linter.unusedVariables false
set_option linter.unusedSimpArgs false

/-! ### spec_FlatBox: function 17 -/
mutual
def spec_FlatBox.j0 : Nat → List (S25) → Int → Bool → Bool → Option (Int × Int × Int × Int × Int)
 | 0, _, _, _, _ => none
 | k + 1, x0, x1, x2, x25 => if x25 = true then (some (0, 0, 0, 0, 2)) else (if (x0.length : Int) = 0 then (some (0, 0, 0, 0, 3)) else (if 0 < (x0.length : Int) then ((spec_l08Draw.f k ((rd_T25 x0 0).f0) ((rd_T25 x0 0).f1) x1 x2).bind fun bt447 => (spec_FlatBox.l0 k x0 x1 x2 1 bt447.1 bt447.2 bt447.1 bt447.2)) else (none)))
def spec_FlatBox.l0 : Nat → List (S25) → Int → Bool → Int → Int → Int → Int → Int → Option (Int × Int × Int × Int × Int)
 | 0, _, _, _, _, _, _, _, _ => none
 | k + 1, x0, x1, x2, x11, x450000, x450001, x451000, x451001 => if x11 < (x0.length : Int) then (if 0 ≤ x11 then ((spec_l08Draw.f k ((rd_T25 x0 x11).f0) ((rd_T25 x0 x11).f1) x1 x2).bind fun bt452 => ((spec_l00Min.f x450000 bt452.1).bind fun t455 => ((spec_l00Min.f x450001 bt452.2).bind fun t456 => ((spec_l00Max.f x451000 bt452.1).bind fun t457 => ((spec_l00Max.f x451001 bt452.2).bind fun t458 => (spec_FlatBox.l0 k x0 x1 x2 (wrap64 (x11 + 1)) t455 t456 t457 t458)))))) else (none)) else (some (x450000, x450001, x451000, x451001, 0))
end
def spec_FlatBox.f (k : Nat) (l0 : List (S25)) (a1 : Int) (a2 : Bool) : Option (Int × Int × Int × Int × Int) := (spec_l08List.f k l0).bind fun t444 => (if t444 = true then (if (l0.length : Int) > 100 then (spec_FlatBox.j0 k l0 a1 a2 true) else ((spec_l08Scale.f a1).bind fun t445 => (spec_FlatBox.j0 k l0 a1 a2 (!t445)))) else (some (0, 0, 0, 0, 1)))
theorem spec_FlatBox.mono_l : ∀ k, (∀ y0 y1 y2 y3, LeO (spec_FlatBox.j0 k y0 y1 y2 y3) (spec_FlatBox.j0 (k + 1) y0 y1 y2 y3)) ∧ (∀ y0 y1 y2 y3 y4 y5 y6 y7, LeO (spec_FlatBox.l0 k y0 y1 y2 y3 y4 y5 y6 y7) (spec_FlatBox.l0 (k + 1) y0 y1 y2 y3 y4 y5 y6 y7))
 | 0 => ⟨fun _ _ _ _ r h => by simp [spec_FlatBox.j0] at h, fun _ _ _ _ _ _ _ _ r h => by simp [spec_FlatBox.l0] at h⟩
 | k + 1 => by
  obtain ⟨ih0, ih1⟩ := spec_FlatBox.mono_l k
  refine ⟨?_, ?_⟩
  ·intro y0 y1 y2 y3
   unfold spec_FlatBox.j0
   repeat' first
   | (with_reducible exact ih0 _ _ _ _)
   | (with_reducible exact ih1 _ _ _ _ _ _ _ _)
   | (with_reducible exact spec_l08Draw.mono _ _ _ _ _)
   | (with_reducible exact spec_l08List.mono _ _)
   | (with_reducible exact LeO.refl _)
   | (with_reducible exact LeO.none _)
   | (with_reducible refine LeO.ite ?_ ?_)
   | (with_reducible refine LeO.bind ?_ (fun _ => ?_))
   | exact ih0 _ _ _ _
   | exact ih1 _ _ _ _ _ _ _ _
   | exact spec_l08Draw.mono _ _ _ _ _
   | exact spec_l08List.mono _ _
   | exact LeO.none _
   | refine LeO.ite ?_ ?_
   | refine LeO.bind ?_ (fun _ => ?_)
  ·intro y0 y1 y2 y3 y4 y5 y6 y7
   unfold spec_FlatBox.l0
   repeat' first
   | (with_reducible exact ih0 _ _ _ _)
   | (with_reducible exact ih1 _ _ _ _ _ _ _ _)
   | (with_reducible exact spec_l08Draw.mono _ _ _ _ _)
   | (with_reducible exact spec_l08List.mono _ _)
   | (with_reducible exact LeO.refl _)
   | (with_reducible exact LeO.none _)
   | (with_reducible refine LeO.ite ?_ ?_)
   | (with_reducible refine LeO.bind ?_ (fun _ => ?_))
   | exact ih0 _ _ _ _
   | exact ih1 _ _ _ _ _ _ _ _
   | exact spec_l08Draw.mono _ _ _ _ _
   | exact spec_l08List.mono _ _
   | exact LeO.none _
   | refine LeO.ite ?_ ?_
   | refine LeO.bind ?_ (fun _ => ?_)
theorem spec_FlatBox.mono : ∀ a0 a1 a2 k, LeO (spec_FlatBox.f k a0 a1 a2) (spec_FlatBox.f (k + 1) a0 a1 a2) := by
 intro a0 a1 a2 k
 obtain ⟨ih0, ih1⟩ := spec_FlatBox.mono_l k
 unfold spec_FlatBox.f
 repeat' first
   | (with_reducible exact ih0 _ _ _ _)
   | (with_reducible exact ih1 _ _ _ _ _ _ _ _)
   | (with_reducible exact spec_l08Draw.mono _ _ _ _ _)
   | (with_reducible exact spec_l08List.mono _ _)
   | (with_reducible exact LeO.refl _)
   | (with_reducible exact LeO.none _)
   | (with_reducible refine LeO.ite ?_ ?_)
   | (with_reducible refine LeO.bind ?_ (fun _ => ?_))
   | exact ih0 _ _ _ _
   | exact ih1 _ _ _ _ _ _ _ _
   | exact spec_l08Draw.mono _ _ _ _ _
   | exact spec_l08List.mono _ _
   | exact LeO.none _
   | refine LeO.ite ?_ ?_
   | refine LeO.bind ?_ (fun _ => ?_)
def spec_FlatBox.T13 : Bool × List (List Nat × List Nat) := (true, [([], []), ([0], [0]), ([], []), ([2], [2]), ([1, 3], [1, 3]), ([], []), ([5], [5]), ([], []), ([7], [7]), ([6, 8, 4], [6, 8]), ([4, 9], [4, 9]), ([10, 9, 0, 1, 2, 3, 4, 5, 6, 7, 8, 9, 10], [10])])
def spec_FlatBox.B13 : List Nat := [0, 1, 0, 4, 15, 0, 32, 0, 128, 511, 1023, 2047]
theorem spec_FlatBox.tab13 : rtab .any (opsOf Try.f17 13) = spec_FlatBox.T13 := by kernel_rfl
theorem spec_FlatBox.bits13 : waitsOk spec_FlatBox.T13.2 spec_FlatBox.B13 = true := by kernel_rfl
def spec_FlatBox.T14 : Bool × List (List Nat × List Nat) := (true, [([], []), ([0], [0]), ([], []), ([2], [2]), ([1, 3], [1, 3]), ([], []), ([5], [5]), ([], []), ([7], [7]), ([6, 8, 4], [6, 8]), ([4, 9], [4, 9]), ([10, 9, 0, 1, 2, 3, 4, 5, 6, 7, 8, 9, 10], [10])])
def spec_FlatBox.B14 : List Nat := [0, 1, 0, 4, 15, 0, 32, 0, 128, 511, 1023, 2047]
theorem spec_FlatBox.tab14 : rtab .any (opsOf Try.f17 14) = spec_FlatBox.T14 := by kernel_rfl
theorem spec_FlatBox.bits14 : waitsOk spec_FlatBox.T14.2 spec_FlatBox.B14 = true := by kernel_rfl
set_option maxHeartbeats 8000000 in
set_option maxRecDepth 100000 in
theorem spec_FlatBox.calls (k : Nat) (A0 : Option Addr) (c0 : Nat) (l0 : List (S25)) (a1 : Int) (a2 : Bool) (r1 : Int) (r2 : Int) (r3 : Int) (r4 : Int) (r5 : Int) (w : World) (hr0 : Kd.C k25 w A0 l0.length l0) (hc0 : l0.length ≤ c0) (h : spec_FlatBox.f k l0 a1 a2 = some (r1, r2, r3, r4, r5)) :
  Calls Try.prog 17 #[.slice A0 l0.length c0, .int .i64 a1, .bool a2] w fun e w' => e = .returned (.tuple #[.agg #[.int .i64 r1, .int .i64 r2], .agg #[.int .i64 r3, .int .i64 r4], .int .i64 r5]) ∧ Below w.heap.size w w' := by
 have hu29 := Try.underlying29
 have hu25 := Try.underlying25
 have HR0 := Aside0.mk hr0
 have HC0 := Aside0.mk hc0
 clear hr0 hc0
 have HB := Aside0.mk (Below.refl w.heap.size w)
 have H : ((spec_l08List.f k l0).bind fun t444 => (if t444 = true then (if (l0.length : Int) > 100 then (spec_FlatBox.j0 k l0 a1 a2 true) else ((spec_l08Scale.f a1).bind fun t445 => (spec_FlatBox.j0 k l0 a1 a2 (!t445)))) else (some (0, 0, 0, 0, 1)))) = some (r1, r2, r3, r4, r5) := h
 clear h
 replace H := Option.bind_eq_some_iff.mp H
 obtain ⟨t444, A40, H⟩ := H
 replace H : (if t444 = true then (if (l0.length : Int) > 100 then (spec_FlatBox.j0 k l0 a1 a2 true) else ((spec_l08Scale.f a1).bind fun t445 => (spec_FlatBox.j0 k l0 a1 a2 (!t445)))) else (some (0, 0, 0, 0, 1))) = some (r1, r2, r3, r4, r5) := H
 have A4 := Aside0.mk A40
 clear A40
 by_cases c5 : t444 = true
 ·subst c5
  have H1 : (if (l0.length : Int) > 100 then (spec_FlatBox.j0 k l0 a1 a2 true) else ((spec_l08Scale.f a1).bind fun t445 => (spec_FlatBox.j0 k l0 a1 a2 (!t445)))) = some (r1, r2, r3, r4, r5) := by rw [if_pos rfl] at H; exact H
  clear H
  have H := H1
  clear H1
  have HC6 := Aside0.mk H
  clear H
  go_enter Try.func17, Try.ntmps17
  go_upto_region 3 with (first | ((with_reducible refine gate_dst (N := 6) rfl ?_); refine box_event ?hg (N := 6) ?hd (cs := #[.int .i64 0, .int .i64 0]) (t := 29) ?hr ?_; (case hd => rfl); (case hg => rfl); (case hr => first | (go_simp; done) | (go_simp; rfl)); intro gb442 hg w7 hbox hb; have n0_ := Aside0.mk (below_step (bw_ HB.out) hb); have n1_ := Aside0.mk (hbox); have n2_ := Aside0.mk ((ge_ hg (bw_ HB.out))); have n3_ := Aside0.mk ((ge_ hg (bw_ HB.out))); clear HB; have HB := n0_; have BK442 := n1_; have GW442 := n2_; have GE442 := n3_; clear n0_ n1_ n2_ n3_; clear hb hbox hg) | ((with_reducible refine gate_dst (N := 7) rfl ?_); refine box_event ?hg (N := 7) ?hd (cs := #[.int .i64 0, .int .i64 0]) (t := 29) ?hr ?_; (case hd => rfl); (case hg => rfl); (case hr => first | (go_simp; done) | (go_simp; rfl)); intro gb443 hg w8 hbox hb; have n0_ := Aside0.mk (blk_below (bk_ BK442.out) hb); have n1_ := Aside0.mk (below_step (bwg_ GE442.out HB.out) hb); have n2_ := Aside0.mk (hbox); have n3_ := Aside0.mk ((by rw [hg]; exact (below_size (bwg_ GE442.out HB.out)) : w.heap.size ≤ gb443)); have n4_ := Aside0.mk ((by rw [hg]; exact (below_size (bwg_ GE442.out HB.out)) : w.heap.size ≤ gb443)); have n5_ := Aside0.mk ((ne1_ hg (bk_ BK442.out))); have n6_ := Aside0.mk ((ne2_ hg (bk_ BK442.out))); clear BK442; clear HB; have BK442 := n0_; have HB := n1_; have BK443 := n2_; have GW443 := n3_; have GE443 := n4_; have NB442_443 := n5_; have NB443_442 := n6_; clear n0_ n1_ n2_ n3_ n4_ n5_ n6_; clear hb hbox hg) | ((with_reducible refine gate_callee (f := 42) rfl ?_); refine goesL_ (some 14) rfl rfl Try.func42 (by kernel_rfl) rfl #[.slice A0 l0.length c0] rfl gl_ ?_; (with_reducible refine (spec_l08List.calls k _ _ l0 true _ ?side1 ?side2 A4.out).mono ?_); (case side1 => repeat (first | exact (Kd.C_below HR0.out HB.out) | (with_reducible refine Kd.C_alloc ?_ _) | (with_reducible refine Kd.C_drewN ?_ _) | (with_reducible refine Kd.C_drew ?_))); (case side2 => exact HC0.out); rintro e w9 ⟨rfl, hb⟩; refine ⟨_, rfl, ?_⟩; have n0_ := Aside0.mk (blk_below (bk_ BK442.out) hb); have n1_ := Aside0.mk (blk_below (bk_ BK443.out) hb); have n2_ := Aside0.mk (below_step (bws_ HB.out) hb); clear BK442; clear BK443; clear HB; have BK442 := n0_; have BK443 := n1_; have HB := n2_; clear n0_ n1_ n2_; (try clear hb); (try clear hb2); (try clear hk); (try clear hi)))
  (try simp only [Act.put, List.setIfInBounds_toArray, List.set_cons_zero, List.set_cons_succ])
  go_cut [25] (fun v25 wc => ∃ (kq : Nat) (x25_5 : Bool), v25 = .bool x25_5 ∧ Aside0 (spec_FlatBox.j0 kq l0 a1 a2 x25_5 = some (r1, r2, r3, r4, r5)) ∧ Aside0 (kq ≤ k) ∧ Aside0 (wc.heap[gb442]? = some (.cells #[.int .i64 0, .int .i64 0] 29 (0, 0))) ∧ Aside0 (wc.heap[gb443]? = some (.cells #[.int .i64 0, .int .i64 0] 29 (0, 0))) ∧ Aside0 (Below w.heap.size w wc))
  case first =>
   have H := HC6.out
   clear HC6
   by_cases c10 : (l0.length : Int) > 100
   ·rw [if_pos c10] at H
    have c10b0 : decide (100 < (l0.length : Int)) = true := decide_eq_true c10
    have c10b1 : decide (100 < l0.length) = true := decide_eq_true (by omega)
    clear c10
    (first | rw [c10b0] | (simp only [i64_w, i32_w]; rw [c10b0]) | skip)
    have H' := Aside0.mk H
    clear H
    go_wp2
    go_meet
    case rel => exact ⟨_, (true), (by first | rfl | (simp; done) | (simp [*]; done)), H', ⟨by first | omega | exact Nat.le_refl _⟩, ⟨bk_ BK442.out⟩, ⟨bk_ BK443.out⟩, ⟨bws_ HB.out⟩⟩
   ·rw [if_neg c10] at H
    have c10b0 : decide (100 < (l0.length : Int)) = false := decide_eq_false c10
    have c10b1 : decide (100 < l0.length) = false := decide_eq_false (by omega)
    clear c10
    (first | rw [c10b0] | (simp only [i64_w, i32_w]; rw [c10b0]) | skip)
    replace H := Option.bind_eq_some_iff.mp H
    obtain ⟨t445, A110, H⟩ := H
    replace H : (spec_FlatBox.j0 k l0 a1 a2 (!t445)) = some (r1, r2, r3, r4, r5) := H
    have A11 := Aside0.mk A110
    clear A110
    have H' := Aside0.mk H
    clear H
    go_wp2_with (first | (go_at_call 43; (with_reducible refine (spec_l08Scale.calls a1 t445 _ A11.out).mono ?_); rintro e w' ⟨rfl, ⟨nd, rfl⟩⟩))
    go_meet
    case rel => exact ⟨_, (!t445), (by first | rfl | (simp; done) | (simp [*]; done)), H', ⟨by first | omega | exact Nat.le_refl _⟩, ⟨bk_ BK442.out⟩, ⟨bk_ BK443.out⟩, ⟨bws_ HB.out⟩⟩
  case rest =>
   clear HC6
   try clear c1
   try clear p2
   try clear c4
   try clear c5
   try clear c10
   try clear c10b0
   try clear c10b1
   obtain ⟨kq, x25_5, rfl, HA, HJ5, BK442, BK443, HB⟩ := hcut
   cases kq with
   | zero => exact absurd HA.out (by simp [spec_FlatBox.j0])
   | succ kj5 =>
    have H := HA.out
    clear HA
    simp only [spec_FlatBox.j0] at H
    by_cases c12 : x25_5 = true
    ·subst c12
     have H1 : (some (0, 0, 0, 0, 2)) = some (r1, r2, r3, r4, r5) := by rw [if_pos rfl] at H; exact H
     clear H
     have H := H1
     clear H1
     simp only [Option.some.injEq, Prod.mk.injEq] at H
     obtain ⟨rfl, rfl, rfl, rfl, rfl⟩ := H
     have hnb13 := NB442_443.out
     have hnc13 := NB443_442.out
     have hcz14_0 : wc.cell? ⟨gb442, 0, none⟩ = some (.int .i64 0) := (blk_cell BK442.out 0).trans rfl
     have hcz14_1 : wc.cell? ⟨gb442, 1, none⟩ = some (.int .i64 0) := (blk_cell BK442.out 1).trans rfl
     have hfz14_0 := blk_frozen BK442.out 0
     have hfz14_1 := blk_frozen BK442.out 1
     have hcz15_0 : wc.cell? ⟨gb443, 0, none⟩ = some (.int .i64 0) := (blk_cell BK443.out 0).trans rfl
     have hcz15_1 : wc.cell? ⟨gb443, 1, none⟩ = some (.int .i64 0) := (blk_cell BK443.out 1).trans rfl
     have hfz15_0 := blk_frozen BK443.out 0
     have hfz15_1 := blk_frozen BK443.out 1
     go_wp2
     refine bodyPost_ret (results_list (rs := [.cell 6 29, .cell 7 29, .tmp 8]) rfl (by simp) (.cell gb442 29 #[.int .i64 0, .int .i64 0] (0, 0) _ rfl (by (with_reducible repeat (first | refine blk_drewN ?_ _ | refine blk_drew ?_ | refine blk_alloc ?_ _)); refine blk_far ?_ NB442_443.out _; (with_reducible repeat (first | refine blk_drewN ?_ _ | refine blk_drew ?_ | refine blk_alloc ?_ _)); refine blk_far ?_ NB442_443.out _; (with_reducible repeat (first | refine blk_drewN ?_ _ | refine blk_drew ?_ | refine blk_alloc ?_ _)); refine blk_put (cs := #[.int .i64 0, .int .i64 0]) ?_ 1 _ rfl; (with_reducible repeat (first | refine blk_drewN ?_ _ | refine blk_drew ?_ | refine blk_alloc ?_ _)); refine blk_put (cs := #[.int .i64 0, .int .i64 0]) ?_ 0 _ rfl; (with_reducible repeat (first | refine blk_drewN ?_ _ | refine blk_drew ?_ | refine blk_alloc ?_ _)); exact BK442.out) Try.underlying29 rfl (by kernel_rfl) (.cell gb443 29 #[.int .i64 0, .int .i64 0] (0, 0) _ rfl (by (with_reducible repeat (first | refine blk_drewN ?_ _ | refine blk_drew ?_ | refine blk_alloc ?_ _)); refine blk_put (cs := #[.int .i64 0, .int .i64 0]) ?_ 1 _ rfl; (with_reducible repeat (first | refine blk_drewN ?_ _ | refine blk_drew ?_ | refine blk_alloc ?_ _)); refine blk_put (cs := #[.int .i64 0, .int .i64 0]) ?_ 0 _ rfl; (with_reducible repeat (first | refine blk_drewN ?_ _ | refine blk_drew ?_ | refine blk_alloc ?_ _)); refine blk_far ?_ NB443_442.out _; (with_reducible repeat (first | refine blk_drewN ?_ _ | refine blk_drew ?_ | refine blk_alloc ?_ _)); refine blk_far ?_ NB443_442.out _; (with_reducible repeat (first | refine blk_drewN ?_ _ | refine blk_drew ?_ | refine blk_alloc ?_ _)); exact BK443.out) Try.underlying29 rfl (by kernel_rfl) (.tmp .nil)))) rfl ?_
     exact ⟨by first | rfl | (simp [errW_none, errW_some] <;> rfl) | (simp [*, errW_none, errW_some] <;> rfl), by repeat (first | (with_reducible first | exact HB.out | apply below_alloc | apply pw_below_drewN | apply below_drew1 | refine below_set ?_ GE442.out | refine below_set ?_ GE443.out) | exact HB.out)⟩
    ·replace c12 := Bool.eq_false_iff.mpr c12
     subst c12
     have H1 : (if (l0.length : Int) = 0 then (some (0, 0, 0, 0, 3)) else (if 0 < (l0.length : Int) then ((spec_l08Draw.f kj5 ((rd_T25 l0 0).f0) ((rd_T25 l0 0).f1) a1 a2).bind fun bt447 => (spec_FlatBox.l0 kj5 l0 a1 a2 1 bt447.1 bt447.2 bt447.1 bt447.2)) else (none))) = some (r1, r2, r3, r4, r5) := by rw [if_neg (show ¬ (false = true) by decide)] at H; exact H
     clear H
     have H := H1
     clear H1
     by_cases c16 : (l0.length : Int) = 0
     ·rw [if_pos c16] at H
      have c16b0 : ((l0.length : Int) == 0) = true := beq_iff_eq.mpr c16
      have c16b1 : ((l0.length : Int) != 0) = false := bne_eq_false_iff_eq.mpr c16
      clear c16
      simp only [Option.some.injEq, Prod.mk.injEq] at H
      obtain ⟨rfl, rfl, rfl, rfl, rfl⟩ := H
      have hnb17 := NB442_443.out
      have hnc17 := NB443_442.out
      have hcz18_0 : wc.cell? ⟨gb442, 0, none⟩ = some (.int .i64 0) := (blk_cell BK442.out 0).trans rfl
      have hcz18_1 : wc.cell? ⟨gb442, 1, none⟩ = some (.int .i64 0) := (blk_cell BK442.out 1).trans rfl
      have hfz18_0 := blk_frozen BK442.out 0
      have hfz18_1 := blk_frozen BK442.out 1
      have hcz19_0 : wc.cell? ⟨gb443, 0, none⟩ = some (.int .i64 0) := (blk_cell BK443.out 0).trans rfl
      have hcz19_1 : wc.cell? ⟨gb443, 1, none⟩ = some (.int .i64 0) := (blk_cell BK443.out 1).trans rfl
      have hfz19_0 := blk_frozen BK443.out 0
      have hfz19_1 := blk_frozen BK443.out 1
      go_wp2
      refine bodyPost_ret (results_list (rs := [.cell 6 29, .cell 7 29, .tmp 8]) rfl (by simp) (.cell gb442 29 #[.int .i64 0, .int .i64 0] (0, 0) _ rfl (by (with_reducible repeat (first | refine blk_drewN ?_ _ | refine blk_drew ?_ | refine blk_alloc ?_ _)); refine blk_far ?_ NB442_443.out _; (with_reducible repeat (first | refine blk_drewN ?_ _ | refine blk_drew ?_ | refine blk_alloc ?_ _)); refine blk_far ?_ NB442_443.out _; (with_reducible repeat (first | refine blk_drewN ?_ _ | refine blk_drew ?_ | refine blk_alloc ?_ _)); refine blk_put (cs := #[.int .i64 0, .int .i64 0]) ?_ 1 _ rfl; (with_reducible repeat (first | refine blk_drewN ?_ _ | refine blk_drew ?_ | refine blk_alloc ?_ _)); refine blk_put (cs := #[.int .i64 0, .int .i64 0]) ?_ 0 _ rfl; (with_reducible repeat (first | refine blk_drewN ?_ _ | refine blk_drew ?_ | refine blk_alloc ?_ _)); exact BK442.out) Try.underlying29 rfl (by kernel_rfl) (.cell gb443 29 #[.int .i64 0, .int .i64 0] (0, 0) _ rfl (by (with_reducible repeat (first | refine blk_drewN ?_ _ | refine blk_drew ?_ | refine blk_alloc ?_ _)); refine blk_put (cs := #[.int .i64 0, .int .i64 0]) ?_ 1 _ rfl; (with_reducible repeat (first | refine blk_drewN ?_ _ | refine blk_drew ?_ | refine blk_alloc ?_ _)); refine blk_put (cs := #[.int .i64 0, .int .i64 0]) ?_ 0 _ rfl; (with_reducible repeat (first | refine blk_drewN ?_ _ | refine blk_drew ?_ | refine blk_alloc ?_ _)); refine blk_far ?_ NB443_442.out _; (with_reducible repeat (first | refine blk_drewN ?_ _ | refine blk_drew ?_ | refine blk_alloc ?_ _)); refine blk_far ?_ NB443_442.out _; (with_reducible repeat (first | refine blk_drewN ?_ _ | refine blk_drew ?_ | refine blk_alloc ?_ _)); exact BK443.out) Try.underlying29 rfl (by kernel_rfl) (.tmp .nil)))) rfl ?_
      exact ⟨by first | rfl | (simp [errW_none, errW_some] <;> rfl) | (simp [*, errW_none, errW_some] <;> rfl), by repeat (first | (with_reducible first | exact HB.out | apply below_alloc | apply pw_below_drewN | apply below_drew1 | refine below_set ?_ GE442.out | refine below_set ?_ GE443.out) | exact HB.out)⟩
     ·rw [if_neg c16] at H
      have c16b0 : ((l0.length : Int) == 0) = false := beq_eq_false_iff_ne.mpr c16
      have c16b1 : ((l0.length : Int) != 0) = true := bne_iff_ne.mpr c16
      have c16b2 : ¬ (l0 = []) := fun h_ => c16 (by rw [h_]; rfl)
      by_cases c20 : 0 < (l0.length : Int)
      ·rw [if_pos c20] at H
       have c20b0 : decide (0 < (l0.length : Int)) = true := decide_eq_true c20
       have c20b1 : decide (0 < l0.length) = true := decide_eq_true (by omega)
       clear c20
       replace H := Option.bind_eq_some_iff.mp H
       obtain ⟨⟨t447, t448⟩, A210, H⟩ := H
       replace H : (spec_FlatBox.l0 kj5 l0 a1 a2 1 t447 t448 t447 t448) = some (r1, r2, r3, r4, r5) := H
       have A21 := Aside0.mk A210
       clear A210
       have H' := Aside0.mk H
       clear H
       have p446 : 0 ≤ (0 : Int) := (by omega)
       have q446 : 0 < (l0.length : Int) := od_
       obtain ⟨ad446, e446, hx446_0, hx446_1⟩ := at_T25 HR0.out 0 p446 q446
       cases e446
       have qi446 : (0 < l0.length) = True := eq_true (by omega)
       (try rw [show ((0 : Int)).toNat = 0 from rfl] at hx446_0)
       (try rw [show 0 * 2 = 0 from rfl] at hx446_0)
       (try rw [Addr.add_zero'] at hx446_0)
       (try rw [show ((0 : Int)).toNat = 0 from rfl] at hx446_1)
       (try rw [show 0 * 2 = 0 from rfl] at hx446_1)
       (try rw [Addr.add_zero'] at hx446_1)
       replace hx446_0 := (HB.out.cell (World.block_lt_of_cell? w _ hx446_0)).trans hx446_0
       replace hx446_1 := (HB.out.cell (World.block_lt_of_cell? w _ hx446_1)).trans hx446_1
       replace p446 := eq_true p446
       replace q446 := eq_true q446
       go_wp2_with (first | ((with_reducible refine gate_callee (f := 44) rfl ?_); refine goesL_ (some 38) rfl rfl Try.func44 (by kernel_rfl) rfl #[.agg #[.int .i64 ((rd_T25 l0 0).f0), .int .i64 ((rd_T25 l0 0).f1)], .int .i64 a1, .bool a2] rfl gl_ ?_; (with_reducible refine (spec_l08Draw.calls kj5 ((rd_T25 l0 0).f0) ((rd_T25 l0 0).f1) a1 a2 t447 t448 _ A21.out).mono ?_); rintro e w22 ⟨rfl, hb⟩; refine ⟨_, rfl, ?_⟩; have n0_ := Aside0.mk (blk_below (bk_ BK442.out) hb); have n1_ := Aside0.mk (blk_below (bk_ BK443.out) hb); have n2_ := Aside0.mk (below_step (bws_ HB.out) hb); clear BK442; clear BK443; clear HB; have BK442 := n0_; have BK443 := n1_; have HB := n2_; clear n0_ n1_ n2_; (try clear hb); (try clear hb2); (try clear hk); (try clear hi)) | ((with_reducible refine gate_dst (N := 9) rfl ?_); refine box_event ?hg (N := 9) ?hd (cs := #[.int .i64 0, .int .i64 0]) (t := 29) ?hr ?_; (case hd => rfl); (case hg => rfl); (case hr => first | (go_simp; done) | (go_simp; rfl)); intro gb449 hg w23 hbox hb; have n0_ := Aside0.mk (blk_below (bk_ BK442.out) hb); have n1_ := Aside0.mk (blk_below (bk_ BK443.out) hb); have n2_ := Aside0.mk (below_step (bws_ HB.out) hb); have n3_ := Aside0.mk (hbox); have n4_ := Aside0.mk ((ge_ hg (bws_ HB.out))); have n5_ := Aside0.mk ((ge_ hg (bws_ HB.out))); have n6_ := Aside0.mk ((ne1_ hg (bk_ BK442.out))); have n7_ := Aside0.mk ((ne2_ hg (bk_ BK442.out))); have n8_ := Aside0.mk ((ne1_ hg (bk_ BK443.out))); have n9_ := Aside0.mk ((ne2_ hg (bk_ BK443.out))); clear BK442; clear BK443; clear HB; have BK442 := n0_; have BK443 := n1_; have HB := n2_; have BK449 := n3_; have GW449 := n4_; have GE449 := n5_; have NB442_449 := n6_; have NB449_442 := n7_; have NB443_449 := n8_; have NB449_443 := n9_; clear n0_ n1_ n2_ n3_ n4_ n5_ n6_ n7_ n8_ n9_; clear hb hbox hg; have hnb24 := NB449_442.out; have hnc24 := NB442_449.out; have hnb25 := NB449_443.out; have hnc25 := NB443_449.out; have hcz26_0 : w23.cell? ⟨gb449, 0, none⟩ = some (.int .i64 0) := (blk_cell BK449.out 0).trans rfl; have hcz26_1 : w23.cell? ⟨gb449, 1, none⟩ = some (.int .i64 0) := (blk_cell BK449.out 1).trans rfl; have hfz26_0 := blk_frozen BK449.out 0; have hfz26_1 := blk_frozen BK449.out 1) | ((with_reducible refine gate_dst (N := 10) rfl ?_); refine box_event ?hg (N := 10) ?hd (cs := #[.int .i64 0, .int .i64 0]) (t := 29) ?hr ?_; (case hd => rfl); (case hg => rfl); (case hr => first | (go_simp; done) | (go_simp; rfl)); intro gb450 hg w27 hbox hb; have n0_ := Aside0.mk (blk_below (bf_ NB442_449.out BK442.out) hb); have n1_ := Aside0.mk (blk_below (bf_ NB443_449.out BK443.out) hb); have n2_ := Aside0.mk (blk_below (g := gb449) (o := .cells #[.int .i64 t447, .int .i64 t448] 29 (0, 0)) (by (with_reducible repeat (first | refine blk_drewN ?_ _ | refine blk_drew ?_ | refine blk_alloc ?_ _)); refine blk_put (cs := #[.int .i64 t447, .int .i64 0]) ?_ 1 _ rfl; (with_reducible repeat (first | refine blk_drewN ?_ _ | refine blk_drew ?_ | refine blk_alloc ?_ _)); refine blk_put (cs := #[.int .i64 0, .int .i64 0]) ?_ 0 _ rfl; (with_reducible repeat (first | refine blk_drewN ?_ _ | refine blk_drew ?_ | refine blk_alloc ?_ _)); exact BK449.out) hb); have n3_ := Aside0.mk (below_step (bws_ HB.out) hb); have n4_ := Aside0.mk (hbox); have n5_ := Aside0.mk ((ge_ hg (bws_ HB.out))); have n6_ := Aside0.mk ((ge_ hg (bws_ HB.out))); have n7_ := Aside0.mk ((ne1_ hg (bf_ NB442_449.out BK442.out))); have n8_ := Aside0.mk ((ne2_ hg (bf_ NB442_449.out BK442.out))); have n9_ := Aside0.mk ((ne1_ hg (bf_ NB443_449.out BK443.out))); have n10_ := Aside0.mk ((ne2_ hg (bf_ NB443_449.out BK443.out))); have n11_ := Aside0.mk ((by rw [hg]; exact Nat.ne_of_lt (blk_lt (g := gb449) (o := .cells #[.int .i64 t447, .int .i64 t448] 29 (0, 0)) (by (with_reducible repeat (first | refine blk_drewN ?_ _ | refine blk_drew ?_ | refine blk_alloc ?_ _)); refine blk_put (cs := #[.int .i64 t447, .int .i64 0]) ?_ 1 _ rfl; (with_reducible repeat (first | refine blk_drewN ?_ _ | refine blk_drew ?_ | refine blk_alloc ?_ _)); refine blk_put (cs := #[.int .i64 0, .int .i64 0]) ?_ 0 _ rfl; (with_reducible repeat (first | refine blk_drewN ?_ _ | refine blk_drew ?_ | refine blk_alloc ?_ _)); exact BK449.out)) : gb449 ≠ gb450)); have n12_ := Aside0.mk ((by rw [hg]; exact Nat.ne_of_gt (blk_lt (g := gb449) (o := .cells #[.int .i64 t447, .int .i64 t448] 29 (0, 0)) (by (with_reducible repeat (first | refine blk_drewN ?_ _ | refine blk_drew ?_ | refine blk_alloc ?_ _)); refine blk_put (cs := #[.int .i64 t447, .int .i64 0]) ?_ 1 _ rfl; (with_reducible repeat (first | refine blk_drewN ?_ _ | refine blk_drew ?_ | refine blk_alloc ?_ _)); refine blk_put (cs := #[.int .i64 0, .int .i64 0]) ?_ 0 _ rfl; (with_reducible repeat (first | refine blk_drewN ?_ _ | refine blk_drew ?_ | refine blk_alloc ?_ _)); exact BK449.out)) : gb450 ≠ gb449)); clear BK442; clear BK443; clear BK449; clear HB; have BK442 := n0_; have BK443 := n1_; have BK449 := n2_; have HB := n3_; have BK450 := n4_; have GW450 := n5_; have GE450 := n6_; have NB442_450 := n7_; have NB450_442 := n8_; have NB443_450 := n9_; have NB450_443 := n10_; have NB449_450 := n11_; have NB450_449 := n12_; clear n0_ n1_ n2_ n3_ n4_ n5_ n6_ n7_ n8_ n9_ n10_ n11_ n12_; clear hb hbox hg; have hnb28 := NB450_442.out; have hnc28 := NB442_450.out; have hnb29 := NB450_443.out; have hnc29 := NB443_450.out; have hnb30 := NB450_449.out; have hnc30 := NB449_450.out; have hcz31_0 : w27.cell? ⟨gb450, 0, none⟩ = some (.int .i64 0) := (blk_cell BK450.out 0).trans rfl; have hcz31_1 : w27.cell? ⟨gb450, 1, none⟩ = some (.int .i64 0) := (blk_cell BK450.out 1).trans rfl; have hfz31_0 := blk_frozen BK450.out 0; have hfz31_1 := blk_frozen BK450.out 1))
       go_loopg [11] kj5 (fun kq v11 w' => ∃ (x11_2 : Int) (x450000_2 : Int) (x450001_2 : Int) (x451000_2 : Int) (x451001_2 : Int), v11 = .int .i64 x11_2 ∧ Aside0 (spec_FlatBox.l0 kq l0 a1 a2 x11_2 x450000_2 x450001_2 x451000_2 x451001_2 = some (r1, r2, r3, r4, r5)) ∧ Aside0 (kq ≤ kj5) ∧ Aside0 (w'.heap[gb442]? = some (.cells #[.int .i64 0, .int .i64 0] 29 (0, 0))) ∧ Aside0 (w'.heap[gb443]? = some (.cells #[.int .i64 0, .int .i64 0] 29 (0, 0))) ∧ Aside0 (w'.heap[gb449]? = some (.cells #[.int .i64 x450000_2, .int .i64 x450001_2] 29 (0, 0))) ∧ Aside0 (w'.heap[gb450]? = some (.cells #[.int .i64 x451000_2, .int .i64 x451001_2] 29 (0, 0))) ∧ Aside0 (Below w.heap.size w w'))
       case atStart => exact ⟨(1), (t447), (t448), (t447), (t448), (by first | rfl | (simp; done) | (simp [*]; done)), H', ⟨Nat.le_refl _⟩, ⟨bf2_ NB442_450.out BK442.out⟩, ⟨bf2_ NB443_450.out BK443.out⟩, ⟨bf2_ NB449_450.out BK449.out⟩, ⟨by (with_reducible repeat (first | refine blk_drewN ?_ _ | refine blk_drew ?_ | refine blk_alloc ?_ _)); refine blk_put (cs := #[.int .i64 t447, .int .i64 0]) ?_ 1 _ rfl; (with_reducible repeat (first | refine blk_drewN ?_ _ | refine blk_drew ?_ | refine blk_alloc ?_ _)); refine blk_put (cs := #[.int .i64 0, .int .i64 0]) ?_ 0 _ rfl; (with_reducible repeat (first | refine blk_drewN ?_ _ | refine blk_drew ?_ | refine blk_alloc ?_ _)); exact BK450.out⟩, ⟨bws_ HB.out⟩⟩
       case round =>
        clear H'
        try clear c1
        try clear c2
        try clear p2
        try clear c3
        try clear c4
        try clear p4
        try clear q4
        try clear hx4
        try clear qi4
        try clear c5
        try clear c10
        try clear c10b0
        try clear c10b1
        try clear c12
        try clear c13
        try clear c16
        try clear c16b0
        try clear c16b1
        try clear c16b2
        try clear c17
        try clear c20
        try clear c20b0
        try clear c20b1
        try clear c24
        try clear c25
        try clear c28
        try clear c29
        try clear c30
        try clear hcz14_0
        try clear hcz14_1
        try clear hcz15_0
        try clear hcz15_1
        try clear hcz18_0
        try clear hcz18_1
        try clear hcz19_0
        try clear hcz19_1
        try clear hcz26_0
        try clear hcz26_1
        try clear hcz31_0
        try clear hcz31_1
        try clear hfz14_0
        try clear hfz14_1
        try clear hfz15_0
        try clear hfz15_1
        try clear hfz18_0
        try clear hfz18_1
        try clear hfz19_0
        try clear hfz19_1
        try clear hfz26_0
        try clear hfz26_1
        try clear hfz31_0
        try clear hfz31_1
        try clear hx446_0
        try clear hx446_1
        try clear p2
        try clear p446
        try clear q446
        obtain ⟨x11_2, x450000_2, x450001_2, x451000_2, x451001_2, rfl, HA, HK2, BK442, BK443, BK449, BK450, HB⟩ := hrel
        cases gk with
        | zero => exact absurd HA.out (by simp [spec_FlatBox.l0])
        | succ k2 =>
         have H := HA.out
         clear HA
         simp only [spec_FlatBox.l0] at H
         by_cases c32 : x11_2 < (l0.length : Int)
         ·rw [if_pos c32] at H
          have c32b0 : decide (x11_2 < (l0.length : Int)) = true := decide_eq_true c32
          clear c32
          by_cases c33 : 0 ≤ x11_2
          ·rw [if_pos c33] at H
           have c33b0 : decide (0 ≤ x11_2) = true := decide_eq_true c33
           clear c33
           replace H := Option.bind_eq_some_iff.mp H
           obtain ⟨⟨t452, t453⟩, A340, H⟩ := H
           replace H : ((spec_l00Min.f x450000_2 t452).bind fun t455 => ((spec_l00Min.f x450001_2 t453).bind fun t456 => ((spec_l00Max.f x451000_2 t452).bind fun t457 => ((spec_l00Max.f x451001_2 t453).bind fun t458 => (spec_FlatBox.l0 k2 l0 a1 a2 (wrap64 (x11_2 + 1)) t455 t456 t457 t458))))) = some (r1, r2, r3, r4, r5) := H
           have A34 := Aside0.mk A340
           clear A340
           replace H := Option.bind_eq_some_iff.mp H
           obtain ⟨t455, A350, H⟩ := H
           replace H : ((spec_l00Min.f x450001_2 t453).bind fun t456 => ((spec_l00Max.f x451000_2 t452).bind fun t457 => ((spec_l00Max.f x451001_2 t453).bind fun t458 => (spec_FlatBox.l0 k2 l0 a1 a2 (wrap64 (x11_2 + 1)) t455 t456 t457 t458)))) = some (r1, r2, r3, r4, r5) := H
           have A35 := Aside0.mk A350
           clear A350
           replace H := Option.bind_eq_some_iff.mp H
           obtain ⟨t456, A360, H⟩ := H
           replace H : ((spec_l00Max.f x451000_2 t452).bind fun t457 => ((spec_l00Max.f x451001_2 t453).bind fun t458 => (spec_FlatBox.l0 k2 l0 a1 a2 (wrap64 (x11_2 + 1)) t455 t456 t457 t458))) = some (r1, r2, r3, r4, r5) := H
           have A36 := Aside0.mk A360
           clear A360
           replace H := Option.bind_eq_some_iff.mp H
           obtain ⟨t457, A370, H⟩ := H
           replace H : ((spec_l00Max.f x451001_2 t453).bind fun t458 => (spec_FlatBox.l0 k2 l0 a1 a2 (wrap64 (x11_2 + 1)) t455 t456 t457 t458)) = some (r1, r2, r3, r4, r5) := H
           have A37 := Aside0.mk A370
           clear A370
           replace H := Option.bind_eq_some_iff.mp H
           obtain ⟨t458, A380, H⟩ := H
           replace H : (spec_FlatBox.l0 k2 l0 a1 a2 (wrap64 (x11_2 + 1)) t455 t456 t457 t458) = some (r1, r2, r3, r4, r5) := H
           have A38 := Aside0.mk A380
           clear A380
           have H' := Aside0.mk H
           clear H
           have p451 : 0 ≤ (x11_2 : Int) := od_
           have q451 : x11_2 < (l0.length : Int) := od_
           obtain ⟨ad451, e451, hx451_0, hx451_1⟩ := at_T25 HR0.out x11_2 p451 q451
           obtain rfl : ad446 = ad451 := (by injection e451)
           replace hx451_0 := (HB.out.cell (World.block_lt_of_cell? w _ hx451_0)).trans hx451_0
           replace hx451_1 := (HB.out.cell (World.block_lt_of_cell? w _ hx451_1)).trans hx451_1
           replace p451 := eq_true p451
           replace q451 := eq_true q451
           try go_wp2_with (first | ((with_reducible refine gate_callee (f := 44) rfl ?_); refine goesL_ (some 52) rfl rfl Try.func44 (by kernel_rfl) rfl #[.agg #[.int .i64 ((rd_T25 l0 x11_2).f0), .int .i64 ((rd_T25 l0 x11_2).f1)], .int .i64 a1, .bool a2] rfl gl_ ?_; (with_reducible refine (spec_l08Draw.calls k2 ((rd_T25 l0 x11_2).f0) ((rd_T25 l0 x11_2).f1) a1 a2 t452 t453 _ A34.out).mono ?_); rintro e w39 ⟨rfl, hb⟩; refine ⟨_, rfl, ?_⟩; have n0_ := Aside0.mk (blk_below (bk_ BK442.out) hb); have n1_ := Aside0.mk (blk_below (bk_ BK443.out) hb); have n2_ := Aside0.mk (blk_below (bk_ BK449.out) hb); have n3_ := Aside0.mk (blk_below (bk_ BK450.out) hb); have n4_ := Aside0.mk (below_step (bws_ HB.out) hb); clear BK442; clear BK443; clear BK449; clear BK450; clear HB; have BK442 := n0_; have BK443 := n1_; have BK449 := n2_; have BK450 := n3_; have HB := n4_; clear n0_ n1_ n2_ n3_ n4_; (try clear hb); (try clear hb2); (try clear hk); (try clear hi)) | ((with_reducible refine gate_dst (N := 12) rfl ?_); refine box_event ?hg (N := 12) ?hd (cs := #[.int .i64 0, .int .i64 0]) (t := 29) ?hr ?_; (case hd => rfl); (case hg => rfl); (case hr => first | (go_simp; done) | (go_simp; rfl)); intro gb454 hg w40 hbox hb; have n0_ := Aside0.mk (blk_below (bk_ BK442.out) hb); have n1_ := Aside0.mk (blk_below (bk_ BK443.out) hb); have n2_ := Aside0.mk (blk_below (bk_ BK449.out) hb); have n3_ := Aside0.mk (blk_below (bk_ BK450.out) hb); have n4_ := Aside0.mk (below_step (bws_ HB.out) hb); have n5_ := Aside0.mk (hbox); have n6_ := Aside0.mk ((ge_ hg (bws_ HB.out))); have n7_ := Aside0.mk ((ge_ hg (bws_ HB.out))); have n8_ := Aside0.mk ((ne1_ hg (bk_ BK442.out))); have n9_ := Aside0.mk ((ne2_ hg (bk_ BK442.out))); have n10_ := Aside0.mk ((ne1_ hg (bk_ BK443.out))); have n11_ := Aside0.mk ((ne2_ hg (bk_ BK443.out))); have n12_ := Aside0.mk ((ne1_ hg (bk_ BK449.out))); have n13_ := Aside0.mk ((ne2_ hg (bk_ BK449.out))); have n14_ := Aside0.mk ((ne1_ hg (bk_ BK450.out))); have n15_ := Aside0.mk ((ne2_ hg (bk_ BK450.out))); clear BK442; clear BK443; clear BK449; clear BK450; clear HB; have BK442 := n0_; have BK443 := n1_; have BK449 := n2_; have BK450 := n3_; have HB := n4_; have BK454 := n5_; have GW454 := n6_; have GE454 := n7_; have NB442_454 := n8_; have NB454_442 := n9_; have NB443_454 := n10_; have NB454_443 := n11_; have NB449_454 := n12_; have NB454_449 := n13_; have NB450_454 := n14_; have NB454_450 := n15_; clear n0_ n1_ n2_ n3_ n4_ n5_ n6_ n7_ n8_ n9_ n10_ n11_ n12_ n13_ n14_ n15_; clear hb hbox hg; have hnb41 := NB454_442.out; have hnc41 := NB442_454.out; have hnb42 := NB454_443.out; have hnc42 := NB443_454.out; have hnb43 := NB454_449.out; have hnc43 := NB449_454.out; have hnb44 := NB454_450.out; have hnc44 := NB450_454.out; have hcz45_0 : w40.cell? ⟨gb454, 0, none⟩ = some (.int .i64 0) := (blk_cell BK454.out 0).trans rfl; have hcz45_1 : w40.cell? ⟨gb454, 1, none⟩ = some (.int .i64 0) := (blk_cell BK454.out 1).trans rfl; have hfz45_0 := blk_frozen BK454.out 0; have hfz45_1 := blk_frozen BK454.out 1))
           have n0_ : Aside0 (((w40.setCell ⟨gb454, 0, none⟩ (.int .i64 t452)).setCell ⟨gb454, 1, none⟩ (.int .i64 t453)).heap[gb442]? = some (.cells #[.int .i64 0, .int .i64 0] 29 (0, 0))) := ⟨bf2_ NB442_454.out BK442.out⟩
           have n1_ : Aside0 (((w40.setCell ⟨gb454, 0, none⟩ (.int .i64 t452)).setCell ⟨gb454, 1, none⟩ (.int .i64 t453)).heap[gb443]? = some (.cells #[.int .i64 0, .int .i64 0] 29 (0, 0))) := ⟨bf2_ NB443_454.out BK443.out⟩
           have n2_ : Aside0 (((w40.setCell ⟨gb454, 0, none⟩ (.int .i64 t452)).setCell ⟨gb454, 1, none⟩ (.int .i64 t453)).heap[gb449]? = some (.cells #[.int .i64 x450000_2, .int .i64 x450001_2] 29 (0, 0))) := ⟨bf2_ NB449_454.out BK449.out⟩
           have n3_ : Aside0 (((w40.setCell ⟨gb454, 0, none⟩ (.int .i64 t452)).setCell ⟨gb454, 1, none⟩ (.int .i64 t453)).heap[gb450]? = some (.cells #[.int .i64 x451000_2, .int .i64 x451001_2] 29 (0, 0))) := ⟨bf2_ NB450_454.out BK450.out⟩
           have n4_ : Aside0 (((w40.setCell ⟨gb454, 0, none⟩ (.int .i64 t452)).setCell ⟨gb454, 1, none⟩ (.int .i64 t453)).heap[gb454]? = some (.cells #[.int .i64 t452, .int .i64 t453] 29 (0, 0))) := ⟨by (with_reducible repeat (first | refine blk_drewN ?_ _ | refine blk_drew ?_ | refine blk_alloc ?_ _)); refine blk_put (cs := #[.int .i64 t452, .int .i64 0]) ?_ 1 _ rfl; (with_reducible repeat (first | refine blk_drewN ?_ _ | refine blk_drew ?_ | refine blk_alloc ?_ _)); refine blk_put (cs := #[.int .i64 0, .int .i64 0]) ?_ 0 _ rfl; (with_reducible repeat (first | refine blk_drewN ?_ _ | refine blk_drew ?_ | refine blk_alloc ?_ _)); exact BK454.out⟩
           have n5_ : Aside0 (Below w.heap.size w ((w40.setCell ⟨gb454, 0, none⟩ (.int .i64 t452)).setCell ⟨gb454, 1, none⟩ (.int .i64 t453))) := ⟨bws_ HB.out⟩
           (try clear BK442)
           (try clear BK443)
           (try clear BK449)
           (try clear BK450)
           (try clear BK454)
           (try clear HB)
           generalize ((w40.setCell ⟨gb454, 0, none⟩ (.int .i64 t452)).setCell ⟨gb454, 1, none⟩ (.int .i64 t453)) = w46 at n0_ n1_ n2_ n3_ n4_ n5_ ⊢
           have BK442 := n0_; have BK443 := n1_; have BK449 := n2_; have BK450 := n3_; have BK454 := n4_; have HB := n5_
           clear n0_ n1_ n2_ n3_ n4_ n5_
           have n0_ := Aside0.mk (blk_drew BK442.out)
           have n1_ := Aside0.mk (blk_drew BK443.out)
           have n2_ := Aside0.mk (blk_drew BK449.out)
           have n3_ := Aside0.mk (blk_drew BK450.out)
           have n4_ := Aside0.mk (blk_drew BK454.out)
           have n5_ := Aside0.mk (below_drew1 HB.out)
           clear BK442 BK443 BK449 BK450 BK454 HB
           have BK442 := n0_; have BK443 := n1_; have BK449 := n2_; have BK450 := n3_; have BK454 := n4_; have HB := n5_
           clear n0_ n1_ n2_ n3_ n4_ n5_
           refine start_ (n := 12) (S := fun w' => w'.cell? ⟨gb449, 0, none⟩ = some (.int .i64 x450000_2) ∧ w'.cell? ⟨gb449, 1, none⟩ = some (.int .i64 x450001_2) ∧ w'.cell? ⟨gb454, 0, none⟩ = some (.int .i64 t452) ∧ w'.cell? ⟨gb454, 1, none⟩ = some (.int .i64 t453)) (ds := [11]) #[false, false, false, false, false, false, false, false, false, false, false, false] (by kernel_rfl) rfl rfl ⟨(blk_cell BK449.out 0).trans rfl, (blk_cell BK449.out 1).trans rfl, (blk_cell BK454.out 0).trans rfl, (blk_cell BK454.out 1).trans rfl⟩ (fun hHeld => ?_); refine with_tabW spec_FlatBox.tab13 spec_FlatBox.bits13 (fun HT_ HW_ => ?_)
           generalize w46.drew = w47 at BK442 BK443 BK449 BK450 BK454 HB hHeld ⊢
           refine pure_ (i := 0) (N := some 53) (v := ?_) (a' := ?_) #[true, false, false, false, false, false, false, false, false, false, false, false] rfl rfl (any_of HT_.out (by kernel_rfl)) (fun _ _ _ h => h) (Or.inl ⟨by rfl, ?_⟩) ?_ ?_
           rotate_left
           ·intro w'
            go_simp
            with_reducible rfl
           rotate_left
           ·simp only [Act.put, List.setIfInBounds_toArray, List.set_cons_zero, List.set_cons_succ, i64_w, i32_w]
            rfl
           refine pure_ (i := 2) (N := some 55) (v := ?_) (a' := ?_) #[true, false, true, false, false, false, false, false, false, false, false, false] rfl rfl (any_of HT_.out (by kernel_rfl)) (fun _ _ _ h => h) (Or.inl ⟨by rfl, ?_⟩) ?_ ?_
           rotate_left
           ·intro w'
            go_simp
            with_reducible rfl
           rotate_left
           ·simp only [Act.put, List.setIfInBounds_toArray, List.set_cons_zero, List.set_cons_succ, i64_w, i32_w]
            rfl
           refine pure_ (i := 5) (N := some 58) (v := ?_) (a' := ?_) #[true, false, true, false, false, true, false, false, false, false, false, false] rfl rfl (any_of HT_.out (by kernel_rfl)) (fun _ _ _ h => h) (Or.inl ⟨by rfl, ?_⟩) ?_ ?_
           rotate_left
           ·intro w'
            go_simp
            with_reducible rfl
           rotate_left
           ·simp only [Act.put, List.setIfInBounds_toArray, List.set_cons_zero, List.set_cons_succ, i64_w, i32_w]
            rfl
           refine pure_ (i := 7) (N := some 60) (v := ?_) (a' := ?_) #[true, false, true, false, false, true, false, true, false, false, false, false] rfl rfl (any_of HT_.out (by kernel_rfl)) (fun _ _ _ h => h) (Or.inl ⟨by rfl, ?_⟩) ?_ ?_
           rotate_left
           ·intro w'
            go_simp
            with_reducible rfl
           rotate_left
           ·simp only [Act.put, List.setIfInBounds_toArray, List.set_cons_zero, List.set_cons_succ, i64_w, i32_w]
            rfl
           refine take_ (i := 1) (N := some 54) (v := ?_) (a' := ?_) #[true, true, true, false, false, true, false, true, false, false, false, false] rfl rfl (take_ofW HT_.out HW_.out (by kernel_rfl)) (fun _ _ _ h => h) (Or.inl ⟨by rfl, ?_⟩) hHeld ?_ ?_
           rotate_left
           ·rintro w' ⟨s0, s1, s2, s3⟩
            go_simp
            with_reducible rfl
           rotate_left
           ·simp only [Act.put, List.setIfInBounds_toArray, List.set_cons_zero, List.set_cons_succ, i64_w, i32_w]
            rfl
           refine take_ (i := 3) (N := some 56) (v := ?_) (a' := ?_) #[true, true, true, true, false, true, false, true, false, false, false, false] rfl rfl (take_ofW HT_.out HW_.out (by kernel_rfl)) (fun _ _ _ h => h) (Or.inl ⟨by rfl, ?_⟩) hHeld ?_ ?_
           rotate_left
           ·rintro w' ⟨s0, s1, s2, s3⟩
            go_simp
            with_reducible rfl
           rotate_left
           ·simp only [Act.put, List.setIfInBounds_toArray, List.set_cons_zero, List.set_cons_succ, i64_w, i32_w]
            rfl
           refine take_ (i := 6) (N := some 59) (v := ?_) (a' := ?_) #[true, true, true, true, false, true, true, true, false, false, false, false] rfl rfl (take_ofW HT_.out HW_.out (by kernel_rfl)) (fun _ _ _ h => h) (Or.inl ⟨by rfl, ?_⟩) hHeld ?_ ?_
           rotate_left
           ·rintro w' ⟨s0, s1, s2, s3⟩
            go_simp
            with_reducible rfl
           rotate_left
           ·simp only [Act.put, List.setIfInBounds_toArray, List.set_cons_zero, List.set_cons_succ, i64_w, i32_w]
            rfl
           refine take_ (i := 8) (N := some 61) (v := ?_) (a' := ?_) #[true, true, true, true, false, true, true, true, true, false, false, false] rfl rfl (take_ofW HT_.out HW_.out (by kernel_rfl)) (fun _ _ _ h => h) (Or.inl ⟨by rfl, ?_⟩) hHeld ?_ ?_
           rotate_left
           ·rintro w' ⟨s0, s1, s2, s3⟩
            go_simp
            with_reducible rfl
           rotate_left
           ·simp only [Act.put, List.setIfInBounds_toArray, List.set_cons_zero, List.set_cons_succ, i64_w, i32_w]
            rfl
           refine one_ (i := 4) (N := some 57) #[true, true, true, true, true, true, true, true, true, false, false, false] rfl rfl (one_of HT_.out (by kernel_rfl)) (by decide) (fun K hK => ?_)
           refine goes_ Try.func45 (by kernel_rfl) rfl #[.int .i64 x450000_2, .int .i64 t452] (by rfl) rfl rfl gl_ ?_
           with_reducible refine (spec_l00Min.calls x450000_2 t452 t455 _ A35.out).mono ?_
           rintro e w' ⟨rfl, ⟨nd, rfl⟩⟩
           refine ⟨_, rfl, ?_⟩
           (try (rw [drewN_self w47]; generalize hq_ : World.drewN w47 _ = w47; have n0_ : Aside0 (w47.heap[gb442]? = some (.cells #[.int .i64 0, .int .i64 0] 29 (0, 0))) := ⟨by rw [← hq_]; exact (bk_ BK442.out)⟩; have n1_ : Aside0 (w47.heap[gb443]? = some (.cells #[.int .i64 0, .int .i64 0] 29 (0, 0))) := ⟨by rw [← hq_]; exact (bk_ BK443.out)⟩; have n2_ : Aside0 (w47.heap[gb449]? = some (.cells #[.int .i64 x450000_2, .int .i64 x450001_2] 29 (0, 0))) := ⟨by rw [← hq_]; exact (bk_ BK449.out)⟩; have n3_ : Aside0 (w47.heap[gb450]? = some (.cells #[.int .i64 x451000_2, .int .i64 x451001_2] 29 (0, 0))) := ⟨by rw [← hq_]; exact (bk_ BK450.out)⟩; have n4_ : Aside0 (w47.heap[gb454]? = some (.cells #[.int .i64 t452, .int .i64 t453] 29 (0, 0))) := ⟨by rw [← hq_]; exact (bk_ BK454.out)⟩; have n5_ : Aside0 (Below w.heap.size w w47) := ⟨by rw [← hq_]; exact (bws_ HB.out)⟩; clear BK442 BK443 BK449 BK450 BK454 HB hq_; have BK442 := n0_; have BK443 := n1_; have BK449 := n2_; have BK450 := n3_; have BK454 := n4_; have HB := n5_; clear n0_ n1_ n2_ n3_ n4_ n5_))
           refine hK.out _ _ ⟨(blk_cell BK449.out 0).trans rfl, (blk_cell BK449.out 1).trans rfl, (blk_cell BK454.out 0).trans rfl, (blk_cell BK454.out 1).trans rfl⟩ (fun hHeld => ?_)
           clear hK K
           refine norm_ (a' := ?_) ?_ ?_
           rotate_left
           ·show Act.put _ (some 57) _ = _
            simp only [Act.put, List.setIfInBounds_toArray, List.set_cons_zero, List.set_cons_succ, i64_w, i32_w]
            rfl
           refine one_ (i := 9) (N := some 62) #[true, true, true, true, true, true, true, true, true, true, false, false] rfl rfl (one_of HT_.out (by kernel_rfl)) (by decide) (fun K hK => ?_)
           refine goes_ Try.func45 (by kernel_rfl) rfl #[.int .i64 x450001_2, .int .i64 t453] (by rfl) rfl rfl gl_ ?_
           with_reducible refine (spec_l00Min.calls x450001_2 t453 t456 _ A36.out).mono ?_
           rintro e w' ⟨rfl, ⟨nd, rfl⟩⟩
           refine ⟨_, rfl, ?_⟩
           (try (rw [drewN_self w47]; generalize hq_ : World.drewN w47 _ = w47; have n0_ : Aside0 (w47.heap[gb442]? = some (.cells #[.int .i64 0, .int .i64 0] 29 (0, 0))) := ⟨by rw [← hq_]; exact (bk_ BK442.out)⟩; have n1_ : Aside0 (w47.heap[gb443]? = some (.cells #[.int .i64 0, .int .i64 0] 29 (0, 0))) := ⟨by rw [← hq_]; exact (bk_ BK443.out)⟩; have n2_ : Aside0 (w47.heap[gb449]? = some (.cells #[.int .i64 x450000_2, .int .i64 x450001_2] 29 (0, 0))) := ⟨by rw [← hq_]; exact (bk_ BK449.out)⟩; have n3_ : Aside0 (w47.heap[gb450]? = some (.cells #[.int .i64 x451000_2, .int .i64 x451001_2] 29 (0, 0))) := ⟨by rw [← hq_]; exact (bk_ BK450.out)⟩; have n4_ : Aside0 (w47.heap[gb454]? = some (.cells #[.int .i64 t452, .int .i64 t453] 29 (0, 0))) := ⟨by rw [← hq_]; exact (bk_ BK454.out)⟩; have n5_ : Aside0 (Below w.heap.size w w47) := ⟨by rw [← hq_]; exact (bws_ HB.out)⟩; clear BK442 BK443 BK449 BK450 BK454 HB hq_; have BK442 := n0_; have BK443 := n1_; have BK449 := n2_; have BK450 := n3_; have BK454 := n4_; have HB := n5_; clear n0_ n1_ n2_ n3_ n4_ n5_))
           refine hK.out _ _ ⟨(blk_cell BK449.out 0).trans rfl, (blk_cell BK449.out 1).trans rfl, (blk_cell BK454.out 0).trans rfl, (blk_cell BK454.out 1).trans rfl⟩ (fun hHeld => ?_)
           clear hK K
           refine norm_ (a' := ?_) ?_ ?_
           rotate_left
           ·show Act.put _ (some 62) _ = _
            simp only [Act.put, List.setIfInBounds_toArray, List.set_cons_zero, List.set_cons_succ, i64_w, i32_w]
            rfl
           refine pure_ (i := 10) (N := some 63) (v := ?_) (a' := ?_) #[true, true, true, true, true, true, true, true, true, true, true, false] rfl rfl (any_of HT_.out (by kernel_rfl)) (fun _ _ _ h => h) (Or.inl ⟨by rfl, ?_⟩) ?_ ?_
           rotate_left
           ·intro w'
            go_simp
            with_reducible rfl
           rotate_left
           ·simp only [Act.put, List.setIfInBounds_toArray, List.set_cons_zero, List.set_cons_succ, i64_w, i32_w]
            rfl
           refine last_ (i := 11) (N := none) #[true, true, true, true, true, true, true, true, true, true, true, true] rfl rfl (one_of HT_.out (by kernel_rfl)) (by decide) (fun K hK => ?_)
           have hs48 : w47.cell? ⟨gb449, 0, none⟩ = some (.int .i64 x450000_2) := (blk_cell BK449.out 0).trans rfl
           have hfs48 := blk_frozen BK449.out 0
           have hns48_0 := NB442_449.out
           have hns48_1 := NB443_449.out
           have hns48_3 := NB450_449.out
           have hns48_4 := NB454_449.out
           have hms48_0 := NB449_442.out
           have hms48_1 := NB449_443.out
           have hms48_3 := NB449_450.out
           have hms48_4 := NB449_454.out
           have hs49 : w47.cell? ⟨gb449, 1, none⟩ = some (.int .i64 x450001_2) := (blk_cell BK449.out 1).trans rfl
           have hfs49 := blk_frozen BK449.out 1
           have hns49_0 := NB442_449.out
           have hns49_1 := NB443_449.out
           have hns49_3 := NB450_449.out
           have hns49_4 := NB454_449.out
           have hms49_0 := NB449_442.out
           have hms49_1 := NB449_443.out
           have hms49_3 := NB449_450.out
           have hms49_4 := NB449_454.out
           refine skip_ (w1 := ?_) (by rfl) rfl ?_ ?_
           rotate_left
           ·go_simp
            rfl
           refine hK.out _ _ ?_
           clear hK K
           refine done_ (done_of HT_.out (by kernel_rfl)) ?_
           try go_wp2
           have n0_ : Aside0 (((w47.setCell ⟨gb449, 0, none⟩ (.int .i64 t455)).setCell ⟨gb449, 1, none⟩ (.int .i64 t456)).heap[gb442]? = some (.cells #[.int .i64 0, .int .i64 0] 29 (0, 0))) := ⟨bf2_ NB442_449.out BK442.out⟩
           have n1_ : Aside0 (((w47.setCell ⟨gb449, 0, none⟩ (.int .i64 t455)).setCell ⟨gb449, 1, none⟩ (.int .i64 t456)).heap[gb443]? = some (.cells #[.int .i64 0, .int .i64 0] 29 (0, 0))) := ⟨bf2_ NB443_449.out BK443.out⟩
           have n2_ : Aside0 (((w47.setCell ⟨gb449, 0, none⟩ (.int .i64 t455)).setCell ⟨gb449, 1, none⟩ (.int .i64 t456)).heap[gb449]? = some (.cells #[.int .i64 t455, .int .i64 t456] 29 (0, 0))) := ⟨by (with_reducible repeat (first | refine blk_drewN ?_ _ | refine blk_drew ?_ | refine blk_alloc ?_ _)); refine blk_put (cs := #[.int .i64 t455, .int .i64 x450001_2]) ?_ 1 _ rfl; (with_reducible repeat (first | refine blk_drewN ?_ _ | refine blk_drew ?_ | refine blk_alloc ?_ _)); refine blk_put (cs := #[.int .i64 x450000_2, .int .i64 x450001_2]) ?_ 0 _ rfl; (with_reducible repeat (first | refine blk_drewN ?_ _ | refine blk_drew ?_ | refine blk_alloc ?_ _)); exact BK449.out⟩
           have n3_ : Aside0 (((w47.setCell ⟨gb449, 0, none⟩ (.int .i64 t455)).setCell ⟨gb449, 1, none⟩ (.int .i64 t456)).heap[gb450]? = some (.cells #[.int .i64 x451000_2, .int .i64 x451001_2] 29 (0, 0))) := ⟨bf2_ NB450_449.out BK450.out⟩
           have n4_ : Aside0 (((w47.setCell ⟨gb449, 0, none⟩ (.int .i64 t455)).setCell ⟨gb449, 1, none⟩ (.int .i64 t456)).heap[gb454]? = some (.cells #[.int .i64 t452, .int .i64 t453] 29 (0, 0))) := ⟨bf2_ NB454_449.out BK454.out⟩
           have n5_ : Aside0 (Below w.heap.size w ((w47.setCell ⟨gb449, 0, none⟩ (.int .i64 t455)).setCell ⟨gb449, 1, none⟩ (.int .i64 t456))) := ⟨bws_ HB.out⟩
           (try clear BK442)
           (try clear BK443)
           (try clear BK449)
           (try clear BK450)
           (try clear BK454)
           (try clear HB)
           generalize ((w47.setCell ⟨gb449, 0, none⟩ (.int .i64 t455)).setCell ⟨gb449, 1, none⟩ (.int .i64 t456)) = w50 at n0_ n1_ n2_ n3_ n4_ n5_ ⊢
           have BK442 := n0_; have BK443 := n1_; have BK449 := n2_; have BK450 := n3_; have BK454 := n4_; have HB := n5_
           clear n0_ n1_ n2_ n3_ n4_ n5_
           (try (rw [drewN_self w50]; generalize hq_ : World.drewN w50 _ = w50; have n0_ : Aside0 (w50.heap[gb442]? = some (.cells #[.int .i64 0, .int .i64 0] 29 (0, 0))) := ⟨by rw [← hq_]; exact (bk_ BK442.out)⟩; have n1_ : Aside0 (w50.heap[gb443]? = some (.cells #[.int .i64 0, .int .i64 0] 29 (0, 0))) := ⟨by rw [← hq_]; exact (bk_ BK443.out)⟩; have n2_ : Aside0 (w50.heap[gb449]? = some (.cells #[.int .i64 t455, .int .i64 t456] 29 (0, 0))) := ⟨by rw [← hq_]; exact (bk_ BK449.out)⟩; have n3_ : Aside0 (w50.heap[gb450]? = some (.cells #[.int .i64 x451000_2, .int .i64 x451001_2] 29 (0, 0))) := ⟨by rw [← hq_]; exact (bk_ BK450.out)⟩; have n4_ : Aside0 (w50.heap[gb454]? = some (.cells #[.int .i64 t452, .int .i64 t453] 29 (0, 0))) := ⟨by rw [← hq_]; exact (bk_ BK454.out)⟩; have n5_ : Aside0 (Below w.heap.size w w50) := ⟨by rw [← hq_]; exact (bws_ HB.out)⟩; clear BK442 BK443 BK449 BK450 BK454 HB hq_; have BK442 := n0_; have BK443 := n1_; have BK449 := n2_; have BK450 := n3_; have BK454 := n4_; have HB := n5_; clear n0_ n1_ n2_ n3_ n4_ n5_))
           have n0_ := Aside0.mk (blk_drew BK442.out)
           have n1_ := Aside0.mk (blk_drew BK443.out)
           have n2_ := Aside0.mk (blk_drew BK449.out)
           have n3_ := Aside0.mk (blk_drew BK450.out)
           have n4_ := Aside0.mk (blk_drew BK454.out)
           have n5_ := Aside0.mk (below_drew1 HB.out)
           clear BK442 BK443 BK449 BK450 BK454 HB
           have BK442 := n0_; have BK443 := n1_; have BK449 := n2_; have BK450 := n3_; have BK454 := n4_; have HB := n5_
           clear n0_ n1_ n2_ n3_ n4_ n5_
           refine start_ (n := 12) (S := fun w' => w'.cell? ⟨gb450, 0, none⟩ = some (.int .i64 x451000_2) ∧ w'.cell? ⟨gb450, 1, none⟩ = some (.int .i64 x451001_2) ∧ w'.cell? ⟨gb454, 0, none⟩ = some (.int .i64 t452) ∧ w'.cell? ⟨gb454, 1, none⟩ = some (.int .i64 t453)) (ds := [11]) #[false, false, false, false, false, false, false, false, false, false, false, false] (by kernel_rfl) rfl rfl ⟨(blk_cell BK450.out 0).trans rfl, (blk_cell BK450.out 1).trans rfl, (blk_cell BK454.out 0).trans rfl, (blk_cell BK454.out 1).trans rfl⟩ (fun hHeld => ?_); refine with_tabW spec_FlatBox.tab14 spec_FlatBox.bits14 (fun HT_ HW_ => ?_)
           generalize w50.drew = w51 at BK442 BK443 BK449 BK450 BK454 HB hHeld ⊢
           refine pure_ (i := 0) (N := some 64) (v := ?_) (a' := ?_) #[true, false, false, false, false, false, false, false, false, false, false, false] rfl rfl (any_of HT_.out (by kernel_rfl)) (fun _ _ _ h => h) (Or.inl ⟨by rfl, ?_⟩) ?_ ?_
           rotate_left
           ·intro w'
            go_simp
            with_reducible rfl
           rotate_left
           ·simp only [Act.put, List.setIfInBounds_toArray, List.set_cons_zero, List.set_cons_succ, i64_w, i32_w]
            rfl
           refine pure_ (i := 2) (N := some 66) (v := ?_) (a' := ?_) #[true, false, true, false, false, false, false, false, false, false, false, false] rfl rfl (any_of HT_.out (by kernel_rfl)) (fun _ _ _ h => h) (Or.inl ⟨by rfl, ?_⟩) ?_ ?_
           rotate_left
           ·intro w'
            go_simp
            with_reducible rfl
           rotate_left
           ·simp only [Act.put, List.setIfInBounds_toArray, List.set_cons_zero, List.set_cons_succ, i64_w, i32_w]
            rfl
           refine pure_ (i := 5) (N := some 69) (v := ?_) (a' := ?_) #[true, false, true, false, false, true, false, false, false, false, false, false] rfl rfl (any_of HT_.out (by kernel_rfl)) (fun _ _ _ h => h) (Or.inl ⟨by rfl, ?_⟩) ?_ ?_
           rotate_left
           ·intro w'
            go_simp
            with_reducible rfl
           rotate_left
           ·simp only [Act.put, List.setIfInBounds_toArray, List.set_cons_zero, List.set_cons_succ, i64_w, i32_w]
            rfl
           refine pure_ (i := 7) (N := some 71) (v := ?_) (a' := ?_) #[true, false, true, false, false, true, false, true, false, false, false, false] rfl rfl (any_of HT_.out (by kernel_rfl)) (fun _ _ _ h => h) (Or.inl ⟨by rfl, ?_⟩) ?_ ?_
           rotate_left
           ·intro w'
            go_simp
            with_reducible rfl
           rotate_left
           ·simp only [Act.put, List.setIfInBounds_toArray, List.set_cons_zero, List.set_cons_succ, i64_w, i32_w]
            rfl
           refine take_ (i := 1) (N := some 65) (v := ?_) (a' := ?_) #[true, true, true, false, false, true, false, true, false, false, false, false] rfl rfl (take_ofW HT_.out HW_.out (by kernel_rfl)) (fun _ _ _ h => h) (Or.inl ⟨by rfl, ?_⟩) hHeld ?_ ?_
           rotate_left
           ·rintro w' ⟨s0, s1, s2, s3⟩
            go_simp
            with_reducible rfl
           rotate_left
           ·simp only [Act.put, List.setIfInBounds_toArray, List.set_cons_zero, List.set_cons_succ, i64_w, i32_w]
            rfl
           refine take_ (i := 3) (N := some 67) (v := ?_) (a' := ?_) #[true, true, true, true, false, true, false, true, false, false, false, false] rfl rfl (take_ofW HT_.out HW_.out (by kernel_rfl)) (fun _ _ _ h => h) (Or.inl ⟨by rfl, ?_⟩) hHeld ?_ ?_
           rotate_left
           ·rintro w' ⟨s0, s1, s2, s3⟩
            go_simp
            with_reducible rfl
           rotate_left
           ·simp only [Act.put, List.setIfInBounds_toArray, List.set_cons_zero, List.set_cons_succ, i64_w, i32_w]
            rfl
           refine take_ (i := 6) (N := some 70) (v := ?_) (a' := ?_) #[true, true, true, true, false, true, true, true, false, false, false, false] rfl rfl (take_ofW HT_.out HW_.out (by kernel_rfl)) (fun _ _ _ h => h) (Or.inl ⟨by rfl, ?_⟩) hHeld ?_ ?_
           rotate_left
           ·rintro w' ⟨s0, s1, s2, s3⟩
            go_simp
            with_reducible rfl
           rotate_left
           ·simp only [Act.put, List.setIfInBounds_toArray, List.set_cons_zero, List.set_cons_succ, i64_w, i32_w]
            rfl
           refine take_ (i := 8) (N := some 72) (v := ?_) (a' := ?_) #[true, true, true, true, false, true, true, true, true, false, false, false] rfl rfl (take_ofW HT_.out HW_.out (by kernel_rfl)) (fun _ _ _ h => h) (Or.inl ⟨by rfl, ?_⟩) hHeld ?_ ?_
           rotate_left
           ·rintro w' ⟨s0, s1, s2, s3⟩
            go_simp
            with_reducible rfl
           rotate_left
           ·simp only [Act.put, List.setIfInBounds_toArray, List.set_cons_zero, List.set_cons_succ, i64_w, i32_w]
            rfl
           refine one_ (i := 4) (N := some 68) #[true, true, true, true, true, true, true, true, true, false, false, false] rfl rfl (one_of HT_.out (by kernel_rfl)) (by decide) (fun K hK => ?_)
           refine goes_ Try.func46 (by kernel_rfl) rfl #[.int .i64 x451000_2, .int .i64 t452] (by rfl) rfl rfl gl_ ?_
           with_reducible refine (spec_l00Max.calls x451000_2 t452 t457 _ A37.out).mono ?_
           rintro e w' ⟨rfl, ⟨nd, rfl⟩⟩
           refine ⟨_, rfl, ?_⟩
           (try (rw [drewN_self w51]; generalize hq_ : World.drewN w51 _ = w51; have n0_ : Aside0 (w51.heap[gb442]? = some (.cells #[.int .i64 0, .int .i64 0] 29 (0, 0))) := ⟨by rw [← hq_]; exact (bk_ BK442.out)⟩; have n1_ : Aside0 (w51.heap[gb443]? = some (.cells #[.int .i64 0, .int .i64 0] 29 (0, 0))) := ⟨by rw [← hq_]; exact (bk_ BK443.out)⟩; have n2_ : Aside0 (w51.heap[gb449]? = some (.cells #[.int .i64 t455, .int .i64 t456] 29 (0, 0))) := ⟨by rw [← hq_]; exact (bk_ BK449.out)⟩; have n3_ : Aside0 (w51.heap[gb450]? = some (.cells #[.int .i64 x451000_2, .int .i64 x451001_2] 29 (0, 0))) := ⟨by rw [← hq_]; exact (bk_ BK450.out)⟩; have n4_ : Aside0 (w51.heap[gb454]? = some (.cells #[.int .i64 t452, .int .i64 t453] 29 (0, 0))) := ⟨by rw [← hq_]; exact (bk_ BK454.out)⟩; have n5_ : Aside0 (Below w.heap.size w w51) := ⟨by rw [← hq_]; exact (bws_ HB.out)⟩; clear BK442 BK443 BK449 BK450 BK454 HB hq_; have BK442 := n0_; have BK443 := n1_; have BK449 := n2_; have BK450 := n3_; have BK454 := n4_; have HB := n5_; clear n0_ n1_ n2_ n3_ n4_ n5_))
           refine hK.out _ _ ⟨(blk_cell BK450.out 0).trans rfl, (blk_cell BK450.out 1).trans rfl, (blk_cell BK454.out 0).trans rfl, (blk_cell BK454.out 1).trans rfl⟩ (fun hHeld => ?_)
           clear hK K
           refine norm_ (a' := ?_) ?_ ?_
           rotate_left
           ·show Act.put _ (some 68) _ = _
            simp only [Act.put, List.setIfInBounds_toArray, List.set_cons_zero, List.set_cons_succ, i64_w, i32_w]
            rfl
           refine one_ (i := 9) (N := some 73) #[true, true, true, true, true, true, true, true, true, true, false, false] rfl rfl (one_of HT_.out (by kernel_rfl)) (by decide) (fun K hK => ?_)
           refine goes_ Try.func46 (by kernel_rfl) rfl #[.int .i64 x451001_2, .int .i64 t453] (by rfl) rfl rfl gl_ ?_
           with_reducible refine (spec_l00Max.calls x451001_2 t453 t458 _ A38.out).mono ?_
           rintro e w' ⟨rfl, ⟨nd, rfl⟩⟩
           refine ⟨_, rfl, ?_⟩
           (try (rw [drewN_self w51]; generalize hq_ : World.drewN w51 _ = w51; have n0_ : Aside0 (w51.heap[gb442]? = some (.cells #[.int .i64 0, .int .i64 0] 29 (0, 0))) := ⟨by rw [← hq_]; exact (bk_ BK442.out)⟩; have n1_ : Aside0 (w51.heap[gb443]? = some (.cells #[.int .i64 0, .int .i64 0] 29 (0, 0))) := ⟨by rw [← hq_]; exact (bk_ BK443.out)⟩; have n2_ : Aside0 (w51.heap[gb449]? = some (.cells #[.int .i64 t455, .int .i64 t456] 29 (0, 0))) := ⟨by rw [← hq_]; exact (bk_ BK449.out)⟩; have n3_ : Aside0 (w51.heap[gb450]? = some (.cells #[.int .i64 x451000_2, .int .i64 x451001_2] 29 (0, 0))) := ⟨by rw [← hq_]; exact (bk_ BK450.out)⟩; have n4_ : Aside0 (w51.heap[gb454]? = some (.cells #[.int .i64 t452, .int .i64 t453] 29 (0, 0))) := ⟨by rw [← hq_]; exact (bk_ BK454.out)⟩; have n5_ : Aside0 (Below w.heap.size w w51) := ⟨by rw [← hq_]; exact (bws_ HB.out)⟩; clear BK442 BK443 BK449 BK450 BK454 HB hq_; have BK442 := n0_; have BK443 := n1_; have BK449 := n2_; have BK450 := n3_; have BK454 := n4_; have HB := n5_; clear n0_ n1_ n2_ n3_ n4_ n5_))
           refine hK.out _ _ ⟨(blk_cell BK450.out 0).trans rfl, (blk_cell BK450.out 1).trans rfl, (blk_cell BK454.out 0).trans rfl, (blk_cell BK454.out 1).trans rfl⟩ (fun hHeld => ?_)
           clear hK K
           refine norm_ (a' := ?_) ?_ ?_
           rotate_left
           ·show Act.put _ (some 73) _ = _
            simp only [Act.put, List.setIfInBounds_toArray, List.set_cons_zero, List.set_cons_succ, i64_w, i32_w]
            rfl
           refine pure_ (i := 10) (N := some 74) (v := ?_) (a' := ?_) #[true, true, true, true, true, true, true, true, true, true, true, false] rfl rfl (any_of HT_.out (by kernel_rfl)) (fun _ _ _ h => h) (Or.inl ⟨by rfl, ?_⟩) ?_ ?_
           rotate_left
           ·intro w'
            go_simp
            with_reducible rfl
           rotate_left
           ·simp only [Act.put, List.setIfInBounds_toArray, List.set_cons_zero, List.set_cons_succ, i64_w, i32_w]
            rfl
           refine last_ (i := 11) (N := none) #[true, true, true, true, true, true, true, true, true, true, true, true] rfl rfl (one_of HT_.out (by kernel_rfl)) (by decide) (fun K hK => ?_)
           have hs52 : w51.cell? ⟨gb450, 0, none⟩ = some (.int .i64 x451000_2) := (blk_cell BK450.out 0).trans rfl
           have hfs52 := blk_frozen BK450.out 0
           have hns52_0 := NB442_450.out
           have hns52_1 := NB443_450.out
           have hns52_2 := NB449_450.out
           have hns52_4 := NB454_450.out
           have hms52_0 := NB450_442.out
           have hms52_1 := NB450_443.out
           have hms52_2 := NB450_449.out
           have hms52_4 := NB450_454.out
           have hs53 : w51.cell? ⟨gb450, 1, none⟩ = some (.int .i64 x451001_2) := (blk_cell BK450.out 1).trans rfl
           have hfs53 := blk_frozen BK450.out 1
           have hns53_0 := NB442_450.out
           have hns53_1 := NB443_450.out
           have hns53_2 := NB449_450.out
           have hns53_4 := NB454_450.out
           have hms53_0 := NB450_442.out
           have hms53_1 := NB450_443.out
           have hms53_2 := NB450_449.out
           have hms53_4 := NB450_454.out
           refine skip_ (w1 := ?_) (by rfl) rfl ?_ ?_
           rotate_left
           ·go_simp
            rfl
           refine hK.out _ _ ?_
           clear hK K
           refine done_ (done_of HT_.out (by kernel_rfl)) ?_
           try go_wp2
           go_roundg k2
           case measure => have := HJ5.out; have := HK2.out; omega
           case rel => exact ⟨(wrap64 (x11_2 + 1)), (t455), (t456), (t457), (t458), (by first | rfl | (simp; done) | (simp [*]; done)), H', ⟨by have := HJ5.out; have := HK2.out; omega⟩, ⟨bf2_ NB442_450.out BK442.out⟩, ⟨bf2_ NB443_450.out BK443.out⟩, ⟨bf2_ NB449_450.out BK449.out⟩, ⟨by (with_reducible repeat (first | refine blk_drewN ?_ _ | refine blk_drew ?_ | refine blk_alloc ?_ _)); refine blk_put (cs := #[.int .i64 t457, .int .i64 x451001_2]) ?_ 1 _ rfl; (with_reducible repeat (first | refine blk_drewN ?_ _ | refine blk_drew ?_ | refine blk_alloc ?_ _)); refine blk_put (cs := #[.int .i64 x451000_2, .int .i64 x451001_2]) ?_ 0 _ rfl; (with_reducible repeat (first | refine blk_drewN ?_ _ | refine blk_drew ?_ | refine blk_alloc ?_ _)); exact BK450.out⟩, ⟨bws_ HB.out⟩⟩
          ·rw [if_neg c33] at H
           exact absurd H (by simp)
         ·rw [if_neg c32] at H
          have c32b0 : decide (x11_2 < (l0.length : Int)) = false := decide_eq_false c32
          clear c32
          simp only [Option.some.injEq, Prod.mk.injEq] at H
          obtain ⟨rfl, rfl, rfl, rfl, rfl⟩ := H
          try go_wp2
          have n0_ := Aside0.mk (blk_drew BK442.out)
          have n1_ := Aside0.mk (blk_drew BK443.out)
          have n2_ := Aside0.mk (blk_drew BK449.out)
          have n3_ := Aside0.mk (blk_drew BK450.out)
          have n4_ := Aside0.mk (below_drew1 HB.out)
          clear BK442 BK443 BK449 BK450 HB
          have BK442 := n0_; have BK443 := n1_; have BK449 := n2_; have BK450 := n3_; have HB := n4_
          clear n0_ n1_ n2_ n3_ n4_
          refine start_ (n := 5) (S := fun w' => w'.cell? ⟨gb449, 0, none⟩ = some (.int .i64 x450000_2) ∧ w'.cell? ⟨gb449, 1, none⟩ = some (.int .i64 x450001_2) ∧ w'.cell? ⟨gb450, 0, none⟩ = some (.int .i64 x451000_2) ∧ w'.cell? ⟨gb450, 1, none⟩ = some (.int .i64 x451001_2)) (ds := []) #[false, false, false, false, false] (by kernel_rfl) rfl rfl ⟨(blk_cell BK449.out 0).trans rfl, (blk_cell BK449.out 1).trans rfl, (blk_cell BK450.out 0).trans rfl, (blk_cell BK450.out 1).trans rfl⟩ (fun hHeld => ?_)
          generalize wr.drew = w54 at BK442 BK443 BK449 BK450 HB hHeld ⊢
          refine take_ (i := 0) (N := some 75) (v := ?_) (a' := ?_) #[true, false, false, false, false] rfl rfl (by kernel_rfl) (fun _ _ _ h => h) (Or.inl ⟨by rfl, ?_⟩) hHeld ?_ ?_
          rotate_left
          ·rintro w' ⟨s0, s1, s2, s3⟩
           go_simp
           with_reducible rfl
          rotate_left
          ·simp only [Act.put, List.setIfInBounds_toArray, List.set_cons_zero, List.set_cons_succ, i64_w, i32_w]
           rfl
          refine take_ (i := 1) (N := some 76) (v := ?_) (a' := ?_) #[true, true, false, false, false] rfl rfl (by kernel_rfl) (fun _ _ _ h => h) (Or.inl ⟨by rfl, ?_⟩) hHeld ?_ ?_
          rotate_left
          ·rintro w' ⟨s0, s1, s2, s3⟩
           go_simp
           with_reducible rfl
          rotate_left
          ·simp only [Act.put, List.setIfInBounds_toArray, List.set_cons_zero, List.set_cons_succ, i64_w, i32_w]
           rfl
          refine one_ (i := 2) (N := none) #[true, true, true, false, false] rfl rfl (by kernel_rfl) (by decide) (fun K hK => ?_)
          have hs55 : w54.cell? ⟨gb442, 0, none⟩ = some (.int .i64 0) := (blk_cell BK442.out 0).trans rfl
          have hfs55 := blk_frozen BK442.out 0
          have hns55_1 := NB443_442.out
          have hns55_2 := NB449_442.out
          have hns55_3 := NB450_442.out
          have hms55_1 := NB442_443.out
          have hms55_2 := NB442_449.out
          have hms55_3 := NB442_450.out
          have hs56 : w54.cell? ⟨gb442, 1, none⟩ = some (.int .i64 0) := (blk_cell BK442.out 1).trans rfl
          have hfs56 := blk_frozen BK442.out 1
          have hns56_1 := NB443_442.out
          have hns56_2 := NB449_442.out
          have hns56_3 := NB450_442.out
          have hms56_1 := NB442_443.out
          have hms56_2 := NB442_449.out
          have hms56_3 := NB442_450.out
          refine skip_ (w1 := ?_) (by rfl) rfl ?_ ?_
          rotate_left
          ·go_simp
           rfl
          refine hK.out _ _ ⟨((cell_far (p := ⟨gb442, _, none⟩) NB449_442.out _).trans (((cell_far (p := ⟨gb442, _, none⟩) NB449_442.out _).trans (hHeld.1)))), ((cell_far (p := ⟨gb442, _, none⟩) NB449_442.out _).trans (((cell_far (p := ⟨gb442, _, none⟩) NB449_442.out _).trans (hHeld.2.1)))), ((cell_far (p := ⟨gb442, _, none⟩) NB450_442.out _).trans (((cell_far (p := ⟨gb442, _, none⟩) NB450_442.out _).trans (hHeld.2.2.1)))), ((cell_far (p := ⟨gb442, _, none⟩) NB450_442.out _).trans (((cell_far (p := ⟨gb442, _, none⟩) NB450_442.out _).trans (hHeld.2.2.2))))⟩ (fun hHeld => ?_)
          clear hK K
          refine one_ (i := 3) (N := none) #[true, true, true, true, false] rfl rfl (by kernel_rfl) (by decide) (fun K hK => ?_)
          have hs57 : w54.cell? ⟨gb443, 0, none⟩ = some (.int .i64 0) := (blk_cell BK443.out 0).trans rfl
          have hfs57 := blk_frozen BK443.out 0
          have hns57_0 := NB442_443.out
          have hns57_2 := NB449_443.out
          have hns57_3 := NB450_443.out
          have hms57_0 := NB443_442.out
          have hms57_2 := NB443_449.out
          have hms57_3 := NB443_450.out
          have hs58 : w54.cell? ⟨gb443, 1, none⟩ = some (.int .i64 0) := (blk_cell BK443.out 1).trans rfl
          have hfs58 := blk_frozen BK443.out 1
          have hns58_0 := NB442_443.out
          have hns58_2 := NB449_443.out
          have hns58_3 := NB450_443.out
          have hms58_0 := NB443_442.out
          have hms58_2 := NB443_449.out
          have hms58_3 := NB443_450.out
          refine skip_ (w1 := ?_) (by rfl) rfl ?_ ?_
          rotate_left
          ·go_simp
           rfl
          refine hK.out _ _ ⟨((cell_far (p := ⟨gb443, _, none⟩) NB449_443.out _).trans (((cell_far (p := ⟨gb443, _, none⟩) NB449_443.out _).trans (hHeld.1)))), ((cell_far (p := ⟨gb443, _, none⟩) NB449_443.out _).trans (((cell_far (p := ⟨gb443, _, none⟩) NB449_443.out _).trans (hHeld.2.1)))), ((cell_far (p := ⟨gb443, _, none⟩) NB450_443.out _).trans (((cell_far (p := ⟨gb443, _, none⟩) NB450_443.out _).trans (hHeld.2.2.1)))), ((cell_far (p := ⟨gb443, _, none⟩) NB450_443.out _).trans (((cell_far (p := ⟨gb443, _, none⟩) NB450_443.out _).trans (hHeld.2.2.2))))⟩ (fun hHeld => ?_)
          clear hK K
          refine pure_ (i := 4) (N := some 8) (v := ?_) (a' := ?_) #[true, true, true, true, true] rfl rfl (by kernel_rfl) (fun _ _ _ h => h) (Or.inl ⟨by rfl, ?_⟩) ?_ ?_
          rotate_left
          ·intro w'
           go_simp
           with_reducible rfl
          rotate_left
          ·simp only [Act.put, List.setIfInBounds_toArray, List.set_cons_zero, List.set_cons_succ, i64_w, i32_w]
           rfl
          refine done_ (by kernel_rfl) ?_
          try go_wp2
          refine bodyPost_ret (results_list (rs := [.cell 6 29, .cell 7 29, .tmp 8]) rfl (by simp) (.cell gb442 29 #[.int .i64 x450000_2, .int .i64 x450001_2] (0, 0) _ rfl (by (with_reducible repeat (first | refine blk_drewN ?_ _ | refine blk_drew ?_ | refine blk_alloc ?_ _)); refine blk_far ?_ NB442_443.out _; (with_reducible repeat (first | refine blk_drewN ?_ _ | refine blk_drew ?_ | refine blk_alloc ?_ _)); refine blk_far ?_ NB442_443.out _; (with_reducible repeat (first | refine blk_drewN ?_ _ | refine blk_drew ?_ | refine blk_alloc ?_ _)); refine blk_put (cs := #[.int .i64 x450000_2, .int .i64 0]) ?_ 1 _ rfl; (with_reducible repeat (first | refine blk_drewN ?_ _ | refine blk_drew ?_ | refine blk_alloc ?_ _)); refine blk_put (cs := #[.int .i64 0, .int .i64 0]) ?_ 0 _ rfl; (with_reducible repeat (first | refine blk_drewN ?_ _ | refine blk_drew ?_ | refine blk_alloc ?_ _)); exact BK442.out) Try.underlying29 rfl (by kernel_rfl) (.cell gb443 29 #[.int .i64 x451000_2, .int .i64 x451001_2] (0, 0) _ rfl (by (with_reducible repeat (first | refine blk_drewN ?_ _ | refine blk_drew ?_ | refine blk_alloc ?_ _)); refine blk_put (cs := #[.int .i64 x451000_2, .int .i64 0]) ?_ 1 _ rfl; (with_reducible repeat (first | refine blk_drewN ?_ _ | refine blk_drew ?_ | refine blk_alloc ?_ _)); refine blk_put (cs := #[.int .i64 0, .int .i64 0]) ?_ 0 _ rfl; (with_reducible repeat (first | refine blk_drewN ?_ _ | refine blk_drew ?_ | refine blk_alloc ?_ _)); refine blk_far ?_ NB443_442.out _; (with_reducible repeat (first | refine blk_drewN ?_ _ | refine blk_drew ?_ | refine blk_alloc ?_ _)); refine blk_far ?_ NB443_442.out _; (with_reducible repeat (first | refine blk_drewN ?_ _ | refine blk_drew ?_ | refine blk_alloc ?_ _)); exact BK443.out) Try.underlying29 rfl (by kernel_rfl) (.tmp .nil)))) rfl ?_
          exact ⟨by first | rfl | (simp [errW_none, errW_some] <;> rfl) | (simp [*, errW_none, errW_some] <;> rfl), by repeat (first | (with_reducible first | exact HB.out | apply below_alloc | apply pw_below_drewN | apply below_drew1 | refine below_set ?_ GE442.out | refine below_set ?_ GE443.out | refine below_set ?_ GE449.out | refine below_set ?_ GE450.out) | exact HB.out)⟩
      ·rw [if_neg c20] at H
       exact absurd H (by simp)
 ·replace c5 := Bool.eq_false_iff.mpr c5
  subst c5
  have H1 : (some (0, 0, 0, 0, 1)) = some (r1, r2, r3, r4, r5) := by rw [if_neg (show ¬ (false = true) by decide)] at H; exact H
  clear H
  have H := H1
  clear H1
  simp only [Option.some.injEq, Prod.mk.injEq] at H
  obtain ⟨rfl, rfl, rfl, rfl, rfl⟩ := H
  go_enter Try.func17, Try.ntmps17
  go_wp2_with (first | ((with_reducible refine gate_dst (N := 6) rfl ?_); refine box_event ?hg (N := 6) ?hd (cs := #[.int .i64 0, .int .i64 0]) (t := 29) ?hr ?_; (case hd => rfl); (case hg => rfl); (case hr => first | (go_simp; done) | (go_simp; rfl)); intro gb442 hg w59 hbox hb; have n0_ := Aside0.mk (below_step (bw_ HB.out) hb); have n1_ := Aside0.mk (hbox); have n2_ := Aside0.mk ((ge_ hg (bw_ HB.out))); have n3_ := Aside0.mk ((ge_ hg (bw_ HB.out))); clear HB; have HB := n0_; have BK442 := n1_; have GW442 := n2_; have GE442 := n3_; clear n0_ n1_ n2_ n3_; clear hb hbox hg) | ((with_reducible refine gate_dst (N := 7) rfl ?_); refine box_event ?hg (N := 7) ?hd (cs := #[.int .i64 0, .int .i64 0]) (t := 29) ?hr ?_; (case hd => rfl); (case hg => rfl); (case hr => first | (go_simp; done) | (go_simp; rfl)); intro gb443 hg w60 hbox hb; have n0_ := Aside0.mk (blk_below (bk_ BK442.out) hb); have n1_ := Aside0.mk (below_step (bwg_ GE442.out HB.out) hb); have n2_ := Aside0.mk (hbox); have n3_ := Aside0.mk ((by rw [hg]; exact (below_size (bwg_ GE442.out HB.out)) : w.heap.size ≤ gb443)); have n4_ := Aside0.mk ((by rw [hg]; exact (below_size (bwg_ GE442.out HB.out)) : w.heap.size ≤ gb443)); have n5_ := Aside0.mk ((ne1_ hg (bk_ BK442.out))); have n6_ := Aside0.mk ((ne2_ hg (bk_ BK442.out))); clear BK442; clear HB; have BK442 := n0_; have HB := n1_; have BK443 := n2_; have GW443 := n3_; have GE443 := n4_; have NB442_443 := n5_; have NB443_442 := n6_; clear n0_ n1_ n2_ n3_ n4_ n5_ n6_; clear hb hbox hg) | ((with_reducible refine gate_callee (f := 42) rfl ?_); refine goesL_ (some 14) rfl rfl Try.func42 (by kernel_rfl) rfl #[.slice A0 l0.length c0] rfl gl_ ?_; (with_reducible refine (spec_l08List.calls k _ _ l0 false _ ?side1 ?side2 A4.out).mono ?_); (case side1 => repeat (first | exact (Kd.C_below HR0.out HB.out) | (with_reducible refine Kd.C_alloc ?_ _) | (with_reducible refine Kd.C_drewN ?_ _) | (with_reducible refine Kd.C_drew ?_))); (case side2 => exact HC0.out); rintro e w61 ⟨rfl, hb⟩; refine ⟨_, rfl, ?_⟩; have n0_ := Aside0.mk (blk_below (bk_ BK442.out) hb); have n1_ := Aside0.mk (blk_below (bk_ BK443.out) hb); have n2_ := Aside0.mk (below_step (bws_ HB.out) hb); clear BK442; clear BK443; clear HB; have BK442 := n0_; have BK443 := n1_; have HB := n2_; clear n0_ n1_ n2_; (try clear hb); (try clear hb2); (try clear hk); (try clear hi); have hnb62 := NB442_443.out; have hnc62 := NB443_442.out; have hcz63_0 : w61.cell? ⟨gb442, 0, none⟩ = some (.int .i64 0) := (blk_cell BK442.out 0).trans rfl; have hcz63_1 : w61.cell? ⟨gb442, 1, none⟩ = some (.int .i64 0) := (blk_cell BK442.out 1).trans rfl; have hfz63_0 := blk_frozen BK442.out 0; have hfz63_1 := blk_frozen BK442.out 1; have hcz64_0 : w61.cell? ⟨gb443, 0, none⟩ = some (.int .i64 0) := (blk_cell BK443.out 0).trans rfl; have hcz64_1 : w61.cell? ⟨gb443, 1, none⟩ = some (.int .i64 0) := (blk_cell BK443.out 1).trans rfl; have hfz64_0 := blk_frozen BK443.out 0; have hfz64_1 := blk_frozen BK443.out 1))
  refine bodyPost_ret (results_list (rs := [.cell 6 29, .cell 7 29, .tmp 8]) rfl (by simp) (.cell gb442 29 #[.int .i64 0, .int .i64 0] (0, 0) _ rfl (by (with_reducible repeat (first | refine blk_drewN ?_ _ | refine blk_drew ?_ | refine blk_alloc ?_ _)); refine blk_far ?_ NB442_443.out _; (with_reducible repeat (first | refine blk_drewN ?_ _ | refine blk_drew ?_ | refine blk_alloc ?_ _)); refine blk_far ?_ NB442_443.out _; (with_reducible repeat (first | refine blk_drewN ?_ _ | refine blk_drew ?_ | refine blk_alloc ?_ _)); refine blk_put (cs := #[.int .i64 0, .int .i64 0]) ?_ 1 _ rfl; (with_reducible repeat (first | refine blk_drewN ?_ _ | refine blk_drew ?_ | refine blk_alloc ?_ _)); refine blk_put (cs := #[.int .i64 0, .int .i64 0]) ?_ 0 _ rfl; (with_reducible repeat (first | refine blk_drewN ?_ _ | refine blk_drew ?_ | refine blk_alloc ?_ _)); exact BK442.out) Try.underlying29 rfl (by kernel_rfl) (.cell gb443 29 #[.int .i64 0, .int .i64 0] (0, 0) _ rfl (by (with_reducible repeat (first | refine blk_drewN ?_ _ | refine blk_drew ?_ | refine blk_alloc ?_ _)); refine blk_put (cs := #[.int .i64 0, .int .i64 0]) ?_ 1 _ rfl; (with_reducible repeat (first | refine blk_drewN ?_ _ | refine blk_drew ?_ | refine blk_alloc ?_ _)); refine blk_put (cs := #[.int .i64 0, .int .i64 0]) ?_ 0 _ rfl; (with_reducible repeat (first | refine blk_drewN ?_ _ | refine blk_drew ?_ | refine blk_alloc ?_ _)); refine blk_far ?_ NB443_442.out _; (with_reducible repeat (first | refine blk_drewN ?_ _ | refine blk_drew ?_ | refine blk_alloc ?_ _)); refine blk_far ?_ NB443_442.out _; (with_reducible repeat (first | refine blk_drewN ?_ _ | refine blk_drew ?_ | refine blk_alloc ?_ _)); exact BK443.out) Try.underlying29 rfl (by kernel_rfl) (.tmp .nil)))) rfl ?_
  exact ⟨by first | rfl | (simp [errW_none, errW_some] <;> rfl) | (simp [*, errW_none, errW_some] <;> rfl), by repeat (first | (with_reducible first | exact HB.out | apply below_alloc | apply pw_below_drewN | apply below_drew1 | refine below_set ?_ GE442.out | refine below_set ?_ GE443.out) | exact HB.out)⟩

end Go.Proofs.Ytfaciogcddpgdaa.Print
