-- Printed by a program of this session out of the translation; not trusted: Lean checks it.
-- SQUEEZED
-- SHRUNK
import Derived.Test.YtfaciogcddpgdaaPrint0
import Derived.Test.YtfaciogcddpgdaaPrint6
import Derived.Test.YtfaciogcddpgdaaPrint7
import Derived.Test.YtfaciogcddpgdaaPrint8
import Derived.Test.YtfaciogcddpgdaaPrint21
namespace Go.Proofs.Ytfaciogcddpgdaa.Print
open Go.RowKit Go.Proofs.YtfaciogcddpgdaaW.PrintWords Go.Proofs.YtfaciogcddpgdaaW.PrintLast Go.Proofs.YtfaciogcddpgdaaW.PrintMore
attribute [local go_sem] max2_int min2_int max_two min_two max_three min_three max_four min_four   -- for this text's walks alone
set_option linter.unusedVariables false
set_option linter.unusedSimpArgs false

/-! ### impl_FlatBox: function 16 -/
mutual
def impl_FlatBox.j0 : Nat → List (S25) → Int → Bool → Int → Option (Int × Int × Int × Int × Int)
 | 0, _, _, _, _ => none
 | k + 1, x0, x1, x2, x9 => if x9 = 0 then (if (x0.length : Int) = 0 then (some (0, 0, 0, 0, 3)) else (if 0 < (x0.length : Int) then ((impl_flatOf.f k ((rd_T25 x0 0).f0) ((rd_T25 x0 0).f1) x1 x2).bind fun bt431 => (impl_FlatBox.l0 k x1 x2 x0 (x0.length : Int) 0 bt431.1 bt431.2 bt431.1 bt431.2)) else (none))) else (some (0, 0, 0, 0, x9))
def impl_FlatBox.l0 : Nat → Int → Bool → List (S25) → Int → Int → Int → Int → Int → Int → Option (Int × Int × Int × Int × Int)
 | 0, _, _, _, _, _, _, _, _, _ => none
 | k + 1, x1, x2, x42, x43, x44, x434000, x434001, x435000, x435001 => if x44 < x43 then (if 0 ≤ x44 then (if x44 < (x42.length : Int) then ((impl_flatOf.f k ((rd_T25 x42 x44).f0) ((rd_T25 x42 x44).f1) x1 x2).bind fun bt437 => (impl_FlatBox.l0 k x1 x2 x42 x43 (wrap64 (x44 + 1)) (mn x434000 bt437.1) (mn x434001 bt437.2) (mx x435000 bt437.1) (mx x435001 bt437.2))) else (none)) else (none)) else (some (x434000, x434001, x435000, x435001, 0))
end
def impl_FlatBox.f (k : Nat) (l0 : List (S25)) (a1 : Int) (a2 : Bool) : Option (Int × Int × Int × Int × Int) := (impl_areSpots.f k l0).bind fun t426 => ((impl_isScale.f a1).bind fun t427 => (if t427 = true then ((impl_check.f t426 (decide ((l0.length : Int) ≤ 100))).bind fun t428 => (impl_FlatBox.j0 k l0 a1 a2 t428)) else ((impl_check.f t426 false).bind fun t429 => (impl_FlatBox.j0 k l0 a1 a2 t429))))
theorem impl_FlatBox.mono_l : ∀ k, (∀ y0 y1 y2 y3, LeO (impl_FlatBox.j0 k y0 y1 y2 y3) (impl_FlatBox.j0 (k + 1) y0 y1 y2 y3)) ∧ (∀ y0 y1 y2 y3 y4 y5 y6 y7 y8, LeO (impl_FlatBox.l0 k y0 y1 y2 y3 y4 y5 y6 y7 y8) (impl_FlatBox.l0 (k + 1) y0 y1 y2 y3 y4 y5 y6 y7 y8))
 | 0 => ⟨fun _ _ _ _ r h => by simp [impl_FlatBox.j0] at h, fun _ _ _ _ _ _ _ _ _ r h => by simp [impl_FlatBox.l0] at h⟩
 | k + 1 => by
  obtain ⟨ih0, ih1⟩ := impl_FlatBox.mono_l k
  refine ⟨?_, ?_⟩
  ·intro y0 y1 y2 y3
   unfold impl_FlatBox.j0
   repeat' first
   | (with_reducible exact ih0 _ _ _ _)
   | (with_reducible exact ih1 _ _ _ _ _ _ _ _ _)
   | (with_reducible exact impl_areSpots.mono _ _)
   | (with_reducible exact impl_flatOf.mono _ _ _ _ _)
   | (with_reducible exact LeO.refl _)
   | (with_reducible exact LeO.none _)
   | (with_reducible refine LeO.ite ?_ ?_)
   | (with_reducible refine LeO.bind ?_ (fun _ => ?_))
   | exact ih0 _ _ _ _
   | exact ih1 _ _ _ _ _ _ _ _ _
   | exact impl_areSpots.mono _ _
   | exact impl_flatOf.mono _ _ _ _ _
   | exact LeO.none _
   | refine LeO.ite ?_ ?_
   | refine LeO.bind ?_ (fun _ => ?_)
  ·intro y0 y1 y2 y3 y4 y5 y6 y7 y8
   unfold impl_FlatBox.l0
   repeat' first
   | (with_reducible exact ih0 _ _ _ _)
   | (with_reducible exact ih1 _ _ _ _ _ _ _ _ _)
   | (with_reducible exact impl_areSpots.mono _ _)
   | (with_reducible exact impl_flatOf.mono _ _ _ _ _)
   | (with_reducible exact LeO.refl _)
   | (with_reducible exact LeO.none _)
   | (with_reducible refine LeO.ite ?_ ?_)
   | (with_reducible refine LeO.bind ?_ (fun _ => ?_))
   | exact ih0 _ _ _ _
   | exact ih1 _ _ _ _ _ _ _ _ _
   | exact impl_areSpots.mono _ _
   | exact impl_flatOf.mono _ _ _ _ _
   | exact LeO.none _
   | refine LeO.ite ?_ ?_
   | refine LeO.bind ?_ (fun _ => ?_)
theorem impl_FlatBox.mono : ∀ a0 a1 a2 k, LeO (impl_FlatBox.f k a0 a1 a2) (impl_FlatBox.f (k + 1) a0 a1 a2) := by
 intro a0 a1 a2 k
 obtain ⟨ih0, ih1⟩ := impl_FlatBox.mono_l k
 unfold impl_FlatBox.f
 repeat' first
   | (with_reducible exact ih0 _ _ _ _)
   | (with_reducible exact ih1 _ _ _ _ _ _ _ _ _)
   | (with_reducible exact impl_areSpots.mono _ _)
   | (with_reducible exact impl_flatOf.mono _ _ _ _ _)
   | (with_reducible exact LeO.refl _)
   | (with_reducible exact LeO.none _)
   | (with_reducible refine LeO.ite ?_ ?_)
   | (with_reducible refine LeO.bind ?_ (fun _ => ?_))
   | exact ih0 _ _ _ _
   | exact ih1 _ _ _ _ _ _ _ _ _
   | exact impl_areSpots.mono _ _
   | exact impl_flatOf.mono _ _ _ _ _
   | exact LeO.none _
   | refine LeO.ite ?_ ?_
   | refine LeO.bind ?_ (fun _ => ?_)
def impl_FlatBox.T12 : Bool × List (List Nat × List Nat) := (true, [([], []), ([0], [0]), ([], []), ([2], [2]), ([1, 3], [1, 3]), ([], []), ([5], [5]), ([], []), ([7], [7]), ([6, 8], [6, 8]), ([4, 9], [4, 9]), ([], []), ([11], [11]), ([], []), ([13], [13]), ([12, 14], [12, 14]), ([], []), ([16], [16]), ([], []), ([18], [18]), ([17, 19], [17, 19]), ([15, 20], [15, 20]), ([10, 0, 1, 2, 3, 4, 5, 6, 7, 8, 9, 10], [10]), ([21, 22, 0, 1, 2, 3, 4, 5, 6, 7, 8, 9, 10, 11, 12, 13, 14, 15, 16, 17, 18, 19, 20, 21, 22], [21])])
def impl_FlatBox.B12 : List Nat := [0, 1, 0, 4, 15, 0, 32, 0, 128, 480, 1023, 0, 2048, 0, 8192, 30720, 0, 65536, 0, 262144, 983040, 2095104, 2047, 8388607]
theorem impl_FlatBox.tab12 : rtab .any (opsOf Try.f16 12) = impl_FlatBox.T12 := by kernel_rfl
theorem impl_FlatBox.bits12 : waitsOk impl_FlatBox.T12.2 impl_FlatBox.B12 = true := by kernel_rfl
set_option maxHeartbeats 8000000 in
set_option maxRecDepth 100000 in
theorem impl_FlatBox.calls (k : Nat) (A0 : Option Addr) (c0 : Nat) (l0 : List (S25)) (a1 : Int) (a2 : Bool) (r1 : Int) (r2 : Int) (r3 : Int) (r4 : Int) (r5 : Int) (w : World) (hr0 : Kd.C k25 w A0 l0.length l0) (hc0 : l0.length ≤ c0) (h : impl_FlatBox.f k l0 a1 a2 = some (r1, r2, r3, r4, r5)) :
  Calls Try.prog 16 #[.slice A0 l0.length c0, .int .i64 a1, .bool a2] w fun e w' => e = .returned (.tuple #[.agg #[.int .i64 r1, .int .i64 r2], .agg #[.int .i64 r3, .int .i64 r4], .int .i64 r5]) ∧ Below w.heap.size w w' := by
 have hu29 := Try.underlying29
 have hu25 := Try.underlying25
 have HR0 := Aside0.mk hr0
 have HC0 := Aside0.mk hc0
 clear hr0 hc0
 have HB := Aside0.mk (Below.refl w.heap.size w)
 have H : ((impl_areSpots.f k l0).bind fun t426 => ((impl_isScale.f a1).bind fun t427 => (if t427 = true then ((impl_check.f t426 (decide ((l0.length : Int) ≤ 100))).bind fun t428 => (impl_FlatBox.j0 k l0 a1 a2 t428)) else ((impl_check.f t426 false).bind fun t429 => (impl_FlatBox.j0 k l0 a1 a2 t429))))) = some (r1, r2, r3, r4, r5) := h
 clear h
 have HC4 := Aside0.mk H
 clear H
 go_enter Try.func16, Try.ntmps16
 go_upto_region 1 with (first | ((with_reducible refine gate_dst (N := 6) rfl ?_); (try (refine gate_guard (by rfl) ?_; dsimp only)); refine box_event ?hg (N := 6) ?hd (cs := #[.int .i64 0, .int .i64 0]) (t := 29) ?hr ?_; (case hd => rfl); (case hg => rfl); (case hr => first | (go_simp; done) | (go_simp; rfl)); intro gb424 hg w5 hbox hb; have n0_ := Aside0.mk (below_step (bw_ HB.out) hb); have n1_ := Aside0.mk (hbox); have n2_ := Aside0.mk ((ge_ hg (bw_ HB.out))); have n3_ := Aside0.mk ((ge_ hg (bw_ HB.out))); clear HB; have HB := n0_; have BK424 := n1_; have GW424 := n2_; have GE424 := n3_; clear n0_ n1_ n2_ n3_; clear hb hbox hg) | ((with_reducible refine gate_dst (N := 7) rfl ?_); (try (refine gate_guard (by rfl) ?_; dsimp only)); refine box_event ?hg (N := 7) ?hd (cs := #[.int .i64 0, .int .i64 0]) (t := 29) ?hr ?_; (case hd => rfl); (case hg => rfl); (case hr => first | (go_simp; done) | (go_simp; rfl)); intro gb425 hg w6 hbox hb; have n0_ := Aside0.mk (blk_below (bk_ BK424.out) hb); have n1_ := Aside0.mk (below_step (bwg_ GE424.out HB.out) hb); have n2_ := Aside0.mk (hbox); have n3_ := Aside0.mk ((by rw [hg]; exact (below_size (bwg_ GE424.out HB.out)) : w.heap.size ≤ gb425)); have n4_ := Aside0.mk ((by rw [hg]; exact (below_size (bwg_ GE424.out HB.out)) : w.heap.size ≤ gb425)); have n5_ := Aside0.mk ((ne1_ hg (bk_ BK424.out))); have n6_ := Aside0.mk ((ne2_ hg (bk_ BK424.out))); clear BK424; clear HB; have BK424 := n0_; have HB := n1_; have BK425 := n2_; have GW425 := n3_; have GE425 := n4_; have NB424_425 := n5_; have NB425_424 := n6_; clear n0_ n1_ n2_ n3_ n4_ n5_ n6_; clear hb hbox hg))
 (try simp only [Act.put, List.setIfInBounds_toArray, List.set_cons_zero, List.set_cons_succ])
 go_cut [9] (fun v9 wc => ∃ (kq : Nat) (x9_3 : Int), v9 = .int .i64 x9_3 ∧ Aside0 (impl_FlatBox.j0 kq l0 a1 a2 x9_3 = some (r1, r2, r3, r4, r5)) ∧ Aside0 (kq ≤ k) ∧ Aside0 (wc.heap[gb424]? = some (.cells #[.int .i64 0, .int .i64 0] 29 (0, 0))) ∧ Aside0 (wc.heap[gb425]? = some (.cells #[.int .i64 0, .int .i64 0] 29 (0, 0))) ∧ Aside0 (Below w.heap.size w wc))
 case first =>
  have H := HC4.out
  clear HC4
  replace H := Option.bind_eq_some_iff.mp H
  obtain ⟨t426, A70, H⟩ := H
  replace H : ((impl_isScale.f a1).bind fun t427 => (if t427 = true then ((impl_check.f t426 (decide ((l0.length : Int) ≤ 100))).bind fun t428 => (impl_FlatBox.j0 k l0 a1 a2 t428)) else ((impl_check.f t426 false).bind fun t429 => (impl_FlatBox.j0 k l0 a1 a2 t429)))) = some (r1, r2, r3, r4, r5) := H
  have A7 := Aside0.mk A70
  clear A70
  replace H := Option.bind_eq_some_iff.mp H
  obtain ⟨t427, A80, H⟩ := H
  replace H : (if t427 = true then ((impl_check.f t426 (decide ((l0.length : Int) ≤ 100))).bind fun t428 => (impl_FlatBox.j0 k l0 a1 a2 t428)) else ((impl_check.f t426 false).bind fun t429 => (impl_FlatBox.j0 k l0 a1 a2 t429))) = some (r1, r2, r3, r4, r5) := H
  have A8 := Aside0.mk A80
  clear A80
  by_cases c9 : t427 = true
  ·subst c9
   have H1 : ((impl_check.f t426 (decide ((l0.length : Int) ≤ 100))).bind fun t428 => (impl_FlatBox.j0 k l0 a1 a2 t428)) = some (r1, r2, r3, r4, r5) := by rw [if_pos rfl] at H; exact H
   clear H
   have H := H1
   clear H1
   replace H := Option.bind_eq_some_iff.mp H
   obtain ⟨t428, A100, H⟩ := H
   replace H : (impl_FlatBox.j0 k l0 a1 a2 t428) = some (r1, r2, r3, r4, r5) := H
   have A10 := Aside0.mk A100
   clear A100
   have H' := Aside0.mk H
   clear H
   go_wp2_with (first | ((with_reducible refine gate_callee (f := 41) rfl ?_); refine goesL_ (some 16) rfl rfl Try.func41 (by kernel_rfl) rfl #[.slice A0 l0.length c0] rfl gl_ ?_; (with_reducible refine (impl_areSpots.calls k _ _ l0 t426 _ ?side1 ?side2 A7.out).mono ?_); (case side1 => repeat (first | exact (Kd.C_below HR0.out HB.out) | (with_reducible refine Kd.C_alloc ?_ _) | (with_reducible refine Kd.C_drewN ?_ _) | (with_reducible refine Kd.C_drew ?_))); (case side2 => exact HC0.out); rintro e w11 ⟨rfl, hb⟩; refine ⟨_, rfl, ?_⟩; have n0_ := Aside0.mk (blk_below (bk_ BK424.out) hb); have n1_ := Aside0.mk (blk_below (bk_ BK425.out) hb); have n2_ := Aside0.mk (below_step (bws_ HB.out) hb); clear BK424; clear BK425; clear HB; have BK424 := n0_; have BK425 := n1_; have HB := n2_; clear n0_ n1_ n2_; (try clear hb); (try clear hb2); (try clear hk); (try clear hi)) | ((with_reducible refine gate_callee (f := 25) rfl ?_); refine goesL_ (some 18) rfl rfl Try.func25 (by kernel_rfl) rfl #[.int .i64 a1] rfl gl_ ?_; (with_reducible refine (impl_isScale.calls a1 true _ A8.out).mono ?_); rintro e w' ⟨rfl, ⟨nd, rfl⟩⟩; refine ⟨_, rfl, ?_⟩) | ((with_reducible refine gate_callee (f := 23) rfl ?_); refine goesL_ (some 24) rfl rfl Try.func23 (by kernel_rfl) rfl #[.bool t426, .bool (decide ((l0.length : Int) ≤ 100))] rfl gl_ ?_; (with_reducible refine (impl_check.calls t426 (decide ((l0.length : Int) ≤ 100)) t428 _ A10.out).mono ?_); rintro e w' ⟨rfl, ⟨nd, rfl⟩⟩; refine ⟨_, rfl, ?_⟩))
   go_meet
   case rel => exact ⟨_, (t428), (by first | rfl | (simp; done) | (simp [*]; done)), H', ⟨by first | omega | exact Nat.le_refl _⟩, ⟨bk_ BK424.out⟩, ⟨bk_ BK425.out⟩, ⟨bws_ HB.out⟩⟩
  ·replace c9 := Bool.eq_false_iff.mpr c9
   subst c9
   have H1 : ((impl_check.f t426 false).bind fun t429 => (impl_FlatBox.j0 k l0 a1 a2 t429)) = some (r1, r2, r3, r4, r5) := by rw [if_neg (show ¬ (false = true) by decide)] at H; exact H
   clear H
   have H := H1
   clear H1
   replace H := Option.bind_eq_some_iff.mp H
   obtain ⟨t429, A120, H⟩ := H
   replace H : (impl_FlatBox.j0 k l0 a1 a2 t429) = some (r1, r2, r3, r4, r5) := H
   have A12 := Aside0.mk A120
   clear A120
   have H' := Aside0.mk H
   clear H
   go_wp2_with (first | ((with_reducible refine gate_callee (f := 41) rfl ?_); refine goesL_ (some 16) rfl rfl Try.func41 (by kernel_rfl) rfl #[.slice A0 l0.length c0] rfl gl_ ?_; (with_reducible refine (impl_areSpots.calls k _ _ l0 t426 _ ?side1 ?side2 A7.out).mono ?_); (case side1 => repeat (first | exact (Kd.C_below HR0.out HB.out) | (with_reducible refine Kd.C_alloc ?_ _) | (with_reducible refine Kd.C_drewN ?_ _) | (with_reducible refine Kd.C_drew ?_))); (case side2 => exact HC0.out); rintro e w13 ⟨rfl, hb⟩; refine ⟨_, rfl, ?_⟩; have n0_ := Aside0.mk (blk_below (bk_ BK424.out) hb); have n1_ := Aside0.mk (blk_below (bk_ BK425.out) hb); have n2_ := Aside0.mk (below_step (bws_ HB.out) hb); clear BK424; clear BK425; clear HB; have BK424 := n0_; have BK425 := n1_; have HB := n2_; clear n0_ n1_ n2_; (try clear hb); (try clear hb2); (try clear hk); (try clear hi)) | ((with_reducible refine gate_callee (f := 25) rfl ?_); refine goesL_ (some 18) rfl rfl Try.func25 (by kernel_rfl) rfl #[.int .i64 a1] rfl gl_ ?_; (with_reducible refine (impl_isScale.calls a1 false _ A8.out).mono ?_); rintro e w' ⟨rfl, ⟨nd, rfl⟩⟩; refine ⟨_, rfl, ?_⟩) | ((with_reducible refine gate_callee (f := 23) rfl ?_); refine goesL_ (some 24) rfl rfl Try.func23 (by kernel_rfl) rfl #[.bool t426, .bool false] rfl gl_ ?_; (with_reducible refine (impl_check.calls t426 false t429 _ A12.out).mono ?_); rintro e w' ⟨rfl, ⟨nd, rfl⟩⟩; refine ⟨_, rfl, ?_⟩))
   go_meet
   case rel => exact ⟨_, (t429), (by first | rfl | (simp; done) | (simp [*]; done)), H', ⟨by first | omega | exact Nat.le_refl _⟩, ⟨bk_ BK424.out⟩, ⟨bk_ BK425.out⟩, ⟨bws_ HB.out⟩⟩
 case rest =>
  clear HC4
  try clear c1
  try clear c2
  try clear p2
  try clear c4
  try clear c9
  obtain ⟨kq, x9_3, rfl, HA, HJ3, BK424, BK425, HB⟩ := hcut
  cases kq with
  | zero => exact absurd HA.out (by simp [impl_FlatBox.j0])
  | succ kj3 =>
   have H := HA.out
   clear HA
   simp only [impl_FlatBox.j0] at H
   by_cases c14 : x9_3 = 0
   ·rw [if_pos c14] at H
    have c14b0 : (x9_3 == 0) = true := beq_iff_eq.mpr c14
    have c14b1 : (x9_3 != 0) = false := bne_eq_false_iff_eq.mpr c14
    clear c14
    by_cases c15 : (l0.length : Int) = 0
    ·rw [if_pos c15] at H
     have c15b0 : ((l0.length : Int) == 0) = true := beq_iff_eq.mpr c15
     have c15b1 : ((l0.length : Int) != 0) = false := bne_eq_false_iff_eq.mpr c15
     clear c15
     simp only [Option.some.injEq, Prod.mk.injEq] at H
     obtain ⟨rfl, rfl, rfl, rfl, rfl⟩ := H
     have hnb16 := NB424_425.out
     have hnc16 := NB425_424.out
     have hcz17_0 : wc.cell? ⟨gb424, 0, none⟩ = some (.int .i64 0) := (blk_cell BK424.out 0).trans rfl
     have hcz17_1 : wc.cell? ⟨gb424, 1, none⟩ = some (.int .i64 0) := (blk_cell BK424.out 1).trans rfl
     have hfz17_0 := blk_frozen BK424.out 0
     have hfz17_1 := blk_frozen BK424.out 1
     have hcz18_0 : wc.cell? ⟨gb425, 0, none⟩ = some (.int .i64 0) := (blk_cell BK425.out 0).trans rfl
     have hcz18_1 : wc.cell? ⟨gb425, 1, none⟩ = some (.int .i64 0) := (blk_cell BK425.out 1).trans rfl
     have hfz18_0 := blk_frozen BK425.out 0
     have hfz18_1 := blk_frozen BK425.out 1
     go_wp2
     refine bodyPost_ret (results_list (rs := [.cell 6 29, .cell 7 29, .tmp 8]) rfl (by simp) (.cell gb424 29 #[.int .i64 0, .int .i64 0] (0, 0) _ rfl (by (with_reducible repeat (first | refine blk_drewN ?_ _ | refine blk_drew ?_ | refine blk_alloc ?_ _)); refine blk_far ?_ NB424_425.out _; (with_reducible repeat (first | refine blk_drewN ?_ _ | refine blk_drew ?_ | refine blk_alloc ?_ _)); refine blk_far ?_ NB424_425.out _; (with_reducible repeat (first | refine blk_drewN ?_ _ | refine blk_drew ?_ | refine blk_alloc ?_ _)); refine blk_put (cs := #[.int .i64 0, .int .i64 0]) ?_ 1 _ rfl; (with_reducible repeat (first | refine blk_drewN ?_ _ | refine blk_drew ?_ | refine blk_alloc ?_ _)); refine blk_put (cs := #[.int .i64 0, .int .i64 0]) ?_ 0 _ rfl; (with_reducible repeat (first | refine blk_drewN ?_ _ | refine blk_drew ?_ | refine blk_alloc ?_ _)); exact BK424.out) Try.underlying29 rfl (by kernel_rfl) (.cell gb425 29 #[.int .i64 0, .int .i64 0] (0, 0) _ rfl (by (with_reducible repeat (first | refine blk_drewN ?_ _ | refine blk_drew ?_ | refine blk_alloc ?_ _)); refine blk_put (cs := #[.int .i64 0, .int .i64 0]) ?_ 1 _ rfl; (with_reducible repeat (first | refine blk_drewN ?_ _ | refine blk_drew ?_ | refine blk_alloc ?_ _)); refine blk_put (cs := #[.int .i64 0, .int .i64 0]) ?_ 0 _ rfl; (with_reducible repeat (first | refine blk_drewN ?_ _ | refine blk_drew ?_ | refine blk_alloc ?_ _)); refine blk_far ?_ NB425_424.out _; (with_reducible repeat (first | refine blk_drewN ?_ _ | refine blk_drew ?_ | refine blk_alloc ?_ _)); refine blk_far ?_ NB425_424.out _; (with_reducible repeat (first | refine blk_drewN ?_ _ | refine blk_drew ?_ | refine blk_alloc ?_ _)); exact BK425.out) Try.underlying29 rfl (by kernel_rfl) (.tmp .nil)))) rfl ?_
     exact ⟨by first | rfl | (simp [errW_none, errW_some] <;> rfl) | (simp [*, errW_none, errW_some] <;> rfl), by repeat (first | (with_reducible first | exact HB.out | apply below_alloc | apply pw_below_drewN | apply below_drew1 | refine below_set ?_ GE424.out | refine below_set ?_ GE425.out) | exact HB.out)⟩
    ·rw [if_neg c15] at H
     have c15b0 : ((l0.length : Int) == 0) = false := beq_eq_false_iff_ne.mpr c15
     have c15b1 : ((l0.length : Int) != 0) = true := bne_iff_ne.mpr c15
     have c15b2 : ¬ (l0 = []) := fun h_ => c15 (by rw [h_]; rfl)
     by_cases c19 : 0 < (l0.length : Int)
     ·rw [if_pos c19] at H
      have c19b0 : decide (0 < (l0.length : Int)) = true := decide_eq_true c19
      have c19b1 : decide (0 < l0.length) = true := decide_eq_true (by omega)
      clear c19
      replace H := Option.bind_eq_some_iff.mp H
      obtain ⟨⟨t431, t432⟩, A200, H⟩ := H
      replace H : (impl_FlatBox.l0 kj3 a1 a2 l0 (l0.length : Int) 0 t431 t432 t431 t432) = some (r1, r2, r3, r4, r5) := H
      have A20 := Aside0.mk A200
      clear A200
      have H' := Aside0.mk H
      clear H
      have p430 : 0 ≤ (0 : Int) := (by omega)
      have q430 : 0 < (l0.length : Int) := od_
      obtain ⟨ad430, e430, hx430_0, hx430_1⟩ := at_T25 HR0.out 0 p430 q430
      cases e430
      have qi430 : (0 < l0.length) = True := eq_true (by omega)
      (try rw [show ((0 : Int)).toNat = 0 from rfl] at hx430_0)
      (try rw [show 0 * 2 = 0 from rfl] at hx430_0)
      (try rw [Addr.add_zero'] at hx430_0)
      (try rw [show ((0 : Int)).toNat = 0 from rfl] at hx430_1)
      (try rw [show 0 * 2 = 0 from rfl] at hx430_1)
      (try rw [Addr.add_zero'] at hx430_1)
      replace hx430_0 := (HB.out.cell (World.block_lt_of_cell? w _ hx430_0)).trans hx430_0
      replace hx430_1 := (HB.out.cell (World.block_lt_of_cell? w _ hx430_1)).trans hx430_1
      replace p430 := eq_true p430
      replace q430 := eq_true q430
      go_wp2_with (first | ((with_reducible refine gate_callee (f := 26) rfl ?_); refine goesL_ (some 40) rfl rfl Try.func26 (by kernel_rfl) rfl #[.agg #[.int .i64 ((rd_T25 l0 0).f0), .int .i64 ((rd_T25 l0 0).f1)], .int .i64 a1, .bool a2] rfl gl_ ?_; (with_reducible refine (impl_flatOf.calls kj3 ((rd_T25 l0 0).f0) ((rd_T25 l0 0).f1) a1 a2 t431 t432 _ A20.out).mono ?_); rintro e w21 ⟨rfl, hb⟩; refine ⟨_, rfl, ?_⟩; have n0_ := Aside0.mk (blk_below (bk_ BK424.out) hb); have n1_ := Aside0.mk (blk_below (bk_ BK425.out) hb); have n2_ := Aside0.mk (below_step (bws_ HB.out) hb); clear BK424; clear BK425; clear HB; have BK424 := n0_; have BK425 := n1_; have HB := n2_; clear n0_ n1_ n2_; (try clear hb); (try clear hb2); (try clear hk); (try clear hi)) | ((with_reducible refine gate_dst (N := 10) rfl ?_); (try (refine gate_guard (by rfl) ?_; dsimp only)); refine box_event ?hg (N := 10) ?hd (cs := #[.int .i64 0, .int .i64 0]) (t := 29) ?hr ?_; (case hd => rfl); (case hg => rfl); (case hr => first | (go_simp; done) | (go_simp; rfl)); intro gb433 hg w22 hbox hb; have n0_ := Aside0.mk (blk_below (bk_ BK424.out) hb); have n1_ := Aside0.mk (blk_below (bk_ BK425.out) hb); have n2_ := Aside0.mk (below_step (bws_ HB.out) hb); have n3_ := Aside0.mk (hbox); have n4_ := Aside0.mk ((ge_ hg (bws_ HB.out))); have n5_ := Aside0.mk ((ge_ hg (bws_ HB.out))); have n6_ := Aside0.mk ((ne1_ hg (bk_ BK424.out))); have n7_ := Aside0.mk ((ne2_ hg (bk_ BK424.out))); have n8_ := Aside0.mk ((ne1_ hg (bk_ BK425.out))); have n9_ := Aside0.mk ((ne2_ hg (bk_ BK425.out))); clear BK424; clear BK425; clear HB; have BK424 := n0_; have BK425 := n1_; have HB := n2_; have BK433 := n3_; have GW433 := n4_; have GE433 := n5_; have NB424_433 := n6_; have NB433_424 := n7_; have NB425_433 := n8_; have NB433_425 := n9_; clear n0_ n1_ n2_ n3_ n4_ n5_ n6_ n7_ n8_ n9_; clear hb hbox hg; have hnb23 := NB433_424.out; have hnc23 := NB424_433.out; have hnb24 := NB433_425.out; have hnc24 := NB425_433.out; have hcz25_0 : w22.cell? ⟨gb433, 0, none⟩ = some (.int .i64 0) := (blk_cell BK433.out 0).trans rfl; have hcz25_1 : w22.cell? ⟨gb433, 1, none⟩ = some (.int .i64 0) := (blk_cell BK433.out 1).trans rfl; have hfz25_0 := blk_frozen BK433.out 0; have hfz25_1 := blk_frozen BK433.out 1) | ((with_reducible refine gate_dst (N := 11) rfl ?_); (try (refine gate_guard (by rfl) ?_; dsimp only)); refine box_event ?hg (N := 11) ?hd (cs := #[.int .i64 0, .int .i64 0]) (t := 29) ?hr ?_; (case hd => rfl); (case hg => rfl); (case hr => first | (go_simp; done) | (go_simp; rfl)); intro gb434 hg w26 hbox hb; have n0_ := Aside0.mk (blk_below (bf_ NB424_433.out BK424.out) hb); have n1_ := Aside0.mk (blk_below (bf_ NB425_433.out BK425.out) hb); have n2_ := Aside0.mk (blk_below (g := gb433) (o := .cells #[.int .i64 t431, .int .i64 t432] 29 (0, 0)) (by (with_reducible repeat (first | refine blk_drewN ?_ _ | refine blk_drew ?_ | refine blk_alloc ?_ _)); refine blk_put (cs := #[.int .i64 t431, .int .i64 0]) ?_ 1 _ rfl; (with_reducible repeat (first | refine blk_drewN ?_ _ | refine blk_drew ?_ | refine blk_alloc ?_ _)); refine blk_put (cs := #[.int .i64 0, .int .i64 0]) ?_ 0 _ rfl; (with_reducible repeat (first | refine blk_drewN ?_ _ | refine blk_drew ?_ | refine blk_alloc ?_ _)); exact BK433.out) hb); have n3_ := Aside0.mk (below_step (bws_ HB.out) hb); have n4_ := Aside0.mk (hbox); have n5_ := Aside0.mk ((ge_ hg (bws_ HB.out))); have n6_ := Aside0.mk ((ge_ hg (bws_ HB.out))); have n7_ := Aside0.mk ((ne1_ hg (bf_ NB424_433.out BK424.out))); have n8_ := Aside0.mk ((ne2_ hg (bf_ NB424_433.out BK424.out))); have n9_ := Aside0.mk ((ne1_ hg (bf_ NB425_433.out BK425.out))); have n10_ := Aside0.mk ((ne2_ hg (bf_ NB425_433.out BK425.out))); have n11_ := Aside0.mk ((by rw [hg]; exact Nat.ne_of_lt (blk_lt (g := gb433) (o := .cells #[.int .i64 t431, .int .i64 t432] 29 (0, 0)) (by (with_reducible repeat (first | refine blk_drewN ?_ _ | refine blk_drew ?_ | refine blk_alloc ?_ _)); refine blk_put (cs := #[.int .i64 t431, .int .i64 0]) ?_ 1 _ rfl; (with_reducible repeat (first | refine blk_drewN ?_ _ | refine blk_drew ?_ | refine blk_alloc ?_ _)); refine blk_put (cs := #[.int .i64 0, .int .i64 0]) ?_ 0 _ rfl; (with_reducible repeat (first | refine blk_drewN ?_ _ | refine blk_drew ?_ | refine blk_alloc ?_ _)); exact BK433.out)) : gb433 ≠ gb434)); have n12_ := Aside0.mk ((by rw [hg]; exact Nat.ne_of_gt (blk_lt (g := gb433) (o := .cells #[.int .i64 t431, .int .i64 t432] 29 (0, 0)) (by (with_reducible repeat (first | refine blk_drewN ?_ _ | refine blk_drew ?_ | refine blk_alloc ?_ _)); refine blk_put (cs := #[.int .i64 t431, .int .i64 0]) ?_ 1 _ rfl; (with_reducible repeat (first | refine blk_drewN ?_ _ | refine blk_drew ?_ | refine blk_alloc ?_ _)); refine blk_put (cs := #[.int .i64 0, .int .i64 0]) ?_ 0 _ rfl; (with_reducible repeat (first | refine blk_drewN ?_ _ | refine blk_drew ?_ | refine blk_alloc ?_ _)); exact BK433.out)) : gb434 ≠ gb433)); clear BK424; clear BK425; clear BK433; clear HB; have BK424 := n0_; have BK425 := n1_; have BK433 := n2_; have HB := n3_; have BK434 := n4_; have GW434 := n5_; have GE434 := n6_; have NB424_434 := n7_; have NB434_424 := n8_; have NB425_434 := n9_; have NB434_425 := n10_; have NB433_434 := n11_; have NB434_433 := n12_; clear n0_ n1_ n2_ n3_ n4_ n5_ n6_ n7_ n8_ n9_ n10_ n11_ n12_; clear hb hbox hg; have hnb27 := NB434_424.out; have hnc27 := NB424_434.out; have hnb28 := NB434_425.out; have hnc28 := NB425_434.out; have hnb29 := NB434_433.out; have hnc29 := NB433_434.out; have hcz30_0 : w26.cell? ⟨gb434, 0, none⟩ = some (.int .i64 0) := (blk_cell BK434.out 0).trans rfl; have hcz30_1 : w26.cell? ⟨gb434, 1, none⟩ = some (.int .i64 0) := (blk_cell BK434.out 1).trans rfl; have hfz30_0 := blk_frozen BK434.out 0; have hfz30_1 := blk_frozen BK434.out 1))
      go_loopg [44] kj3 (fun kq v44 w' => ∃ (x44_2 : Int) (x434000_2 : Int) (x434001_2 : Int) (x435000_2 : Int) (x435001_2 : Int), v44 = .int .i64 x44_2 ∧ Aside0 (impl_FlatBox.l0 kq a1 a2 l0 (l0.length : Int) x44_2 x434000_2 x434001_2 x435000_2 x435001_2 = some (r1, r2, r3, r4, r5)) ∧ Aside0 (kq ≤ kj3) ∧ Aside0 (w'.heap[gb424]? = some (.cells #[.int .i64 0, .int .i64 0] 29 (0, 0))) ∧ Aside0 (w'.heap[gb425]? = some (.cells #[.int .i64 0, .int .i64 0] 29 (0, 0))) ∧ Aside0 (w'.heap[gb433]? = some (.cells #[.int .i64 x434000_2, .int .i64 x434001_2] 29 (0, 0))) ∧ Aside0 (w'.heap[gb434]? = some (.cells #[.int .i64 x435000_2, .int .i64 x435001_2] 29 (0, 0))) ∧ Aside0 (Below w.heap.size w w'))
      case atStart => exact ⟨(0), (t431), (t432), (t431), (t432), (by first | rfl | (simp; done) | (simp [*]; done)), H', ⟨Nat.le_refl _⟩, ⟨bf2_ NB424_434.out BK424.out⟩, ⟨bf2_ NB425_434.out BK425.out⟩, ⟨bf2_ NB433_434.out BK433.out⟩, ⟨by (with_reducible repeat (first | refine blk_drewN ?_ _ | refine blk_drew ?_ | refine blk_alloc ?_ _)); refine blk_put (cs := #[.int .i64 t431, .int .i64 0]) ?_ 1 _ rfl; (with_reducible repeat (first | refine blk_drewN ?_ _ | refine blk_drew ?_ | refine blk_alloc ?_ _)); refine blk_put (cs := #[.int .i64 0, .int .i64 0]) ?_ 0 _ rfl; (with_reducible repeat (first | refine blk_drewN ?_ _ | refine blk_drew ?_ | refine blk_alloc ?_ _)); exact BK434.out⟩, ⟨bws_ HB.out⟩⟩
      case round =>
       clear H'
       try clear c1
       try clear c2
       try clear p2
       try clear c4
       try clear p4
       try clear q4
       try clear hx4
       try clear qi4
       try clear c9
       try clear c14
       try clear c14b0
       try clear c14b1
       try clear c15
       try clear c15b0
       try clear c15b1
       try clear c15b2
       try clear c16
       try clear c19
       try clear c19b0
       try clear c19b1
       try clear c23
       try clear c24
       try clear c25
       try clear c26
       try clear c27
       try clear c28
       try clear c29
       try clear hcz17_0
       try clear hcz17_1
       try clear hcz18_0
       try clear hcz18_1
       try clear hcz25_0
       try clear hcz25_1
       try clear hcz30_0
       try clear hcz30_1
       try clear hfz17_0
       try clear hfz17_1
       try clear hfz18_0
       try clear hfz18_1
       try clear hfz25_0
       try clear hfz25_1
       try clear hfz30_0
       try clear hfz30_1
       try clear hx430_0
       try clear hx430_1
       try clear p2
       try clear p430
       try clear q430
       obtain ⟨x44_2, x434000_2, x434001_2, x435000_2, x435001_2, rfl, HA, HK2, BK424, BK425, BK433, BK434, HB⟩ := hrel
       cases gk with
       | zero => exact absurd HA.out (by simp [impl_FlatBox.l0])
       | succ k2 =>
        have H := HA.out
        clear HA
        simp only [impl_FlatBox.l0] at H
        by_cases c31 : x44_2 < (l0.length : Int)
        ·rw [if_pos c31] at H
         have c31b0 : decide (x44_2 < (l0.length : Int)) = true := decide_eq_true c31
         clear c31
         by_cases c32 : 0 ≤ x44_2
         ·rw [if_pos c32] at H
          have c32b0 : decide (0 ≤ x44_2) = true := decide_eq_true c32
          clear c32
          by_cases c33 : x44_2 < (l0.length : Int)
          ·rw [if_pos c33] at H
           have c33b0 : decide (x44_2 < (l0.length : Int)) = true := decide_eq_true c33
           clear c33
           replace H := Option.bind_eq_some_iff.mp H
           obtain ⟨⟨t437, t438⟩, A340, H⟩ := H
           replace H : (impl_FlatBox.l0 k2 a1 a2 l0 (l0.length : Int) (wrap64 (x44_2 + 1)) (mn x434000_2 t437) (mn x434001_2 t438) (mx x435000_2 t437) (mx x435001_2 t438)) = some (r1, r2, r3, r4, r5) := H
           have A34 := Aside0.mk A340
           clear A340
           obtain ⟨ji35, hji35⟩ : ∃ j_ : Int, (mn x434000_2 t437) = j_ := ⟨_, rfl⟩
           replace H : (impl_FlatBox.l0 k2 a1 a2 l0 (l0.length : Int) (wrap64 (x44_2 + 1)) ji35 (mn x434001_2 t438) (mx x435000_2 t437) (mx x435001_2 t438)) = some (r1, r2, r3, r4, r5) := by first | (rw [hji35] at H; exact H) | (simp only [hji35] at H ⊢; exact H)
           (try rw [hji35] at A34)
           have hji35_ : (if t437 < x434000_2 then t437 else x434000_2) = ji35 := hji35
           obtain ⟨ji36, hji36⟩ : ∃ j_ : Int, (mn x434001_2 t438) = j_ := ⟨_, rfl⟩
           replace H : (impl_FlatBox.l0 k2 a1 a2 l0 (l0.length : Int) (wrap64 (x44_2 + 1)) ji35 ji36 (mx x435000_2 t437) (mx x435001_2 t438)) = some (r1, r2, r3, r4, r5) := by first | (rw [hji36] at H; exact H) | (simp only [hji36] at H ⊢; exact H)
           (try rw [hji36] at A34)
           have hji36_ : (if t438 < x434001_2 then t438 else x434001_2) = ji36 := hji36
           obtain ⟨ji37, hji37⟩ : ∃ j_ : Int, (mx x435000_2 t437) = j_ := ⟨_, rfl⟩
           replace H : (impl_FlatBox.l0 k2 a1 a2 l0 (l0.length : Int) (wrap64 (x44_2 + 1)) ji35 ji36 ji37 (mx x435001_2 t438)) = some (r1, r2, r3, r4, r5) := by first | (rw [hji37] at H; exact H) | (simp only [hji37] at H ⊢; exact H)
           (try rw [hji37] at A34)
           have hji37_ : (if x435000_2 < t437 then t437 else x435000_2) = ji37 := hji37
           obtain ⟨ji38, hji38⟩ : ∃ j_ : Int, (mx x435001_2 t438) = j_ := ⟨_, rfl⟩
           replace H : (impl_FlatBox.l0 k2 a1 a2 l0 (l0.length : Int) (wrap64 (x44_2 + 1)) ji35 ji36 ji37 ji38) = some (r1, r2, r3, r4, r5) := by first | (rw [hji38] at H; exact H) | (simp only [hji38] at H ⊢; exact H)
           (try rw [hji38] at A34)
           have hji38_ : (if x435001_2 < t438 then t438 else x435001_2) = ji38 := hji38
           have H' := Aside0.mk H
           clear H
           have p435 : 0 ≤ (x44_2 : Int) := od_
           have q435 : x44_2 < (l0.length : Int) := od_
           obtain ⟨ad435, e435, hx435_0, hx435_1⟩ := at_T25 HR0.out x44_2 p435 q435
           obtain rfl : ad430 = ad435 := (by injection e435)
           replace hx435_0 := (HB.out.cell (World.block_lt_of_cell? w _ hx435_0)).trans hx435_0
           replace hx435_1 := (HB.out.cell (World.block_lt_of_cell? w _ hx435_1)).trans hx435_1
           replace p435 := eq_true p435
           replace q435 := eq_true q435
           try go_wp2_with (first | ((with_reducible refine gate_dst (N := 13) rfl ?_); (try (refine gate_guard (by rfl) ?_; dsimp only)); refine box_event ?hg (N := 13) ?hd (cs := #[.int .i64 0, .int .i64 0]) (t := 25) ?hr ?_; (case hd => rfl); (case hg => rfl); (case hr => first | (go_simp; done) | (go_simp; rfl)); intro gb436 hg w39 hbox hb; have n0_ := Aside0.mk (blk_below (bk_ BK424.out) hb); have n1_ := Aside0.mk (blk_below (bk_ BK425.out) hb); have n2_ := Aside0.mk (blk_below (bk_ BK433.out) hb); have n3_ := Aside0.mk (blk_below (bk_ BK434.out) hb); have n4_ := Aside0.mk (below_step (bws_ HB.out) hb); have n5_ := Aside0.mk (hbox); have n6_ := Aside0.mk ((ge_ hg (bws_ HB.out))); have n7_ := Aside0.mk ((ge_ hg (bws_ HB.out))); have n8_ := Aside0.mk ((ne1_ hg (bk_ BK424.out))); have n9_ := Aside0.mk ((ne2_ hg (bk_ BK424.out))); have n10_ := Aside0.mk ((ne1_ hg (bk_ BK425.out))); have n11_ := Aside0.mk ((ne2_ hg (bk_ BK425.out))); have n12_ := Aside0.mk ((ne1_ hg (bk_ BK433.out))); have n13_ := Aside0.mk ((ne2_ hg (bk_ BK433.out))); have n14_ := Aside0.mk ((ne1_ hg (bk_ BK434.out))); have n15_ := Aside0.mk ((ne2_ hg (bk_ BK434.out))); clear BK424; clear BK425; clear BK433; clear BK434; clear HB; have BK424 := n0_; have BK425 := n1_; have BK433 := n2_; have BK434 := n3_; have HB := n4_; have BK436 := n5_; have GW436 := n6_; have GE436 := n7_; have NB424_436 := n8_; have NB436_424 := n9_; have NB425_436 := n10_; have NB436_425 := n11_; have NB433_436 := n12_; have NB436_433 := n13_; have NB434_436 := n14_; have NB436_434 := n15_; clear n0_ n1_ n2_ n3_ n4_ n5_ n6_ n7_ n8_ n9_ n10_ n11_ n12_ n13_ n14_ n15_; clear hb hbox hg; have hnb40 := NB436_424.out; have hnc40 := NB424_436.out; have hnb41 := NB436_425.out; have hnc41 := NB425_436.out; have hnb42 := NB436_433.out; have hnc42 := NB433_436.out; have hnb43 := NB436_434.out; have hnc43 := NB434_436.out; have hcz44_0 : w39.cell? ⟨gb436, 0, none⟩ = some (.int .i64 0) := (blk_cell BK436.out 0).trans rfl; have hcz44_1 : w39.cell? ⟨gb436, 1, none⟩ = some (.int .i64 0) := (blk_cell BK436.out 1).trans rfl; have hfz44_0 := blk_frozen BK436.out 0; have hfz44_1 := blk_frozen BK436.out 1) | ((with_reducible refine gate_callee (f := 26) rfl ?_); refine goesL_ (some 51) rfl rfl Try.func26 (by kernel_rfl) rfl #[.agg #[.int .i64 ((rd_T25 l0 x44_2).f0), .int .i64 ((rd_T25 l0 x44_2).f1)], .int .i64 a1, .bool a2] rfl gl_ ?_; (with_reducible refine (impl_flatOf.calls k2 ((rd_T25 l0 x44_2).f0) ((rd_T25 l0 x44_2).f1) a1 a2 t437 t438 _ A34.out).mono ?_); rintro e w45 ⟨rfl, hb⟩; refine ⟨_, rfl, ?_⟩; have n0_ := Aside0.mk (blk_below (bf_ NB424_436.out BK424.out) hb); have n1_ := Aside0.mk (blk_below (bf_ NB425_436.out BK425.out) hb); have n2_ := Aside0.mk (blk_below (bf_ NB433_436.out BK433.out) hb); have n3_ := Aside0.mk (blk_below (bf_ NB434_436.out BK434.out) hb); have n4_ := Aside0.mk (blk_below (g := gb436) (o := .cells #[.int .i64 ((rd_T25 l0 x44_2).f0), .int .i64 ((rd_T25 l0 x44_2).f1)] 25 (0, 0)) (by (with_reducible repeat (first | refine blk_drewN ?_ _ | refine blk_drew ?_ | refine blk_alloc ?_ _)); refine blk_put (cs := #[.int .i64 ((rd_T25 l0 x44_2).f0), .int .i64 0]) ?_ 1 _ rfl; (with_reducible repeat (first | refine blk_drewN ?_ _ | refine blk_drew ?_ | refine blk_alloc ?_ _)); refine blk_put (cs := #[.int .i64 0, .int .i64 0]) ?_ 0 _ rfl; (with_reducible repeat (first | refine blk_drewN ?_ _ | refine blk_drew ?_ | refine blk_alloc ?_ _)); exact BK436.out) hb); have n5_ := Aside0.mk (below_step (bws_ HB.out) hb); clear BK424; clear BK425; clear BK433; clear BK434; clear BK436; clear HB; have BK424 := n0_; have BK425 := n1_; have BK433 := n2_; have BK434 := n3_; have BK436 := n4_; have HB := n5_; clear n0_ n1_ n2_ n3_ n4_ n5_; (try clear hb); (try clear hb2); (try clear hk); (try clear hi)) | ((with_reducible refine gate_dst (N := 14) rfl ?_); (try (refine gate_guard (by rfl) ?_; dsimp only)); refine box_event ?hg (N := 14) ?hd (cs := #[.int .i64 0, .int .i64 0]) (t := 29) ?hr ?_; (case hd => rfl); (case hg => rfl); (case hr => first | (go_simp; done) | (go_simp; rfl)); intro gb439 hg w46 hbox hb; have n0_ := Aside0.mk (blk_below (bk_ BK424.out) hb); have n1_ := Aside0.mk (blk_below (bk_ BK425.out) hb); have n2_ := Aside0.mk (blk_below (bk_ BK433.out) hb); have n3_ := Aside0.mk (blk_below (bk_ BK434.out) hb); have n4_ := Aside0.mk (blk_below (bk_ BK436.out) hb); have n5_ := Aside0.mk (below_step (bws_ HB.out) hb); have n6_ := Aside0.mk (hbox); have n7_ := Aside0.mk ((ge_ hg (bws_ HB.out))); have n8_ := Aside0.mk ((ge_ hg (bws_ HB.out))); have n9_ := Aside0.mk ((ne1_ hg (bk_ BK424.out))); have n10_ := Aside0.mk ((ne2_ hg (bk_ BK424.out))); have n11_ := Aside0.mk ((ne1_ hg (bk_ BK425.out))); have n12_ := Aside0.mk ((ne2_ hg (bk_ BK425.out))); have n13_ := Aside0.mk ((ne1_ hg (bk_ BK433.out))); have n14_ := Aside0.mk ((ne2_ hg (bk_ BK433.out))); have n15_ := Aside0.mk ((ne1_ hg (bk_ BK434.out))); have n16_ := Aside0.mk ((ne2_ hg (bk_ BK434.out))); have n17_ := Aside0.mk ((ne1_ hg (bk_ BK436.out))); have n18_ := Aside0.mk ((ne2_ hg (bk_ BK436.out))); clear BK424; clear BK425; clear BK433; clear BK434; clear BK436; clear HB; have BK424 := n0_; have BK425 := n1_; have BK433 := n2_; have BK434 := n3_; have BK436 := n4_; have HB := n5_; have BK439 := n6_; have GW439 := n7_; have GE439 := n8_; have NB424_439 := n9_; have NB439_424 := n10_; have NB425_439 := n11_; have NB439_425 := n12_; have NB433_439 := n13_; have NB439_433 := n14_; have NB434_439 := n15_; have NB439_434 := n16_; have NB436_439 := n17_; have NB439_436 := n18_; clear n0_ n1_ n2_ n3_ n4_ n5_ n6_ n7_ n8_ n9_ n10_ n11_ n12_ n13_ n14_ n15_ n16_ n17_ n18_; clear hb hbox hg; have hnb47 := NB439_424.out; have hnc47 := NB424_439.out; have hnb48 := NB439_425.out; have hnc48 := NB425_439.out; have hnb49 := NB439_433.out; have hnc49 := NB433_439.out; have hnb50 := NB439_434.out; have hnc50 := NB434_439.out; have hnb51 := NB439_436.out; have hnc51 := NB436_439.out; have hcz52_0 : w46.cell? ⟨gb439, 0, none⟩ = some (.int .i64 0) := (blk_cell BK439.out 0).trans rfl; have hcz52_1 : w46.cell? ⟨gb439, 1, none⟩ = some (.int .i64 0) := (blk_cell BK439.out 1).trans rfl; have hfz52_0 := blk_frozen BK439.out 0; have hfz52_1 := blk_frozen BK439.out 1))
           have n0_ : Aside0 (((w46.setCell ⟨gb439, 0, none⟩ (.int .i64 t437)).setCell ⟨gb439, 1, none⟩ (.int .i64 t438)).heap[gb424]? = some (.cells #[.int .i64 0, .int .i64 0] 29 (0, 0))) := ⟨bf2_ NB424_439.out BK424.out⟩
           have n1_ : Aside0 (((w46.setCell ⟨gb439, 0, none⟩ (.int .i64 t437)).setCell ⟨gb439, 1, none⟩ (.int .i64 t438)).heap[gb425]? = some (.cells #[.int .i64 0, .int .i64 0] 29 (0, 0))) := ⟨bf2_ NB425_439.out BK425.out⟩
           have n2_ : Aside0 (((w46.setCell ⟨gb439, 0, none⟩ (.int .i64 t437)).setCell ⟨gb439, 1, none⟩ (.int .i64 t438)).heap[gb433]? = some (.cells #[.int .i64 x434000_2, .int .i64 x434001_2] 29 (0, 0))) := ⟨bf2_ NB433_439.out BK433.out⟩
           have n3_ : Aside0 (((w46.setCell ⟨gb439, 0, none⟩ (.int .i64 t437)).setCell ⟨gb439, 1, none⟩ (.int .i64 t438)).heap[gb434]? = some (.cells #[.int .i64 x435000_2, .int .i64 x435001_2] 29 (0, 0))) := ⟨bf2_ NB434_439.out BK434.out⟩
           have n4_ : Aside0 (((w46.setCell ⟨gb439, 0, none⟩ (.int .i64 t437)).setCell ⟨gb439, 1, none⟩ (.int .i64 t438)).heap[gb436]? = some (.cells #[.int .i64 ((rd_T25 l0 x44_2).f0), .int .i64 ((rd_T25 l0 x44_2).f1)] 25 (0, 0))) := ⟨bf2_ NB436_439.out BK436.out⟩
           have n5_ : Aside0 (((w46.setCell ⟨gb439, 0, none⟩ (.int .i64 t437)).setCell ⟨gb439, 1, none⟩ (.int .i64 t438)).heap[gb439]? = some (.cells #[.int .i64 t437, .int .i64 t438] 29 (0, 0))) := ⟨by (with_reducible repeat (first | refine blk_drewN ?_ _ | refine blk_drew ?_ | refine blk_alloc ?_ _)); refine blk_put (cs := #[.int .i64 t437, .int .i64 0]) ?_ 1 _ rfl; (with_reducible repeat (first | refine blk_drewN ?_ _ | refine blk_drew ?_ | refine blk_alloc ?_ _)); refine blk_put (cs := #[.int .i64 0, .int .i64 0]) ?_ 0 _ rfl; (with_reducible repeat (first | refine blk_drewN ?_ _ | refine blk_drew ?_ | refine blk_alloc ?_ _)); exact BK439.out⟩
           have n6_ : Aside0 (Below w.heap.size w ((w46.setCell ⟨gb439, 0, none⟩ (.int .i64 t437)).setCell ⟨gb439, 1, none⟩ (.int .i64 t438))) := ⟨bws_ HB.out⟩
           (try clear BK424)
           (try clear BK425)
           (try clear BK433)
           (try clear BK434)
           (try clear BK436)
           (try clear BK439)
           (try clear HB)
           generalize ((w46.setCell ⟨gb439, 0, none⟩ (.int .i64 t437)).setCell ⟨gb439, 1, none⟩ (.int .i64 t438)) = w53 at n0_ n1_ n2_ n3_ n4_ n5_ n6_ ⊢
           have BK424 := n0_; have BK425 := n1_; have BK433 := n2_; have BK434 := n3_; have BK436 := n4_; have BK439 := n5_; have HB := n6_
           clear n0_ n1_ n2_ n3_ n4_ n5_ n6_
           have n0_ := Aside0.mk (blk_drew BK424.out)
           have n1_ := Aside0.mk (blk_drew BK425.out)
           have n2_ := Aside0.mk (blk_drew BK433.out)
           have n3_ := Aside0.mk (blk_drew BK434.out)
           have n4_ := Aside0.mk (blk_drew BK436.out)
           have n5_ := Aside0.mk (blk_drew BK439.out)
           have n6_ := Aside0.mk (below_drew1 HB.out)
           clear BK424 BK425 BK433 BK434 BK436 BK439 HB
           have BK424 := n0_; have BK425 := n1_; have BK433 := n2_; have BK434 := n3_; have BK436 := n4_; have BK439 := n5_; have HB := n6_
           clear n0_ n1_ n2_ n3_ n4_ n5_ n6_
           refine start_ (n := 24) (S := fun w' => w'.cell? ⟨gb439, 0, none⟩ = some (.int .i64 t437) ∧ w'.cell? ⟨gb439, 1, none⟩ = some (.int .i64 t438) ∧ w'.cell? ⟨gb434, 0, none⟩ = some (.int .i64 x435000_2) ∧ w'.cell? ⟨gb434, 1, none⟩ = some (.int .i64 x435001_2)) (ds := [23]) #[false, false, false, false, false, false, false, false, false, false, false, false, false, false, false, false, false, false, false, false, false, false, false, false] (by kernel_rfl) rfl rfl ⟨(blk_cell BK439.out 0).trans rfl, (blk_cell BK439.out 1).trans rfl, (blk_cell BK434.out 0).trans rfl, (blk_cell BK434.out 1).trans rfl⟩ (fun hHeld => ?_); refine with_tabW impl_FlatBox.tab12 impl_FlatBox.bits12 (fun HT_ HW_ => ?_)
           generalize w53.drew = w54 at BK424 BK425 BK433 BK434 BK436 BK439 HB hHeld ⊢
           have hcv0 := (blk_cell BK433.out 0).trans rfl
           have hcv1 := (blk_cell BK433.out 1).trans rfl
           refine pure_ (i := 0) (N := some 52) (v := ?_) (a' := ?_) #[true, false, false, false, false, false, false, false, false, false, false, false, false, false, false, false, false, false, false, false, false, false, false, false] rfl rfl (any_of HT_.out (by kernel_rfl)) (fun _ _ _ h => h) (Or.inl ⟨by rfl, ?_⟩) ?_ ?_
           rotate_left
           ·intro w'
            go_simp
            with_reducible rfl
           rotate_left
           ·simp only [Act.put, List.setIfInBounds_toArray, List.set_cons_zero, List.set_cons_succ, i64_w, i32_w]
            rfl
           refine pure_ (i := 2) (N := some 54) (v := ?_) (a' := ?_) #[true, false, true, false, false, false, false, false, false, false, false, false, false, false, false, false, false, false, false, false, false, false, false, false] rfl rfl (any_of HT_.out (by kernel_rfl)) (fun _ _ _ h => h) (Or.inl ⟨by rfl, ?_⟩) ?_ ?_
           rotate_left
           ·intro w'
            go_simp
            with_reducible rfl
           rotate_left
           ·simp only [Act.put, List.setIfInBounds_toArray, List.set_cons_zero, List.set_cons_succ, i64_w, i32_w]
            rfl
           refine pure_ (i := 5) (N := some 57) (v := ?_) (a' := ?_) #[true, false, true, false, false, true, false, false, false, false, false, false, false, false, false, false, false, false, false, false, false, false, false, false] rfl rfl (any_of HT_.out (by kernel_rfl)) (fun _ _ _ h => h) (Or.inl ⟨by rfl, ?_⟩) ?_ ?_
           rotate_left
           ·intro w'
            go_simp
            with_reducible rfl
           rotate_left
           ·simp only [Act.put, List.setIfInBounds_toArray, List.set_cons_zero, List.set_cons_succ, i64_w, i32_w]
            rfl
           refine pure_ (i := 7) (N := some 59) (v := ?_) (a' := ?_) #[true, false, true, false, false, true, false, true, false, false, false, false, false, false, false, false, false, false, false, false, false, false, false, false] rfl rfl (any_of HT_.out (by kernel_rfl)) (fun _ _ _ h => h) (Or.inl ⟨by rfl, ?_⟩) ?_ ?_
           rotate_left
           ·intro w'
            go_simp
            with_reducible rfl
           rotate_left
           ·simp only [Act.put, List.setIfInBounds_toArray, List.set_cons_zero, List.set_cons_succ, i64_w, i32_w]
            rfl
           refine pure_ (i := 11) (N := some 63) (v := ?_) (a' := ?_) #[true, false, true, false, false, true, false, true, false, false, false, true, false, false, false, false, false, false, false, false, false, false, false, false] rfl rfl (any_of HT_.out (by kernel_rfl)) (fun _ _ _ h => h) (Or.inl ⟨by rfl, ?_⟩) ?_ ?_
           rotate_left
           ·intro w'
            go_simp
            with_reducible rfl
           rotate_left
           ·simp only [Act.put, List.setIfInBounds_toArray, List.set_cons_zero, List.set_cons_succ, i64_w, i32_w]
            rfl
           refine pure_ (i := 13) (N := some 65) (v := ?_) (a' := ?_) #[true, false, true, false, false, true, false, true, false, false, false, true, false, true, false, false, false, false, false, false, false, false, false, false] rfl rfl (any_of HT_.out (by kernel_rfl)) (fun _ _ _ h => h) (Or.inl ⟨by rfl, ?_⟩) ?_ ?_
           rotate_left
           ·intro w'
            go_simp
            with_reducible rfl
           rotate_left
           ·simp only [Act.put, List.setIfInBounds_toArray, List.set_cons_zero, List.set_cons_succ, i64_w, i32_w]
            rfl
           refine pure_ (i := 16) (N := some 68) (v := ?_) (a' := ?_) #[true, false, true, false, false, true, false, true, false, false, false, true, false, true, false, false, true, false, false, false, false, false, false, false] rfl rfl (any_of HT_.out (by kernel_rfl)) (fun _ _ _ h => h) (Or.inl ⟨by rfl, ?_⟩) ?_ ?_
           rotate_left
           ·intro w'
            go_simp
            with_reducible rfl
           rotate_left
           ·simp only [Act.put, List.setIfInBounds_toArray, List.set_cons_zero, List.set_cons_succ, i64_w, i32_w]
            rfl
           refine pure_ (i := 18) (N := some 70) (v := ?_) (a' := ?_) #[true, false, true, false, false, true, false, true, false, false, false, true, false, true, false, false, true, false, true, false, false, false, false, false] rfl rfl (any_of HT_.out (by kernel_rfl)) (fun _ _ _ h => h) (Or.inl ⟨by rfl, ?_⟩) ?_ ?_
           rotate_left
           ·intro w'
            go_simp
            with_reducible rfl
           rotate_left
           ·simp only [Act.put, List.setIfInBounds_toArray, List.set_cons_zero, List.set_cons_succ, i64_w, i32_w]
            rfl
           refine take_ (i := 3) (N := some 55) (v := ?_) (a' := ?_) #[true, false, true, true, false, true, false, true, false, false, false, true, false, true, false, false, true, false, true, false, false, false, false, false] rfl rfl (take_ofW HT_.out HW_.out (by kernel_rfl)) (fun _ _ _ h => h) (Or.inl ⟨by rfl, ?_⟩) hHeld ?_ ?_
           rotate_left
           ·rintro w' ⟨s0, s1, s2, s3⟩
            go_simp
            with_reducible rfl
           rotate_left
           ·simp only [Act.put, List.setIfInBounds_toArray, List.set_cons_zero, List.set_cons_succ, i64_w, i32_w]
            rfl
           refine take_ (i := 8) (N := some 60) (v := ?_) (a' := ?_) #[true, false, true, true, false, true, false, true, true, false, false, true, false, true, false, false, true, false, true, false, false, false, false, false] rfl rfl (take_ofW HT_.out HW_.out (by kernel_rfl)) (fun _ _ _ h => h) (Or.inl ⟨by rfl, ?_⟩) hHeld ?_ ?_
           rotate_left
           ·rintro w' ⟨s0, s1, s2, s3⟩
            go_simp
            with_reducible rfl
           rotate_left
           ·simp only [Act.put, List.setIfInBounds_toArray, List.set_cons_zero, List.set_cons_succ, i64_w, i32_w]
            rfl
           refine take_ (i := 12) (N := some 64) (v := ?_) (a' := ?_) #[true, false, true, true, false, true, false, true, true, false, false, true, true, true, false, false, true, false, true, false, false, false, false, false] rfl rfl (take_ofW HT_.out HW_.out (by kernel_rfl)) (fun _ _ _ h => h) (Or.inl ⟨by rfl, ?_⟩) hHeld ?_ ?_
           rotate_left
           ·rintro w' ⟨s0, s1, s2, s3⟩
            go_simp
            with_reducible rfl
           rotate_left
           ·simp only [Act.put, List.setIfInBounds_toArray, List.set_cons_zero, List.set_cons_succ, i64_w, i32_w]
            rfl
           refine take_ (i := 14) (N := some 66) (v := ?_) (a' := ?_) #[true, false, true, true, false, true, false, true, true, false, false, true, true, true, true, false, true, false, true, false, false, false, false, false] rfl rfl (take_ofW HT_.out HW_.out (by kernel_rfl)) (fun _ _ _ h => h) (Or.inl ⟨by rfl, ?_⟩) hHeld ?_ ?_
           rotate_left
           ·rintro w' ⟨s0, s1, s2, s3⟩
            go_simp
            with_reducible rfl
           rotate_left
           ·simp only [Act.put, List.setIfInBounds_toArray, List.set_cons_zero, List.set_cons_succ, i64_w, i32_w]
            rfl
           refine pure_ (i := 15) (N := some 67) (v := ?_) (a' := ?_) #[true, false, true, true, false, true, false, true, true, false, false, true, true, true, true, true, true, false, true, false, false, false, false, false] rfl rfl (any_of HT_.out (by kernel_rfl)) (fun _ _ _ h => h) (Or.inl ⟨by rfl, ?_⟩) ?_ ?_
           rotate_left
           ·intro w'
            go_simp
            with_reducible rfl
           rotate_left
           ·simp only [Act.put, List.setIfInBounds_toArray, List.set_cons_zero, List.set_cons_succ, i64_w, i32_w]
            rfl
           refine take_ (i := 17) (N := some 69) (v := ?_) (a' := ?_) #[true, false, true, true, false, true, false, true, true, false, false, true, true, true, true, true, true, true, true, false, false, false, false, false] rfl rfl (take_ofW HT_.out HW_.out (by kernel_rfl)) (fun _ _ _ h => h) (Or.inl ⟨by rfl, ?_⟩) hHeld ?_ ?_
           rotate_left
           ·rintro w' ⟨s0, s1, s2, s3⟩
            go_simp
            with_reducible rfl
           rotate_left
           ·simp only [Act.put, List.setIfInBounds_toArray, List.set_cons_zero, List.set_cons_succ, i64_w, i32_w]
            rfl
           refine take_ (i := 19) (N := some 71) (v := ?_) (a' := ?_) #[true, false, true, true, false, true, false, true, true, false, false, true, true, true, true, true, true, true, true, true, false, false, false, false] rfl rfl (take_ofW HT_.out HW_.out (by kernel_rfl)) (fun _ _ _ h => h) (Or.inl ⟨by rfl, ?_⟩) hHeld ?_ ?_
           rotate_left
           ·rintro w' ⟨s0, s1, s2, s3⟩
            go_simp
            with_reducible rfl
           rotate_left
           ·simp only [Act.put, List.setIfInBounds_toArray, List.set_cons_zero, List.set_cons_succ, i64_w, i32_w]
            rfl
           refine pure_ (i := 20) (N := some 72) (v := ?_) (a' := ?_) #[true, false, true, true, false, true, false, true, true, false, false, true, true, true, true, true, true, true, true, true, true, false, false, false] rfl rfl (any_of HT_.out (by kernel_rfl)) (fun _ _ _ h => h) (Or.inl ⟨by rfl, ?_⟩) ?_ ?_
           rotate_left
           ·intro w'
            go_simp
            with_reducible rfl
           rotate_left
           ·simp only [Act.put, List.setIfInBounds_toArray, List.set_cons_zero, List.set_cons_succ, i64_w, i32_w]
            rfl
           refine pure_ (i := 21) (N := some 73) (v := ?_) (a' := ?_) #[true, false, true, true, false, true, false, true, true, false, false, true, true, true, true, true, true, true, true, true, true, true, false, false] rfl rfl (any_of HT_.out (by kernel_rfl)) (fun _ _ _ h => h) (Or.inl ⟨by rfl, ?_⟩) ?_ ?_
           rotate_left
           ·intro w'
            go_simp
            with_reducible rfl
           rotate_left
           ·simp only [Act.put, List.setIfInBounds_toArray, List.set_cons_zero, List.set_cons_succ, i64_w, i32_w]
            rfl
           refine join_ (σ := Unit) 3 #[true, true, true, true, true, true, true, true, true, true, false, true, true, true, true, true, true, true, true, true, true, true, false, false] (fun _ => [(53, .int .i64 x434000_2), (56, .int .i64 ji35), (58, .int .i64 x434001_2), (61, .int .i64 ji36)]) (fun _ w' => w54 = w' ∧ (w'.cell? ⟨gb439, 0, none⟩ = some (.int .i64 t437) ∧ w'.cell? ⟨gb439, 1, none⟩ = some (.int .i64 t438) ∧ w'.cell? ⟨gb434, 0, none⟩ = some (.int .i64 x435000_2) ∧ w'.cell? ⟨gb434, 1, none⟩ = some (.int .i64 x435001_2))) ?_ ?_
           rotate_left
           ·intro hCont
            refine two_ (i := 1) (j := 6) (Ni := some 53) (Nj := some 58) #[true, true, true, true, false, true, false, true, true, false, false, true, true, true, true, true, true, true, true, true, true, true, false, false] #[true, false, true, true, false, true, true, true, true, false, false, true, true, true, true, true, true, true, true, true, true, true, false, false] rfl rfl rfl rfl (two_of HT_.out (by kernel_rfl)) (by decide) (by decide) (fun K hK => ?_) (fun K hK => ?_)
            ·skip
             refine value_ (w1 := ?_) (v := ?_) (by rfl) rfl ?_ ?_
             rotate_left 2
             ·go_simp
              constructor
              ·rfl
              ·rfl
             refine hK.out _ _ ⟨hHeld.1, hHeld.2.1, hHeld.2.2.1, hHeld.2.2.2⟩ (fun hHeld => ?_)
             clear hK K
             refine norm_ (a' := ?_) ?_ ?_
             rotate_left
             ·show Act.put _ (some 53) _ = _
              simp only [Act.put, List.setIfInBounds_toArray, List.set_cons_zero, List.set_cons_succ, i64_w, i32_w]
              rfl
             refine pure_ (i := 4) (N := some 56) (v := ?_) (a' := ?_) #[true, true, true, true, true, true, false, true, true, false, false, true, true, true, true, true, true, true, true, true, true, true, false, false] rfl rfl (any_of HT_.out (by kernel_rfl)) (fun _ _ _ h => h) (Or.inl ⟨by rfl, ?_⟩) ?_ ?_
             rotate_left
             ·intro w'
              go_simp
              with_reducible rfl
             rotate_left
             ·simp only [Act.put, List.setIfInBounds_toArray, List.set_cons_zero, List.set_cons_succ, i64_w, i32_w]
              rfl
             refine one_ (i := 6) (N := some 58) #[true, true, true, true, true, true, true, true, true, false, false, true, true, true, true, true, true, true, true, true, true, true, false, false] rfl rfl (one_of HT_.out (by kernel_rfl)) (by decide) (fun K hK => ?_)
             refine value_ (w1 := ?_) (v := ?_) (by rfl) rfl ?_ ?_
             rotate_left 2
             ·go_simp
              constructor
              ·rfl
              ·rfl
             refine hK.out _ _ ⟨hHeld.1, hHeld.2.1, hHeld.2.2.1, hHeld.2.2.2⟩ (fun hHeld => ?_)
             clear hK K
             refine norm_ (a' := ?_) ?_ ?_
             rotate_left
             ·show Act.put _ (some 58) _ = _
              simp only [Act.put, List.setIfInBounds_toArray, List.set_cons_zero, List.set_cons_succ, i64_w, i32_w]
              rfl
             refine pure_ (i := 9) (N := some 61) (v := ?_) (a' := ?_) #[true, true, true, true, true, true, true, true, true, true, false, true, true, true, true, true, true, true, true, true, true, true, false, false] rfl rfl (any_of HT_.out (by kernel_rfl)) (fun _ _ _ h => h) (Or.inl ⟨by rfl, ?_⟩) ?_ ?_
             rotate_left
             ·intro w'
              go_simp
              with_reducible rfl
             rotate_left
             ·simp only [Act.put, List.setIfInBounds_toArray, List.set_cons_zero, List.set_cons_succ, i64_w, i32_w]
              rfl
             exact norm_ (by simp only [putAll, Act.put, List.setIfInBounds_toArray, List.set_cons_zero, List.set_cons_succ]) (hCont () _ ⟨rfl, hHeld⟩)
            ·skip
             refine value_ (w1 := ?_) (v := ?_) (by rfl) rfl ?_ ?_
             rotate_left 2
             ·go_simp
              constructor
              ·rfl
              ·rfl
             refine hK.out _ _ ⟨hHeld.1, hHeld.2.1, hHeld.2.2.1, hHeld.2.2.2⟩ (fun hHeld => ?_)
             clear hK K
             refine norm_ (a' := ?_) ?_ ?_
             rotate_left
             ·show Act.put _ (some 58) _ = _
              simp only [Act.put, List.setIfInBounds_toArray, List.set_cons_zero, List.set_cons_succ, i64_w, i32_w]
              rfl
             refine pure_ (i := 9) (N := some 61) (v := ?_) (a' := ?_) #[true, false, true, true, false, true, true, true, true, true, false, true, true, true, true, true, true, true, true, true, true, true, false, false] rfl rfl (any_of HT_.out (by kernel_rfl)) (fun _ _ _ h => h) (Or.inl ⟨by rfl, ?_⟩) ?_ ?_
             rotate_left
             ·intro w'
              go_simp
              with_reducible rfl
             rotate_left
             ·simp only [Act.put, List.setIfInBounds_toArray, List.set_cons_zero, List.set_cons_succ, i64_w, i32_w]
              rfl
             refine one_ (i := 1) (N := some 53) #[true, true, true, true, false, true, true, true, true, true, false, true, true, true, true, true, true, true, true, true, true, true, false, false] rfl rfl (one_of HT_.out (by kernel_rfl)) (by decide) (fun K hK => ?_)
             refine value_ (w1 := ?_) (v := ?_) (by rfl) rfl ?_ ?_
             rotate_left 2
             ·go_simp
              constructor
              ·rfl
              ·rfl
             refine hK.out _ _ ⟨hHeld.1, hHeld.2.1, hHeld.2.2.1, hHeld.2.2.2⟩ (fun hHeld => ?_)
             clear hK K
             refine norm_ (a' := ?_) ?_ ?_
             rotate_left
             ·show Act.put _ (some 53) _ = _
              simp only [Act.put, List.setIfInBounds_toArray, List.set_cons_zero, List.set_cons_succ, i64_w, i32_w]
              rfl
             refine pure_ (i := 4) (N := some 56) (v := ?_) (a' := ?_) #[true, true, true, true, true, true, true, true, true, true, false, true, true, true, true, true, true, true, true, true, true, true, false, false] rfl rfl (any_of HT_.out (by kernel_rfl)) (fun _ _ _ h => h) (Or.inl ⟨by rfl, ?_⟩) ?_ ?_
             rotate_left
             ·intro w'
              go_simp
              with_reducible rfl
             rotate_left
             ·simp only [Act.put, List.setIfInBounds_toArray, List.set_cons_zero, List.set_cons_succ, i64_w, i32_w]
              rfl
             exact norm_ (by simp only [putAll, Act.put, List.setIfInBounds_toArray, List.set_cons_zero, List.set_cons_succ]) (hCont () _ ⟨rfl, hHeld⟩)
           rintro ⟨⟩ w' ⟨rfl, hHeld⟩
           refine norm_ (a' := ?_) ?_ ?_
           rotate_left
           ·simp only [putAll, Act.put, List.setIfInBounds_toArray, List.set_cons_zero, List.set_cons_succ]
            rfl
           refine pure_ (i := 10) (N := some 62) (v := ?_) (a' := ?_) #[true, true, true, true, true, true, true, true, true, true, true, true, true, true, true, true, true, true, true, true, true, true, false, false] rfl rfl (any_of HT_.out (by kernel_rfl)) (fun _ _ _ h => h) (Or.inl ⟨by rfl, ?_⟩) ?_ ?_
           rotate_left
           ·intro w'
            go_simp
            with_reducible rfl
           rotate_left
           ·simp only [Act.put, List.setIfInBounds_toArray, List.set_cons_zero, List.set_cons_succ, i64_w, i32_w]
            rfl
           refine one_ (i := 22) (N := none) #[true, true, true, true, true, true, true, true, true, true, true, true, true, true, true, true, true, true, true, true, true, true, true, false] rfl rfl (one_of HT_.out (by kernel_rfl)) (by decide) (fun K hK => ?_)
           have hs55 : w54.cell? ⟨gb433, 0, none⟩ = some (.int .i64 x434000_2) := (blk_cell BK433.out 0).trans rfl
           have hfs55 := blk_frozen BK433.out 0
           have hns55_0 := NB424_433.out
           have hns55_1 := NB425_433.out
           have hns55_3 := NB434_433.out
           have hns55_4 := NB436_433.out
           have hns55_5 := NB439_433.out
           have hms55_0 := NB433_424.out
           have hms55_1 := NB433_425.out
           have hms55_3 := NB433_434.out
           have hms55_4 := NB433_436.out
           have hms55_5 := NB433_439.out
           have hs56 : w54.cell? ⟨gb433, 1, none⟩ = some (.int .i64 x434001_2) := (blk_cell BK433.out 1).trans rfl
           have hfs56 := blk_frozen BK433.out 1
           have hns56_0 := NB424_433.out
           have hns56_1 := NB425_433.out
           have hns56_3 := NB434_433.out
           have hns56_4 := NB436_433.out
           have hns56_5 := NB439_433.out
           have hms56_0 := NB433_424.out
           have hms56_1 := NB433_425.out
           have hms56_3 := NB433_434.out
           have hms56_4 := NB433_436.out
           have hms56_5 := NB433_439.out
           refine skip_ (w1 := ?_) (by rfl) rfl ?_ ?_
           rotate_left
           ·go_simp
            rfl
           refine hK.out _ _ ⟨((cell_far (p := ⟨gb433, _, none⟩) NB439_433.out _).trans (((cell_far (p := ⟨gb433, _, none⟩) NB439_433.out _).trans (hHeld.1)))), ((cell_far (p := ⟨gb433, _, none⟩) NB439_433.out _).trans (((cell_far (p := ⟨gb433, _, none⟩) NB439_433.out _).trans (hHeld.2.1)))), ((cell_far (p := ⟨gb433, _, none⟩) NB434_433.out _).trans (((cell_far (p := ⟨gb433, _, none⟩) NB434_433.out _).trans (hHeld.2.2.1)))), ((cell_far (p := ⟨gb433, _, none⟩) NB434_433.out _).trans (((cell_far (p := ⟨gb433, _, none⟩) NB434_433.out _).trans (hHeld.2.2.2))))⟩ (fun hHeld => ?_)
           clear hK K
           refine last_ (i := 23) (N := none) #[true, true, true, true, true, true, true, true, true, true, true, true, true, true, true, true, true, true, true, true, true, true, true, true] rfl rfl (one_of HT_.out (by kernel_rfl)) (by decide) (fun K hK => ?_)
           have hs57 : w54.cell? ⟨gb434, 0, none⟩ = some (.int .i64 x435000_2) := (blk_cell BK434.out 0).trans rfl
           have hfs57 := blk_frozen BK434.out 0
           have hns57_0 := NB424_434.out
           have hns57_1 := NB425_434.out
           have hns57_2 := NB433_434.out
           have hns57_4 := NB436_434.out
           have hns57_5 := NB439_434.out
           have hms57_0 := NB434_424.out
           have hms57_1 := NB434_425.out
           have hms57_2 := NB434_433.out
           have hms57_4 := NB434_436.out
           have hms57_5 := NB434_439.out
           have hs58 : w54.cell? ⟨gb434, 1, none⟩ = some (.int .i64 x435001_2) := (blk_cell BK434.out 1).trans rfl
           have hfs58 := blk_frozen BK434.out 1
           have hns58_0 := NB424_434.out
           have hns58_1 := NB425_434.out
           have hns58_2 := NB433_434.out
           have hns58_4 := NB436_434.out
           have hns58_5 := NB439_434.out
           have hms58_0 := NB434_424.out
           have hms58_1 := NB434_425.out
           have hms58_2 := NB434_433.out
           have hms58_4 := NB434_436.out
           have hms58_5 := NB434_439.out
           refine skip_ (w1 := ?_) (by rfl) rfl ?_ ?_
           rotate_left
           ·go_simp
            rfl
           refine hK.out _ _ ?_
           clear hK K
           refine done_ (done_of HT_.out (by kernel_rfl)) ?_
           try go_wp2
           go_roundg k2
           case measure => have := HJ3.out; have := HK2.out; omega
           case rel => exact ⟨(wrap64 (x44_2 + 1)), (ji35), (ji36), (ji37), (ji38), (by first | rfl | (simp; done) | (simp [*]; done)), H', ⟨by have := HJ3.out; have := HK2.out; omega⟩, ⟨by (with_reducible repeat (first | refine blk_drewN ?_ _ | refine blk_drew ?_ | refine blk_alloc ?_ _)); refine blk_far ?_ NB424_434.out _; (with_reducible repeat (first | refine blk_drewN ?_ _ | refine blk_drew ?_ | refine blk_alloc ?_ _)); refine blk_far ?_ NB424_434.out _; (with_reducible repeat (first | refine blk_drewN ?_ _ | refine blk_drew ?_ | refine blk_alloc ?_ _)); refine blk_far ?_ NB424_433.out _; (with_reducible repeat (first | refine blk_drewN ?_ _ | refine blk_drew ?_ | refine blk_alloc ?_ _)); refine blk_far ?_ NB424_433.out _; (with_reducible repeat (first | refine blk_drewN ?_ _ | refine blk_drew ?_ | refine blk_alloc ?_ _)); exact BK424.out⟩, ⟨by (with_reducible repeat (first | refine blk_drewN ?_ _ | refine blk_drew ?_ | refine blk_alloc ?_ _)); refine blk_far ?_ NB425_434.out _; (with_reducible repeat (first | refine blk_drewN ?_ _ | refine blk_drew ?_ | refine blk_alloc ?_ _)); refine blk_far ?_ NB425_434.out _; (with_reducible repeat (first | refine blk_drewN ?_ _ | refine blk_drew ?_ | refine blk_alloc ?_ _)); refine blk_far ?_ NB425_433.out _; (with_reducible repeat (first | refine blk_drewN ?_ _ | refine blk_drew ?_ | refine blk_alloc ?_ _)); refine blk_far ?_ NB425_433.out _; (with_reducible repeat (first | refine blk_drewN ?_ _ | refine blk_drew ?_ | refine blk_alloc ?_ _)); exact BK425.out⟩, ⟨by (with_reducible repeat (first | refine blk_drewN ?_ _ | refine blk_drew ?_ | refine blk_alloc ?_ _)); refine blk_far ?_ NB433_434.out _; (with_reducible repeat (first | refine blk_drewN ?_ _ | refine blk_drew ?_ | refine blk_alloc ?_ _)); refine blk_far ?_ NB433_434.out _; (with_reducible repeat (first | refine blk_drewN ?_ _ | refine blk_drew ?_ | refine blk_alloc ?_ _)); refine blk_put (cs := #[.int .i64 ji35, .int .i64 x434001_2]) ?_ 1 _ rfl; (with_reducible repeat (first | refine blk_drewN ?_ _ | refine blk_drew ?_ | refine blk_alloc ?_ _)); refine blk_put (cs := #[.int .i64 x434000_2, .int .i64 x434001_2]) ?_ 0 _ rfl; (with_reducible repeat (first | refine blk_drewN ?_ _ | refine blk_drew ?_ | refine blk_alloc ?_ _)); exact BK433.out⟩, ⟨by (with_reducible repeat (first | refine blk_drewN ?_ _ | refine blk_drew ?_ | refine blk_alloc ?_ _)); refine blk_put (cs := #[.int .i64 ji37, .int .i64 x435001_2]) ?_ 1 _ rfl; (with_reducible repeat (first | refine blk_drewN ?_ _ | refine blk_drew ?_ | refine blk_alloc ?_ _)); refine blk_put (cs := #[.int .i64 x435000_2, .int .i64 x435001_2]) ?_ 0 _ rfl; (with_reducible repeat (first | refine blk_drewN ?_ _ | refine blk_drew ?_ | refine blk_alloc ?_ _)); refine blk_far ?_ NB434_433.out _; (with_reducible repeat (first | refine blk_drewN ?_ _ | refine blk_drew ?_ | refine blk_alloc ?_ _)); refine blk_far ?_ NB434_433.out _; (with_reducible repeat (first | refine blk_drewN ?_ _ | refine blk_drew ?_ | refine blk_alloc ?_ _)); exact BK434.out⟩, ⟨bws_ HB.out⟩⟩
          ·rw [if_neg c33] at H
           exact absurd H (by simp)
         ·rw [if_neg c32] at H
          exact absurd H (by simp)
        ·rw [if_neg c31] at H
         have c31b0 : decide (x44_2 < (l0.length : Int)) = false := decide_eq_false c31
         clear c31
         simp only [Option.some.injEq, Prod.mk.injEq] at H
         obtain ⟨rfl, rfl, rfl, rfl, rfl⟩ := H
         try go_wp2
         have n0_ := Aside0.mk (blk_drew BK424.out)
         have n1_ := Aside0.mk (blk_drew BK425.out)
         have n2_ := Aside0.mk (blk_drew BK433.out)
         have n3_ := Aside0.mk (blk_drew BK434.out)
         have n4_ := Aside0.mk (below_drew1 HB.out)
         clear BK424 BK425 BK433 BK434 HB
         have BK424 := n0_; have BK425 := n1_; have BK433 := n2_; have BK434 := n3_; have HB := n4_
         clear n0_ n1_ n2_ n3_ n4_
         refine start_ (n := 5) (S := fun w' => w'.cell? ⟨gb433, 0, none⟩ = some (.int .i64 x434000_2) ∧ w'.cell? ⟨gb433, 1, none⟩ = some (.int .i64 x434001_2) ∧ w'.cell? ⟨gb434, 0, none⟩ = some (.int .i64 x435000_2) ∧ w'.cell? ⟨gb434, 1, none⟩ = some (.int .i64 x435001_2)) (ds := []) #[false, false, false, false, false] (by kernel_rfl) rfl rfl ⟨(blk_cell BK433.out 0).trans rfl, (blk_cell BK433.out 1).trans rfl, (blk_cell BK434.out 0).trans rfl, (blk_cell BK434.out 1).trans rfl⟩ (fun hHeld => ?_)
         generalize wr.drew = w59 at BK424 BK425 BK433 BK434 HB hHeld ⊢
         refine take_ (i := 0) (N := some 75) (v := ?_) (a' := ?_) #[true, false, false, false, false] rfl rfl (by kernel_rfl) (fun _ _ _ h => h) (Or.inl ⟨by rfl, ?_⟩) hHeld ?_ ?_
         rotate_left
         ·rintro w' ⟨s0, s1, s2, s3⟩
          go_simp
          with_reducible rfl
         rotate_left
         ·simp only [Act.put, List.setIfInBounds_toArray, List.set_cons_zero, List.set_cons_succ, i64_w, i32_w]
          rfl
         refine take_ (i := 1) (N := some 76) (v := ?_) (a' := ?_) #[true, true, false, false, false] rfl rfl (by kernel_rfl) (fun _ _ _ h => h) (Or.inl ⟨by rfl, ?_⟩) hHeld ?_ ?_
         rotate_left
         ·rintro w' ⟨s0, s1, s2, s3⟩
          go_simp
          with_reducible rfl
         rotate_left
         ·simp only [Act.put, List.setIfInBounds_toArray, List.set_cons_zero, List.set_cons_succ, i64_w, i32_w]
          rfl
         refine one_ (i := 2) (N := none) #[true, true, true, false, false] rfl rfl (by kernel_rfl) (by decide) (fun K hK => ?_)
         have hs60 : w59.cell? ⟨gb424, 0, none⟩ = some (.int .i64 0) := (blk_cell BK424.out 0).trans rfl
         have hfs60 := blk_frozen BK424.out 0
         have hns60_1 := NB425_424.out
         have hns60_2 := NB433_424.out
         have hns60_3 := NB434_424.out
         have hms60_1 := NB424_425.out
         have hms60_2 := NB424_433.out
         have hms60_3 := NB424_434.out
         have hs61 : w59.cell? ⟨gb424, 1, none⟩ = some (.int .i64 0) := (blk_cell BK424.out 1).trans rfl
         have hfs61 := blk_frozen BK424.out 1
         have hns61_1 := NB425_424.out
         have hns61_2 := NB433_424.out
         have hns61_3 := NB434_424.out
         have hms61_1 := NB424_425.out
         have hms61_2 := NB424_433.out
         have hms61_3 := NB424_434.out
         refine skip_ (w1 := ?_) (by rfl) rfl ?_ ?_
         rotate_left
         ·go_simp
          rfl
         refine hK.out _ _ ⟨((cell_far (p := ⟨gb424, _, none⟩) NB433_424.out _).trans (((cell_far (p := ⟨gb424, _, none⟩) NB433_424.out _).trans (hHeld.1)))), ((cell_far (p := ⟨gb424, _, none⟩) NB433_424.out _).trans (((cell_far (p := ⟨gb424, _, none⟩) NB433_424.out _).trans (hHeld.2.1)))), ((cell_far (p := ⟨gb424, _, none⟩) NB434_424.out _).trans (((cell_far (p := ⟨gb424, _, none⟩) NB434_424.out _).trans (hHeld.2.2.1)))), ((cell_far (p := ⟨gb424, _, none⟩) NB434_424.out _).trans (((cell_far (p := ⟨gb424, _, none⟩) NB434_424.out _).trans (hHeld.2.2.2))))⟩ (fun hHeld => ?_)
         clear hK K
         refine one_ (i := 3) (N := none) #[true, true, true, true, false] rfl rfl (by kernel_rfl) (by decide) (fun K hK => ?_)
         have hs62 : w59.cell? ⟨gb425, 0, none⟩ = some (.int .i64 0) := (blk_cell BK425.out 0).trans rfl
         have hfs62 := blk_frozen BK425.out 0
         have hns62_0 := NB424_425.out
         have hns62_2 := NB433_425.out
         have hns62_3 := NB434_425.out
         have hms62_0 := NB425_424.out
         have hms62_2 := NB425_433.out
         have hms62_3 := NB425_434.out
         have hs63 : w59.cell? ⟨gb425, 1, none⟩ = some (.int .i64 0) := (blk_cell BK425.out 1).trans rfl
         have hfs63 := blk_frozen BK425.out 1
         have hns63_0 := NB424_425.out
         have hns63_2 := NB433_425.out
         have hns63_3 := NB434_425.out
         have hms63_0 := NB425_424.out
         have hms63_2 := NB425_433.out
         have hms63_3 := NB425_434.out
         refine skip_ (w1 := ?_) (by rfl) rfl ?_ ?_
         rotate_left
         ·go_simp
          rfl
         refine hK.out _ _ ⟨((cell_far (p := ⟨gb425, _, none⟩) NB433_425.out _).trans (((cell_far (p := ⟨gb425, _, none⟩) NB433_425.out _).trans (hHeld.1)))), ((cell_far (p := ⟨gb425, _, none⟩) NB433_425.out _).trans (((cell_far (p := ⟨gb425, _, none⟩) NB433_425.out _).trans (hHeld.2.1)))), ((cell_far (p := ⟨gb425, _, none⟩) NB434_425.out _).trans (((cell_far (p := ⟨gb425, _, none⟩) NB434_425.out _).trans (hHeld.2.2.1)))), ((cell_far (p := ⟨gb425, _, none⟩) NB434_425.out _).trans (((cell_far (p := ⟨gb425, _, none⟩) NB434_425.out _).trans (hHeld.2.2.2))))⟩ (fun hHeld => ?_)
         clear hK K
         refine pure_ (i := 4) (N := some 8) (v := ?_) (a' := ?_) #[true, true, true, true, true] rfl rfl (by kernel_rfl) (fun _ _ _ h => h) (Or.inl ⟨by rfl, ?_⟩) ?_ ?_
         rotate_left
         ·intro w'
          go_simp
          with_reducible rfl
         rotate_left
         ·simp only [Act.put, List.setIfInBounds_toArray, List.set_cons_zero, List.set_cons_succ, i64_w, i32_w]
          rfl
         refine done_ (by kernel_rfl) ?_
         try go_wp2
         refine bodyPost_ret (results_list (rs := [.cell 6 29, .cell 7 29, .tmp 8]) rfl (by simp) (.cell gb424 29 #[.int .i64 x434000_2, .int .i64 x434001_2] (0, 0) _ rfl (by (with_reducible repeat (first | refine blk_drewN ?_ _ | refine blk_drew ?_ | refine blk_alloc ?_ _)); refine blk_far ?_ NB424_425.out _; (with_reducible repeat (first | refine blk_drewN ?_ _ | refine blk_drew ?_ | refine blk_alloc ?_ _)); refine blk_far ?_ NB424_425.out _; (with_reducible repeat (first | refine blk_drewN ?_ _ | refine blk_drew ?_ | refine blk_alloc ?_ _)); refine blk_put (cs := #[.int .i64 x434000_2, .int .i64 0]) ?_ 1 _ rfl; (with_reducible repeat (first | refine blk_drewN ?_ _ | refine blk_drew ?_ | refine blk_alloc ?_ _)); refine blk_put (cs := #[.int .i64 0, .int .i64 0]) ?_ 0 _ rfl; (with_reducible repeat (first | refine blk_drewN ?_ _ | refine blk_drew ?_ | refine blk_alloc ?_ _)); exact BK424.out) Try.underlying29 rfl (by kernel_rfl) (.cell gb425 29 #[.int .i64 x435000_2, .int .i64 x435001_2] (0, 0) _ rfl (by (with_reducible repeat (first | refine blk_drewN ?_ _ | refine blk_drew ?_ | refine blk_alloc ?_ _)); refine blk_put (cs := #[.int .i64 x435000_2, .int .i64 0]) ?_ 1 _ rfl; (with_reducible repeat (first | refine blk_drewN ?_ _ | refine blk_drew ?_ | refine blk_alloc ?_ _)); refine blk_put (cs := #[.int .i64 0, .int .i64 0]) ?_ 0 _ rfl; (with_reducible repeat (first | refine blk_drewN ?_ _ | refine blk_drew ?_ | refine blk_alloc ?_ _)); refine blk_far ?_ NB425_424.out _; (with_reducible repeat (first | refine blk_drewN ?_ _ | refine blk_drew ?_ | refine blk_alloc ?_ _)); refine blk_far ?_ NB425_424.out _; (with_reducible repeat (first | refine blk_drewN ?_ _ | refine blk_drew ?_ | refine blk_alloc ?_ _)); exact BK425.out) Try.underlying29 rfl (by kernel_rfl) (.tmp .nil)))) rfl ?_
         exact ⟨by first | rfl | (simp [errW_none, errW_some] <;> rfl) | (simp [*, errW_none, errW_some] <;> rfl), by repeat (first | (with_reducible first | exact HB.out | apply below_alloc | apply pw_below_drewN | apply below_drew1 | refine below_set ?_ GE424.out | refine below_set ?_ GE425.out | refine below_set ?_ GE433.out | refine below_set ?_ GE434.out) | exact HB.out)⟩
     ·rw [if_neg c19] at H
      exact absurd H (by simp)
   ·rw [if_neg c14] at H
    have c14b0 : (x9_3 == 0) = false := beq_eq_false_iff_ne.mpr c14
    have c14b1 : (x9_3 != 0) = true := bne_iff_ne.mpr c14
    simp only [Option.some.injEq, Prod.mk.injEq] at H
    obtain ⟨rfl, rfl, rfl, rfl, rfl⟩ := H
    have hnb64 := NB424_425.out
    have hnc64 := NB425_424.out
    have hcz65_0 : wc.cell? ⟨gb424, 0, none⟩ = some (.int .i64 0) := (blk_cell BK424.out 0).trans rfl
    have hcz65_1 : wc.cell? ⟨gb424, 1, none⟩ = some (.int .i64 0) := (blk_cell BK424.out 1).trans rfl
    have hfz65_0 := blk_frozen BK424.out 0
    have hfz65_1 := blk_frozen BK424.out 1
    have hcz66_0 : wc.cell? ⟨gb425, 0, none⟩ = some (.int .i64 0) := (blk_cell BK425.out 0).trans rfl
    have hcz66_1 : wc.cell? ⟨gb425, 1, none⟩ = some (.int .i64 0) := (blk_cell BK425.out 1).trans rfl
    have hfz66_0 := blk_frozen BK425.out 0
    have hfz66_1 := blk_frozen BK425.out 1
    go_wp2
    refine bodyPost_ret (results_list (rs := [.cell 6 29, .cell 7 29, .tmp 8]) rfl (by simp) (.cell gb424 29 #[.int .i64 0, .int .i64 0] (0, 0) _ rfl (by (with_reducible repeat (first | refine blk_drewN ?_ _ | refine blk_drew ?_ | refine blk_alloc ?_ _)); refine blk_far ?_ NB424_425.out _; (with_reducible repeat (first | refine blk_drewN ?_ _ | refine blk_drew ?_ | refine blk_alloc ?_ _)); refine blk_far ?_ NB424_425.out _; (with_reducible repeat (first | refine blk_drewN ?_ _ | refine blk_drew ?_ | refine blk_alloc ?_ _)); refine blk_put (cs := #[.int .i64 0, .int .i64 0]) ?_ 1 _ rfl; (with_reducible repeat (first | refine blk_drewN ?_ _ | refine blk_drew ?_ | refine blk_alloc ?_ _)); refine blk_put (cs := #[.int .i64 0, .int .i64 0]) ?_ 0 _ rfl; (with_reducible repeat (first | refine blk_drewN ?_ _ | refine blk_drew ?_ | refine blk_alloc ?_ _)); exact BK424.out) Try.underlying29 rfl (by kernel_rfl) (.cell gb425 29 #[.int .i64 0, .int .i64 0] (0, 0) _ rfl (by (with_reducible repeat (first | refine blk_drewN ?_ _ | refine blk_drew ?_ | refine blk_alloc ?_ _)); refine blk_put (cs := #[.int .i64 0, .int .i64 0]) ?_ 1 _ rfl; (with_reducible repeat (first | refine blk_drewN ?_ _ | refine blk_drew ?_ | refine blk_alloc ?_ _)); refine blk_put (cs := #[.int .i64 0, .int .i64 0]) ?_ 0 _ rfl; (with_reducible repeat (first | refine blk_drewN ?_ _ | refine blk_drew ?_ | refine blk_alloc ?_ _)); refine blk_far ?_ NB425_424.out _; (with_reducible repeat (first | refine blk_drewN ?_ _ | refine blk_drew ?_ | refine blk_alloc ?_ _)); refine blk_far ?_ NB425_424.out _; (with_reducible repeat (first | refine blk_drewN ?_ _ | refine blk_drew ?_ | refine blk_alloc ?_ _)); exact BK425.out) Try.underlying29 rfl (by kernel_rfl) (.tmp .nil)))) rfl ?_
    exact ⟨by first | rfl | (simp [errW_none, errW_some] <;> rfl) | (simp [*, errW_none, errW_some] <;> rfl), by repeat (first | (with_reducible first | exact HB.out | apply below_alloc | apply pw_below_drewN | apply below_drew1 | refine below_set ?_ GE424.out | refine below_set ?_ GE425.out) | exact HB.out)⟩

end Go.Proofs.Ytfaciogcddpgdaa.Print
