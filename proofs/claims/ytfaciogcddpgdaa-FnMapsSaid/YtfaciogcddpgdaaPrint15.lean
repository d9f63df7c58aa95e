-- Printed by a program of this session out of the translation; not trusted: Lean checks it.
-- SQUEEZED
-- SHRUNK
import Derived.Test.YtfaciogcddpgdaaPrint0
import Derived.Test.YtfaciogcddpgdaaPrint6
import Derived.Test.YtfaciogcddpgdaaPrint7
import Derived.Test.YtfaciogcddpgdaaPrint14
namespace Go.Proofs.Ytfaciogcddpgdaa.Print
open Go.RowKit Go.Proofs.YtfaciogcddpgdaaW.PrintWords Go.Proofs.YtfaciogcddpgdaaW.PrintLast Go.Proofs.YtfaciogcddpgdaaW.PrintMore
attribute [local go_sem] max2_int min2_int max_two min_two max_three min_three max_four min_four   -- for this text's walks alone
set_option linter.unusedVariables false
set_option linter.unusedSimpArgs false

/-! ### impl_readFlat: function 48 -/
def impl_readFlat.j0 : Nat → Int → Bool → Int → Int → Option (Int × Int × Bool)
 | 0, _, _, _, _ => none
 | k + 1, x9, x40, x323000, x323001 => if x40 = true then (some (0, 0, false)) else (if x9 > 0 then ((impl_nearest.f (wrap64 (x323001 * 1000000)) x9).bind fun t326 => ((impl_ValidSpot.f x323000 t326).bind fun t327 => (some (x323000, t326, t327)))) else ((impl_ValidSpot.f x323000 x323001).bind fun t328 => (some (x323000, x323001, t328))))
def impl_readFlat.f (k : Nat) (a0_0 : Int) (a0_1 : Int) (a1 : Int) (a2 : Bool) : Option (Int × Int × Bool) := (impl_isLat.f (wrap64 (a0_1 * a1))).bind fun t323 => (if t323 = true then (if a2 = true then ((impl_cosine.f k (wrap64 (a0_1 * a1))).bind fun t324 => ((impl_within.f (wrap64 (a0_0 * a1)) (-1296000) 1296000).bind fun t325 => (if t325 = true then (if t324 = 0 then (impl_readFlat.j0 k t324 (a0_0 != 0) (wrap64 (a0_1 * a1)) (wrap64 (a0_0 * a1))) else (impl_readFlat.j0 k t324 false (wrap64 (a0_1 * a1)) (wrap64 (a0_0 * a1)))) else (impl_readFlat.j0 k t324 true (wrap64 (a0_1 * a1)) (wrap64 (a0_0 * a1)))))) else ((impl_ValidSpot.f (wrap64 (a0_1 * a1)) (wrap64 (a0_0 * a1))).bind fun t329 => (some (wrap64 (a0_1 * a1), wrap64 (a0_0 * a1), t329)))) else (some (0, 0, false)))
theorem impl_readFlat.mono_l : ∀ k, (∀ y0 y1 y2 y3, LeO (impl_readFlat.j0 k y0 y1 y2 y3) (impl_readFlat.j0 (k + 1) y0 y1 y2 y3))
 | 0 => fun _ _ _ _ r h => by simp [impl_readFlat.j0] at h
 | k + 1 => by
  have ih0 := impl_readFlat.mono_l k
  ·intro y0 y1 y2 y3
   unfold impl_readFlat.j0
   repeat' first
   | (with_reducible exact ih0 _ _ _ _)
   | (with_reducible exact impl_cosine.mono _ _)
   | (with_reducible exact LeO.refl _)
   | (with_reducible exact LeO.none _)
   | (with_reducible refine LeO.ite ?_ ?_)
   | (with_reducible refine LeO.bind ?_ (fun _ => ?_))
   | exact ih0 _ _ _ _
   | exact impl_cosine.mono _ _
   | exact LeO.none _
   | refine LeO.ite ?_ ?_
   | refine LeO.bind ?_ (fun _ => ?_)
theorem impl_readFlat.mono : ∀ a0 a1 a2 a3 k, LeO (impl_readFlat.f k a0 a1 a2 a3) (impl_readFlat.f (k + 1) a0 a1 a2 a3) := by
 intro a0 a1 a2 a3 k
 have ih0 := impl_readFlat.mono_l k
 unfold impl_readFlat.f
 repeat' first
   | (with_reducible exact ih0 _ _ _ _)
   | (with_reducible exact impl_cosine.mono _ _)
   | (with_reducible exact LeO.refl _)
   | (with_reducible exact LeO.none _)
   | (with_reducible refine LeO.ite ?_ ?_)
   | (with_reducible refine LeO.bind ?_ (fun _ => ?_))
   | exact ih0 _ _ _ _
   | exact impl_cosine.mono _ _
   | exact LeO.none _
   | refine LeO.ite ?_ ?_
   | refine LeO.bind ?_ (fun _ => ?_)
set_option maxHeartbeats 8000000 in
set_option maxRecDepth 100000 in
theorem impl_readFlat.calls (k : Nat) (a0_0 : Int) (a0_1 : Int) (a1 : Int) (a2 : Bool) (r1 : Int) (r2 : Int) (r3 : Bool) (w : World) (h : impl_readFlat.f k a0_0 a0_1 a1 a2 = some (r1, r2, r3)) :
  Calls Try.prog 48 #[.agg #[.int .i64 a0_0, .int .i64 a0_1], .int .i64 a1, .bool a2] w fun e w' => e = .returned (.tuple #[.agg #[.int .i64 r1, .int .i64 r2], .bool r3]) ∧ Below w.heap.size w w' := by
 have hu29 := Try.underlying29
 have hu25 := Try.underlying25
 have HB := Aside0.mk (Below.refl w.heap.size w)
 have H : ((impl_isLat.f (wrap64 (a0_1 * a1))).bind fun t323 => (if t323 = true then (if a2 = true then ((impl_cosine.f k (wrap64 (a0_1 * a1))).bind fun t324 => ((impl_within.f (wrap64 (a0_0 * a1)) (-1296000) 1296000).bind fun t325 => (if t325 = true then (if t324 = 0 then (impl_readFlat.j0 k t324 (a0_0 != 0) (wrap64 (a0_1 * a1)) (wrap64 (a0_0 * a1))) else (impl_readFlat.j0 k t324 false (wrap64 (a0_1 * a1)) (wrap64 (a0_0 * a1)))) else (impl_readFlat.j0 k t324 true (wrap64 (a0_1 * a1)) (wrap64 (a0_0 * a1)))))) else ((impl_ValidSpot.f (wrap64 (a0_1 * a1)) (wrap64 (a0_0 * a1))).bind fun t329 => (some (wrap64 (a0_1 * a1), wrap64 (a0_0 * a1), t329)))) else (some (0, 0, false)))) = some (r1, r2, r3) := h
 clear h
 replace H := Option.bind_eq_some_iff.mp H
 obtain ⟨t323, A40, H⟩ := H
 replace H : (if t323 = true then (if a2 = true then ((impl_cosine.f k (wrap64 (a0_1 * a1))).bind fun t324 => ((impl_within.f (wrap64 (a0_0 * a1)) (-1296000) 1296000).bind fun t325 => (if t325 = true then (if t324 = 0 then (impl_readFlat.j0 k t324 (a0_0 != 0) (wrap64 (a0_1 * a1)) (wrap64 (a0_0 * a1))) else (impl_readFlat.j0 k t324 false (wrap64 (a0_1 * a1)) (wrap64 (a0_0 * a1)))) else (impl_readFlat.j0 k t324 true (wrap64 (a0_1 * a1)) (wrap64 (a0_0 * a1)))))) else ((impl_ValidSpot.f (wrap64 (a0_1 * a1)) (wrap64 (a0_0 * a1))).bind fun t329 => (some (wrap64 (a0_1 * a1), wrap64 (a0_0 * a1), t329)))) else (some (0, 0, false))) = some (r1, r2, r3) := H
 have A4 := Aside0.mk A40
 clear A40
 by_cases c5 : t323 = true
 ·subst c5
  have H1 : (if a2 = true then ((impl_cosine.f k (wrap64 (a0_1 * a1))).bind fun t324 => ((impl_within.f (wrap64 (a0_0 * a1)) (-1296000) 1296000).bind fun t325 => (if t325 = true then (if t324 = 0 then (impl_readFlat.j0 k t324 (a0_0 != 0) (wrap64 (a0_1 * a1)) (wrap64 (a0_0 * a1))) else (impl_readFlat.j0 k t324 false (wrap64 (a0_1 * a1)) (wrap64 (a0_0 * a1)))) else (impl_readFlat.j0 k t324 true (wrap64 (a0_1 * a1)) (wrap64 (a0_0 * a1)))))) else ((impl_ValidSpot.f (wrap64 (a0_1 * a1)) (wrap64 (a0_0 * a1))).bind fun t329 => (some (wrap64 (a0_1 * a1), wrap64 (a0_0 * a1), t329)))) = some (r1, r2, r3) := by rw [if_pos rfl] at H; exact H
  clear H
  have H := H1
  clear H1
  by_cases c6 : a2 = true
  ·subst c6
   have H1 : ((impl_cosine.f k (wrap64 (a0_1 * a1))).bind fun t324 => ((impl_within.f (wrap64 (a0_0 * a1)) (-1296000) 1296000).bind fun t325 => (if t325 = true then (if t324 = 0 then (impl_readFlat.j0 k t324 (a0_0 != 0) (wrap64 (a0_1 * a1)) (wrap64 (a0_0 * a1))) else (impl_readFlat.j0 k t324 false (wrap64 (a0_1 * a1)) (wrap64 (a0_0 * a1)))) else (impl_readFlat.j0 k t324 true (wrap64 (a0_1 * a1)) (wrap64 (a0_0 * a1)))))) = some (r1, r2, r3) := by rw [if_pos rfl] at H; exact H
   clear H
   have H := H1
   clear H1
   replace H := Option.bind_eq_some_iff.mp H
   obtain ⟨t324, A70, H⟩ := H
   replace H : ((impl_within.f (wrap64 (a0_0 * a1)) (-1296000) 1296000).bind fun t325 => (if t325 = true then (if t324 = 0 then (impl_readFlat.j0 k t324 (a0_0 != 0) (wrap64 (a0_1 * a1)) (wrap64 (a0_0 * a1))) else (impl_readFlat.j0 k t324 false (wrap64 (a0_1 * a1)) (wrap64 (a0_0 * a1)))) else (impl_readFlat.j0 k t324 true (wrap64 (a0_1 * a1)) (wrap64 (a0_0 * a1))))) = some (r1, r2, r3) := H
   have A7 := Aside0.mk A70
   clear A70
   have HC8 := Aside0.mk H
   clear H
   go_enter Try.func48, Try.ntmps48
   go_upto_region 6 with (first | ((with_reducible refine gate_dst (N := 3) rfl ?_); refine box_event ?hg (N := 3) ?hd (cs := #[.int .i64 a0_0, .int .i64 a0_1]) (t := 29) ?hr ?_; (case hd => rfl); (case hg => rfl); (case hr => first | (go_simp; done) | (go_simp; rfl)); intro gb320 hg w9 hbox hb; have n0_ := Aside0.mk (below_step (bw_ HB.out) hb); have n1_ := Aside0.mk (hbox); have n2_ := Aside0.mk ((ge_ hg (bw_ HB.out))); have n3_ := Aside0.mk ((ge_ hg (bw_ HB.out))); clear HB; have HB := n0_; have BK320 := n1_; have GW320 := n2_; have GE320 := n3_; clear n0_ n1_ n2_ n3_; clear hb hbox hg) | ((with_reducible refine gate_dst (N := 6) rfl ?_); refine box_event ?hg (N := 6) ?hd (cs := #[.int .i64 0, .int .i64 0]) (t := 25) ?hr ?_; (case hd => rfl); (case hg => rfl); (case hr => first | (go_simp; done) | (go_simp; rfl)); intro gb321 hg w10 hbox hb; have n0_ := Aside0.mk (blk_below (bk_ BK320.out) hb); have n1_ := Aside0.mk (below_step (bwg_ GE320.out HB.out) hb); have n2_ := Aside0.mk (hbox); have n3_ := Aside0.mk ((by rw [hg]; exact (below_size (bwg_ GE320.out HB.out)) : w.heap.size ≤ gb321)); have n4_ := Aside0.mk ((by rw [hg]; exact (below_size (bwg_ GE320.out HB.out)) : w.heap.size ≤ gb321)); have n5_ := Aside0.mk ((ne1_ hg (bk_ BK320.out))); have n6_ := Aside0.mk ((ne2_ hg (bk_ BK320.out))); clear BK320; clear HB; have BK320 := n0_; have HB := n1_; have BK321 := n2_; have GW321 := n3_; have GE321 := n4_; have NB320_321 := n5_; have NB321_320 := n6_; clear n0_ n1_ n2_ n3_ n4_ n5_ n6_; clear hb hbox hg; have hnb11 := NB320_321.out; have hnc11 := NB321_320.out; have hcz12_0 : w10.cell? ⟨gb320, 0, none⟩ = some (.int .i64 a0_0) := (blk_cell BK320.out 0).trans rfl; have hcz12_1 : w10.cell? ⟨gb320, 1, none⟩ = some (.int .i64 a0_1) := (blk_cell BK320.out 1).trans rfl; have hfz12_0 := blk_frozen BK320.out 0; have hfz12_1 := blk_frozen BK320.out 1) | ((with_reducible refine gate_dst (N := 8) rfl ?_); refine box_event ?hg (N := 8) ?hd (cs := #[.int .i64 0, .int .i64 0]) (t := 25) ?hr ?_; (case hd => rfl); (case hg => rfl); (case hr => first | (go_simp; done) | (go_simp; rfl)); intro gb322 hg w13 hbox hb; have n0_ := Aside0.mk (blk_below (bk_ BK320.out) hb); have n1_ := Aside0.mk (blk_below (bk_ BK321.out) hb); have n2_ := Aside0.mk (below_step (bws_ HB.out) hb); have n3_ := Aside0.mk (hbox); have n4_ := Aside0.mk ((ge_ hg (bws_ HB.out))); have n5_ := Aside0.mk ((ge_ hg (bws_ HB.out))); have n6_ := Aside0.mk ((ne1_ hg (bk_ BK320.out))); have n7_ := Aside0.mk ((ne2_ hg (bk_ BK320.out))); have n8_ := Aside0.mk ((ne1_ hg (bk_ BK321.out))); have n9_ := Aside0.mk ((ne2_ hg (bk_ BK321.out))); clear BK320; clear BK321; clear HB; have BK320 := n0_; have BK321 := n1_; have HB := n2_; have BK322 := n3_; have GW322 := n4_; have GE322 := n5_; have NB320_322 := n6_; have NB322_320 := n7_; have NB321_322 := n8_; have NB322_321 := n9_; clear n0_ n1_ n2_ n3_ n4_ n5_ n6_ n7_ n8_ n9_; clear hb hbox hg; have hnb14 := NB322_320.out; have hnc14 := NB320_322.out; have hnb15 := NB322_321.out; have hnc15 := NB321_322.out; have hcz16_0 : w13.cell? ⟨gb322, 0, none⟩ = some (.int .i64 0) := (blk_cell BK322.out 0).trans rfl; have hcz16_1 : w13.cell? ⟨gb322, 1, none⟩ = some (.int .i64 0) := (blk_cell BK322.out 1).trans rfl; have hfz16_0 := blk_frozen BK322.out 0; have hfz16_1 := blk_frozen BK322.out 1) | ((with_reducible refine gate_callee (f := 61) rfl ?_); refine goesL_ (some 21) rfl rfl Try.func61 (by kernel_rfl) rfl #[.int .i64 (wrap64 (a0_1 * a1))] rfl gl_ ?_; (with_reducible refine (impl_isLat.calls (wrap64 (a0_1 * a1)) true _ A4.out).mono ?_); rintro e w' ⟨rfl, ⟨nd, rfl⟩⟩; refine ⟨_, rfl, ?_⟩) | ((with_reducible refine gate_callee (f := 52) rfl ?_); refine goesL_ (some 27) rfl rfl Try.func52 (by kernel_rfl) rfl #[.int .i64 (wrap64 (a0_1 * a1))] rfl gl_ ?_; (with_reducible refine (impl_cosine.calls k (wrap64 (a0_1 * a1)) t324 _ A7.out).mono ?_); rintro e w' ⟨rfl, ⟨nd, rfl⟩⟩; refine ⟨_, rfl, ?_⟩))
   (try simp only [Act.put, List.setIfInBounds_toArray, List.set_cons_zero, List.set_cons_succ])
   go_cut [40] (fun v40 wc => ∃ (kq : Nat) (x40_7 : Bool), v40 = .bool x40_7 ∧ Aside0 (impl_readFlat.j0 kq t324 x40_7 (wrap64 (a0_1 * a1)) (wrap64 (a0_0 * a1)) = some (r1, r2, r3)) ∧ Aside0 (kq ≤ k) ∧ Aside0 (wc.heap[gb320]? = some (.cells #[.int .i64 a0_0, .int .i64 a0_1] 29 (0, 0))) ∧ Aside0 (wc.heap[gb321]? = some (.cells #[.int .i64 0, .int .i64 0] 25 (0, 0))) ∧ Aside0 (wc.heap[gb322]? = some (.cells #[.int .i64 (wrap64 (a0_1 * a1)), .int .i64 (wrap64 (a0_0 * a1))] 25 (0, 0))) ∧ Aside0 (Below w.heap.size w wc))
   case first =>
    have H := HC8.out
    clear HC8
    replace H := Option.bind_eq_some_iff.mp H
    obtain ⟨t325, A170, H⟩ := H
    replace H : (if t325 = true then (if t324 = 0 then (impl_readFlat.j0 k t324 (a0_0 != 0) (wrap64 (a0_1 * a1)) (wrap64 (a0_0 * a1))) else (impl_readFlat.j0 k t324 false (wrap64 (a0_1 * a1)) (wrap64 (a0_0 * a1)))) else (impl_readFlat.j0 k t324 true (wrap64 (a0_1 * a1)) (wrap64 (a0_0 * a1)))) = some (r1, r2, r3) := H
    have A17 := Aside0.mk A170
    clear A170
    by_cases c18 : t325 = true
    ·subst c18
     have H1 : (if t324 = 0 then (impl_readFlat.j0 k t324 (a0_0 != 0) (wrap64 (a0_1 * a1)) (wrap64 (a0_0 * a1))) else (impl_readFlat.j0 k t324 false (wrap64 (a0_1 * a1)) (wrap64 (a0_0 * a1)))) = some (r1, r2, r3) := by rw [if_pos rfl] at H; exact H
     clear H
     have H := H1
     clear H1
     by_cases c19 : t324 = 0
     ·rw [if_pos c19] at H
      have c19b0 : (t324 == 0) = true := beq_iff_eq.mpr c19
      have c19b1 : (t324 != 0) = false := bne_eq_false_iff_eq.mpr c19
      clear c19
      (first | rw [c19b0] | (simp only [i64_w, i32_w]; rw [c19b0]) | skip)
      have H' := Aside0.mk H
      clear H
      have hnb20 := NB322_320.out
      have hnc20 := NB320_322.out
      have hnb21 := NB322_321.out
      have hnc21 := NB321_322.out
      have hcz22_0 : w13.cell? ⟨gb322, 0, none⟩ = some (.int .i64 0) := (blk_cell BK322.out 0).trans rfl
      have hcz22_1 : w13.cell? ⟨gb322, 1, none⟩ = some (.int .i64 0) := (blk_cell BK322.out 1).trans rfl
      have hfz22_0 := blk_frozen BK322.out 0
      have hfz22_1 := blk_frozen BK322.out 1
      go_wp2_with (first | ((with_reducible refine gate_callee (f := 50) rfl ?_); refine goesL_ (some 30) rfl rfl Try.func50 (by kernel_rfl) rfl #[.int .i64 (wrap64 (a0_0 * a1)), .int .i64 (-1296000), .int .i64 1296000] rfl gl_ ?_; (with_reducible refine (impl_within.calls (wrap64 (a0_0 * a1)) (-1296000) 1296000 true _ A17.out).mono ?_); rintro e w' ⟨rfl, ⟨nd, rfl⟩⟩; refine ⟨_, rfl, ?_⟩; have hnb23 := NB320_321.out; have hnc23 := NB321_320.out; have hcz24_0 : w13.cell? ⟨gb320, 0, none⟩ = some (.int .i64 a0_0) := (blk_cell BK320.out 0).trans rfl; have hcz24_1 : w13.cell? ⟨gb320, 1, none⟩ = some (.int .i64 a0_1) := (blk_cell BK320.out 1).trans rfl; have hfz24_0 := blk_frozen BK320.out 0; have hfz24_1 := blk_frozen BK320.out 1))
      go_meet
      case rel => exact ⟨_, ((a0_0 != 0)), (by first | rfl | (simp; done) | (simp [*]; done)), H', ⟨by first | omega | exact Nat.le_refl _⟩, ⟨bf2_ NB320_322.out BK320.out⟩, ⟨bf2_ NB321_322.out BK321.out⟩, ⟨by (with_reducible repeat (first | refine blk_drewN ?_ _ | refine blk_drew ?_ | refine blk_alloc ?_ _)); refine blk_put (cs := #[.int .i64 (wrap64 (a0_1 * a1)), .int .i64 0]) ?_ 1 _ rfl; (with_reducible repeat (first | refine blk_drewN ?_ _ | refine blk_drew ?_ | refine blk_alloc ?_ _)); refine blk_put (cs := #[.int .i64 0, .int .i64 0]) ?_ 0 _ rfl; (with_reducible repeat (first | refine blk_drewN ?_ _ | refine blk_drew ?_ | refine blk_alloc ?_ _)); exact BK322.out⟩, ⟨bws_ HB.out⟩⟩
     ·rw [if_neg c19] at H
      have c19b0 : (t324 == 0) = false := beq_eq_false_iff_ne.mpr c19
      have c19b1 : (t324 != 0) = true := bne_iff_ne.mpr c19
      (first | rw [c19b0] | (simp only [i64_w, i32_w]; rw [c19b0]) | skip)
      have H' := Aside0.mk H
      clear H
      have hnb25 := NB322_320.out
      have hnc25 := NB320_322.out
      have hnb26 := NB322_321.out
      have hnc26 := NB321_322.out
      have hcz27_0 : w13.cell? ⟨gb322, 0, none⟩ = some (.int .i64 0) := (blk_cell BK322.out 0).trans rfl
      have hcz27_1 : w13.cell? ⟨gb322, 1, none⟩ = some (.int .i64 0) := (blk_cell BK322.out 1).trans rfl
      have hfz27_0 := blk_frozen BK322.out 0
      have hfz27_1 := blk_frozen BK322.out 1
      go_wp2_with (first | ((with_reducible refine gate_callee (f := 50) rfl ?_); refine goesL_ (some 30) rfl rfl Try.func50 (by kernel_rfl) rfl #[.int .i64 (wrap64 (a0_0 * a1)), .int .i64 (-1296000), .int .i64 1296000] rfl gl_ ?_; (with_reducible refine (impl_within.calls (wrap64 (a0_0 * a1)) (-1296000) 1296000 true _ A17.out).mono ?_); rintro e w' ⟨rfl, ⟨nd, rfl⟩⟩; refine ⟨_, rfl, ?_⟩))
      go_meet
      case rel => exact ⟨_, (false), (by first | rfl | (simp; done) | (simp [*]; done)), H', ⟨by first | omega | exact Nat.le_refl _⟩, ⟨bf2_ NB320_322.out BK320.out⟩, ⟨bf2_ NB321_322.out BK321.out⟩, ⟨by (with_reducible repeat (first | refine blk_drewN ?_ _ | refine blk_drew ?_ | refine blk_alloc ?_ _)); refine blk_put (cs := #[.int .i64 (wrap64 (a0_1 * a1)), .int .i64 0]) ?_ 1 _ rfl; (with_reducible repeat (first | refine blk_drewN ?_ _ | refine blk_drew ?_ | refine blk_alloc ?_ _)); refine blk_put (cs := #[.int .i64 0, .int .i64 0]) ?_ 0 _ rfl; (with_reducible repeat (first | refine blk_drewN ?_ _ | refine blk_drew ?_ | refine blk_alloc ?_ _)); exact BK322.out⟩, ⟨bws_ HB.out⟩⟩
    ·replace c18 := Bool.eq_false_iff.mpr c18
     subst c18
     have H1 : (impl_readFlat.j0 k t324 true (wrap64 (a0_1 * a1)) (wrap64 (a0_0 * a1))) = some (r1, r2, r3) := by rw [if_neg (show ¬ (false = true) by decide)] at H; exact H
     clear H
     have H := H1
     clear H1
     have H' := Aside0.mk H
     clear H
     have hnb28 := NB322_320.out
     have hnc28 := NB320_322.out
     have hnb29 := NB322_321.out
     have hnc29 := NB321_322.out
     have hcz30_0 : w13.cell? ⟨gb322, 0, none⟩ = some (.int .i64 0) := (blk_cell BK322.out 0).trans rfl
     have hcz30_1 : w13.cell? ⟨gb322, 1, none⟩ = some (.int .i64 0) := (blk_cell BK322.out 1).trans rfl
     have hfz30_0 := blk_frozen BK322.out 0
     have hfz30_1 := blk_frozen BK322.out 1
     go_wp2_with (first | ((with_reducible refine gate_callee (f := 50) rfl ?_); refine goesL_ (some 30) rfl rfl Try.func50 (by kernel_rfl) rfl #[.int .i64 (wrap64 (a0_0 * a1)), .int .i64 (-1296000), .int .i64 1296000] rfl gl_ ?_; (with_reducible refine (impl_within.calls (wrap64 (a0_0 * a1)) (-1296000) 1296000 false _ A17.out).mono ?_); rintro e w' ⟨rfl, ⟨nd, rfl⟩⟩; refine ⟨_, rfl, ?_⟩))
     go_meet
     case rel => exact ⟨_, (true), (by first | rfl | (simp; done) | (simp [*]; done)), H', ⟨by first | omega | exact Nat.le_refl _⟩, ⟨bf2_ NB320_322.out BK320.out⟩, ⟨bf2_ NB321_322.out BK321.out⟩, ⟨by (with_reducible repeat (first | refine blk_drewN ?_ _ | refine blk_drew ?_ | refine blk_alloc ?_ _)); refine blk_put (cs := #[.int .i64 (wrap64 (a0_1 * a1)), .int .i64 0]) ?_ 1 _ rfl; (with_reducible repeat (first | refine blk_drewN ?_ _ | refine blk_drew ?_ | refine blk_alloc ?_ _)); refine blk_put (cs := #[.int .i64 0, .int .i64 0]) ?_ 0 _ rfl; (with_reducible repeat (first | refine blk_drewN ?_ _ | refine blk_drew ?_ | refine blk_alloc ?_ _)); exact BK322.out⟩, ⟨bws_ HB.out⟩⟩
   case rest =>
    clear HC8
    try clear c1
    try clear c2
    try clear p2
    try clear c4
    try clear c5
    try clear c6
    try clear p6
    try clear c11
    try clear c14
    try clear c15
    try clear c18
    try clear c19
    try clear c19b0
    try clear c19b1
    try clear c20
    try clear c21
    try clear c23
    try clear c25
    try clear c26
    try clear c28
    try clear c29
    try clear hcz12_0
    try clear hcz12_1
    try clear hcz16_0
    try clear hcz16_1
    try clear hcz22_0
    try clear hcz22_1
    try clear hcz24_0
    try clear hcz24_1
    try clear hcz27_0
    try clear hcz27_1
    try clear hcz30_0
    try clear hcz30_1
    try clear hfz12_0
    try clear hfz12_1
    try clear hfz16_0
    try clear hfz16_1
    try clear hfz22_0
    try clear hfz22_1
    try clear hfz24_0
    try clear hfz24_1
    try clear hfz27_0
    try clear hfz27_1
    try clear hfz30_0
    try clear hfz30_1
    obtain ⟨kq, x40_7, rfl, HA, HJ7, BK320, BK321, BK322, HB⟩ := hcut
    cases kq with
    | zero => exact absurd HA.out (by simp [impl_readFlat.j0])
    | succ kj7 =>
     have H := HA.out
     clear HA
     simp only [impl_readFlat.j0] at H
     by_cases c31 : x40_7 = true
     ·subst c31
      have H1 : (some (0, 0, false)) = some (r1, r2, r3) := by rw [if_pos rfl] at H; exact H
      clear H
      have H := H1
      clear H1
      simp only [Option.some.injEq, Prod.mk.injEq] at H
      obtain ⟨rfl, rfl, rfl⟩ := H
      have hnb32 := NB321_320.out
      have hnc32 := NB320_321.out
      have hnb33 := NB321_322.out
      have hnc33 := NB322_321.out
      have hcz34_0 : wc.cell? ⟨gb321, 0, none⟩ = some (.int .i64 0) := (blk_cell BK321.out 0).trans rfl
      have hcz34_1 : wc.cell? ⟨gb321, 1, none⟩ = some (.int .i64 0) := (blk_cell BK321.out 1).trans rfl
      have hfz34_0 := blk_frozen BK321.out 0
      have hfz34_1 := blk_frozen BK321.out 1
      go_wp2
      refine bodyPost_ret (results_ct rfl _ _ gb321 25 #[.int .i64 0, .int .i64 0] (0, 0) _ rfl (by (with_reducible repeat (first | refine blk_drewN ?_ _ | refine blk_drew ?_ | refine blk_alloc ?_ _)); refine blk_put (cs := #[.int .i64 0, .int .i64 0]) ?_ 1 _ rfl; (with_reducible repeat (first | refine blk_drewN ?_ _ | refine blk_drew ?_ | refine blk_alloc ?_ _)); refine blk_put (cs := #[.int .i64 0, .int .i64 0]) ?_ 0 _ rfl; (with_reducible repeat (first | refine blk_drewN ?_ _ | refine blk_drew ?_ | refine blk_alloc ?_ _)); exact BK321.out) Try.underlying25 rfl (by kernel_rfl)) rfl ?_
      exact ⟨by first | rfl | (simp [errW_none, errW_some] <;> rfl) | (simp [*, errW_none, errW_some] <;> rfl), by repeat (first | (with_reducible first | exact HB.out | apply below_alloc | apply pw_below_drewN | apply below_drew1 | refine below_set ?_ GE320.out | refine below_set ?_ GE321.out | refine below_set ?_ GE322.out) | exact HB.out)⟩
     ·replace c31 := Bool.eq_false_iff.mpr c31
      subst c31
      have H1 : (if t324 > 0 then ((impl_nearest.f (wrap64 ((wrap64 (a0_0 * a1)) * 1000000)) t324).bind fun t326 => ((impl_ValidSpot.f (wrap64 (a0_1 * a1)) t326).bind fun t327 => (some ((wrap64 (a0_1 * a1)), t326, t327)))) else ((impl_ValidSpot.f (wrap64 (a0_1 * a1)) (wrap64 (a0_0 * a1))).bind fun t328 => (some ((wrap64 (a0_1 * a1)), (wrap64 (a0_0 * a1)), t328)))) = some (r1, r2, r3) := by rw [if_neg (show ¬ (false = true) by decide)] at H; exact H
      clear H
      have H := H1
      clear H1
      by_cases c35 : t324 > 0
      ·rw [if_pos c35] at H
       have c35b0 : decide (0 < t324) = true := decide_eq_true c35
       clear c35
       replace H := Option.bind_eq_some_iff.mp H
       obtain ⟨t326, A360, H⟩ := H
       replace H : ((impl_ValidSpot.f (wrap64 (a0_1 * a1)) t326).bind fun t327 => (some ((wrap64 (a0_1 * a1)), t326, t327))) = some (r1, r2, r3) := H
       have A36 := Aside0.mk A360
       clear A360
       replace H := Option.bind_eq_some_iff.mp H
       obtain ⟨t327, A370, H⟩ := H
       replace H : (some ((wrap64 (a0_1 * a1)), t326, t327)) = some (r1, r2, r3) := H
       have A37 := Aside0.mk A370
       clear A370
       simp only [Option.some.injEq, Prod.mk.injEq] at H
       obtain ⟨rfl, rfl, rfl⟩ := H
       have hnb38 := NB322_320.out
       have hnc38 := NB320_322.out
       have hnb39 := NB322_321.out
       have hnc39 := NB321_322.out
       have hcz40_0 : wc.cell? ⟨gb322, 0, none⟩ = some (.int .i64 (wrap64 (a0_1 * a1))) := (blk_cell BK322.out 0).trans rfl
       have hcz40_1 : wc.cell? ⟨gb322, 1, none⟩ = some (.int .i64 (wrap64 (a0_0 * a1))) := (blk_cell BK322.out 1).trans rfl
       have hfz40_0 := blk_frozen BK322.out 0
       have hfz40_1 := blk_frozen BK322.out 1
       try go_wp2_with (first | ((with_reducible refine gate_callee (f := 51) rfl ?_); refine goesL_ (some 48) rfl rfl Try.func51 (by kernel_rfl) rfl #[.int .i64 (wrap64 ((wrap64 (a0_0 * a1)) * 1000000)), .int .i64 t324] rfl gl_ ?_; (with_reducible refine (impl_nearest.calls (wrap64 ((wrap64 (a0_0 * a1)) * 1000000)) t324 t326 _ A36.out).mono ?_); rintro e w' ⟨rfl, ⟨nd, rfl⟩⟩; refine ⟨_, rfl, ?_⟩; (try (rw [drewN_self wc]; generalize hq_ : World.drewN wc _ = wc; have n0_ : Aside0 (wc.heap[gb320]? = some (.cells #[.int .i64 a0_0, .int .i64 a0_1] 29 (0, 0))) := ⟨by rw [← hq_]; exact (bk_ BK320.out)⟩; have n1_ : Aside0 (wc.heap[gb321]? = some (.cells #[.int .i64 0, .int .i64 0] 25 (0, 0))) := ⟨by rw [← hq_]; exact (bk_ BK321.out)⟩; have n2_ : Aside0 (wc.heap[gb322]? = some (.cells #[.int .i64 (wrap64 (a0_1 * a1)), .int .i64 (wrap64 (a0_0 * a1))] 25 (0, 0))) := ⟨by rw [← hq_]; exact (bk_ BK322.out)⟩; have n3_ : Aside0 (Below w.heap.size w wc) := ⟨by rw [← hq_]; exact (bws_ HB.out)⟩; clear BK320 BK321 BK322 HB hq_; have BK320 := n0_; have BK321 := n1_; have BK322 := n2_; have HB := n3_; clear n0_ n1_ n2_ n3_)); have hcz41_0 : wc.cell? ⟨gb322, 0, none⟩ = some (.int .i64 (wrap64 (a0_1 * a1))) := (blk_cell BK322.out 0).trans rfl; have hcz41_1 : wc.cell? ⟨gb322, 1, none⟩ = some (.int .i64 (wrap64 (a0_0 * a1))) := (blk_cell BK322.out 1).trans rfl; have hfz41_0 := blk_frozen BK322.out 0; have hfz41_1 := blk_frozen BK322.out 1))
       have n0_ : Aside0 ((wc.setCell ⟨gb322, 1, none⟩ (.int .i64 t326)).heap[gb320]? = some (.cells #[.int .i64 a0_0, .int .i64 a0_1] 29 (0, 0))) := ⟨by (with_reducible repeat (first | refine blk_drewN ?_ _ | refine blk_drew ?_ | refine blk_alloc ?_ _)); refine blk_far ?_ NB320_322.out _; (with_reducible repeat (first | refine blk_drewN ?_ _ | refine blk_drew ?_ | refine blk_alloc ?_ _)); exact BK320.out⟩
       have n1_ : Aside0 ((wc.setCell ⟨gb322, 1, none⟩ (.int .i64 t326)).heap[gb321]? = some (.cells #[.int .i64 0, .int .i64 0] 25 (0, 0))) := ⟨by (with_reducible repeat (first | refine blk_drewN ?_ _ | refine blk_drew ?_ | refine blk_alloc ?_ _)); refine blk_far ?_ NB321_322.out _; (with_reducible repeat (first | refine blk_drewN ?_ _ | refine blk_drew ?_ | refine blk_alloc ?_ _)); exact BK321.out⟩
       have n2_ : Aside0 ((wc.setCell ⟨gb322, 1, none⟩ (.int .i64 t326)).heap[gb322]? = some (.cells #[.int .i64 (wrap64 (a0_1 * a1)), .int .i64 t326] 25 (0, 0))) := ⟨by (with_reducible repeat (first | refine blk_drewN ?_ _ | refine blk_drew ?_ | refine blk_alloc ?_ _)); refine blk_put (cs := #[.int .i64 (wrap64 (a0_1 * a1)), .int .i64 (wrap64 (a0_0 * a1))]) ?_ 1 _ rfl; (with_reducible repeat (first | refine blk_drewN ?_ _ | refine blk_drew ?_ | refine blk_alloc ?_ _)); exact BK322.out⟩
       have n3_ : Aside0 (Below w.heap.size w (wc.setCell ⟨gb322, 1, none⟩ (.int .i64 t326))) := ⟨bws_ HB.out⟩
       (try clear BK320)
       (try clear BK321)
       (try clear BK322)
       (try clear HB)
       generalize (wc.setCell ⟨gb322, 1, none⟩ (.int .i64 t326)) = w42 at n0_ n1_ n2_ n3_ ⊢
       have BK320 := n0_; have BK321 := n1_; have BK322 := n2_; have HB := n3_
       clear n0_ n1_ n2_ n3_
       have n0_ := Aside0.mk (blk_drew BK320.out)
       have n1_ := Aside0.mk (blk_drew BK321.out)
       have n2_ := Aside0.mk (blk_drew BK322.out)
       have n3_ := Aside0.mk (below_drew1 HB.out)
       clear BK320 BK321 BK322 HB
       have BK320 := n0_; have BK321 := n1_; have BK322 := n2_; have HB := n3_
       clear n0_ n1_ n2_ n3_
       refine start_ (n := 5) (S := fun w' => w'.cell? ⟨gb322, 0, none⟩ = some (.int .i64 (wrap64 (a0_1 * a1))) ∧ w'.cell? ⟨gb322, 1, none⟩ = some (.int .i64 t326)) (ds := []) #[false, false, false, false, false] (by kernel_rfl) rfl rfl ⟨(blk_cell BK322.out 0).trans rfl, (blk_cell BK322.out 1).trans rfl⟩ (fun hHeld => ?_)
       generalize w42.drew = w43 at BK320 BK321 BK322 HB hHeld ⊢
       refine take_ (i := 0) (N := some 50) (v := ?_) (a' := ?_) #[true, false, false, false, false] rfl rfl (by kernel_rfl) (fun _ _ _ h => h) (Or.inl ⟨by rfl, ?_⟩) hHeld ?_ ?_
       rotate_left
       ·rintro w' ⟨s0, s1⟩
        go_simp
        with_reducible rfl
       rotate_left
       ·simp only [Act.put, List.setIfInBounds_toArray, List.set_cons_zero, List.set_cons_succ, i64_w, i32_w]
        rfl
       refine take_ (i := 1) (N := some 51) (v := ?_) (a' := ?_) #[true, true, false, false, false] rfl rfl (by kernel_rfl) (fun _ _ _ h => h) (Or.inl ⟨by rfl, ?_⟩) hHeld ?_ ?_
       rotate_left
       ·rintro w' ⟨s0, s1⟩
        go_simp
        with_reducible rfl
       rotate_left
       ·simp only [Act.put, List.setIfInBounds_toArray, List.set_cons_zero, List.set_cons_succ, i64_w, i32_w]
        rfl
       refine one_ (i := 2) (N := some 52) #[true, true, true, false, false] rfl rfl (by kernel_rfl) (by decide) (fun K hK => ?_)
       refine goes_ Try.func24 (by kernel_rfl) rfl #[.agg #[.int .i64 (wrap64 (a0_1 * a1)), .int .i64 t326]] (by rfl) rfl rfl gl_ ?_
       with_reducible refine (impl_ValidSpot.calls (wrap64 (a0_1 * a1)) t326 t327 _ A37.out).mono ?_
       rintro e w44 ⟨rfl, hb⟩
       refine ⟨_, rfl, ?_⟩
       have n0_ := Aside0.mk (blk_below (bk_ BK320.out) hb)
       have n1_ := Aside0.mk (blk_below (bk_ BK321.out) hb)
       have n2_ := Aside0.mk (blk_below (bk_ BK322.out) hb)
       have n3_ := Aside0.mk (below_step (bws_ HB.out) hb)
       clear BK320 BK321 BK322 HB
       have BK320 := n0_; have BK321 := n1_; have BK322 := n2_; have HB := n3_
       clear n0_ n1_ n2_ n3_
       (try clear hb)
       (try clear hb2)
       (try clear hk)
       (try clear hi)
       refine hK.out _ _ ⟨(blk_cell BK322.out 0).trans rfl, (blk_cell BK322.out 1).trans rfl⟩ (fun hHeld => ?_)
       clear hK K
       refine norm_ (a' := ?_) ?_ ?_
       rotate_left
       ·show Act.put _ (some 52) _ = _
        simp only [Act.put, List.setIfInBounds_toArray, List.set_cons_zero, List.set_cons_succ, i64_w, i32_w]
        rfl
       refine one_ (i := 3) (N := none) #[true, true, true, true, false] rfl rfl (by kernel_rfl) (by decide) (fun K hK => ?_)
       have hs45 : w44.cell? ⟨gb321, 0, none⟩ = some (.int .i64 0) := (blk_cell BK321.out 0).trans rfl
       have hfs45 := blk_frozen BK321.out 0
       have hns45_0 := NB320_321.out
       have hns45_2 := NB322_321.out
       have hms45_0 := NB321_320.out
       have hms45_2 := NB321_322.out
       have hs46 : w44.cell? ⟨gb321, 1, none⟩ = some (.int .i64 0) := (blk_cell BK321.out 1).trans rfl
       have hfs46 := blk_frozen BK321.out 1
       have hns46_0 := NB320_321.out
       have hns46_2 := NB322_321.out
       have hms46_0 := NB321_320.out
       have hms46_2 := NB321_322.out
       refine skip_ (w1 := ?_) (by rfl) rfl ?_ ?_
       rotate_left
       ·go_simp
        rfl
       refine hK.out _ _ ⟨((cell_far (p := ⟨gb321, _, none⟩) NB322_321.out _).trans (((cell_far (p := ⟨gb321, _, none⟩) NB322_321.out _).trans (hHeld.1)))), ((cell_far (p := ⟨gb321, _, none⟩) NB322_321.out _).trans (((cell_far (p := ⟨gb321, _, none⟩) NB322_321.out _).trans (hHeld.2))))⟩ (fun hHeld => ?_)
       clear hK K
       refine pure_ (i := 4) (N := some 7) (v := ?_) (a' := ?_) #[true, true, true, true, true] rfl rfl (by kernel_rfl) (fun _ _ _ h => h) (Or.inl ⟨by rfl, ?_⟩) ?_ ?_
       rotate_left
       ·intro w'
        go_simp
        with_reducible rfl
       rotate_left
       ·simp only [Act.put, List.setIfInBounds_toArray, List.set_cons_zero, List.set_cons_succ, i64_w, i32_w]
        rfl
       refine done_ (by kernel_rfl) ?_
       try go_wp2
       refine bodyPost_ret (results_ct rfl _ _ gb321 25 #[.int .i64 (wrap64 (a0_1 * a1)), .int .i64 t326] (0, 0) _ rfl (by (with_reducible repeat (first | refine blk_drewN ?_ _ | refine blk_drew ?_ | refine blk_alloc ?_ _)); refine blk_put (cs := #[.int .i64 (wrap64 (a0_1 * a1)), .int .i64 0]) ?_ 1 _ rfl; (with_reducible repeat (first | refine blk_drewN ?_ _ | refine blk_drew ?_ | refine blk_alloc ?_ _)); refine blk_put (cs := #[.int .i64 0, .int .i64 0]) ?_ 0 _ rfl; (with_reducible repeat (first | refine blk_drewN ?_ _ | refine blk_drew ?_ | refine blk_alloc ?_ _)); exact BK321.out) Try.underlying25 rfl (by kernel_rfl)) rfl ?_
       exact ⟨by first | rfl | (simp [errW_none, errW_some] <;> rfl) | (simp [*, errW_none, errW_some] <;> rfl), by repeat (first | (with_reducible first | exact HB.out | apply below_alloc | apply pw_below_drewN | apply below_drew1 | refine below_set ?_ GE320.out | refine below_set ?_ GE321.out | refine below_set ?_ GE322.out) | exact HB.out)⟩
      ·rw [if_neg c35] at H
       have c35b0 : decide (0 < t324) = false := decide_eq_false c35
       clear c35
       replace H := Option.bind_eq_some_iff.mp H
       obtain ⟨t328, A470, H⟩ := H
       replace H : (some ((wrap64 (a0_1 * a1)), (wrap64 (a0_0 * a1)), t328)) = some (r1, r2, r3) := H
       have A47 := Aside0.mk A470
       clear A470
       simp only [Option.some.injEq, Prod.mk.injEq] at H
       obtain ⟨rfl, rfl, rfl⟩ := H
       try go_wp2
       have n0_ := Aside0.mk (blk_drew BK320.out)
       have n1_ := Aside0.mk (blk_drew BK321.out)
       have n2_ := Aside0.mk (blk_drew BK322.out)
       have n3_ := Aside0.mk (below_drew1 HB.out)
       clear BK320 BK321 BK322 HB
       have BK320 := n0_; have BK321 := n1_; have BK322 := n2_; have HB := n3_
       clear n0_ n1_ n2_ n3_
       refine start_ (n := 5) (S := fun w' => w'.cell? ⟨gb322, 0, none⟩ = some (.int .i64 (wrap64 (a0_1 * a1))) ∧ w'.cell? ⟨gb322, 1, none⟩ = some (.int .i64 (wrap64 (a0_0 * a1)))) (ds := []) #[false, false, false, false, false] (by kernel_rfl) rfl rfl ⟨(blk_cell BK322.out 0).trans rfl, (blk_cell BK322.out 1).trans rfl⟩ (fun hHeld => ?_)
       generalize wc.drew = w48 at BK320 BK321 BK322 HB hHeld ⊢
       refine take_ (i := 0) (N := some 50) (v := ?_) (a' := ?_) #[true, false, false, false, false] rfl rfl (by kernel_rfl) (fun _ _ _ h => h) (Or.inl ⟨by rfl, ?_⟩) hHeld ?_ ?_
       rotate_left
       ·rintro w' ⟨s0, s1⟩
        go_simp
        with_reducible rfl
       rotate_left
       ·simp only [Act.put, List.setIfInBounds_toArray, List.set_cons_zero, List.set_cons_succ, i64_w, i32_w]
        rfl
       refine take_ (i := 1) (N := some 51) (v := ?_) (a' := ?_) #[true, true, false, false, false] rfl rfl (by kernel_rfl) (fun _ _ _ h => h) (Or.inl ⟨by rfl, ?_⟩) hHeld ?_ ?_
       rotate_left
       ·rintro w' ⟨s0, s1⟩
        go_simp
        with_reducible rfl
       rotate_left
       ·simp only [Act.put, List.setIfInBounds_toArray, List.set_cons_zero, List.set_cons_succ, i64_w, i32_w]
        rfl
       refine one_ (i := 2) (N := some 52) #[true, true, true, false, false] rfl rfl (by kernel_rfl) (by decide) (fun K hK => ?_)
       refine goes_ Try.func24 (by kernel_rfl) rfl #[.agg #[.int .i64 (wrap64 (a0_1 * a1)), .int .i64 (wrap64 (a0_0 * a1))]] (by rfl) rfl rfl gl_ ?_
       with_reducible refine (impl_ValidSpot.calls (wrap64 (a0_1 * a1)) (wrap64 (a0_0 * a1)) t328 _ A47.out).mono ?_
       rintro e w49 ⟨rfl, hb⟩
       refine ⟨_, rfl, ?_⟩
       have n0_ := Aside0.mk (blk_below (bk_ BK320.out) hb)
       have n1_ := Aside0.mk (blk_below (bk_ BK321.out) hb)
       have n2_ := Aside0.mk (blk_below (bk_ BK322.out) hb)
       have n3_ := Aside0.mk (below_step (bws_ HB.out) hb)
       clear BK320 BK321 BK322 HB
       have BK320 := n0_; have BK321 := n1_; have BK322 := n2_; have HB := n3_
       clear n0_ n1_ n2_ n3_
       (try clear hb)
       (try clear hb2)
       (try clear hk)
       (try clear hi)
       refine hK.out _ _ ⟨(blk_cell BK322.out 0).trans rfl, (blk_cell BK322.out 1).trans rfl⟩ (fun hHeld => ?_)
       clear hK K
       refine norm_ (a' := ?_) ?_ ?_
       rotate_left
       ·show Act.put _ (some 52) _ = _
        simp only [Act.put, List.setIfInBounds_toArray, List.set_cons_zero, List.set_cons_succ, i64_w, i32_w]
        rfl
       refine one_ (i := 3) (N := none) #[true, true, true, true, false] rfl rfl (by kernel_rfl) (by decide) (fun K hK => ?_)
       have hs50 : w49.cell? ⟨gb321, 0, none⟩ = some (.int .i64 0) := (blk_cell BK321.out 0).trans rfl
       have hfs50 := blk_frozen BK321.out 0
       have hns50_0 := NB320_321.out
       have hns50_2 := NB322_321.out
       have hms50_0 := NB321_320.out
       have hms50_2 := NB321_322.out
       have hs51 : w49.cell? ⟨gb321, 1, none⟩ = some (.int .i64 0) := (blk_cell BK321.out 1).trans rfl
       have hfs51 := blk_frozen BK321.out 1
       have hns51_0 := NB320_321.out
       have hns51_2 := NB322_321.out
       have hms51_0 := NB321_320.out
       have hms51_2 := NB321_322.out
       refine skip_ (w1 := ?_) (by rfl) rfl ?_ ?_
       rotate_left
       ·go_simp
        rfl
       refine hK.out _ _ ⟨((cell_far (p := ⟨gb321, _, none⟩) NB322_321.out _).trans (((cell_far (p := ⟨gb321, _, none⟩) NB322_321.out _).trans (hHeld.1)))), ((cell_far (p := ⟨gb321, _, none⟩) NB322_321.out _).trans (((cell_far (p := ⟨gb321, _, none⟩) NB322_321.out _).trans (hHeld.2))))⟩ (fun hHeld => ?_)
       clear hK K
       refine pure_ (i := 4) (N := some 7) (v := ?_) (a' := ?_) #[true, true, true, true, true] rfl rfl (by kernel_rfl) (fun _ _ _ h => h) (Or.inl ⟨by rfl, ?_⟩) ?_ ?_
       rotate_left
       ·intro w'
        go_simp
        with_reducible rfl
       rotate_left
       ·simp only [Act.put, List.setIfInBounds_toArray, List.set_cons_zero, List.set_cons_succ, i64_w, i32_w]
        rfl
       refine done_ (by kernel_rfl) ?_
       try go_wp2
       refine bodyPost_ret (results_ct rfl _ _ gb321 25 #[.int .i64 (wrap64 (a0_1 * a1)), .int .i64 (wrap64 (a0_0 * a1))] (0, 0) _ rfl (by (with_reducible repeat (first | refine blk_drewN ?_ _ | refine blk_drew ?_ | refine blk_alloc ?_ _)); refine blk_put (cs := #[.int .i64 (wrap64 (a0_1 * a1)), .int .i64 0]) ?_ 1 _ rfl; (with_reducible repeat (first | refine blk_drewN ?_ _ | refine blk_drew ?_ | refine blk_alloc ?_ _)); refine blk_put (cs := #[.int .i64 0, .int .i64 0]) ?_ 0 _ rfl; (with_reducible repeat (first | refine blk_drewN ?_ _ | refine blk_drew ?_ | refine blk_alloc ?_ _)); exact BK321.out) Try.underlying25 rfl (by kernel_rfl)) rfl ?_
       exact ⟨by first | rfl | (simp [errW_none, errW_some] <;> rfl) | (simp [*, errW_none, errW_some] <;> rfl), by repeat (first | (with_reducible first | exact HB.out | apply below_alloc | apply pw_below_drewN | apply below_drew1 | refine below_set ?_ GE320.out | refine below_set ?_ GE321.out | refine below_set ?_ GE322.out) | exact HB.out)⟩
  ·replace c6 := Bool.eq_false_iff.mpr c6
   subst c6
   have H1 : ((impl_ValidSpot.f (wrap64 (a0_1 * a1)) (wrap64 (a0_0 * a1))).bind fun t329 => (some (wrap64 (a0_1 * a1), wrap64 (a0_0 * a1), t329))) = some (r1, r2, r3) := by rw [if_neg (show ¬ (false = true) by decide)] at H; exact H
   clear H
   have H := H1
   clear H1
   replace H := Option.bind_eq_some_iff.mp H
   obtain ⟨t329, A520, H⟩ := H
   replace H : (some (wrap64 (a0_1 * a1), wrap64 (a0_0 * a1), t329)) = some (r1, r2, r3) := H
   have A52 := Aside0.mk A520
   clear A520
   simp only [Option.some.injEq, Prod.mk.injEq] at H
   obtain ⟨rfl, rfl, rfl⟩ := H
   go_enter Try.func48, Try.ntmps48
   try go_wp2_with (first | ((with_reducible refine gate_dst (N := 3) rfl ?_); refine box_event ?hg (N := 3) ?hd (cs := #[.int .i64 a0_0, .int .i64 a0_1]) (t := 29) ?hr ?_; (case hd => rfl); (case hg => rfl); (case hr => first | (go_simp; done) | (go_simp; rfl)); intro gb320 hg w53 hbox hb; have n0_ := Aside0.mk (below_step (bw_ HB.out) hb); have n1_ := Aside0.mk (hbox); have n2_ := Aside0.mk ((ge_ hg (bw_ HB.out))); have n3_ := Aside0.mk ((ge_ hg (bw_ HB.out))); clear HB; have HB := n0_; have BK320 := n1_; have GW320 := n2_; have GE320 := n3_; clear n0_ n1_ n2_ n3_; clear hb hbox hg) | ((with_reducible refine gate_dst (N := 6) rfl ?_); refine box_event ?hg (N := 6) ?hd (cs := #[.int .i64 0, .int .i64 0]) (t := 25) ?hr ?_; (case hd => rfl); (case hg => rfl); (case hr => first | (go_simp; done) | (go_simp; rfl)); intro gb321 hg w54 hbox hb; have n0_ := Aside0.mk (blk_below (bk_ BK320.out) hb); have n1_ := Aside0.mk (below_step (bwg_ GE320.out HB.out) hb); have n2_ := Aside0.mk (hbox); have n3_ := Aside0.mk ((by rw [hg]; exact (below_size (bwg_ GE320.out HB.out)) : w.heap.size ≤ gb321)); have n4_ := Aside0.mk ((by rw [hg]; exact (below_size (bwg_ GE320.out HB.out)) : w.heap.size ≤ gb321)); have n5_ := Aside0.mk ((ne1_ hg (bk_ BK320.out))); have n6_ := Aside0.mk ((ne2_ hg (bk_ BK320.out))); clear BK320; clear HB; have BK320 := n0_; have HB := n1_; have BK321 := n2_; have GW321 := n3_; have GE321 := n4_; have NB320_321 := n5_; have NB321_320 := n6_; clear n0_ n1_ n2_ n3_ n4_ n5_ n6_; clear hb hbox hg; have hnb55 := NB320_321.out; have hnc55 := NB321_320.out; have hcz56_0 : w54.cell? ⟨gb320, 0, none⟩ = some (.int .i64 a0_0) := (blk_cell BK320.out 0).trans rfl; have hcz56_1 : w54.cell? ⟨gb320, 1, none⟩ = some (.int .i64 a0_1) := (blk_cell BK320.out 1).trans rfl; have hfz56_0 := blk_frozen BK320.out 0; have hfz56_1 := blk_frozen BK320.out 1) | ((with_reducible refine gate_dst (N := 8) rfl ?_); refine box_event ?hg (N := 8) ?hd (cs := #[.int .i64 0, .int .i64 0]) (t := 25) ?hr ?_; (case hd => rfl); (case hg => rfl); (case hr => first | (go_simp; done) | (go_simp; rfl)); intro gb322 hg w57 hbox hb; have n0_ := Aside0.mk (blk_below (bk_ BK320.out) hb); have n1_ := Aside0.mk (blk_below (bk_ BK321.out) hb); have n2_ := Aside0.mk (below_step (bws_ HB.out) hb); have n3_ := Aside0.mk (hbox); have n4_ := Aside0.mk ((ge_ hg (bws_ HB.out))); have n5_ := Aside0.mk ((ge_ hg (bws_ HB.out))); have n6_ := Aside0.mk ((ne1_ hg (bk_ BK320.out))); have n7_ := Aside0.mk ((ne2_ hg (bk_ BK320.out))); have n8_ := Aside0.mk ((ne1_ hg (bk_ BK321.out))); have n9_ := Aside0.mk ((ne2_ hg (bk_ BK321.out))); clear BK320; clear BK321; clear HB; have BK320 := n0_; have BK321 := n1_; have HB := n2_; have BK322 := n3_; have GW322 := n4_; have GE322 := n5_; have NB320_322 := n6_; have NB322_320 := n7_; have NB321_322 := n8_; have NB322_321 := n9_; clear n0_ n1_ n2_ n3_ n4_ n5_ n6_ n7_ n8_ n9_; clear hb hbox hg; have hnb58 := NB322_320.out; have hnc58 := NB320_322.out; have hnb59 := NB322_321.out; have hnc59 := NB321_322.out; have hcz60_0 : w57.cell? ⟨gb322, 0, none⟩ = some (.int .i64 0) := (blk_cell BK322.out 0).trans rfl; have hcz60_1 : w57.cell? ⟨gb322, 1, none⟩ = some (.int .i64 0) := (blk_cell BK322.out 1).trans rfl; have hfz60_0 := blk_frozen BK322.out 0; have hfz60_1 := blk_frozen BK322.out 1) | ((with_reducible refine gate_callee (f := 61) rfl ?_); refine goesL_ (some 21) rfl rfl Try.func61 (by kernel_rfl) rfl #[.int .i64 (wrap64 (a0_1 * a1))] rfl gl_ ?_; (with_reducible refine (impl_isLat.calls (wrap64 (a0_1 * a1)) true _ A4.out).mono ?_); rintro e w' ⟨rfl, ⟨nd, rfl⟩⟩; refine ⟨_, rfl, ?_⟩))
   have n0_ : Aside0 (((w57.setCell ⟨gb322, 0, none⟩ (.int .i64 (wrap64 (a0_1 * a1)))).setCell ⟨gb322, 1, none⟩ (.int .i64 (wrap64 (a0_0 * a1)))).heap[gb320]? = some (.cells #[.int .i64 a0_0, .int .i64 a0_1] 29 (0, 0))) := ⟨bf2_ NB320_322.out BK320.out⟩
   have n1_ : Aside0 (((w57.setCell ⟨gb322, 0, none⟩ (.int .i64 (wrap64 (a0_1 * a1)))).setCell ⟨gb322, 1, none⟩ (.int .i64 (wrap64 (a0_0 * a1)))).heap[gb321]? = some (.cells #[.int .i64 0, .int .i64 0] 25 (0, 0))) := ⟨bf2_ NB321_322.out BK321.out⟩
   have n2_ : Aside0 (((w57.setCell ⟨gb322, 0, none⟩ (.int .i64 (wrap64 (a0_1 * a1)))).setCell ⟨gb322, 1, none⟩ (.int .i64 (wrap64 (a0_0 * a1)))).heap[gb322]? = some (.cells #[.int .i64 (wrap64 (a0_1 * a1)), .int .i64 (wrap64 (a0_0 * a1))] 25 (0, 0))) := ⟨by (with_reducible repeat (first | refine blk_drewN ?_ _ | refine blk_drew ?_ | refine blk_alloc ?_ _)); refine blk_put (cs := #[.int .i64 (wrap64 (a0_1 * a1)), .int .i64 0]) ?_ 1 _ rfl; (with_reducible repeat (first | refine blk_drewN ?_ _ | refine blk_drew ?_ | refine blk_alloc ?_ _)); refine blk_put (cs := #[.int .i64 0, .int .i64 0]) ?_ 0 _ rfl; (with_reducible repeat (first | refine blk_drewN ?_ _ | refine blk_drew ?_ | refine blk_alloc ?_ _)); exact BK322.out⟩
   have n3_ : Aside0 (Below w.heap.size w ((w57.setCell ⟨gb322, 0, none⟩ (.int .i64 (wrap64 (a0_1 * a1)))).setCell ⟨gb322, 1, none⟩ (.int .i64 (wrap64 (a0_0 * a1))))) := ⟨bws_ HB.out⟩
   (try clear BK320)
   (try clear BK321)
   (try clear BK322)
   (try clear HB)
   generalize ((w57.setCell ⟨gb322, 0, none⟩ (.int .i64 (wrap64 (a0_1 * a1)))).setCell ⟨gb322, 1, none⟩ (.int .i64 (wrap64 (a0_0 * a1)))) = w61 at n0_ n1_ n2_ n3_ ⊢
   have BK320 := n0_; have BK321 := n1_; have BK322 := n2_; have HB := n3_
   clear n0_ n1_ n2_ n3_
   (try (rw [drewN_self w61]; generalize hq_ : World.drewN w61 _ = w61; have n0_ : Aside0 (w61.heap[gb320]? = some (.cells #[.int .i64 a0_0, .int .i64 a0_1] 29 (0, 0))) := ⟨by rw [← hq_]; exact (bk_ BK320.out)⟩; have n1_ : Aside0 (w61.heap[gb321]? = some (.cells #[.int .i64 0, .int .i64 0] 25 (0, 0))) := ⟨by rw [← hq_]; exact (bk_ BK321.out)⟩; have n2_ : Aside0 (w61.heap[gb322]? = some (.cells #[.int .i64 (wrap64 (a0_1 * a1)), .int .i64 (wrap64 (a0_0 * a1))] 25 (0, 0))) := ⟨by rw [← hq_]; exact (bk_ BK322.out)⟩; have n3_ : Aside0 (Below w.heap.size w w61) := ⟨by rw [← hq_]; exact (bws_ HB.out)⟩; clear BK320 BK321 BK322 HB hq_; have BK320 := n0_; have BK321 := n1_; have BK322 := n2_; have HB := n3_; clear n0_ n1_ n2_ n3_))
   have n0_ := Aside0.mk (blk_drew BK320.out)
   have n1_ := Aside0.mk (blk_drew BK321.out)
   have n2_ := Aside0.mk (blk_drew BK322.out)
   have n3_ := Aside0.mk (below_drew1 HB.out)
   clear BK320 BK321 BK322 HB
   have BK320 := n0_; have BK321 := n1_; have BK322 := n2_; have HB := n3_
   clear n0_ n1_ n2_ n3_
   refine start_ (n := 5) (S := fun w' => w'.cell? ⟨gb322, 0, none⟩ = some (.int .i64 (wrap64 (a0_1 * a1))) ∧ w'.cell? ⟨gb322, 1, none⟩ = some (.int .i64 (wrap64 (a0_0 * a1)))) (ds := []) #[false, false, false, false, false] (by kernel_rfl) rfl rfl ⟨(blk_cell BK322.out 0).trans rfl, (blk_cell BK322.out 1).trans rfl⟩ (fun hHeld => ?_)
   generalize w61.drew = w62 at BK320 BK321 BK322 HB hHeld ⊢
   refine take_ (i := 0) (N := some 50) (v := ?_) (a' := ?_) #[true, false, false, false, false] rfl rfl (by kernel_rfl) (fun _ _ _ h => h) (Or.inl ⟨by rfl, ?_⟩) hHeld ?_ ?_
   rotate_left
   ·rintro w' ⟨s0, s1⟩
    go_simp
    with_reducible rfl
   rotate_left
   ·simp only [Act.put, List.setIfInBounds_toArray, List.set_cons_zero, List.set_cons_succ, i64_w, i32_w]
    rfl
   refine take_ (i := 1) (N := some 51) (v := ?_) (a' := ?_) #[true, true, false, false, false] rfl rfl (by kernel_rfl) (fun _ _ _ h => h) (Or.inl ⟨by rfl, ?_⟩) hHeld ?_ ?_
   rotate_left
   ·rintro w' ⟨s0, s1⟩
    go_simp
    with_reducible rfl
   rotate_left
   ·simp only [Act.put, List.setIfInBounds_toArray, List.set_cons_zero, List.set_cons_succ, i64_w, i32_w]
    rfl
   refine one_ (i := 2) (N := some 52) #[true, true, true, false, false] rfl rfl (by kernel_rfl) (by decide) (fun K hK => ?_)
   refine goes_ Try.func24 (by kernel_rfl) rfl #[.agg #[.int .i64 (wrap64 (a0_1 * a1)), .int .i64 (wrap64 (a0_0 * a1))]] (by rfl) rfl rfl gl_ ?_
   with_reducible refine (impl_ValidSpot.calls (wrap64 (a0_1 * a1)) (wrap64 (a0_0 * a1)) t329 _ A52.out).mono ?_
   rintro e w63 ⟨rfl, hb⟩
   refine ⟨_, rfl, ?_⟩
   have n0_ := Aside0.mk (blk_below (bk_ BK320.out) hb)
   have n1_ := Aside0.mk (blk_below (bk_ BK321.out) hb)
   have n2_ := Aside0.mk (blk_below (bk_ BK322.out) hb)
   have n3_ := Aside0.mk (below_step (bws_ HB.out) hb)
   clear BK320 BK321 BK322 HB
   have BK320 := n0_; have BK321 := n1_; have BK322 := n2_; have HB := n3_
   clear n0_ n1_ n2_ n3_
   (try clear hb)
   (try clear hb2)
   (try clear hk)
   (try clear hi)
   refine hK.out _ _ ⟨(blk_cell BK322.out 0).trans rfl, (blk_cell BK322.out 1).trans rfl⟩ (fun hHeld => ?_)
   clear hK K
   refine norm_ (a' := ?_) ?_ ?_
   rotate_left
   ·show Act.put _ (some 52) _ = _
    simp only [Act.put, List.setIfInBounds_toArray, List.set_cons_zero, List.set_cons_succ, i64_w, i32_w]
    rfl
   refine one_ (i := 3) (N := none) #[true, true, true, true, false] rfl rfl (by kernel_rfl) (by decide) (fun K hK => ?_)
   have hs64 : w63.cell? ⟨gb321, 0, none⟩ = some (.int .i64 0) := (blk_cell BK321.out 0).trans rfl
   have hfs64 := blk_frozen BK321.out 0
   have hns64_0 := NB320_321.out
   have hns64_2 := NB322_321.out
   have hms64_0 := NB321_320.out
   have hms64_2 := NB321_322.out
   have hs65 : w63.cell? ⟨gb321, 1, none⟩ = some (.int .i64 0) := (blk_cell BK321.out 1).trans rfl
   have hfs65 := blk_frozen BK321.out 1
   have hns65_0 := NB320_321.out
   have hns65_2 := NB322_321.out
   have hms65_0 := NB321_320.out
   have hms65_2 := NB321_322.out
   refine skip_ (w1 := ?_) (by rfl) rfl ?_ ?_
   rotate_left
   ·go_simp
    rfl
   refine hK.out _ _ ⟨((cell_far (p := ⟨gb321, _, none⟩) NB322_321.out _).trans (((cell_far (p := ⟨gb321, _, none⟩) NB322_321.out _).trans (hHeld.1)))), ((cell_far (p := ⟨gb321, _, none⟩) NB322_321.out _).trans (((cell_far (p := ⟨gb321, _, none⟩) NB322_321.out _).trans (hHeld.2))))⟩ (fun hHeld => ?_)
   clear hK K
   refine pure_ (i := 4) (N := some 7) (v := ?_) (a' := ?_) #[true, true, true, true, true] rfl rfl (by kernel_rfl) (fun _ _ _ h => h) (Or.inl ⟨by rfl, ?_⟩) ?_ ?_
   rotate_left
   ·intro w'
    go_simp
    with_reducible rfl
   rotate_left
   ·simp only [Act.put, List.setIfInBounds_toArray, List.set_cons_zero, List.set_cons_succ, i64_w, i32_w]
    rfl
   refine done_ (by kernel_rfl) ?_
   try go_wp2
   refine bodyPost_ret (results_ct rfl _ _ gb321 25 #[.int .i64 (wrap64 (a0_1 * a1)), .int .i64 (wrap64 (a0_0 * a1))] (0, 0) _ rfl (by (with_reducible repeat (first | refine blk_drewN ?_ _ | refine blk_drew ?_ | refine blk_alloc ?_ _)); refine blk_put (cs := #[.int .i64 (wrap64 (a0_1 * a1)), .int .i64 0]) ?_ 1 _ rfl; (with_reducible repeat (first | refine blk_drewN ?_ _ | refine blk_drew ?_ | refine blk_alloc ?_ _)); refine blk_put (cs := #[.int .i64 0, .int .i64 0]) ?_ 0 _ rfl; (with_reducible repeat (first | refine blk_drewN ?_ _ | refine blk_drew ?_ | refine blk_alloc ?_ _)); exact BK321.out) Try.underlying25 rfl (by kernel_rfl)) rfl ?_
   exact ⟨by first | rfl | (simp [errW_none, errW_some] <;> rfl) | (simp [*, errW_none, errW_some] <;> rfl), by repeat (first | (with_reducible first | exact HB.out | apply below_alloc | apply pw_below_drewN | apply below_drew1 | refine below_set ?_ GE320.out | refine below_set ?_ GE321.out | refine below_set ?_ GE322.out) | exact HB.out)⟩
 ·replace c5 := Bool.eq_false_iff.mpr c5
  subst c5
  have H1 : (some (0, 0, false)) = some (r1, r2, r3) := by rw [if_neg (show ¬ (false = true) by decide)] at H; exact H
  clear H
  have H := H1
  clear H1
  simp only [Option.some.injEq, Prod.mk.injEq] at H
  obtain ⟨rfl, rfl, rfl⟩ := H
  go_enter Try.func48, Try.ntmps48
  go_wp2_with (first | ((with_reducible refine gate_dst (N := 3) rfl ?_); refine box_event ?hg (N := 3) ?hd (cs := #[.int .i64 a0_0, .int .i64 a0_1]) (t := 29) ?hr ?_; (case hd => rfl); (case hg => rfl); (case hr => first | (go_simp; done) | (go_simp; rfl)); intro gb320 hg w66 hbox hb; have n0_ := Aside0.mk (below_step (bw_ HB.out) hb); have n1_ := Aside0.mk (hbox); have n2_ := Aside0.mk ((ge_ hg (bw_ HB.out))); have n3_ := Aside0.mk ((ge_ hg (bw_ HB.out))); clear HB; have HB := n0_; have BK320 := n1_; have GW320 := n2_; have GE320 := n3_; clear n0_ n1_ n2_ n3_; clear hb hbox hg) | ((with_reducible refine gate_dst (N := 6) rfl ?_); refine box_event ?hg (N := 6) ?hd (cs := #[.int .i64 0, .int .i64 0]) (t := 25) ?hr ?_; (case hd => rfl); (case hg => rfl); (case hr => first | (go_simp; done) | (go_simp; rfl)); intro gb321 hg w67 hbox hb; have n0_ := Aside0.mk (blk_below (bk_ BK320.out) hb); have n1_ := Aside0.mk (below_step (bwg_ GE320.out HB.out) hb); have n2_ := Aside0.mk (hbox); have n3_ := Aside0.mk ((by rw [hg]; exact (below_size (bwg_ GE320.out HB.out)) : w.heap.size ≤ gb321)); have n4_ := Aside0.mk ((by rw [hg]; exact (below_size (bwg_ GE320.out HB.out)) : w.heap.size ≤ gb321)); have n5_ := Aside0.mk ((ne1_ hg (bk_ BK320.out))); have n6_ := Aside0.mk ((ne2_ hg (bk_ BK320.out))); clear BK320; clear HB; have BK320 := n0_; have HB := n1_; have BK321 := n2_; have GW321 := n3_; have GE321 := n4_; have NB320_321 := n5_; have NB321_320 := n6_; clear n0_ n1_ n2_ n3_ n4_ n5_ n6_; clear hb hbox hg; have hnb68 := NB320_321.out; have hnc68 := NB321_320.out; have hcz69_0 : w67.cell? ⟨gb320, 0, none⟩ = some (.int .i64 a0_0) := (blk_cell BK320.out 0).trans rfl; have hcz69_1 : w67.cell? ⟨gb320, 1, none⟩ = some (.int .i64 a0_1) := (blk_cell BK320.out 1).trans rfl; have hfz69_0 := blk_frozen BK320.out 0; have hfz69_1 := blk_frozen BK320.out 1) | ((with_reducible refine gate_dst (N := 8) rfl ?_); refine box_event ?hg (N := 8) ?hd (cs := #[.int .i64 0, .int .i64 0]) (t := 25) ?hr ?_; (case hd => rfl); (case hg => rfl); (case hr => first | (go_simp; done) | (go_simp; rfl)); intro gb322 hg w70 hbox hb; have n0_ := Aside0.mk (blk_below (bk_ BK320.out) hb); have n1_ := Aside0.mk (blk_below (bk_ BK321.out) hb); have n2_ := Aside0.mk (below_step (bws_ HB.out) hb); have n3_ := Aside0.mk (hbox); have n4_ := Aside0.mk ((ge_ hg (bws_ HB.out))); have n5_ := Aside0.mk ((ge_ hg (bws_ HB.out))); have n6_ := Aside0.mk ((ne1_ hg (bk_ BK320.out))); have n7_ := Aside0.mk ((ne2_ hg (bk_ BK320.out))); have n8_ := Aside0.mk ((ne1_ hg (bk_ BK321.out))); have n9_ := Aside0.mk ((ne2_ hg (bk_ BK321.out))); clear BK320; clear BK321; clear HB; have BK320 := n0_; have BK321 := n1_; have HB := n2_; have BK322 := n3_; have GW322 := n4_; have GE322 := n5_; have NB320_322 := n6_; have NB322_320 := n7_; have NB321_322 := n8_; have NB322_321 := n9_; clear n0_ n1_ n2_ n3_ n4_ n5_ n6_ n7_ n8_ n9_; clear hb hbox hg; have hnb71 := NB322_320.out; have hnc71 := NB320_322.out; have hnb72 := NB322_321.out; have hnc72 := NB321_322.out; have hcz73_0 : w70.cell? ⟨gb322, 0, none⟩ = some (.int .i64 0) := (blk_cell BK322.out 0).trans rfl; have hcz73_1 : w70.cell? ⟨gb322, 1, none⟩ = some (.int .i64 0) := (blk_cell BK322.out 1).trans rfl; have hfz73_0 := blk_frozen BK322.out 0; have hfz73_1 := blk_frozen BK322.out 1) | ((with_reducible refine gate_callee (f := 61) rfl ?_); refine goesL_ (some 21) rfl rfl Try.func61 (by kernel_rfl) rfl #[.int .i64 (wrap64 (a0_1 * a1))] rfl gl_ ?_; (with_reducible refine (impl_isLat.calls (wrap64 (a0_1 * a1)) false _ A4.out).mono ?_); rintro e w' ⟨rfl, ⟨nd, rfl⟩⟩; refine ⟨_, rfl, ?_⟩; have hcz74_0 : w70.cell? ⟨gb321, 0, none⟩ = some (.int .i64 0) := (blk_cell BK321.out 0).trans rfl; have hcz74_1 : w70.cell? ⟨gb321, 1, none⟩ = some (.int .i64 0) := (blk_cell BK321.out 1).trans rfl; have hfz74_0 := blk_frozen BK321.out 0; have hfz74_1 := blk_frozen BK321.out 1))
  refine bodyPost_ret (results_ct rfl _ _ gb321 25 #[.int .i64 0, .int .i64 0] (0, 0) _ rfl (by (with_reducible repeat (first | refine blk_drewN ?_ _ | refine blk_drew ?_ | refine blk_alloc ?_ _)); refine blk_put (cs := #[.int .i64 0, .int .i64 0]) ?_ 1 _ rfl; (with_reducible repeat (first | refine blk_drewN ?_ _ | refine blk_drew ?_ | refine blk_alloc ?_ _)); refine blk_put (cs := #[.int .i64 0, .int .i64 0]) ?_ 0 _ rfl; (with_reducible repeat (first | refine blk_drewN ?_ _ | refine blk_drew ?_ | refine blk_alloc ?_ _)); refine blk_far ?_ NB321_322.out _; (with_reducible repeat (first | refine blk_drewN ?_ _ | refine blk_drew ?_ | refine blk_alloc ?_ _)); refine blk_far ?_ NB321_322.out _; (with_reducible repeat (first | refine blk_drewN ?_ _ | refine blk_drew ?_ | refine blk_alloc ?_ _)); exact BK321.out) Try.underlying25 rfl (by kernel_rfl)) rfl ?_
  exact ⟨by first | rfl | (simp [errW_none, errW_some] <;> rfl) | (simp [*, errW_none, errW_some] <;> rfl), by repeat (first | (with_reducible first | exact HB.out | apply below_alloc | apply pw_below_drewN | apply below_drew1 | refine below_set ?_ GE320.out | refine below_set ?_ GE321.out | refine below_set ?_ GE322.out) | exact HB.out)⟩

end Go.Proofs.Ytfaciogcddpgdaa.Print
