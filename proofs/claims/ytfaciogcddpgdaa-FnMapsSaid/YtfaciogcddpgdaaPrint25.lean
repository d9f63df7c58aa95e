-- Printed by a program of this session out of the translation; not trusted: Lean checks it.
-- SQUEEZED
-- SHRUNK
import Derived.Test.YtfaciogcddpgdaaPrint0
import Derived.Test.YtfaciogcddpgdaaPrint3
import Derived.Test.YtfaciogcddpgdaaPrint4
import Derived.Test.YtfaciogcddpgdaaPrint7
import Derived.Test.YtfaciogcddpgdaaPrint14
import Derived.Test.YtfaciogcddpgdaaPrint15
namespace Go.Proofs.Ytfaciogcddpgdaa.Print
open Go.RowKit Go.Proofs.YtfaciogcddpgdaaW.PrintWords Go.Proofs.YtfaciogcddpgdaaW.PrintLast Go.Proofs.YtfaciogcddpgdaaW.PrintMore
attribute [local go_sem] max2_int min2_int max_two min_two max_three min_three max_four min_four   -- for this text's walks alone
set_option linter.unusedVariables false
set_option linter.unusedSimpArgs false

/-! ### spec_DrawOnMap: function 18 -/
def spec_DrawOnMap.f (k : Nat) (l0 : List Int) : Option (Int × Int × Int × Bool) := (spec_l08Back.f k l0).bind fun bt460 => ((spec_l00From.f l0).bind fun bt464 => ((spec_l00Src_one.f bt464.1 bt464.2.1 bt464.2.2 2).bind fun bt468 => (some (bt460.1, bt460.2.1, bt460.2.2, bt468.1))))
theorem spec_DrawOnMap.mono : ∀ a0 k, LeO (spec_DrawOnMap.f k a0) (spec_DrawOnMap.f (k + 1) a0) := by
 intro a0 k
 unfold spec_DrawOnMap.f
 repeat' first
   | (with_reducible exact spec_l08Back.mono _ _)
   | (with_reducible exact LeO.refl _)
   | (with_reducible exact LeO.none _)
   | (with_reducible refine LeO.ite ?_ ?_)
   | (with_reducible refine LeO.bind ?_ (fun _ => ?_))
   | exact spec_l08Back.mono _ _
   | exact LeO.none _
   | refine LeO.ite ?_ ?_
   | refine LeO.bind ?_ (fun _ => ?_)
set_option maxHeartbeats 8000000 in
set_option maxRecDepth 100000 in
theorem spec_DrawOnMap.calls (k : Nat) (A0 : Option Addr) (c0 : Nat) (l0 : List Int) (r1 : Int) (r2 : Int) (r3 : Int) (r4 : Bool) (w : World) (hr0 : Kd.C (Kd.int .u8) w A0 l0.length l0) (hc0 : l0.length ≤ c0) (h : spec_DrawOnMap.f k l0 = some (r1, r2, r3, r4)) :
  Calls Try.prog 18 #[.slice A0 l0.length c0] w fun e w' => e = .returned (.tuple #[.agg #[.int .i64 r1, .int .i64 r2], .int .i64 r3, .bool r4]) ∧ Below w.heap.size w w' := by
 have hu29 := Try.underlying29
 have HR0 := Aside0.mk hr0
 have HC0 := Aside0.mk hc0
 clear hr0 hc0
 have HB := Aside0.mk (Below.refl w.heap.size w)
 have H : ((spec_l08Back.f k l0).bind fun bt460 => ((spec_l00From.f l0).bind fun bt464 => ((spec_l00Src_one.f bt464.1 bt464.2.1 bt464.2.2 2).bind fun bt468 => (some (bt460.1, bt460.2.1, bt460.2.2, bt468.1))))) = some (r1, r2, r3, r4) := h
 clear h
 replace H := Option.bind_eq_some_iff.mp H
 obtain ⟨⟨t460, t461, t462⟩, A20, H⟩ := H
 replace H : ((spec_l00From.f l0).bind fun bt464 => ((spec_l00Src_one.f bt464.1 bt464.2.1 bt464.2.2 2).bind fun bt468 => (some (t460, t461, t462, bt468.1)))) = some (r1, r2, r3, r4) := H
 have A2 := Aside0.mk A20
 clear A20
 replace H := Option.bind_eq_some_iff.mp H
 obtain ⟨⟨t464, t465, t466⟩, A30, H⟩ := H
 replace H : ((spec_l00Src_one.f t464 t465 t466 2).bind fun bt468 => (some (t460, t461, t462, bt468.1))) = some (r1, r2, r3, r4) := H
 have A3 := Aside0.mk A30
 clear A30
 replace H := Option.bind_eq_some_iff.mp H
 obtain ⟨⟨t468, t469, t470⟩, A40, H⟩ := H
 replace H : (some (t460, t461, t462, t468)) = some (r1, r2, r3, r4) := H
 have A4 := Aside0.mk A40
 clear A40
 simp only [Option.some.injEq, Prod.mk.injEq] at H
 obtain ⟨rfl, rfl, rfl, rfl⟩ := H
 go_enter Try.func18, Try.ntmps18
 try go_wp2_with (first | ((with_reducible refine gate_dst (N := 2) rfl ?_); refine box_event ?hg (N := 2) ?hd (cs := #[.int .i64 0, .int .i64 0]) (t := 29) ?hr ?_; (case hd => rfl); (case hg => rfl); (case hr => first | (go_simp; done) | (go_simp; rfl)); intro gb459 hg w5 hbox hb; have n0_ := Aside0.mk (below_step (bw_ HB.out) hb); have n1_ := Aside0.mk (hbox); have n2_ := Aside0.mk ((ge_ hg (bw_ HB.out))); have n3_ := Aside0.mk ((ge_ hg (bw_ HB.out))); clear HB; have HB := n0_; have BK459 := n1_; have GW459 := n2_; have GE459 := n3_; clear n0_ n1_ n2_ n3_; clear hb hbox hg) | ((with_reducible refine gate_callee (f := 30) rfl ?_); refine goesL_ (some 10) rfl rfl Try.func30 (by kernel_rfl) rfl #[.slice A0 l0.length c0] rfl gl_ ?_; (with_reducible refine (spec_l08Back.calls k _ _ l0 t460 t461 t462 _ ?side1 ?side2 A2.out).mono ?_); (case side1 => repeat (first | exact (Kd.C_below HR0.out HB.out) | (with_reducible refine Kd.C_alloc ?_ _) | (with_reducible refine Kd.C_drewN ?_ _) | (with_reducible refine Kd.C_drew ?_))); (case side2 => exact HC0.out); rintro e w6 ⟨rfl, hb⟩; refine ⟨_, rfl, ?_⟩; have n0_ := Aside0.mk (blk_below (bk_ BK459.out) hb); have n1_ := Aside0.mk (below_step (bwg_ GE459.out HB.out) hb); clear BK459; clear HB; have BK459 := n0_; have HB := n1_; clear n0_ n1_; (try clear hb); (try clear hb2); (try clear hk); (try clear hi)) | ((with_reducible refine gate_dst (N := 5) rfl ?_); refine box_event ?hg (N := 5) ?hd (cs := #[.int .i64 0, .int .i64 0]) (t := 29) ?hr ?_; (case hd => rfl); (case hg => rfl); (case hr => first | (go_simp; done) | (go_simp; rfl)); intro gb463 hg w7 hbox hb; have n0_ := Aside0.mk (blk_below (bk_ BK459.out) hb); have n1_ := Aside0.mk (below_step (bwg_ GE459.out HB.out) hb); have n2_ := Aside0.mk (hbox); have n3_ := Aside0.mk ((by rw [hg]; exact (below_size (bwg_ GE459.out HB.out)) : w.heap.size ≤ gb463)); have n4_ := Aside0.mk ((by rw [hg]; exact (below_size (bwg_ GE459.out HB.out)) : w.heap.size ≤ gb463)); have n5_ := Aside0.mk ((ne1_ hg (bk_ BK459.out))); have n6_ := Aside0.mk ((ne2_ hg (bk_ BK459.out))); clear BK459; clear HB; have BK459 := n0_; have HB := n1_; have BK463 := n2_; have GW463 := n3_; have GE463 := n4_; have NB459_463 := n5_; have NB463_459 := n6_; clear n0_ n1_ n2_ n3_ n4_ n5_ n6_; clear hb hbox hg; have hnb8 := NB463_459.out; have hnc8 := NB459_463.out; have hcz9_0 : w7.cell? ⟨gb463, 0, none⟩ = some (.int .i64 0) := (blk_cell BK463.out 0).trans rfl; have hcz9_1 : w7.cell? ⟨gb463, 1, none⟩ = some (.int .i64 0) := (blk_cell BK463.out 1).trans rfl; have hfz9_0 := blk_frozen BK463.out 0; have hfz9_1 := blk_frozen BK463.out 1) | ((with_reducible refine gate_callee (f := 37) rfl ?_); refine goesL_ (some 14) rfl rfl Try.func37 (by kernel_rfl) rfl #[.slice A0 l0.length c0] rfl gl_ ?_; (with_reducible refine (spec_l00From.calls _ _ l0 t464 t465 t466 w _ ?side1 ?side2 ?side3 A3.out).mono ?_); (case side1 => repeat (first | (with_reducible first | exact HB.out | apply below_alloc | apply pw_below_drewN | apply below_drew1 | refine below_set ?_ GE459.out | refine below_set ?_ GE463.out) | exact HB.out)); (case side2 => exact HR0.out); (case side3 => exact HC0.out); rintro e w10 ⟨g467, rfl, hi, hb, hb2⟩; refine ⟨_, rfl, ?_⟩; have n0_ := Aside0.mk (blk_below (bf_ NB459_463.out BK459.out) hb2); have n1_ := Aside0.mk (blk_below (g := gb463) (o := .cells #[.int .i64 t460, .int .i64 t461] 29 (0, 0)) (by (with_reducible repeat (first | refine blk_drewN ?_ _ | refine blk_drew ?_ | refine blk_alloc ?_ _)); refine blk_put (cs := #[.int .i64 t460, .int .i64 0]) ?_ 1 _ rfl; (with_reducible repeat (first | refine blk_drewN ?_ _ | refine blk_drew ?_ | refine blk_alloc ?_ _)); refine blk_put (cs := #[.int .i64 0, .int .i64 0]) ?_ 0 _ rfl; (with_reducible repeat (first | refine blk_drewN ?_ _ | refine blk_drew ?_ | refine blk_alloc ?_ _)); exact BK463.out) hb2); have n2_ := Aside0.mk (hb); have n3_ := Aside0.mk (hi); have n4_ := Aside0.mk (IsS68.ne_blk hi (blk_below (bf_ NB459_463.out BK459.out) hb2) (by decide)); have n5_ := Aside0.mk (Ne.symm (IsS68.ne_blk hi (blk_below (bf_ NB459_463.out BK459.out) hb2) (by decide))); have n6_ := Aside0.mk (IsS68.ne_blk hi (blk_below (g := gb463) (o := .cells #[.int .i64 t460, .int .i64 t461] 29 (0, 0)) (by (with_reducible repeat (first | refine blk_drewN ?_ _ | refine blk_drew ?_ | refine blk_alloc ?_ _)); refine blk_put (cs := #[.int .i64 t460, .int .i64 0]) ?_ 1 _ rfl; (with_reducible repeat (first | refine blk_drewN ?_ _ | refine blk_drew ?_ | refine blk_alloc ?_ _)); refine blk_put (cs := #[.int .i64 0, .int .i64 0]) ?_ 0 _ rfl; (with_reducible repeat (first | refine blk_drewN ?_ _ | refine blk_drew ?_ | refine blk_alloc ?_ _)); exact BK463.out) hb2) (by decide)); have n7_ := Aside0.mk (Ne.symm (IsS68.ne_blk hi (blk_below (g := gb463) (o := .cells #[.int .i64 t460, .int .i64 t461] 29 (0, 0)) (by (with_reducible repeat (first | refine blk_drewN ?_ _ | refine blk_drew ?_ | refine blk_alloc ?_ _)); refine blk_put (cs := #[.int .i64 t460, .int .i64 0]) ?_ 1 _ rfl; (with_reducible repeat (first | refine blk_drewN ?_ _ | refine blk_drew ?_ | refine blk_alloc ?_ _)); refine blk_put (cs := #[.int .i64 0, .int .i64 0]) ?_ 0 _ rfl; (with_reducible repeat (first | refine blk_drewN ?_ _ | refine blk_drew ?_ | refine blk_alloc ?_ _)); exact BK463.out) hb2) (by decide))); clear BK459; clear BK463; clear HB; have BK459 := n0_; have BK463 := n1_; have HB := n2_; have HI467 := n3_; have NB467_459 := n4_; have NB459_467 := n5_; have NB467_463 := n6_; have NB463_467 := n7_; clear n0_ n1_ n2_ n3_ n4_ n5_ n6_ n7_; (try clear hb); (try clear hb2); (try clear hk); (try clear hi)))
 have n0_ := Aside0.mk (blk_drew BK459.out)
 have n1_ := Aside0.mk (blk_drew BK463.out)
 have n2_ := Aside0.mk (IsS68.drew HI467.out)
 have n3_ := Aside0.mk (below_drew1 HB.out)
 clear BK459 BK463 HI467 HB
 have BK459 := n0_; have BK463 := n1_; have HI467 := n2_; have HB := n3_
 clear n0_ n1_ n2_ n3_
 refine start_ (n := 7) (S := fun w' => w'.cell? ⟨gb463, 0, none⟩ = some (.int .i64 t460) ∧ w'.cell? ⟨gb463, 1, none⟩ = some (.int .i64 t461)) (ds := []) #[false, false, false, false, false, false, false] (by kernel_rfl) rfl rfl ⟨(blk_cell BK463.out 0).trans rfl, (blk_cell BK463.out 1).trans rfl⟩ (fun hHeld => ?_)
 generalize w10.drew = w11 at BK459 BK463 HI467 HB hHeld ⊢
 refine pure_ (i := 1) (N := some 16) (v := ?_) (a' := ?_) #[false, true, false, false, false, false, false] rfl rfl (by kernel_rfl) (fun _ _ _ h => h) (Or.inl ⟨by rfl, ?_⟩) ?_ ?_
 rotate_left
 ·intro w'
  go_simp
  with_reducible rfl
 rotate_left
 ·simp only [Act.put, List.setIfInBounds_toArray, List.set_cons_zero, List.set_cons_succ, i64_w, i32_w]
  rfl
 refine pure_ (i := 2) (N := some 17) (v := ?_) (a' := ?_) #[false, true, true, false, false, false, false] rfl rfl (by kernel_rfl) (fun _ _ _ h => h) (Or.inl ⟨by rfl, ?_⟩) ?_ ?_
 rotate_left
 ·intro w'
  go_simp
  with_reducible rfl
 rotate_left
 ·simp only [Act.put, List.setIfInBounds_toArray, List.set_cons_zero, List.set_cons_succ, i64_w, i32_w]
  rfl
 refine take_ (i := 0) (N := some 15) (v := ?_) (a' := ?_) #[true, true, true, false, false, false, false] rfl rfl (by kernel_rfl) (fun _ _ _ h => h) (Or.inl ⟨by rfl, ?_⟩) hHeld ?_ ?_
 rotate_left
 ·rintro w' ⟨s0, s1⟩
  go_simp
  with_reducible rfl
 rotate_left
 ·simp only [Act.put, List.setIfInBounds_toArray, List.set_cons_zero, List.set_cons_succ, i64_w, i32_w]
  rfl
 refine one_ (i := 3) (N := some 18) #[true, true, true, true, false, false, false] rfl rfl (by kernel_rfl) (by decide) (fun K hK => ?_)
 refine goes_ Try.func40 (by kernel_rfl) rfl #[.pointer (some ⟨g467, 0, none⟩), .int .i64 2] (by rfl) rfl rfl gl_ ?_
 with_reducible refine (spec_l00Src_one.calls g467 t464 t465 t466 2 t468 t469 t470 w _ ?side1 ?side2 A4.out).mono ?_
 (case side1 => repeat (first | (with_reducible first | exact HI467.out | apply IsS68.alloc | apply IsS68.drewN | apply IsS68.drew | apply IsS68.set_1 | apply IsS68.set_2 | refine IsS68.far ?_ NB467_459.out _ | refine IsS68.far ?_ NB467_463.out _) | exact HI467.out))
 (case side2 => repeat (first | (with_reducible first | exact HB.out | apply below_alloc | apply pw_below_drewN | apply below_drew1 | refine below_set ?_ (IsS68.ge HI467.out) | refine below_set ?_ GE459.out | refine below_set ?_ GE463.out) | exact HB.out))
 rintro e w12 ⟨rfl, hi, hb, hk⟩
 refine ⟨_, rfl, ?_⟩
 have n0_ := Aside0.mk (KeepBut.blk hk (g' := gb459) (o := .cells #[.int .i64 0, .int .i64 0] 29 (0, 0)) (bk_ BK459.out) NB459_467.out (by simp))
 have n1_ := Aside0.mk (KeepBut.blk hk (g' := gb463) (o := .cells #[.int .i64 t460, .int .i64 t461] 29 (0, 0)) (bk_ BK463.out) NB463_467.out (by simp))
 have n2_ := Aside0.mk (hb)
 have n3_ := Aside0.mk (hi)
 clear BK459 BK463 HB HI467
 have BK459 := n0_; have BK463 := n1_; have HB := n2_; have HI467 := n3_
 clear n0_ n1_ n2_ n3_
 (try clear hb)
 (try clear hb2)
 (try clear hk)
 (try clear hi)
 refine hK.out _ _ ⟨(blk_cell BK463.out 0).trans rfl, (blk_cell BK463.out 1).trans rfl⟩ (fun hHeld => ?_)
 clear hK K
 refine norm_ (a' := ?_) ?_ ?_
 rotate_left
 ·show Act.put _ (some 18) _ = _
  simp only [Act.put, List.setIfInBounds_toArray, List.set_cons_zero, List.set_cons_succ, i64_w, i32_w]
  rfl
 refine one_ (i := 4) (N := none) #[true, true, true, true, true, false, false] rfl rfl (by kernel_rfl) (by decide) (fun K hK => ?_)
 have hs13 : w12.cell? ⟨gb459, 0, none⟩ = some (.int .i64 0) := (blk_cell BK459.out 0).trans rfl
 have hfs13 := blk_frozen BK459.out 0
 have hns13_1 := NB463_459.out
 have hms13_1 := NB459_463.out
 have hs14 : w12.cell? ⟨gb459, 1, none⟩ = some (.int .i64 0) := (blk_cell BK459.out 1).trans rfl
 have hfs14 := blk_frozen BK459.out 1
 have hns14_1 := NB463_459.out
 have hms14_1 := NB459_463.out
 refine skip_ (w1 := ?_) (by rfl) rfl ?_ ?_
 rotate_left
 ·go_simp
  rfl
 refine hK.out _ _ ⟨((cell_far (p := ⟨gb459, _, none⟩) NB463_459.out _).trans (((cell_far (p := ⟨gb459, _, none⟩) NB463_459.out _).trans (hHeld.1)))), ((cell_far (p := ⟨gb459, _, none⟩) NB463_459.out _).trans (((cell_far (p := ⟨gb459, _, none⟩) NB463_459.out _).trans (hHeld.2))))⟩ (fun hHeld => ?_)
 clear hK K
 refine pure_ (i := 5) (N := some 3) (v := ?_) (a' := ?_) #[true, true, true, true, true, true, false] rfl rfl (by kernel_rfl) (fun _ _ _ h => h) (Or.inl ⟨by rfl, ?_⟩) ?_ ?_
 rotate_left
 ·intro w'
  go_simp
  with_reducible rfl
 rotate_left
 ·simp only [Act.put, List.setIfInBounds_toArray, List.set_cons_zero, List.set_cons_succ, i64_w, i32_w]
  rfl
 refine pure_ (i := 6) (N := some 4) (v := ?_) (a' := ?_) #[true, true, true, true, true, true, true] rfl rfl (by kernel_rfl) (fun _ _ _ h => h) (Or.inl ⟨by rfl, ?_⟩) ?_ ?_
 rotate_left
 ·intro w'
  go_simp
  with_reducible rfl
 rotate_left
 ·simp only [Act.put, List.setIfInBounds_toArray, List.set_cons_zero, List.set_cons_succ, i64_w, i32_w]
  rfl
 refine done_ (by kernel_rfl) ?_
 try go_wp2
 refine bodyPost_ret (results_ctt rfl _ _ gb459 29 #[.int .i64 t460, .int .i64 t461] (0, 0) _ rfl (by (with_reducible repeat (first | refine blk_drewN ?_ _ | refine blk_drew ?_ | refine blk_alloc ?_ _)); refine blk_put (cs := #[.int .i64 t460, .int .i64 0]) ?_ 1 _ rfl; (with_reducible repeat (first | refine blk_drewN ?_ _ | refine blk_drew ?_ | refine blk_alloc ?_ _)); refine blk_put (cs := #[.int .i64 0, .int .i64 0]) ?_ 0 _ rfl; (with_reducible repeat (first | refine blk_drewN ?_ _ | refine blk_drew ?_ | refine blk_alloc ?_ _)); exact BK459.out) Try.underlying29 rfl (by kernel_rfl)) rfl ?_
 exact ⟨by first | rfl | (simp [errW_none, errW_some] <;> rfl) | (simp [*, errW_none, errW_some] <;> rfl), by repeat (first | (with_reducible first | exact HB.out | apply below_alloc | apply pw_below_drewN | apply below_drew1 | refine below_set ?_ (IsS68.ge HI467.out) | refine below_set ?_ GE459.out | refine below_set ?_ GE463.out) | exact HB.out)⟩

/-! ### impl_OnMap: function 19 -/
def impl_OnMap.f (k : Nat) (a0_0 : Int) (a0_1 : Int) (a1 : Int) (a2 : Bool) : Option (Bool × Int) := (impl_isScale.f a1).bind fun t472 => (if t472 = true then ((impl_isFlat.f a0_0 a0_1).bind fun t473 => (if t473 = true then ((impl_readFlat.f k a0_0 a0_1 a1 a2).bind fun bt474 => (some (bt474.2.2, 0))) else (some (false, 2)))) else (some (false, 2)))
theorem impl_OnMap.mono : ∀ a0 a1 a2 a3 k, LeO (impl_OnMap.f k a0 a1 a2 a3) (impl_OnMap.f (k + 1) a0 a1 a2 a3) := by
 intro a0 a1 a2 a3 k
 unfold impl_OnMap.f
 repeat' first
   | (with_reducible exact impl_readFlat.mono _ _ _ _ _)
   | (with_reducible exact LeO.refl _)
   | (with_reducible exact LeO.none _)
   | (with_reducible refine LeO.ite ?_ ?_)
   | (with_reducible refine LeO.bind ?_ (fun _ => ?_))
   | exact impl_readFlat.mono _ _ _ _ _
   | exact LeO.none _
   | refine LeO.ite ?_ ?_
   | refine LeO.bind ?_ (fun _ => ?_)
set_option maxHeartbeats 8000000 in
set_option maxRecDepth 100000 in
theorem impl_OnMap.calls (k : Nat) (a0_0 : Int) (a0_1 : Int) (a1 : Int) (a2 : Bool) (r1 : Bool) (r2 : Int) (w : World) (h : impl_OnMap.f k a0_0 a0_1 a1 a2 = some (r1, r2)) :
  Calls Try.prog 19 #[.agg #[.int .i64 a0_0, .int .i64 a0_1], .int .i64 a1, .bool a2] w fun e w' => e = .returned (.tuple #[.bool r1, .int .i64 r2]) ∧ Below w.heap.size w w' := by
 have hu29 := Try.underlying29
 have hu25 := Try.underlying25
 have HB := Aside0.mk (Below.refl w.heap.size w)
 have H : ((impl_isScale.f a1).bind fun t472 => (if t472 = true then ((impl_isFlat.f a0_0 a0_1).bind fun t473 => (if t473 = true then ((impl_readFlat.f k a0_0 a0_1 a1 a2).bind fun bt474 => (some (bt474.2.2, 0))) else (some (false, 2)))) else (some (false, 2)))) = some (r1, r2) := h
 clear h
 replace H := Option.bind_eq_some_iff.mp H
 obtain ⟨t472, A40, H⟩ := H
 replace H : (if t472 = true then ((impl_isFlat.f a0_0 a0_1).bind fun t473 => (if t473 = true then ((impl_readFlat.f k a0_0 a0_1 a1 a2).bind fun bt474 => (some (bt474.2.2, 0))) else (some (false, 2)))) else (some (false, 2))) = some (r1, r2) := H
 have A4 := Aside0.mk A40
 clear A40
 by_cases c5 : t472 = true
 ·subst c5
  have H1 : ((impl_isFlat.f a0_0 a0_1).bind fun t473 => (if t473 = true then ((impl_readFlat.f k a0_0 a0_1 a1 a2).bind fun bt474 => (some (bt474.2.2, 0))) else (some (false, 2)))) = some (r1, r2) := by rw [if_pos rfl] at H; exact H
  clear H
  have H := H1
  clear H1
  replace H := Option.bind_eq_some_iff.mp H
  obtain ⟨t473, A60, H⟩ := H
  replace H : (if t473 = true then ((impl_readFlat.f k a0_0 a0_1 a1 a2).bind fun bt474 => (some (bt474.2.2, 0))) else (some (false, 2))) = some (r1, r2) := H
  have A6 := Aside0.mk A60
  clear A60
  by_cases c7 : t473 = true
  ·subst c7
   have H1 : ((impl_readFlat.f k a0_0 a0_1 a1 a2).bind fun bt474 => (some (bt474.2.2, 0))) = some (r1, r2) := by rw [if_pos rfl] at H; exact H
   clear H
   have H := H1
   clear H1
   replace H := Option.bind_eq_some_iff.mp H
   obtain ⟨⟨t474, t475, t476⟩, A80, H⟩ := H
   replace H : (some (t476, 0)) = some (r1, r2) := H
   have A8 := Aside0.mk A80
   clear A80
   simp only [Option.some.injEq, Prod.mk.injEq] at H
   obtain ⟨rfl, rfl⟩ := H
   go_enter Try.func19, Try.ntmps19
   go_wp2_with (first | ((with_reducible refine gate_dst (N := 3) rfl ?_); refine box_event ?hg (N := 3) ?hd (cs := #[.int .i64 a0_0, .int .i64 a0_1]) (t := 29) ?hr ?_; (case hd => rfl); (case hg => rfl); (case hr => first | (go_simp; done) | (go_simp; rfl)); intro gb471 hg w9 hbox hb; have n0_ := Aside0.mk (below_step (bw_ HB.out) hb); have n1_ := Aside0.mk (hbox); have n2_ := Aside0.mk ((ge_ hg (bw_ HB.out))); have n3_ := Aside0.mk ((ge_ hg (bw_ HB.out))); clear HB; have HB := n0_; have BK471 := n1_; have GW471 := n2_; have GE471 := n3_; clear n0_ n1_ n2_ n3_; clear hb hbox hg) | ((with_reducible refine gate_callee (f := 25) rfl ?_); refine goesL_ (some 11) rfl rfl Try.func25 (by kernel_rfl) rfl #[.int .i64 a1] rfl gl_ ?_; (with_reducible refine (impl_isScale.calls a1 true _ A4.out).mono ?_); rintro e w' ⟨rfl, ⟨nd, rfl⟩⟩; refine ⟨_, rfl, ?_⟩; (try (rw [drewN_self w9]; generalize hq_ : World.drewN w9 _ = w9; have n0_ : Aside0 (w9.heap[gb471]? = some (.cells #[.int .i64 a0_0, .int .i64 a0_1] 29 (0, 0))) := ⟨by rw [← hq_]; exact (bk_ BK471.out)⟩; have n1_ : Aside0 (Below w.heap.size w w9) := ⟨by rw [← hq_]; exact (bwg_ GE471.out HB.out)⟩; clear BK471 HB hq_; have BK471 := n0_; have HB := n1_; clear n0_ n1_)); have hcz10_0 : w9.cell? ⟨gb471, 0, none⟩ = some (.int .i64 a0_0) := (blk_cell BK471.out 0).trans rfl; have hcz10_1 : w9.cell? ⟨gb471, 1, none⟩ = some (.int .i64 a0_1) := (blk_cell BK471.out 1).trans rfl; have hfz10_0 := blk_frozen BK471.out 0; have hfz10_1 := blk_frozen BK471.out 1) | (go_at_call 47; (with_reducible refine (impl_isFlat.calls a0_0 a0_1 true _ A6.out).mono ?_); rintro e w11 ⟨rfl, hb⟩; have n0_ := Aside0.mk (blk_below (bk_ BK471.out) hb); have n1_ := Aside0.mk (below_step (bwg_ GE471.out HB.out) hb); clear BK471; clear HB; have BK471 := n0_; have HB := n1_; clear n0_ n1_; (try clear hb); (try clear hb2); (try clear hk); (try clear hi); have hcz12_0 : w11.cell? ⟨gb471, 0, none⟩ = some (.int .i64 a0_0) := (blk_cell BK471.out 0).trans rfl; have hcz12_1 : w11.cell? ⟨gb471, 1, none⟩ = some (.int .i64 a0_1) := (blk_cell BK471.out 1).trans rfl; have hfz12_0 := blk_frozen BK471.out 0; have hfz12_1 := blk_frozen BK471.out 1) | ((with_reducible refine gate_callee (f := 48) rfl ?_); refine goesL_ (some 22) rfl rfl Try.func48 (by kernel_rfl) rfl #[.agg #[.int .i64 a0_0, .int .i64 a0_1], .int .i64 a1, .bool a2] rfl gl_ ?_; (with_reducible refine (impl_readFlat.calls k a0_0 a0_1 a1 a2 t474 t475 t476 _ A8.out).mono ?_); rintro e w13 ⟨rfl, hb⟩; refine ⟨_, rfl, ?_⟩; have n0_ := Aside0.mk (blk_below (bk_ BK471.out) hb); have n1_ := Aside0.mk (below_step (bwg_ GE471.out HB.out) hb); clear BK471; clear HB; have BK471 := n0_; have HB := n1_; clear n0_ n1_; (try clear hb); (try clear hb2); (try clear hk); (try clear hi)) | ((with_reducible refine gate_dst (N := 8) rfl ?_); refine box_event ?hg (N := 8) ?hd (cs := #[.int .i64 0, .int .i64 0]) (t := 25) ?hr ?_; (case hd => rfl); (case hg => rfl); (case hr => first | (go_simp; done) | (go_simp; rfl)); intro gb477 hg w14 hbox hb; have n0_ := Aside0.mk (blk_below (bk_ BK471.out) hb); have n1_ := Aside0.mk (below_step (bwg_ GE471.out HB.out) hb); have n2_ := Aside0.mk (hbox); have n3_ := Aside0.mk ((by rw [hg]; exact (below_size (bwg_ GE471.out HB.out)) : w.heap.size ≤ gb477)); have n4_ := Aside0.mk ((by rw [hg]; exact (below_size (bwg_ GE471.out HB.out)) : w.heap.size ≤ gb477)); have n5_ := Aside0.mk ((ne1_ hg (bk_ BK471.out))); have n6_ := Aside0.mk ((ne2_ hg (bk_ BK471.out))); clear BK471; clear HB; have BK471 := n0_; have HB := n1_; have BK477 := n2_; have GW477 := n3_; have GE477 := n4_; have NB471_477 := n5_; have NB477_471 := n6_; clear n0_ n1_ n2_ n3_ n4_ n5_ n6_; clear hb hbox hg; have hnb15 := NB477_471.out; have hnc15 := NB471_477.out; have hcz16_0 : w14.cell? ⟨gb477, 0, none⟩ = some (.int .i64 0) := (blk_cell BK477.out 0).trans rfl; have hcz16_1 : w14.cell? ⟨gb477, 1, none⟩ = some (.int .i64 0) := (blk_cell BK477.out 1).trans rfl; have hfz16_0 := blk_frozen BK477.out 0; have hfz16_1 := blk_frozen BK477.out 1))
   go_ret2
   exact ⟨by first | rfl | (simp [errW_none, errW_some] <;> rfl) | (simp [*, errW_none, errW_some] <;> rfl), by repeat (first | (with_reducible first | exact HB.out | apply below_alloc | apply pw_below_drewN | apply below_drew1 | refine below_set ?_ GE471.out | refine below_set ?_ GE477.out) | exact HB.out)⟩
  ·replace c7 := Bool.eq_false_iff.mpr c7
   subst c7
   have H1 : (some (false, 2)) = some (r1, r2) := by rw [if_neg (show ¬ (false = true) by decide)] at H; exact H
   clear H
   have H := H1
   clear H1
   simp only [Option.some.injEq, Prod.mk.injEq] at H
   obtain ⟨rfl, rfl⟩ := H
   go_enter Try.func19, Try.ntmps19
   go_wp2_with (first | ((with_reducible refine gate_dst (N := 3) rfl ?_); refine box_event ?hg (N := 3) ?hd (cs := #[.int .i64 a0_0, .int .i64 a0_1]) (t := 29) ?hr ?_; (case hd => rfl); (case hg => rfl); (case hr => first | (go_simp; done) | (go_simp; rfl)); intro gb471 hg w17 hbox hb; have n0_ := Aside0.mk (below_step (bw_ HB.out) hb); have n1_ := Aside0.mk (hbox); have n2_ := Aside0.mk ((ge_ hg (bw_ HB.out))); have n3_ := Aside0.mk ((ge_ hg (bw_ HB.out))); clear HB; have HB := n0_; have BK471 := n1_; have GW471 := n2_; have GE471 := n3_; clear n0_ n1_ n2_ n3_; clear hb hbox hg) | ((with_reducible refine gate_callee (f := 25) rfl ?_); refine goesL_ (some 11) rfl rfl Try.func25 (by kernel_rfl) rfl #[.int .i64 a1] rfl gl_ ?_; (with_reducible refine (impl_isScale.calls a1 true _ A4.out).mono ?_); rintro e w' ⟨rfl, ⟨nd, rfl⟩⟩; refine ⟨_, rfl, ?_⟩; have hcz18_0 : w17.cell? ⟨gb471, 0, none⟩ = some (.int .i64 a0_0) := (blk_cell BK471.out 0).trans rfl; have hcz18_1 : w17.cell? ⟨gb471, 1, none⟩ = some (.int .i64 a0_1) := (blk_cell BK471.out 1).trans rfl; have hfz18_0 := blk_frozen BK471.out 0; have hfz18_1 := blk_frozen BK471.out 1) | (go_at_call 47; (with_reducible refine (impl_isFlat.calls a0_0 a0_1 false _ A6.out).mono ?_); rintro e w19 ⟨rfl, hb⟩; have n0_ := Aside0.mk (blk_below (bk_ BK471.out) hb); have n1_ := Aside0.mk (below_step (bwg_ GE471.out HB.out) hb); clear BK471; clear HB; have BK471 := n0_; have HB := n1_; clear n0_ n1_; (try clear hb); (try clear hb2); (try clear hk); (try clear hi)))
   go_ret2
   exact ⟨by first | rfl | (simp [errW_none, errW_some] <;> rfl) | (simp [*, errW_none, errW_some] <;> rfl), by repeat (first | (with_reducible first | exact HB.out | apply below_alloc | apply pw_below_drewN | apply below_drew1 | refine below_set ?_ GE471.out) | exact HB.out)⟩
 ·replace c5 := Bool.eq_false_iff.mpr c5
  subst c5
  have H1 : (some (false, 2)) = some (r1, r2) := by rw [if_neg (show ¬ (false = true) by decide)] at H; exact H
  clear H
  have H := H1
  clear H1
  simp only [Option.some.injEq, Prod.mk.injEq] at H
  obtain ⟨rfl, rfl⟩ := H
  go_enter Try.func19, Try.ntmps19
  go_wp2_with (first | ((with_reducible refine gate_dst (N := 3) rfl ?_); refine box_event ?hg (N := 3) ?hd (cs := #[.int .i64 a0_0, .int .i64 a0_1]) (t := 29) ?hr ?_; (case hd => rfl); (case hg => rfl); (case hr => first | (go_simp; done) | (go_simp; rfl)); intro gb471 hg w20 hbox hb; have n0_ := Aside0.mk (below_step (bw_ HB.out) hb); have n1_ := Aside0.mk (hbox); have n2_ := Aside0.mk ((ge_ hg (bw_ HB.out))); have n3_ := Aside0.mk ((ge_ hg (bw_ HB.out))); clear HB; have HB := n0_; have BK471 := n1_; have GW471 := n2_; have GE471 := n3_; clear n0_ n1_ n2_ n3_; clear hb hbox hg) | ((with_reducible refine gate_callee (f := 25) rfl ?_); refine goesL_ (some 11) rfl rfl Try.func25 (by kernel_rfl) rfl #[.int .i64 a1] rfl gl_ ?_; (with_reducible refine (impl_isScale.calls a1 false _ A4.out).mono ?_); rintro e w' ⟨rfl, ⟨nd, rfl⟩⟩; refine ⟨_, rfl, ?_⟩))
  go_ret2
  exact ⟨by first | rfl | (simp [errW_none, errW_some] <;> rfl) | (simp [*, errW_none, errW_some] <;> rfl), by repeat (first | (with_reducible first | exact HB.out | apply below_alloc | apply pw_below_drewN | apply below_drew1 | refine below_set ?_ GE471.out) | exact HB.out)⟩

end Go.Proofs.Ytfaciogcddpgdaa.Print
