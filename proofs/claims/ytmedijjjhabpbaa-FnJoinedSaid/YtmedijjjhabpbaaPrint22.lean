-- Printed by a program of this session out of the translation; not trusted: Lean checks it.
-- SQUEEZED
-- SHRUNK
import Derived.Test.YtmedijjjhabpbaaPrint0
import Derived.Test.YtmedijjjhabpbaaPrint8
import Derived.Test.YtmedijjjhabpbaaPrint21
namespace Go.Proofs.Ytmedijjjhabpbaa.Print
open Go.RowKit Go.Proofs.YtmedijjjhabpbaaW.PrintWords Go.Proofs.YtmedijjjhabpbaaW.PrintLast Go.Proofs.YtmedijjjhabpbaaW.PrintMore
attribute [local go_sem] max2_int min2_int max_two min_two max_three min_three max_four min_four   -- for this text's walks alone
set_option linter.unusedVariables false
set_option linter.unusedSimpArgs false

/-! ### impl_LooseEnds: function 17 -/
mutual
def impl_LooseEnds.l0 : Nat → List (S49) → List (S49) → List (List (S49)) → Int → Int → Option ((List (S49)) × Int)
 | 0, _, _, _, _, _ => none
 | k + 1, x5, x6, x18, x19, x20 => if x20 < x19 then (if 0 ≤ x20 then (if x20 < (x18.length : Int) then ((impl_isClosed.f (rd_L2 x18 x20)).bind fun t504 => (if t504 = true then (impl_LooseEnds.l0 k x5 x6 x18 x19 (wrap64 (x20 + 1))) else (if 0 < ((rd_L2 x18 x20).length : Int) then (if 0 ≤ (wrap64 (((rd_L2 x18 x20).length : Int) - 1)) then (if (wrap64 (((rd_L2 x18 x20).length : Int) - 1)) < ((rd_L2 x18 x20).length : Int) then ((some (([(⟨(rd_T49 (rd_L2 x18 x20) 0).f0, (rd_T49 (rd_L2 x18 x20) 0).f1⟩ : S49), (⟨(rd_T49 (rd_L2 x18 x20) (wrap64 (((rd_L2 x18 x20).length : Int) - 1))).f0, (rd_T49 (rd_L2 x18 x20) (wrap64 (((rd_L2 x18 x20).length : Int) - 1))).f1⟩ : S49)] : List (S49)) : List (S49))).bind fun y507 => (if x5.length + y507.length < 8796093022208 then (impl_LooseEnds.l0 k (x5 ++ y507) x6 x18 x19 (wrap64 (x20 + 1))) else (none))) else (none)) else (none)) else (none)))) else (none)) else (none)) else (impl_LooseEnds.l1 k x5 x6 x5 (x5.length : Int) 0)
def impl_LooseEnds.l1 : Nat → List (S49) → List (S49) → List (S49) → Int → Int → Option ((List (S49)) × Int)
 | 0, _, _, _, _, _ => none
 | k + 1, x5, x6, x40, x41, x42 => if x42 < x41 then (if 0 ≤ x42 then (if x42 < (x40.length : Int) then (if x42 ≤ (x5.length : Int) then ((impl_Place_40.f k (x5.take (x42 : Int).toNat) ((rd_T49 x40 x42).f0) ((rd_T49 x40 x42).f1)).bind fun t519 => (if t519 = true then (impl_LooseEnds.l1 k x5 x6 x40 x41 (wrap64 (x42 + 1))) else (if 0 ≤ (wrap64 (x42 + 1)) then (if (wrap64 (x42 + 1)) ≤ (x5.length : Int) then ((impl_Place_40.f k (x5.drop ((wrap64 (x42 + 1)) : Int).toNat) ((rd_T49 x40 x42).f0) ((rd_T49 x40 x42).f1)).bind fun t524 => (if t524 = true then (impl_LooseEnds.l1 k x5 x6 x40 x41 (wrap64 (x42 + 1))) else (if x6.length < 8796093022208 then (impl_LooseEnds.l1 k x5 (x6 ++ [(⟨(rd_T49 x40 x42).f0, (rd_T49 x40 x42).f1⟩ : S49)]) x40 x41 (wrap64 (x42 + 1))) else (none)))) else (none)) else (none)))) else (none)) else (none)) else (none)) else (some (x6, 0))
end
def impl_LooseEnds.f (k : Nat) (l0 : List (List (S49))) : Option ((List (S49)) × Int) := (impl_chainsCode.f k l0).bind fun t496 => (if t496 = 0 then (impl_LooseEnds.l0 k (([] : List (S49))) (([] : List (S49))) l0 (l0.length : Int) 0) else (some (([] : List (S49)), t496)))
theorem impl_LooseEnds.mono_l : ∀ k, (∀ y0 y1 y2 y3 y4, LeO (impl_LooseEnds.l0 k y0 y1 y2 y3 y4) (impl_LooseEnds.l0 (k + 1) y0 y1 y2 y3 y4)) ∧ (∀ y0 y1 y2 y3 y4, LeO (impl_LooseEnds.l1 k y0 y1 y2 y3 y4) (impl_LooseEnds.l1 (k + 1) y0 y1 y2 y3 y4))
 | 0 => ⟨fun _ _ _ _ _ r h => by simp [impl_LooseEnds.l0] at h, fun _ _ _ _ _ r h => by simp [impl_LooseEnds.l1] at h⟩
 | k + 1 => by
  obtain ⟨ih0, ih1⟩ := impl_LooseEnds.mono_l k
  refine ⟨?_, ?_⟩
  ·intro y0 y1 y2 y3 y4
   unfold impl_LooseEnds.l0
   repeat' first
   | (with_reducible exact ih0 _ _ _ _ _)
   | (with_reducible exact ih1 _ _ _ _ _)
   | (with_reducible exact impl_Place_40.mono _ _ _ _)
   | (with_reducible exact impl_chainsCode.mono _ _)
   | (with_reducible exact LeO.refl _)
   | (with_reducible exact LeO.none _)
   | (with_reducible refine LeO.ite ?_ ?_)
   | (with_reducible refine LeO.bind ?_ (fun _ => ?_))
   | exact ih0 _ _ _ _ _
   | exact ih1 _ _ _ _ _
   | exact impl_Place_40.mono _ _ _ _
   | exact impl_chainsCode.mono _ _
   | exact LeO.none _
   | refine LeO.ite ?_ ?_
   | refine LeO.bind ?_ (fun _ => ?_)
  ·intro y0 y1 y2 y3 y4
   unfold impl_LooseEnds.l1
   repeat' first
   | (with_reducible exact ih0 _ _ _ _ _)
   | (with_reducible exact ih1 _ _ _ _ _)
   | (with_reducible exact impl_Place_40.mono _ _ _ _)
   | (with_reducible exact impl_chainsCode.mono _ _)
   | (with_reducible exact LeO.refl _)
   | (with_reducible exact LeO.none _)
   | (with_reducible refine LeO.ite ?_ ?_)
   | (with_reducible refine LeO.bind ?_ (fun _ => ?_))
   | exact ih0 _ _ _ _ _
   | exact ih1 _ _ _ _ _
   | exact impl_Place_40.mono _ _ _ _
   | exact impl_chainsCode.mono _ _
   | exact LeO.none _
   | refine LeO.ite ?_ ?_
   | refine LeO.bind ?_ (fun _ => ?_)
theorem impl_LooseEnds.mono : ∀ a0 k, LeO (impl_LooseEnds.f k a0) (impl_LooseEnds.f (k + 1) a0) := by
 intro a0 k
 obtain ⟨ih0, ih1⟩ := impl_LooseEnds.mono_l k
 unfold impl_LooseEnds.f
 repeat' first
   | (with_reducible exact ih0 _ _ _ _ _)
   | (with_reducible exact ih1 _ _ _ _ _)
   | (with_reducible exact impl_Place_40.mono _ _ _ _)
   | (with_reducible exact impl_chainsCode.mono _ _)
   | (with_reducible exact LeO.refl _)
   | (with_reducible exact LeO.none _)
   | (with_reducible refine LeO.ite ?_ ?_)
   | (with_reducible refine LeO.bind ?_ (fun _ => ?_))
   | exact ih0 _ _ _ _ _
   | exact ih1 _ _ _ _ _
   | exact impl_Place_40.mono _ _ _ _
   | exact impl_chainsCode.mono _ _
   | exact LeO.none _
   | refine LeO.ite ?_ ?_
   | refine LeO.bind ?_ (fun _ => ?_)
def impl_LooseEnds.T9 : Bool × List (List Nat × List Nat) := (true, [([], []), ([], []), ([1], [1]), ([2], [2]), ([], []), ([], []), ([5], [5]), ([6], [6]), ([4, 7], [4, 7]), ([8], [8]), ([3, 9], [3, 9]), ([0, 10], [0, 10]), ([11, 11, 0, 1, 2, 3, 4, 5, 6, 7, 8, 9, 10, 11], [0, 11])])
def impl_LooseEnds.B9 : List Nat := [0, 0, 2, 6, 0, 0, 32, 96, 240, 496, 1022, 2047, 4095]
theorem impl_LooseEnds.tab9 : rtab .any (opsOf Try.f17 9) = impl_LooseEnds.T9 := by kernel_rfl
theorem impl_LooseEnds.bits9 : waitsOk impl_LooseEnds.T9.2 impl_LooseEnds.B9 = true := by kernel_rfl
def impl_LooseEnds.T14 : Bool × List (List Nat × List Nat) := (true, [([], []), ([], []), ([0, 1], [0, 1]), ([], []), ([2, 3], [2, 3]), ([4], [4]), ([5, 4], [5]), ([6], [6]), ([6], [6]), ([8, 6], [6, 8]), ([7, 9, 6], [6, 7, 9]), ([6], [6]), ([10, 11, 6, 6], [6, 10, 11]), ([12, 6], [6, 12]), ([6, 13], [6, 13])])
def impl_LooseEnds.B14 : List Nat := [0, 0, 3, 0, 15, 31, 63, 127, 127, 383, 1023, 127, 4095, 8191, 16383]
theorem impl_LooseEnds.tab14 : rtab .any (opsOf Try.f17 14) = impl_LooseEnds.T14 := by kernel_rfl
theorem impl_LooseEnds.bits14 : waitsOk impl_LooseEnds.T14.2 impl_LooseEnds.B14 = true := by kernel_rfl
set_option maxHeartbeats 8000000 in
set_option maxRecDepth 100000 in
theorem impl_LooseEnds.calls (k : Nat) (A0 : Option Addr) (c0 : Nat) (l0 : List (List (S49))) (r1 : List (S49)) (r2 : Int) (w : World) (hr0 : Kd.C (Kd.slice 49 k49) w A0 l0.length l0) (hc0 : l0.length ≤ c0) (h : impl_LooseEnds.f k l0 = some (r1, r2)) :
  Calls Try.prog 17 #[.slice A0 l0.length c0] w fun e w' => ∃ v0_ : Value, e = .returned (.tuple #[v0_, .int .i64 r2]) ∧ Kd.R k49 49 w' w.heap.size (fun _ => True) v0_ r1 ∧ Below w.heap.size w w' := by
 have hu49 := Try.underlying49
 have HR0 := Aside0.mk hr0
 have HC0 := Aside0.mk hc0
 clear hr0 hc0
 have HB := Aside0.mk (Below.refl w.heap.size w)
 have H : ((impl_chainsCode.f k l0).bind fun t496 => (if t496 = 0 then (impl_LooseEnds.l0 k (([] : List (S49))) (([] : List (S49))) l0 (l0.length : Int) 0) else (some (([] : List (S49)), t496)))) = some (r1, r2) := h
 clear h
 replace H := Option.bind_eq_some_iff.mp H
 obtain ⟨t496, A20, H⟩ := H
 replace H : (if t496 = 0 then (impl_LooseEnds.l0 k (([] : List (S49))) (([] : List (S49))) l0 (l0.length : Int) 0) else (some (([] : List (S49)), t496))) = some (r1, r2) := H
 have A2 := Aside0.mk A20
 clear A20
 by_cases c3 : t496 = 0
 ·rw [if_pos c3] at H
  have c3b0 : (t496 == 0) = true := beq_iff_eq.mpr c3
  have c3b1 : (t496 != 0) = false := bne_eq_false_iff_eq.mpr c3
  clear c3
  obtain ⟨y497, hy497⟩ : ∃ y_ : List (S49), y_ = (([] : List (S49))) := ⟨_, rfl⟩
  replace H : (impl_LooseEnds.l0 k y497 (([] : List (S49))) l0 (l0.length : Int) 0) = some (r1, r2) := by first | (rw [hy497]; with_reducible exact H) | (have H2_ := (Option.bind_some _ _).symm.trans H; rw [hy497]; with_reducible exact H2_) | (have H2_ := (Option.bind_some _ _).symm.trans H; with_reducible exact H2_) | with_reducible exact H | (rw [hy497]; exact H) | exact H
  have Ny497 := Aside0.mk hy497
  clear hy497
  obtain ⟨y500, hy500⟩ : ∃ y_ : List (S49), y_ = (([] : List (S49))) := ⟨_, rfl⟩
  replace H : (impl_LooseEnds.l0 k y497 y500 l0 (l0.length : Int) 0) = some (r1, r2) := by first | (rw [hy500]; with_reducible exact H) | (have H2_ := (Option.bind_some _ _).symm.trans H; rw [hy500]; with_reducible exact H2_) | (have H2_ := (Option.bind_some _ _).symm.trans H; with_reducible exact H2_) | with_reducible exact H | (rw [hy500]; exact H) | exact H
  have Ny500 := Aside0.mk hy500
  clear hy500
  have H' := Aside0.mk H
  clear H
  go_enter Try.func17, Try.ntmps17
  go_wp2_with (first | ((with_reducible refine gate_callee (f := 24) rfl ?_); refine goesL_ (some 12) rfl rfl Try.func24 (by kernel_rfl) rfl #[.slice A0 l0.length c0] rfl gl_ ?_; (with_reducible refine (impl_chainsCode.calls k _ _ l0 t496 _ ?side1 ?side2 A2.out).mono ?_); (case side1 => repeat (first | exact HR0.out | (with_reducible refine Kd.C_alloc ?_ _) | (with_reducible refine Kd.C_drewN ?_ _) | (with_reducible refine Kd.C_drew ?_))); (case side2 => exact HC0.out); rintro e w4 ⟨rfl, hb⟩; refine ⟨_, rfl, ?_⟩; have n0_ := Aside0.mk (below_step (bw_ HB.out) hb); clear HB; have HB := n0_; clear n0_; (try clear hb); (try clear hb2); (try clear hk); (try clear hi)) | ((with_reducible refine gate_dst (N := 16) rfl ?_); refine Kd.R_lit k49 _ 49 ?hg (N := 16) ?hd (xs := ([] : List (S49))) (inner := []) (ok := fun _ => True) (okp := fun _ => True) ?hr ?hp (fun _ hk => hk) trivial (Below.refl _ _) (Nat.le_refl _) (by simp) ?_; (case hd => rfl); (case hg => rfl); (case hr => first | (go_simp; done) | (go_simp; rfl)); (case hp => exact (Reps.none _ _)); intro v498 w5 ho6 hb hg_ hnew_; clear hg_ hnew_; (first | rw [← Ny497.out] at ho6 | (simp only [Int.reduceToNat] at ho6; rw [← Ny497.out] at ho6)); have n0_ := Aside0.mk (Kd.R_lower ho6 (below_size (bw_ HB.out))); have n1_ := Aside0.mk (below_step (bw_ HB.out) hb); clear HB; have HO499 := n0_; have HB := n1_; clear n0_ n1_; clear hb ho6) | ((with_reducible refine gate_dst (N := 17) rfl ?_); refine Kd.R_lit k49 _ 49 ?hg (N := 17) ?hd (xs := ([] : List (S49))) (inner := []) (ok := fun _ => True) (okp := fun _ => True) ?hr ?hp (fun _ hk => hk) trivial (Below.refl _ _) (Nat.le_refl _) (by simp) ?_; (case hd => rfl); (case hg => rfl); (case hr => first | (go_simp; done) | (go_simp; rfl)); (case hp => exact (Reps.none _ _)); intro v501 w7 ho8 hb hg_ hnew_; clear hg_ hnew_; (first | rw [← Ny500.out] at ho8 | (simp only [Int.reduceToNat] at ho8; rw [← Ny500.out] at ho8)); have n0_ := Aside0.mk (Kd.R_elder' (by (with_reducible repeat (first | apply Kd.R_alloc | apply Kd.R_drewN | apply Kd.R_drew)); exact HO499.out) (Kd.R_base ho8) hb); have n1_ := Aside0.mk (Kd.R_lower (Kd.R_new' ho8 (Kd.R_lt (by (with_reducible repeat (first | apply Kd.R_alloc | apply Kd.R_drewN | apply Kd.R_drew)); exact HO499.out))) (below_size (bw_ HB.out))); have n2_ := Aside0.mk (below_step (bw_ HB.out) hb); clear HO499; clear HB; have HO499 := n0_; have HO502 := n1_; have HB := n2_; clear n0_ n1_ n2_; clear hb ho8))
  go_loopg [5, 20] k (fun kq v5 v20 w' => ∃ (x5_1 : List (S49)) (x20_1 : Int), v20 = .int .i64 x20_1 ∧ Aside0 (impl_LooseEnds.l0 kq x5_1 y500 l0 (l0.length : Int) x20_1 = some (r1, r2)) ∧ Aside0 (kq ≤ k) ∧ Aside0 (Kd.R k49 49 w' w.heap.size (fun k_ => some k_ ≠ (v501 : Value).ownBlock) v5 x5_1) ∧ Aside0 (Kd.R k49 49 w' w.heap.size (fun k_ => some k_ ≠ (v5 : Value).ownBlock) v501 y500) ∧ Aside0 (Below w.heap.size w w'))
  case atStart => exact ⟨(y497), (0), (by first | rfl | (simp; done) | (simp [*]; done)), H', ⟨Nat.le_refl _⟩, ⟨by (with_reducible repeat (first | apply Kd.R_alloc | apply Kd.R_drewN | apply Kd.R_drew)); exact Kd.R_mono HO499.out (fun _ hk => hk.2)⟩, ⟨by (with_reducible repeat (first | apply Kd.R_alloc | apply Kd.R_drewN | apply Kd.R_drew)); exact Kd.R_mono HO502.out (fun _ hk => hk.2)⟩, ⟨bw_ HB.out⟩⟩
  case round =>
   clear H'
   try clear c1
   try clear c2
   try clear p2
   try clear c3
   try clear c3b0
   try clear c3b1
   obtain ⟨x5_1, x20_1, rfl, HA, HK1, HO_5, HO_6, HB⟩ := hrel
   cases gk with
   | zero => exact absurd HA.out (by simp [impl_LooseEnds.l0])
   | succ k1 =>
    have H := HA.out
    clear HA
    simp only [impl_LooseEnds.l0] at H
    by_cases c9 : x20_1 < (l0.length : Int)
    ·rw [if_pos c9] at H
     have c9b0 : decide (x20_1 < (l0.length : Int)) = true := decide_eq_true c9
     clear c9
     by_cases c10 : 0 ≤ x20_1
     ·rw [if_pos c10] at H
      have c10b0 : decide (0 ≤ x20_1) = true := decide_eq_true c10
      clear c10
      by_cases c11 : x20_1 < (l0.length : Int)
      ·rw [if_pos c11] at H
       have c11b0 : decide (x20_1 < (l0.length : Int)) = true := decide_eq_true c11
       clear c11
       replace H := Option.bind_eq_some_iff.mp H
       obtain ⟨t504, A120, H⟩ := H
       replace H : (if t504 = true then (impl_LooseEnds.l0 k1 x5_1 y500 l0 (l0.length : Int) (wrap64 (x20_1 + 1))) else (if 0 < ((rd_L2 l0 x20_1).length : Int) then (if 0 ≤ (wrap64 (((rd_L2 l0 x20_1).length : Int) - 1)) then (if (wrap64 (((rd_L2 l0 x20_1).length : Int) - 1)) < ((rd_L2 l0 x20_1).length : Int) then ((some (([(⟨(rd_T49 (rd_L2 l0 x20_1) 0).f0, (rd_T49 (rd_L2 l0 x20_1) 0).f1⟩ : S49), (⟨(rd_T49 (rd_L2 l0 x20_1) (wrap64 (((rd_L2 l0 x20_1).length : Int) - 1))).f0, (rd_T49 (rd_L2 l0 x20_1) (wrap64 (((rd_L2 l0 x20_1).length : Int) - 1))).f1⟩ : S49)] : List (S49)) : List (S49))).bind fun y507 => (if x5_1.length + y507.length < 8796093022208 then (impl_LooseEnds.l0 k1 (x5_1 ++ y507) y500 l0 (l0.length : Int) (wrap64 (x20_1 + 1))) else (none))) else (none)) else (none)) else (none))) = some (r1, r2) := H
       have A12 := Aside0.mk A120
       clear A120
       by_cases c13 : t504 = true
       ·subst c13
        have H1 : (impl_LooseEnds.l0 k1 x5_1 y500 l0 (l0.length : Int) (wrap64 (x20_1 + 1))) = some (r1, r2) := by rw [if_pos rfl] at H; exact H
        clear H
        have H := H1
        clear H1
        have H' := Aside0.mk H
        clear H
        have p503 : 0 ≤ (x20_1 : Int) := od_
        have q503 : x20_1 < (l0.length : Int) := od_
        obtain ⟨ad503, A503_0, c503_0, e503, hx503_0, hl503_0, hi503_0⟩ := at_L2 HR0.out x20_1 p503 q503
        cases e503
        replace hx503_0 := (HB.out.cell (World.block_lt_of_cell? w _ hx503_0)).trans hx503_0
        have HR503_0 := Aside0.mk hi503_0
        have HC503_0 := Aside0.mk hl503_0
        clear hi503_0 hl503_0
        replace p503 := eq_true p503
        replace q503 := eq_true q503
        go_wp2_with (first | ((with_reducible refine gate_callee (f := 35) rfl ?_); refine goesL_ (some 25) rfl rfl Try.func35 (by kernel_rfl) rfl #[.slice A503_0 (rd_L2 l0 x20_1).length c503_0] rfl gl_ ?_; (with_reducible refine (impl_isClosed.calls _ _ (rd_L2 l0 x20_1) true _ ?side1 ?side2 A12.out).mono ?_); (case side1 => repeat (first | exact (Kd.C_below HR503_0.out HB.out) | (with_reducible refine Kd.C_alloc ?_ _) | (with_reducible refine Kd.C_drewN ?_ _) | (with_reducible refine Kd.C_drew ?_))); (case side2 => exact HC503_0.out); rintro e w' ⟨rfl, ⟨nd, rfl⟩⟩; refine ⟨_, rfl, ?_⟩))
        go_roundg k1
        case measure => have := HK1.out; omega
        case rel => exact ⟨(x5_1), (wrap64 (x20_1 + 1)), (by first | rfl | (simp; done) | (simp [*]; done)), H', ⟨by have := HK1.out; omega⟩, ⟨by (with_reducible repeat (first | apply Kd.R_alloc | apply Kd.R_drewN | apply Kd.R_drew)); exact HO_5.out⟩, ⟨by (with_reducible repeat (first | apply Kd.R_alloc | apply Kd.R_drewN | apply Kd.R_drew)); exact HO_6.out⟩, ⟨bw_ HB.out⟩⟩
       ·replace c13 := Bool.eq_false_iff.mpr c13
        subst c13
        have H1 : (if 0 < ((rd_L2 l0 x20_1).length : Int) then (if 0 ≤ (wrap64 (((rd_L2 l0 x20_1).length : Int) - 1)) then (if (wrap64 (((rd_L2 l0 x20_1).length : Int) - 1)) < ((rd_L2 l0 x20_1).length : Int) then ((some (([(⟨(rd_T49 (rd_L2 l0 x20_1) 0).f0, (rd_T49 (rd_L2 l0 x20_1) 0).f1⟩ : S49), (⟨(rd_T49 (rd_L2 l0 x20_1) (wrap64 (((rd_L2 l0 x20_1).length : Int) - 1))).f0, (rd_T49 (rd_L2 l0 x20_1) (wrap64 (((rd_L2 l0 x20_1).length : Int) - 1))).f1⟩ : S49)] : List (S49)) : List (S49))).bind fun y507 => (if x5_1.length + y507.length < 8796093022208 then (impl_LooseEnds.l0 k1 (x5_1 ++ y507) y500 l0 (l0.length : Int) (wrap64 (x20_1 + 1))) else (none))) else (none)) else (none)) else (none)) = some (r1, r2) := by rw [if_neg (show ¬ (false = true) by decide)] at H; exact H
        clear H
        have H := H1
        clear H1
        by_cases c14 : 0 < ((rd_L2 l0 x20_1).length : Int)
        ·rw [if_pos c14] at H
         have c14b0 : decide (0 < ((rd_L2 l0 x20_1).length : Int)) = true := decide_eq_true c14
         have c14b1 : decide (0 < (rd_L2 l0 x20_1).length) = true := decide_eq_true (by omega)
         clear c14
         obtain ⟨ji15, hji15⟩ : ∃ j_ : Int, (wrap64 (((rd_L2 l0 x20_1).length : Int) - 1)) = j_ := ⟨_, rfl⟩
         replace H : (if 0 ≤ (ji15) then (if (ji15) < ((rd_L2 l0 x20_1).length : Int) then ((some (([(⟨(rd_T49 (rd_L2 l0 x20_1) 0).f0, (rd_T49 (rd_L2 l0 x20_1) 0).f1⟩ : S49), (⟨(rd_T49 (rd_L2 l0 x20_1) (ji15)).f0, (rd_T49 (rd_L2 l0 x20_1) (ji15)).f1⟩ : S49)] : List (S49)) : List (S49))).bind fun y507 => (if x5_1.length + y507.length < 8796093022208 then (impl_LooseEnds.l0 k1 (x5_1 ++ y507) y500 l0 (l0.length : Int) (wrap64 (x20_1 + 1))) else (none))) else (none)) else (none)) = some (r1, r2) := by first | (rw [hji15] at H; exact H) | (simp only [hji15] at H ⊢; exact H)
         (try rw [hji15] at A12)
         have hji15w : (IntKind.i64.wrap (((rd_L2 l0 x20_1).length : Int) - 1)) = ji15 := (i64_w _).trans hji15
         by_cases c16 : 0 ≤ (ji15)
         ·rw [if_pos c16] at H
          have c16b0 : decide (0 ≤ (ji15)) = true := decide_eq_true c16
          clear c16
          by_cases c17 : (ji15) < ((rd_L2 l0 x20_1).length : Int)
          ·rw [if_pos c17] at H
           have c17b0 : decide ((ji15) < ((rd_L2 l0 x20_1).length : Int)) = true := decide_eq_true c17
           clear c17
           obtain ⟨y507, hy507⟩ : ∃ y_ : List (S49), y_ = (([(⟨(rd_T49 (rd_L2 l0 x20_1) 0).f0, (rd_T49 (rd_L2 l0 x20_1) 0).f1⟩ : S49), (⟨(rd_T49 (rd_L2 l0 x20_1) (ji15)).f0, (rd_T49 (rd_L2 l0 x20_1) (ji15)).f1⟩ : S49)] : List (S49))) := ⟨_, rfl⟩
           replace H : (if x5_1.length + y507.length < 8796093022208 then (impl_LooseEnds.l0 k1 (x5_1 ++ y507) y500 l0 (l0.length : Int) (wrap64 (x20_1 + 1))) else (none)) = some (r1, r2) := by first | (rw [hy507]; with_reducible exact H) | (have H2_ := (Option.bind_some _ _).symm.trans H; rw [hy507]; with_reducible exact H2_) | (have H2_ := (Option.bind_some _ _).symm.trans H; with_reducible exact H2_) | with_reducible exact H | (rw [hy507]; exact H) | exact H
           have Ny507 := Aside0.mk hy507
           clear hy507
           by_cases c18 : x5_1.length + y507.length < 8796093022208
           ·rw [if_pos c18] at H
            have LMc18 := Aside0.mk c18
            clear c18
            obtain ⟨y510, hy510⟩ : ∃ y_ : List (S49), y_ = (x5_1 ++ y507) := ⟨_, rfl⟩
            replace H : (impl_LooseEnds.l0 k1 y510 y500 l0 (l0.length : Int) (wrap64 (x20_1 + 1))) = some (r1, r2) := by first | (rw [hy510]; with_reducible exact H) | (have H2_ := (Option.bind_some _ _).symm.trans H; rw [hy510]; with_reducible exact H2_) | (have H2_ := (Option.bind_some _ _).symm.trans H; with_reducible exact H2_) | with_reducible exact H | (rw [hy510]; exact H) | exact H
            have Ny510 := Aside0.mk hy510
            clear hy510
            have H' := Aside0.mk H
            clear H
            have p503 : 0 ≤ (x20_1 : Int) := od_
            have q503 : x20_1 < (l0.length : Int) := od_
            obtain ⟨ad503, A503_0, c503_0, e503, hx503_0, hl503_0, hi503_0⟩ := at_L2 HR0.out x20_1 p503 q503
            cases e503
            replace hx503_0 := (HB.out.cell (World.block_lt_of_cell? w _ hx503_0)).trans hx503_0
            have HR503_0 := Aside0.mk hi503_0
            have HC503_0 := Aside0.mk hl503_0
            clear hi503_0 hl503_0
            replace p503 := eq_true p503
            replace q503 := eq_true q503
            try go_wp2_with (first | ((with_reducible refine gate_callee (f := 35) rfl ?_); refine goesL_ (some 25) rfl rfl Try.func35 (by kernel_rfl) rfl #[.slice A503_0 (rd_L2 l0 x20_1).length c503_0] rfl gl_ ?_; (with_reducible refine (impl_isClosed.calls _ _ (rd_L2 l0 x20_1) false _ ?side1 ?side2 A12.out).mono ?_); (case side1 => repeat (first | exact (Kd.C_below HR503_0.out HB.out) | (with_reducible refine Kd.C_alloc ?_ _) | (with_reducible refine Kd.C_drewN ?_ _) | (with_reducible refine Kd.C_drew ?_))); (case side2 => exact HC503_0.out); rintro e w' ⟨rfl, ⟨nd, rfl⟩⟩; refine ⟨_, rfl, ?_⟩))
            (try (rw [drewN_self wr]; generalize hq_ : World.drewN wr _ = wr; have n0_ : Aside0 (Kd.R k49 49 wr w.heap.size (fun k_ => some k_ ≠ (v501 : Value).ownBlock) u5 x5_1) := ⟨by rw [← hq_]; exact (by (with_reducible repeat (first | apply Kd.R_alloc | apply Kd.R_drewN | apply Kd.R_drew)); exact HO_5.out)⟩; have n1_ : Aside0 (Kd.R k49 49 wr w.heap.size (fun k_ => some k_ ≠ (u5 : Value).ownBlock) v501 y500) := ⟨by rw [← hq_]; exact (by (with_reducible repeat (first | apply Kd.R_alloc | apply Kd.R_drewN | apply Kd.R_drew)); exact HO_6.out)⟩; have n2_ : Aside0 (Below w.heap.size w wr) := ⟨by rw [← hq_]; exact (bw_ HB.out)⟩; clear HO_5 HO_6 HB hq_; have HO_5 := n0_; have HO_6 := n1_; have HB := n2_; clear n0_ n1_ n2_))
            have n0_ := Aside0.mk (Kd.R_drew HO_5.out)
            have n1_ := Aside0.mk (Kd.R_drew HO_6.out)
            have n2_ := Aside0.mk (below_drew1 HB.out)
            clear HO_5 HO_6 HB
            have HO_5 := n0_; have HO_6 := n1_; have HB := n2_
            clear n0_ n1_ n2_
            have p505 : 0 ≤ (0 : Int) := (by omega)
            have q505 : 0 < ((rd_L2 l0 x20_1).length : Int) := od_
            obtain ⟨ad505, e505, hx505_0, hx505_1⟩ := at_T49 HR503_0.out 0 p505 q505
            have hw505_1 := hx505_1
            (try rw [show ((0 : Int)).toNat = 0 from rfl] at hw505_1)
            (try rw [show 0 * 2 = 0 from rfl] at hw505_1)
            (try rw [Addr.add_zero'] at hw505_1)
            have hw505_0 := hx505_0
            (try rw [show ((0 : Int)).toNat = 0 from rfl] at hw505_0)
            (try rw [show 0 * 2 = 0 from rfl] at hw505_0)
            (try rw [Addr.add_zero'] at hw505_0)
            cases e505
            have qi505 : (0 < (rd_L2 l0 x20_1).length) = True := eq_true (by omega)
            (try rw [show ((0 : Int)).toNat = 0 from rfl] at hx505_0)
            (try rw [show 0 * 2 = 0 from rfl] at hx505_0)
            (try rw [Addr.add_zero'] at hx505_0)
            (try rw [show ((0 : Int)).toNat = 0 from rfl] at hx505_1)
            (try rw [show 0 * 2 = 0 from rfl] at hx505_1)
            (try rw [Addr.add_zero'] at hx505_1)
            replace hx505_0 := (HB.out.cell (World.block_lt_of_cell? w _ hx505_0)).trans hx505_0
            replace hx505_1 := (HB.out.cell (World.block_lt_of_cell? w _ hx505_1)).trans hx505_1
            replace p505 := eq_true p505
            replace q505 := eq_true q505
            have p506 : 0 ≤ ((ji15) : Int) := od_
            have q506 : (ji15) < ((rd_L2 l0 x20_1).length : Int) := od_
            obtain ⟨ad506, e506, hx506_0, hx506_1⟩ := at_T49 HR503_0.out (ji15) p506 q506
            have hw506_1 := hx506_1
            have hw506_0 := hx506_0
            obtain rfl : ad505 = ad506 := (by injection e506)
            replace hx506_0 := (HB.out.cell (World.block_lt_of_cell? w _ hx506_0)).trans hx506_0
            replace hx506_1 := (HB.out.cell (World.block_lt_of_cell? w _ hx506_1)).trans hx506_1
            replace p506 := eq_true p506
            replace q506 := eq_true q506
            refine start_ (n := 13) (S := fun w' => w'.cell? ad505 = some (.int .i64 ((rd_T49 (rd_L2 l0 x20_1) 0).f0)) ∧ w'.cell? ⟨ad505.block, ad505.off + 1, none⟩ = some (.int .i64 ((rd_T49 (rd_L2 l0 x20_1) 0).f1)) ∧ w'.cell? (ad505.add (((ji15)).toNat * 2)) = some (.int .i64 ((rd_T49 (rd_L2 l0 x20_1) (ji15)).f0)) ∧ w'.cell? ⟨(ad505.add (((ji15)).toNat * 2)).block, (ad505.add (((ji15)).toNat * 2)).off + 1, none⟩ = some (.int .i64 ((rd_T49 (rd_L2 l0 x20_1) (ji15)).f1))) (ds := []) #[false, false, false, false, false, false, false, false, false, false, false, false, false] (by kernel_rfl) rfl rfl ⟨((HB.out.cell (World.block_lt_of_cell? w _ hw505_0)).trans hw505_0), ((HB.out.cell (World.block_lt_of_cell? w _ hw505_1)).trans hw505_1), ((HB.out.cell (World.block_lt_of_cell? w _ hw506_0)).trans hw506_0), ((HB.out.cell (World.block_lt_of_cell? w _ hw506_1)).trans hw506_1)⟩ (fun hHeld => ?_); refine with_tabW impl_LooseEnds.tab9 impl_LooseEnds.bits9 (fun HT_ HW_ => ?_)
            generalize wr.drew = w19 at HO_5 HO_6 HB hx505_0 hx505_1 hx506_0 hx506_1 hHeld ⊢
            refine pure_ (i := 0) (N := some 27) (v := ?_) (a' := ?_) #[true, false, false, false, false, false, false, false, false, false, false, false, false] rfl rfl (any_of HT_.out (by kernel_rfl)) (fun _ _ _ h => h) (Or.inl ⟨by rfl, ?_⟩) ?_ ?_
            rotate_left
            ·intro w'
             go_simp
             with_reducible rfl
            rotate_left
            ·simp only [Act.put, List.setIfInBounds_toArray, List.set_cons_zero, List.set_cons_succ, i64_w, i32_w]
             rfl
            refine pure_ (i := 1) (N := some 28) (v := ?_) (a' := ?_) #[true, true, false, false, false, false, false, false, false, false, false, false, false] rfl rfl (any_of HT_.out (by kernel_rfl)) (fun _ _ _ h => h) (Or.inl ⟨by rfl, ?_⟩) ?_ ?_
            rotate_left
            ·intro w'
             go_simp
             with_reducible rfl
            rotate_left
            ·simp only [Act.put, List.setIfInBounds_toArray, List.set_cons_zero, List.set_cons_succ, i64_w, i32_w]
             rfl
            refine pure_ (i := 2) (N := some 29) (v := ?_) (a' := ?_) #[true, true, true, false, false, false, false, false, false, false, false, false, false] rfl rfl (any_of HT_.out (by kernel_rfl)) (fun _ _ _ h => h) (Or.inl ⟨by rfl, ?_⟩) ?_ ?_
            rotate_left
            ·intro w'
             go_simp
             with_reducible rfl
            rotate_left
            ·simp only [Act.put, List.setIfInBounds_toArray, List.set_cons_zero, List.set_cons_succ, i64_w, i32_w]
             rfl
            refine pure_ (i := 4) (N := some 31) (v := ?_) (a' := ?_) #[true, true, true, false, true, false, false, false, false, false, false, false, false] rfl rfl (any_of HT_.out (by kernel_rfl)) (fun _ _ _ h => h) (Or.inl ⟨by rfl, ?_⟩) ?_ ?_
            rotate_left
            ·intro w'
             go_simp
             with_reducible rfl
            rotate_left
            ·simp only [Act.put, List.setIfInBounds_toArray, List.set_cons_zero, List.set_cons_succ, i64_w, i32_w]
             rfl
            refine pure_ (i := 5) (N := some 32) (v := ?_) (a' := ?_) #[true, true, true, false, true, true, false, false, false, false, false, false, false] rfl rfl (any_of HT_.out (by kernel_rfl)) (fun _ _ _ h => h) (Or.inl ⟨by rfl, ?_⟩) ?_ ?_
            rotate_left
            ·intro w'
             go_simp
             with_reducible rfl
            rotate_left
            ·simp only [Act.put, List.setIfInBounds_toArray, List.set_cons_zero, List.set_cons_succ, i64_w, i32_w]
             rfl
            refine pure_ (i := 6) (N := some 33) (v := ?_) (a' := ?_) #[true, true, true, false, true, true, true, false, false, false, false, false, false] rfl rfl (any_of HT_.out (by kernel_rfl)) (fun _ _ _ h => h) (Or.inl ⟨by rfl, ?_⟩) ?_ ?_
            rotate_left
            ·intro w'
             go_simp
             with_reducible rfl
            rotate_left
            ·simp only [Act.put, List.setIfInBounds_toArray, List.set_cons_zero, List.set_cons_succ, i64_w, i32_w]
             rfl
            refine pure_ (i := 7) (N := some 34) (v := ?_) (a' := ?_) #[true, true, true, false, true, true, true, true, false, false, false, false, false] rfl rfl (any_of HT_.out (by kernel_rfl)) (fun _ _ _ h => h) (Or.inl ⟨by rfl, ?_⟩) ?_ ?_
            rotate_left
            ·intro w'
             go_simp
             with_reducible rfl
            rotate_left
            ·simp only [Act.put, List.setIfInBounds_toArray, List.set_cons_zero, List.set_cons_succ, i64_w, i32_w]
             rfl
            refine pure_ (i := 8) (N := some 35) (v := ?_) (a' := ?_) #[true, true, true, false, true, true, true, true, true, false, false, false, false] rfl rfl (any_of HT_.out (by kernel_rfl)) (fun _ _ _ h => h) (Or.inl ⟨by rfl, ?_⟩) ?_ ?_
            rotate_left
            ·intro w'
             go_simp
             with_reducible rfl
            rotate_left
            ·simp only [Act.put, List.setIfInBounds_toArray, List.set_cons_zero, List.set_cons_succ, i64_w, i32_w]
             rfl
            refine take_ (i := 3) (N := some 30) (v := ?_) (a' := ?_) #[true, true, true, true, true, true, true, true, true, false, false, false, false] rfl rfl (take_ofW HT_.out HW_.out (by kernel_rfl)) (fun _ _ _ h => h) (Or.inl ⟨by rfl, ?_⟩) hHeld ?_ ?_
            rotate_left
            ·rintro w' ⟨s0, s1, s2, s3⟩
             go_simp
             with_reducible rfl
            rotate_left
            ·simp only [Act.put, List.setIfInBounds_toArray, List.set_cons_zero, List.set_cons_succ, i64_w, i32_w]
             rfl
            refine take_ (i := 9) (N := some 36) (v := ?_) (a' := ?_) #[true, true, true, true, true, true, true, true, true, true, false, false, false] rfl rfl (take_ofW HT_.out HW_.out (by kernel_rfl)) (fun _ _ _ h => h) (Or.inl ⟨by rfl, ?_⟩) hHeld ?_ ?_
            rotate_left
            ·rintro w' ⟨s0, s1, s2, s3⟩
             go_simp
             with_reducible rfl
            rotate_left
            ·simp only [Act.put, List.setIfInBounds_toArray, List.set_cons_zero, List.set_cons_succ, i64_w, i32_w]
             rfl
            refine one_ (i := 10) (N := some 37) #[true, true, true, true, true, true, true, true, true, true, true, false, false] rfl rfl (one_of HT_.out (by kernel_rfl)) (by decide) (fun K hK => ?_)
            refine Kd.R_lit_step k49 _ 49 ?hg (N := 37) ?hd (xs := ([(⟨(rd_T49 (rd_L2 l0 x20_1) 0).f0, (rd_T49 (rd_L2 l0 x20_1) 0).f1⟩ : S49), (⟨(rd_T49 (rd_L2 l0 x20_1) (ji15)).f0, (rd_T49 (rd_L2 l0 x20_1) (ji15)).f1⟩ : S49)] : List (S49))) (inner := [.int .i64 ((rd_T49 (rd_L2 l0 x20_1) 0).f0), .int .i64 ((rd_T49 (rd_L2 l0 x20_1) 0).f1), .int .i64 ((rd_T49 (rd_L2 l0 x20_1) (ji15)).f0), .int .i64 ((rd_T49 (rd_L2 l0 x20_1) (ji15)).f1)]) (ok := fun _ => True) (okp := fun _ => True) ?hr ?hp (fun _ hk => hk) trivial (Below.refl _ _) (Nat.le_refl _) (by simp) ?_; (case hd => rfl); (case hg => rfl); (case hr => first | (go_simp; done) | (go_simp; rfl)); (case hp => exact (Reps.c2 (show Kd.M k49 _ _ _ (⟨(rd_T49 (rd_L2 l0 x20_1) 0).f0, (rd_T49 (rd_L2 l0 x20_1) 0).f1⟩ : S49) [.int .i64 ((rd_T49 (rd_L2 l0 x20_1) 0).f0), .int .i64 ((rd_T49 (rd_L2 l0 x20_1) 0).f1)] from (k49_mkM _ _ _ (⟨(rd_T49 (rd_L2 l0 x20_1) 0).f0, (rd_T49 (rd_L2 l0 x20_1) 0).f1⟩ : S49) )) (Reps.c2 (show Kd.M k49 _ _ _ (⟨(rd_T49 (rd_L2 l0 x20_1) (ji15)).f0, (rd_T49 (rd_L2 l0 x20_1) (ji15)).f1⟩ : S49) [.int .i64 ((rd_T49 (rd_L2 l0 x20_1) (ji15)).f0), .int .i64 ((rd_T49 (rd_L2 l0 x20_1) (ji15)).f1)] from (k49_mkM _ _ _ (⟨(rd_T49 (rd_L2 l0 x20_1) (ji15)).f0, (rd_T49 (rd_L2 l0 x20_1) (ji15)).f1⟩ : S49) )) (Reps.none _ _))))
            intro v508 w20 ho21 hb hg_ hnew_
            clear hg_ hnew_
            (first | rw [← Ny507.out] at ho21 | (simp only [Int.reduceToNat] at ho21; rw [← Ny507.out] at ho21))
            have n0_ := Aside0.mk (Kd.R_elder' (by (with_reducible repeat (first | apply Kd.R_alloc | apply Kd.R_drewN | apply Kd.R_drew)); exact HO_5.out) (Kd.R_base ho21) hb)
            have n1_ := Aside0.mk (Kd.R_elder' (by (with_reducible repeat (first | apply Kd.R_alloc | apply Kd.R_drewN | apply Kd.R_drew)); exact HO_6.out) (Kd.R_base ho21) hb)
            have n2_ := Aside0.mk (Kd.R_lower (Kd.R_new' (Kd.R_new' ho21 (Kd.R_lt (by (with_reducible repeat (first | apply Kd.R_alloc | apply Kd.R_drewN | apply Kd.R_drew)); exact HO_5.out))) (Kd.R_lt (by (with_reducible repeat (first | apply Kd.R_alloc | apply Kd.R_drewN | apply Kd.R_drew)); exact HO_6.out))) (below_size (bw_ HB.out)))
            have n3_ := Aside0.mk (below_step (bw_ HB.out) hb)
            clear HO_5 HO_6 HB
            have HO_5 := n0_; have HO_6 := n1_; have HO509 := n2_; have HB := n3_
            clear n0_ n1_ n2_ n3_ hb ho21
            obtain ⟨Ao23, co23, eo23⟩ := Kd.R_slice HO509.out
            (first | subst eo23 | (injection eo23 with f1_ f2_ f3_; have f4_ := f1_.symm; have f5_ := f3_.symm; clear f1_ f2_ f3_; subst f4_; subst f5_))
            refine hK.out _ _ ⟨((HB.out.cell (World.block_lt_of_cell? w _ hw505_0)).trans hw505_0), ((HB.out.cell (World.block_lt_of_cell? w _ hw505_1)).trans hw505_1), ((HB.out.cell (World.block_lt_of_cell? w _ hw506_0)).trans hw506_0), ((HB.out.cell (World.block_lt_of_cell? w _ hw506_1)).trans hw506_1)⟩ (fun hHeld => ?_)
            clear hK K
            refine norm_ (a' := ?_) ?_ ?_
            rotate_left
            ·show Act.put _ (some 37) _ = _
             simp only [Act.put, List.setIfInBounds_toArray, List.set_cons_zero, List.set_cons_succ, i64_w, i32_w]
             rfl
            refine one_ (i := 11) (N := some 38) #[true, true, true, true, true, true, true, true, true, true, true, true, false] rfl rfl (one_of HT_.out (by kernel_rfl)) (by decide) (fun K hK => ?_)
            refine Kd.R_append_rows_step k49 (w0 := w) w.heap.size (by rfl) (.tmp 27) (.tmp 37) 34 49 (.agg #[(.int .i64 0), (.int .i64 0)]) 16 rfl Try.underlying34 info49 rfl (by decide) (by omega) u5 x5_1 y507 _ _ _ (fun k_ => some k_ ≠ (v501 : Value).ownBlock ∧ some k_ ≠ (.slice Ao23 y507.length co23 : Value).ownBlock) (fun _ => False) rfl rfl ?aO ?aR (fun _ _ h => h) (fun _ h => h.elim) ?aF ?aB ?aS ?aL ?_
            (case aR => repeat (first | exact (Kd.R_reads' HO509.out).2.2 | (with_reducible refine Kd.C_alloc ?_ _) | (with_reducible refine Kd.C_drewN ?_ _) | (with_reducible refine Kd.C_drew ?_)))
            (case aB => exact (bw_ HB.out))
            (case aF => exact (fun k_ hk => ⟨Kd.fresh' (Kd.R_lt (by (with_reducible repeat (first | apply Kd.R_alloc | apply Kd.R_drewN | apply Kd.R_drew)); exact HO_6.out)) k_ hk, Kd.fresh' (Kd.R_lt (by (with_reducible repeat (first | apply Kd.R_alloc | apply Kd.R_drewN | apply Kd.R_drew)); exact HO509.out)) k_ hk⟩))
            (case aO => exact (by (with_reducible repeat (first | apply Kd.R_alloc | apply Kd.R_drewN | apply Kd.R_drew)); exact HO_5.out))
            (case aS => exact (below_size (bw_ HB.out)))
            (case aL => have := LMc18.out; omega)
            intro v511 w22 ho hb hg hat
            rw [← Ny510.out] at ho
            have n0_ := Aside0.mk (Kd.R_after (ok := (fun k_ => some k_ ≠ (.slice Ao23 y507.length co23 : Value).ownBlock)) (by (with_reducible repeat (first | apply Kd.R_alloc | apply Kd.R_drewN | apply Kd.R_drew)); exact Kd.R_mono HO_6.out (fun _ hk => ⟨hk.2, hk.1⟩)) hg hat)
            have n1_ := Aside0.mk (Kd.R_after (ok := (fun k_ => some k_ ≠ (v501 : Value).ownBlock)) (by (with_reducible repeat (first | apply Kd.R_alloc | apply Kd.R_drewN | apply Kd.R_drew)); exact Kd.R_mono HO509.out (fun _ hk => ⟨hk.2, hk.1.2⟩)) hg hat)
            have n2_ := Aside0.mk (hb)
            have n3_ := Aside0.mk (ho)
            clear HO_6 HO509 HB HO_5
            have HO_6 := n0_; have HO509 := n1_; have HB := n2_; have HO512 := n3_
            clear n0_ n1_ n2_ n3_ ho hb hg hat
            refine hK.out _ _ ⟨((HB.out.cell (World.block_lt_of_cell? w _ hw505_0)).trans hw505_0), ((HB.out.cell (World.block_lt_of_cell? w _ hw505_1)).trans hw505_1), ((HB.out.cell (World.block_lt_of_cell? w _ hw506_0)).trans hw506_0), ((HB.out.cell (World.block_lt_of_cell? w _ hw506_1)).trans hw506_1)⟩ (fun hHeld => ?_)
            clear hK K
            refine norm_ (a' := ?_) ?_ ?_
            rotate_left
            ·show Act.put _ (some 38) _ = _
             simp only [Act.put, List.setIfInBounds_toArray, List.set_cons_zero, List.set_cons_succ, i64_w, i32_w]
             rfl
            refine pure_ (i := 12) (N := some 5) (v := ?_) (a' := ?_) #[true, true, true, true, true, true, true, true, true, true, true, true, true] rfl rfl (any_of HT_.out (by kernel_rfl)) (fun _ _ _ h => h) (Or.inl ⟨by rfl, ?_⟩) ?_ ?_
            rotate_left
            ·intro w'
             go_simp
             with_reducible rfl
            rotate_left
            ·simp only [Act.put, List.setIfInBounds_toArray, List.set_cons_zero, List.set_cons_succ, i64_w, i32_w]
             rfl
            refine done_ (done_of HT_.out (by kernel_rfl)) ?_
            try go_wp2
            try subst hji15
            go_roundg k1
            case measure => have := HK1.out; omega
            case rel => exact ⟨(y510), (wrap64 (x20_1 + 1)), (by first | rfl | (simp; done) | (simp [*]; done)), H', ⟨by have := HK1.out; omega⟩, ⟨by (with_reducible repeat (first | apply Kd.R_alloc | apply Kd.R_drewN | apply Kd.R_drew)); exact Kd.R_mono HO512.out (fun _ hk => hk.1)⟩, ⟨by (with_reducible repeat (first | apply Kd.R_alloc | apply Kd.R_drewN | apply Kd.R_drew)); exact Kd.R_mono HO_6.out (fun _ hk => hk.2)⟩, ⟨bw_ HB.out⟩⟩
           ·rw [if_neg c18] at H
            exact absurd H (by simp)
          ·rw [if_neg c17] at H
           exact absurd H (by simp)
         ·rw [if_neg c16] at H
          exact absurd H (by simp)
        ·rw [if_neg c14] at H
         exact absurd H (by simp)
      ·rw [if_neg c11] at H
       exact absurd H (by simp)
     ·rw [if_neg c10] at H
      exact absurd H (by simp)
    ·rw [if_neg c9] at H
     have c9b0 : decide (x20_1 < (l0.length : Int)) = false := decide_eq_false c9
     clear c9
     have H' := Aside0.mk H
     clear H
     obtain ⟨Ao24, co24, eo24⟩ := Kd.R_slice HO_5.out
     subst eo24
     go_wp2
     go_loopg [6, 42] k1 (fun kq v6 v42 w' => ∃ (x6_2 : List (S49)) (x42_2 : Int), v42 = .int .i64 x42_2 ∧ Aside0 (impl_LooseEnds.l1 kq x5_1 x6_2 x5_1 (x5_1.length : Int) x42_2 = some (r1, r2)) ∧ Aside0 (kq ≤ k1) ∧ Aside0 (Kd.R k49 49 w' w.heap.size (fun k_ => some k_ ≠ (v6 : Value).ownBlock) (.slice Ao24 x5_1.length co24) x5_1) ∧ Aside0 (Kd.R k49 49 w' w.heap.size (fun k_ => some k_ ≠ ((.slice Ao24 x5_1.length co24) : Value).ownBlock ∧ some k_ ≠ ((.slice Ao24 x5_1.length co24) : Value).ownBlock) v6 x6_2) ∧ Aside0 (Kd.R k49 49 w' w.heap.size (fun k_ => some k_ ≠ (v6 : Value).ownBlock) (.slice Ao24 x5_1.length co24) x5_1) ∧ Aside0 (Below w.heap.size w w'))
     case atStart => exact ⟨(y500), (0), (by first | rfl | (simp; done) | (simp [*]; done)), H', ⟨Nat.le_refl _⟩, ⟨by (with_reducible repeat (first | apply Kd.R_alloc | apply Kd.R_drewN | apply Kd.R_drew)); exact HO_5.out⟩, ⟨by (with_reducible repeat (first | apply Kd.R_alloc | apply Kd.R_drewN | apply Kd.R_drew)); exact Kd.R_mono HO_6.out (fun _ hk => ⟨hk, hk⟩)⟩, ⟨by (with_reducible repeat (first | apply Kd.R_alloc | apply Kd.R_drewN | apply Kd.R_drew)); exact HO_5.out⟩, ⟨bw_ HB.out⟩⟩
     case round =>
      clear H'
      try clear c1
      try clear c2
      try clear p2
      try clear c3
      try clear c3b0
      try clear c3b1
      try clear c5
      try clear p5
      try clear q5
      try clear hx5
      try clear qi5
      try clear p6
      try clear c9
      try clear c9b0
      try clear c10
      try clear c10b0
      try clear c11
      try clear c11b0
      try clear c13
      try clear c14
      try clear c14b0
      try clear c14b1
      try clear c16
      try clear c16b0
      try clear c17
      try clear c17b0
      try clear c18
      try clear c24
      try clear hx503_0
      try clear hx505_0
      try clear hx505_1
      try clear hx506_0
      try clear hx506_1
      try clear p2
      try clear p503
      try clear p505
      try clear p506
      try clear q503
      try clear q505
      try clear q506
      obtain ⟨x6_2, x42_2, rfl, HA, HK2, HO_5, HO_6, HO_40, HB⟩ := hrel
      cases gk with
      | zero => exact absurd HA.out (by simp [impl_LooseEnds.l1])
      | succ k2 =>
       have H := HA.out
       clear HA
       simp only [impl_LooseEnds.l1] at H
       by_cases c25 : x42_2 < (x5_1.length : Int)
       ·rw [if_pos c25] at H
        have c25b0 : decide (x42_2 < (x5_1.length : Int)) = true := decide_eq_true c25
        clear c25
        by_cases c26 : 0 ≤ x42_2
        ·rw [if_pos c26] at H
         have c26b0 : decide (0 ≤ x42_2) = true := decide_eq_true c26
         clear c26
         by_cases c27 : x42_2 < (x5_1.length : Int)
         ·rw [if_pos c27] at H
          have c27b0 : decide (x42_2 < (x5_1.length : Int)) = true := decide_eq_true c27
          clear c27
          have c28b0 := eq_true (od_ : 0 ≤ x42_2)
          by_cases c29 : x42_2 ≤ (x5_1.length : Int)
          ·rw [if_pos c29] at H
           have c29b0 := eq_true c29
           have c29b1 : decide (x42_2 ≤ (x5_1.length : Int)) = true := decide_eq_true c29
           clear c29
           obtain ⟨y515, hy515⟩ : ∃ y_ : List (S49), y_ = (x5_1.take (x42_2 : Int).toNat) := ⟨_, rfl⟩
           replace H : ((impl_Place_40.f k2 y515 ((rd_T49 x5_1 x42_2).f0) ((rd_T49 x5_1 x42_2).f1)).bind fun t519 => (if t519 = true then (impl_LooseEnds.l1 k2 x5_1 x6_2 x5_1 (x5_1.length : Int) (wrap64 (x42_2 + 1))) else (if 0 ≤ (wrap64 (x42_2 + 1)) then (if (wrap64 (x42_2 + 1)) ≤ (x5_1.length : Int) then ((impl_Place_40.f k2 (x5_1.drop ((wrap64 (x42_2 + 1)) : Int).toNat) ((rd_T49 x5_1 x42_2).f0) ((rd_T49 x5_1 x42_2).f1)).bind fun t524 => (if t524 = true then (impl_LooseEnds.l1 k2 x5_1 x6_2 x5_1 (x5_1.length : Int) (wrap64 (x42_2 + 1))) else (if x6_2.length < 8796093022208 then (impl_LooseEnds.l1 k2 x5_1 (x6_2 ++ [(⟨(rd_T49 x5_1 x42_2).f0, (rd_T49 x5_1 x42_2).f1⟩ : S49)]) x5_1 (x5_1.length : Int) (wrap64 (x42_2 + 1))) else (none)))) else (none)) else (none)))) = some (r1, r2) := by first | (rw [hy515]; with_reducible exact H) | (have H2_ := (Option.bind_some _ _).symm.trans H; rw [hy515]; with_reducible exact H2_) | (have H2_ := (Option.bind_some _ _).symm.trans H; with_reducible exact H2_) | with_reducible exact H | (rw [hy515]; exact H) | exact H
           have Ny515 := Aside0.mk hy515
           clear hy515
           replace H := Option.bind_eq_some_iff.mp H
           obtain ⟨t519, A300, H⟩ := H
           replace H : (if t519 = true then (impl_LooseEnds.l1 k2 x5_1 x6_2 x5_1 (x5_1.length : Int) (wrap64 (x42_2 + 1))) else (if 0 ≤ (wrap64 (x42_2 + 1)) then (if (wrap64 (x42_2 + 1)) ≤ (x5_1.length : Int) then ((impl_Place_40.f k2 (x5_1.drop ((wrap64 (x42_2 + 1)) : Int).toNat) ((rd_T49 x5_1 x42_2).f0) ((rd_T49 x5_1 x42_2).f1)).bind fun t524 => (if t524 = true then (impl_LooseEnds.l1 k2 x5_1 x6_2 x5_1 (x5_1.length : Int) (wrap64 (x42_2 + 1))) else (if x6_2.length < 8796093022208 then (impl_LooseEnds.l1 k2 x5_1 (x6_2 ++ [(⟨(rd_T49 x5_1 x42_2).f0, (rd_T49 x5_1 x42_2).f1⟩ : S49)]) x5_1 (x5_1.length : Int) (wrap64 (x42_2 + 1))) else (none)))) else (none)) else (none))) = some (r1, r2) := H
           have A30 := Aside0.mk A300
           clear A300
           by_cases c31 : t519 = true
           ·subst c31
            have H1 : (impl_LooseEnds.l1 k2 x5_1 x6_2 x5_1 (x5_1.length : Int) (wrap64 (x42_2 + 1))) = some (r1, r2) := by rw [if_pos rfl] at H; exact H
            clear H
            have H := H1
            clear H1
            have H' := Aside0.mk H
            clear H
            have p513 : 0 ≤ (x42_2 : Int) := od_
            have q513 : x42_2 < (x5_1.length : Int) := od_
            obtain ⟨ad513, e513, hx513_0, hx513_1⟩ := at_T49 (Kd.R_reads' HO_40.out).2.2 x42_2 p513 q513
            cases e513
            replace p513 := eq_true p513
            replace q513 := eq_true q513
            try go_wp2_with (first | ((with_reducible refine gate_dst (N := 10) rfl ?_); refine box_event ?hg (N := 10) ?hd (cs := #[.int .i64 0, .int .i64 0]) (t := 49) ?hr ?_; (case hd => rfl); (case hg => rfl); (case hr => first | (go_simp; done) | (go_simp; rfl)); intro gb514 hg w32 hbox hb; have n0_ := Aside0.mk (Kd.R_below (Kd.R_elderB (by (with_reducible repeat (first | apply Kd.R_alloc | apply Kd.R_drewN | apply Kd.R_drew)); exact HO_5.out) gb514 (Nat.le_of_eq hg.symm)) hb); have n1_ := Aside0.mk (Kd.R_below (Kd.R_elderB (by (with_reducible repeat (first | apply Kd.R_alloc | apply Kd.R_drewN | apply Kd.R_drew)); exact HO_6.out) gb514 (Nat.le_of_eq hg.symm)) hb); have n2_ := Aside0.mk (Kd.R_below (Kd.R_elderB (by (with_reducible repeat (first | apply Kd.R_alloc | apply Kd.R_drewN | apply Kd.R_drew)); exact HO_40.out) gb514 (Nat.le_of_eq hg.symm)) hb); have n3_ := Aside0.mk (below_step (bw_ HB.out) hb); have n4_ := Aside0.mk (hbox); have n5_ := Aside0.mk ((ge_ hg (bw_ HB.out))); have n6_ := Aside0.mk ((ge_ hg (bw_ HB.out))); clear HO_5; clear HO_6; clear HO_40; clear HB; have HO_5 := n0_; have HO_6 := n1_; have HO_40 := n2_; have HB := n3_; have BK514 := n4_; have GW514 := n5_; have GE514 := n6_; clear n0_ n1_ n2_ n3_ n4_ n5_ n6_; clear hb hbox hg; have hcz33_0 : w32.cell? ⟨gb514, 0, none⟩ = some (.int .i64 0) := (blk_cell BK514.out 0).trans rfl; have hcz33_1 : w32.cell? ⟨gb514, 1, none⟩ = some (.int .i64 0) := (blk_cell BK514.out 1).trans rfl; have hfz33_0 := blk_frozen BK514.out 0; have hfz33_1 := blk_frozen BK514.out 1))
            have n0_ : Aside0 (Kd.R k49 49 ((w32.setCell ⟨gb514, 0, none⟩ (.int .i64 ((rd_T49 x5_1 x42_2).f0))).setCell ⟨gb514, 1, none⟩ (.int .i64 ((rd_T49 x5_1 x42_2).f1))) w.heap.size (fun k_ => some k_ ≠ (u6 : Value).ownBlock ∧ k_ ≠ gb514) (.slice (some ad513) x5_1.length co24) x5_1) := ⟨by (with_reducible repeat (first | apply Kd.R_alloc | apply Kd.R_drewN | apply Kd.R_drew)); exact Kd.R_mono (Kd.R_far (p := ⟨gb514, 1, none⟩) (Kd.R_far (p := ⟨gb514, 0, none⟩) (Kd.R_mono HO_5.out (fun k_ hk => (⟨hk, hk.2⟩ : _ ∧ k_ ≠ gb514))) (fun _ hk => hk.2) (.int .i64 ((rd_T49 x5_1 x42_2).f0))) (fun _ hk => hk.2) (.int .i64 ((rd_T49 x5_1 x42_2).f1))) (fun _ hk => ⟨hk.1.1, hk.1.2⟩)⟩
            have n1_ : Aside0 (Kd.R k49 49 ((w32.setCell ⟨gb514, 0, none⟩ (.int .i64 ((rd_T49 x5_1 x42_2).f0))).setCell ⟨gb514, 1, none⟩ (.int .i64 ((rd_T49 x5_1 x42_2).f1))) w.heap.size (fun k_ => some k_ ≠ (.slice (some ad513) x5_1.length co24 : Value).ownBlock ∧ some k_ ≠ (.slice (some ad513) x5_1.length co24 : Value).ownBlock ∧ k_ ≠ gb514) u6 x6_2) := ⟨by (with_reducible repeat (first | apply Kd.R_alloc | apply Kd.R_drewN | apply Kd.R_drew)); exact Kd.R_mono (Kd.R_far (p := ⟨gb514, 1, none⟩) (Kd.R_far (p := ⟨gb514, 0, none⟩) (Kd.R_mono HO_6.out (fun k_ hk => (⟨hk, hk.2⟩ : _ ∧ k_ ≠ gb514))) (fun _ hk => hk.2) (.int .i64 ((rd_T49 x5_1 x42_2).f0))) (fun _ hk => hk.2) (.int .i64 ((rd_T49 x5_1 x42_2).f1))) (fun _ hk => ⟨hk.1.1.1, ⟨hk.1.1.2, hk.1.2⟩⟩)⟩
            have n2_ : Aside0 (Kd.R k49 49 ((w32.setCell ⟨gb514, 0, none⟩ (.int .i64 ((rd_T49 x5_1 x42_2).f0))).setCell ⟨gb514, 1, none⟩ (.int .i64 ((rd_T49 x5_1 x42_2).f1))) w.heap.size (fun k_ => some k_ ≠ (u6 : Value).ownBlock ∧ k_ ≠ gb514) (.slice (some ad513) x5_1.length co24) x5_1) := ⟨by (with_reducible repeat (first | apply Kd.R_alloc | apply Kd.R_drewN | apply Kd.R_drew)); exact Kd.R_mono (Kd.R_far (p := ⟨gb514, 1, none⟩) (Kd.R_far (p := ⟨gb514, 0, none⟩) (Kd.R_mono HO_40.out (fun k_ hk => (⟨hk, hk.2⟩ : _ ∧ k_ ≠ gb514))) (fun _ hk => hk.2) (.int .i64 ((rd_T49 x5_1 x42_2).f0))) (fun _ hk => hk.2) (.int .i64 ((rd_T49 x5_1 x42_2).f1))) (fun _ hk => ⟨hk.1.1, hk.1.2⟩)⟩
            have n3_ : Aside0 (((w32.setCell ⟨gb514, 0, none⟩ (.int .i64 ((rd_T49 x5_1 x42_2).f0))).setCell ⟨gb514, 1, none⟩ (.int .i64 ((rd_T49 x5_1 x42_2).f1))).heap[gb514]? = some (.cells #[.int .i64 ((rd_T49 x5_1 x42_2).f0), .int .i64 ((rd_T49 x5_1 x42_2).f1)] 49 (0, 0))) := ⟨by (with_reducible repeat (first | refine blk_drewN ?_ _ | refine blk_drew ?_ | refine blk_alloc ?_ _)); refine blk_put (cs := #[.int .i64 ((rd_T49 x5_1 x42_2).f0), .int .i64 0]) ?_ 1 _ rfl; (with_reducible repeat (first | refine blk_drewN ?_ _ | refine blk_drew ?_ | refine blk_alloc ?_ _)); refine blk_put (cs := #[.int .i64 0, .int .i64 0]) ?_ 0 _ rfl; (with_reducible repeat (first | refine blk_drewN ?_ _ | refine blk_drew ?_ | refine blk_alloc ?_ _)); exact BK514.out⟩
            have n4_ : Aside0 (Below w.heap.size w ((w32.setCell ⟨gb514, 0, none⟩ (.int .i64 ((rd_T49 x5_1 x42_2).f0))).setCell ⟨gb514, 1, none⟩ (.int .i64 ((rd_T49 x5_1 x42_2).f1)))) := ⟨bwg_ GE514.out HB.out⟩
            (try clear HO_5)
            (try clear HO_6)
            (try clear HO_40)
            (try clear BK514)
            (try clear HB)
            generalize ((w32.setCell ⟨gb514, 0, none⟩ (.int .i64 ((rd_T49 x5_1 x42_2).f0))).setCell ⟨gb514, 1, none⟩ (.int .i64 ((rd_T49 x5_1 x42_2).f1))) = w34 at n0_ n1_ n2_ n3_ n4_ ⊢
            have HO_5 := n0_; have HO_6 := n1_; have HO_40 := n2_; have BK514 := n3_; have HB := n4_
            clear n0_ n1_ n2_ n3_ n4_
            have n0_ := Aside0.mk (Kd.R_drew HO_5.out)
            have n1_ := Aside0.mk (Kd.R_drew HO_6.out)
            have n2_ := Aside0.mk (Kd.R_drew HO_40.out)
            have n3_ := Aside0.mk (blk_drew BK514.out)
            have n4_ := Aside0.mk (below_drew1 HB.out)
            clear HO_5 HO_6 HO_40 BK514 HB
            have HO_5 := n0_; have HO_6 := n1_; have HO_40 := n2_; have BK514 := n3_; have HB := n4_
            clear n0_ n1_ n2_ n3_ n4_
            have q36 : (x42_2 : Int) ≤ ((x5_1.length : Int) : Int) := od_
            obtain ⟨i036, hi036, _, hsz36, _⟩ := info_parts info49
            have hroom36 : x5_1.length ≤ co24 := (Kd.R_reads' HO_5.out).2.1
            have hC36 : Kd.C k49 _ (some ad513) x5_1.length x5_1 := (Kd.R_reads' HO_5.out).2.2
            have hcut36 := cut_to (P := Try.prog) 34 49 .i64 Try.underlying34 hi036 (some ad513) x5_1.length co24 x42_2 od_ q36 hroom36
            have hr36 := Kd.C_take (m := (x42_2 : Int).toNat) hC36 (by omega)
            have hy36 : y515.length = (x42_2 : Int).toNat := (by rw [Ny515.out, List.length_take]; omega)
            rw [← Ny515.out] at hr36
            rw [← hy36] at hcut36
            have HR518 := Aside0.mk hr36
            have HC518 := Aside0.mk (show y515.length ≤ co24 from by omega)
            clear hr36 hC36 hroom36 hi036 hsz36
            have KY36 := Aside0.mk hy36
            clear hy36
            have KL36 := Aside0.mk (show (x42_2 : Int).toNat ≤ x5_1.length from by omega)
            replace q36 := eq_true q36
            refine start_ (n := 15) (S := fun w' => w'.cell? ⟨gb514, 0, none⟩ = some (.int .i64 ((rd_T49 x5_1 x42_2).f0)) ∧ w'.cell? ⟨gb514, 1, none⟩ = some (.int .i64 ((rd_T49 x5_1 x42_2).f1))) (ds := []) #[false, false, false, false, false, false, false, false, false, false, false, false, false, false, false] (by kernel_rfl) rfl rfl ⟨(blk_cell BK514.out 0).trans rfl, (blk_cell BK514.out 1).trans rfl⟩ (fun hHeld => ?_); refine with_tabW impl_LooseEnds.tab14 impl_LooseEnds.bits14 (fun HT_ HW_ => ?_)
            generalize w34.drew = w35 at HO_5 HO_6 HO_40 BK514 HB HR518 hHeld ⊢
            refine pure_ (i := 0) (N := some 47) (v := ?_) (a' := ?_) #[true, false, false, false, false, false, false, false, false, false, false, false, false, false, false] rfl rfl (any_of HT_.out (by kernel_rfl)) (fun _ _ _ h => h) (Or.inl ⟨by rfl, ?_⟩) ?_ ?_
            rotate_left
            ·intro w'
             go_simp
             with_reducible rfl
            rotate_left
            ·simp only [Act.put, List.setIfInBounds_toArray, List.set_cons_zero, List.set_cons_succ, i64_w, i32_w]
             rfl
            refine pure_ (i := 1) (N := some 48) (v := ?_) (a' := ?_) #[true, true, false, false, false, false, false, false, false, false, false, false, false, false, false] rfl rfl (any_of HT_.out (by kernel_rfl)) (fun _ _ _ h => h) (Or.inl ⟨by rfl, ?_⟩) ?_ ?_
            rotate_left
            ·intro w'
             go_simp
             with_reducible rfl
            rotate_left
            ·simp only [Act.put, List.setIfInBounds_toArray, List.set_cons_zero, List.set_cons_succ, i64_w, i32_w]
             rfl
            refine pure_ (i := 2) (N := some 49) (v := ?_) (a' := ?_) #[true, true, true, false, false, false, false, false, false, false, false, false, false, false, false] rfl rfl (any_of HT_.out (by kernel_rfl)) (fun _ _ _ h => h) (Or.inl ⟨by rfl, ?_⟩) ?_ ?_
            rotate_left
            ·intro w'
             go_simp
             with_reducible rfl
            rotate_left
            ·simp only [Act.put, List.setIfInBounds_toArray, List.set_cons_zero, List.set_cons_succ, i64_w, i32_w]
             rfl
            refine take_ (i := 3) (N := some 50) (v := ?_) (a' := ?_) #[true, true, true, true, false, false, false, false, false, false, false, false, false, false, false] rfl rfl (take_ofW HT_.out HW_.out (by kernel_rfl)) (fun _ _ _ h => h) (Or.inl ⟨by rfl, ?_⟩) hHeld ?_ ?_
            rotate_left
            ·rintro w' ⟨s0, s1⟩
             go_simp
             with_reducible rfl
            rotate_left
            ·simp only [Act.put, List.setIfInBounds_toArray, List.set_cons_zero, List.set_cons_succ, i64_w, i32_w]
             rfl
            refine one_ (i := 4) (N := some 51) #[true, true, true, true, true, false, false, false, false, false, false, false, false, false, false] rfl rfl (one_of HT_.out (by kernel_rfl)) (by decide) (fun K hK => ?_)
            refine goes_ Try.func40 (by kernel_rfl) rfl #[.slice (some ad513) y515.length co24, .agg #[.int .i64 ((rd_T49 x5_1 x42_2).f0), .int .i64 ((rd_T49 x5_1 x42_2).f1)]] (by rfl) rfl rfl gl_ ?_
            with_reducible refine (impl_Place_40.calls k2 _ _ y515 ((rd_T49 x5_1 x42_2).f0) ((rd_T49 x5_1 x42_2).f1) true _ ?side1 ?side2 A30.out).mono ?_
            (case side1 => repeat (first | exact (by repeat (first | (with_reducible exact HR518.out) | (with_reducible refine Kd.C_alloc ?_ _) | (with_reducible refine Kd.C_drewN ?_ _) | (with_reducible refine Kd.C_drew ?_) | exact HR518.out)) | (with_reducible refine Kd.C_alloc ?_ _) | (with_reducible refine Kd.C_drewN ?_ _) | (with_reducible refine Kd.C_drew ?_)))
            (case side2 => exact HC518.out)
            rintro e w37 ⟨rfl, hb⟩
            refine ⟨_, rfl, ?_⟩
            have n0_ := Aside0.mk (Kd.R_below (by (with_reducible repeat (first | apply Kd.R_alloc | apply Kd.R_drewN | apply Kd.R_drew)); exact HO_5.out) hb)
            have n1_ := Aside0.mk (Kd.R_below (by (with_reducible repeat (first | apply Kd.R_alloc | apply Kd.R_drewN | apply Kd.R_drew)); exact HO_6.out) hb)
            have n2_ := Aside0.mk (Kd.R_below (by (with_reducible repeat (first | apply Kd.R_alloc | apply Kd.R_drewN | apply Kd.R_drew)); exact HO_40.out) hb)
            have n3_ := Aside0.mk (blk_below (bk_ BK514.out) hb)
            have n4_ := Aside0.mk (Kd.C_below (by repeat (first | (with_reducible exact HR518.out) | (with_reducible refine Kd.C_alloc ?_ _) | (with_reducible refine Kd.C_drewN ?_ _) | (with_reducible refine Kd.C_drew ?_) | exact HR518.out)) hb)
            have n5_ := Aside0.mk (below_step (bwg_ GE514.out HB.out) hb)
            clear HO_5 HO_6 HO_40 BK514 HR518 HB
            have HO_5 := n0_; have HO_6 := n1_; have HO_40 := n2_; have BK514 := n3_; have HR518 := n4_; have HB := n5_
            clear n0_ n1_ n2_ n3_ n4_ n5_
            (try clear hb)
            (try clear hb2)
            (try clear hk)
            (try clear hi)
            refine hK.out _ _ ⟨(blk_cell BK514.out 0).trans rfl, (blk_cell BK514.out 1).trans rfl⟩ (fun hHeld => ?_)
            clear hK K
            refine norm_ (a' := ?_) ?_ ?_
            rotate_left
            ·show Act.put _ (some 51) _ = _
             simp only [Act.put, List.setIfInBounds_toArray, List.set_cons_zero, List.set_cons_succ, i64_w, i32_w]
             rfl
            refine pure_ (i := 5) (N := some 52) (v := ?_) (a' := ?_) #[true, true, true, true, true, true, false, false, false, false, false, false, false, false, false] rfl rfl (any_of HT_.out (by kernel_rfl)) (fun _ _ _ h => h) (Or.inl ⟨by rfl, ?_⟩) ?_ ?_
            rotate_left
            ·intro w'
             go_simp
             with_reducible rfl
            rotate_left
            ·simp only [Act.put, List.setIfInBounds_toArray, List.set_cons_zero, List.set_cons_succ, i64_w, i32_w]
             rfl
            refine pure_ (i := 6) (N := some 53) (v := ?_) (a' := ?_) #[true, true, true, true, true, true, true, false, false, false, false, false, false, false, false] rfl rfl (any_of HT_.out (by kernel_rfl)) (fun _ _ _ h => h) (Or.inl ⟨by rfl, ?_⟩) ?_ ?_
            rotate_left
            ·intro w'
             go_simp
             with_reducible rfl
            rotate_left
            ·simp only [Act.put, List.setIfInBounds_toArray, List.set_cons_zero, List.set_cons_succ, i64_w, i32_w]
             rfl
            refine pure_ (i := 7) (N := some 54) (v := undef) (a' := ?_) #[true, true, true, true, true, true, true, true, false, false, false, false, false, false, false] rfl rfl (any_of HT_.out (by kernel_rfl)) (fun _ _ _ h => h) (Or.inr ⟨by rfl, rfl⟩) ?_ ?_
            rotate_left
            ·simp only [Act.put, List.setIfInBounds_toArray, List.set_cons_zero, List.set_cons_succ, i64_w, i32_w]
             rfl
            refine pure_ (i := 8) (N := some 55) (v := undef) (a' := ?_) #[true, true, true, true, true, true, true, true, true, false, false, false, false, false, false] rfl rfl (any_of HT_.out (by kernel_rfl)) (fun _ _ _ h => h) (Or.inr ⟨by rfl, rfl⟩) ?_ ?_
            rotate_left
            ·simp only [Act.put, List.setIfInBounds_toArray, List.set_cons_zero, List.set_cons_succ, i64_w, i32_w]
             rfl
            refine pure_ (i := 9) (N := some 56) (v := undef) (a' := ?_) #[true, true, true, true, true, true, true, true, true, true, false, false, false, false, false] rfl rfl (any_of HT_.out (by kernel_rfl)) (fun _ _ _ h => h) (Or.inr ⟨by rfl, rfl⟩) ?_ ?_
            rotate_left
            ·simp only [Act.put, List.setIfInBounds_toArray, List.set_cons_zero, List.set_cons_succ, i64_w, i32_w]
             rfl
            refine pure_ (i := 10) (N := some 57) (v := undef) (a' := ?_) #[true, true, true, true, true, true, true, true, true, true, true, false, false, false, false] rfl rfl (any_of HT_.out (by kernel_rfl)) (fun _ _ _ h => h) (Or.inr ⟨by rfl, rfl⟩) ?_ ?_
            rotate_left
            ·simp only [Act.put, List.setIfInBounds_toArray, List.set_cons_zero, List.set_cons_succ, i64_w, i32_w]
             rfl
            refine pure_ (i := 11) (N := some 58) (v := undef) (a' := ?_) #[true, true, true, true, true, true, true, true, true, true, true, true, false, false, false] rfl rfl (any_of HT_.out (by kernel_rfl)) (fun _ _ _ h => h) (Or.inr ⟨by rfl, rfl⟩) ?_ ?_
            rotate_left
            ·simp only [Act.put, List.setIfInBounds_toArray, List.set_cons_zero, List.set_cons_succ, i64_w, i32_w]
             rfl
            refine pure_ (i := 12) (N := some 59) (v := undef) (a' := ?_) #[true, true, true, true, true, true, true, true, true, true, true, true, true, false, false] rfl rfl (any_of HT_.out (by kernel_rfl)) (fun _ _ _ h => h) (Or.inr ⟨by rfl, rfl⟩) ?_ ?_
            rotate_left
            ·simp only [Act.put, List.setIfInBounds_toArray, List.set_cons_zero, List.set_cons_succ, i64_w, i32_w]
             rfl
            refine pure_ (i := 13) (N := some 60) (v := undef) (a' := ?_) #[true, true, true, true, true, true, true, true, true, true, true, true, true, true, false] rfl rfl (any_of HT_.out (by kernel_rfl)) (fun _ _ _ h => h) (Or.inr ⟨by rfl, rfl⟩) ?_ ?_
            rotate_left
            ·simp only [Act.put, List.setIfInBounds_toArray, List.set_cons_zero, List.set_cons_succ, i64_w, i32_w]
             rfl
            refine pure_ (i := 14) (N := some 61) (v := ?_) (a' := ?_) #[true, true, true, true, true, true, true, true, true, true, true, true, true, true, true] rfl rfl (any_of HT_.out (by kernel_rfl)) (fun _ _ _ h => h) (Or.inl ⟨by rfl, ?_⟩) ?_ ?_
            rotate_left
            ·intro w'
             go_simp
             with_reducible rfl
            rotate_left
            ·simp only [Act.put, List.setIfInBounds_toArray, List.set_cons_zero, List.set_cons_succ, i64_w, i32_w]
             rfl
            refine done_ (done_of HT_.out (by kernel_rfl)) ?_
            try go_wp2
            go_roundg k2
            case measure => have := HK1.out; have := HK2.out; omega
            case rel => exact ⟨(x6_2), (wrap64 (x42_2 + 1)), (by first | rfl | (simp; done) | (simp [*]; done)), H', ⟨by have := HK1.out; have := HK2.out; omega⟩, ⟨by (with_reducible repeat (first | apply Kd.R_alloc | apply Kd.R_drewN | apply Kd.R_drew)); exact Kd.R_mono HO_5.out (fun _ hk => hk.1)⟩, ⟨by (with_reducible repeat (first | apply Kd.R_alloc | apply Kd.R_drewN | apply Kd.R_drew)); exact Kd.R_mono HO_6.out (fun _ hk => ⟨hk.1, hk.2.1⟩)⟩, ⟨by (with_reducible repeat (first | apply Kd.R_alloc | apply Kd.R_drewN | apply Kd.R_drew)); exact Kd.R_mono HO_40.out (fun _ hk => hk.1)⟩, ⟨bwg_ GE514.out HB.out⟩⟩
           ·replace c31 := Bool.eq_false_iff.mpr c31
            subst c31
            have H1 : (if 0 ≤ (wrap64 (x42_2 + 1)) then (if (wrap64 (x42_2 + 1)) ≤ (x5_1.length : Int) then ((impl_Place_40.f k2 (x5_1.drop ((wrap64 (x42_2 + 1)) : Int).toNat) ((rd_T49 x5_1 x42_2).f0) ((rd_T49 x5_1 x42_2).f1)).bind fun t524 => (if t524 = true then (impl_LooseEnds.l1 k2 x5_1 x6_2 x5_1 (x5_1.length : Int) (wrap64 (x42_2 + 1))) else (if x6_2.length < 8796093022208 then (impl_LooseEnds.l1 k2 x5_1 (x6_2 ++ [(⟨(rd_T49 x5_1 x42_2).f0, (rd_T49 x5_1 x42_2).f1⟩ : S49)]) x5_1 (x5_1.length : Int) (wrap64 (x42_2 + 1))) else (none)))) else (none)) else (none)) = some (r1, r2) := by rw [if_neg (show ¬ (false = true) by decide)] at H; exact H
            clear H
            have H := H1
            clear H1
            obtain ⟨ji38, hji38⟩ : ∃ j_ : Int, (wrap64 (x42_2 + 1)) = j_ := ⟨_, rfl⟩
            replace H : (if 0 ≤ (ji38) then (if (ji38) ≤ (x5_1.length : Int) then ((impl_Place_40.f k2 (x5_1.drop ((ji38) : Int).toNat) ((rd_T49 x5_1 x42_2).f0) ((rd_T49 x5_1 x42_2).f1)).bind fun t524 => (if t524 = true then (impl_LooseEnds.l1 k2 x5_1 x6_2 x5_1 (x5_1.length : Int) ji38) else (if x6_2.length < 8796093022208 then (impl_LooseEnds.l1 k2 x5_1 (x6_2 ++ [(⟨(rd_T49 x5_1 x42_2).f0, (rd_T49 x5_1 x42_2).f1⟩ : S49)]) x5_1 (x5_1.length : Int) ji38) else (none)))) else (none)) else (none)) = some (r1, r2) := by first | (rw [hji38] at H; exact H) | (simp only [hji38] at H ⊢; exact H)
            (try rw [hji38] at A30)
            have hji38w : (IntKind.i64.wrap (x42_2 + 1)) = ji38 := (i64_w _).trans hji38
            by_cases c39 : 0 ≤ (ji38)
            ·rw [if_pos c39] at H
             have c39b0 := eq_true c39
             have c39b1 : decide (0 ≤ (ji38)) = true := decide_eq_true c39
             clear c39
             by_cases c40 : (ji38) ≤ (x5_1.length : Int)
             ·rw [if_pos c40] at H
              have c40b0 := eq_true c40
              have c40b1 : decide ((ji38) ≤ (x5_1.length : Int)) = true := decide_eq_true c40
              clear c40
              obtain ⟨y520, hy520⟩ : ∃ y_ : List (S49), y_ = (x5_1.drop ((ji38) : Int).toNat) := ⟨_, rfl⟩
              replace H : ((impl_Place_40.f k2 y520 ((rd_T49 x5_1 x42_2).f0) ((rd_T49 x5_1 x42_2).f1)).bind fun t524 => (if t524 = true then (impl_LooseEnds.l1 k2 x5_1 x6_2 x5_1 (x5_1.length : Int) ji38) else (if x6_2.length < 8796093022208 then (impl_LooseEnds.l1 k2 x5_1 (x6_2 ++ [(⟨(rd_T49 x5_1 x42_2).f0, (rd_T49 x5_1 x42_2).f1⟩ : S49)]) x5_1 (x5_1.length : Int) ji38) else (none)))) = some (r1, r2) := by first | (rw [hy520]; with_reducible exact H) | (have H2_ := (Option.bind_some _ _).symm.trans H; rw [hy520]; with_reducible exact H2_) | (have H2_ := (Option.bind_some _ _).symm.trans H; with_reducible exact H2_) | with_reducible exact H | (rw [hy520]; exact H) | exact H
              have Ny520 := Aside0.mk hy520
              clear hy520
              replace H := Option.bind_eq_some_iff.mp H
              obtain ⟨t524, A410, H⟩ := H
              replace H : (if t524 = true then (impl_LooseEnds.l1 k2 x5_1 x6_2 x5_1 (x5_1.length : Int) ji38) else (if x6_2.length < 8796093022208 then (impl_LooseEnds.l1 k2 x5_1 (x6_2 ++ [(⟨(rd_T49 x5_1 x42_2).f0, (rd_T49 x5_1 x42_2).f1⟩ : S49)]) x5_1 (x5_1.length : Int) ji38) else (none))) = some (r1, r2) := H
              have A41 := Aside0.mk A410
              clear A410
              by_cases c42 : t524 = true
              ·subst c42
               have H1 : (impl_LooseEnds.l1 k2 x5_1 x6_2 x5_1 (x5_1.length : Int) ji38) = some (r1, r2) := by rw [if_pos rfl] at H; exact H
               clear H
               have H := H1
               clear H1
               have H' := Aside0.mk H
               clear H
               have p513 : 0 ≤ (x42_2 : Int) := od_
               have q513 : x42_2 < (x5_1.length : Int) := od_
               obtain ⟨ad513, e513, hx513_0, hx513_1⟩ := at_T49 (Kd.R_reads' HO_40.out).2.2 x42_2 p513 q513
               cases e513
               replace p513 := eq_true p513
               replace q513 := eq_true q513
               try go_wp2_with (first | ((with_reducible refine gate_dst (N := 10) rfl ?_); refine box_event ?hg (N := 10) ?hd (cs := #[.int .i64 0, .int .i64 0]) (t := 49) ?hr ?_; (case hd => rfl); (case hg => rfl); (case hr => first | (go_simp; done) | (go_simp; rfl)); intro gb514 hg w43 hbox hb; have n0_ := Aside0.mk (Kd.R_below (Kd.R_elderB (by (with_reducible repeat (first | apply Kd.R_alloc | apply Kd.R_drewN | apply Kd.R_drew)); exact HO_5.out) gb514 (Nat.le_of_eq hg.symm)) hb); have n1_ := Aside0.mk (Kd.R_below (Kd.R_elderB (by (with_reducible repeat (first | apply Kd.R_alloc | apply Kd.R_drewN | apply Kd.R_drew)); exact HO_6.out) gb514 (Nat.le_of_eq hg.symm)) hb); have n2_ := Aside0.mk (Kd.R_below (Kd.R_elderB (by (with_reducible repeat (first | apply Kd.R_alloc | apply Kd.R_drewN | apply Kd.R_drew)); exact HO_40.out) gb514 (Nat.le_of_eq hg.symm)) hb); have n3_ := Aside0.mk (below_step (bw_ HB.out) hb); have n4_ := Aside0.mk (hbox); have n5_ := Aside0.mk ((ge_ hg (bw_ HB.out))); have n6_ := Aside0.mk ((ge_ hg (bw_ HB.out))); clear HO_5; clear HO_6; clear HO_40; clear HB; have HO_5 := n0_; have HO_6 := n1_; have HO_40 := n2_; have HB := n3_; have BK514 := n4_; have GW514 := n5_; have GE514 := n6_; clear n0_ n1_ n2_ n3_ n4_ n5_ n6_; clear hb hbox hg; have hcz44_0 : w43.cell? ⟨gb514, 0, none⟩ = some (.int .i64 0) := (blk_cell BK514.out 0).trans rfl; have hcz44_1 : w43.cell? ⟨gb514, 1, none⟩ = some (.int .i64 0) := (blk_cell BK514.out 1).trans rfl; have hfz44_0 := blk_frozen BK514.out 0; have hfz44_1 := blk_frozen BK514.out 1))
               have n0_ : Aside0 (Kd.R k49 49 ((w43.setCell ⟨gb514, 0, none⟩ (.int .i64 ((rd_T49 x5_1 x42_2).f0))).setCell ⟨gb514, 1, none⟩ (.int .i64 ((rd_T49 x5_1 x42_2).f1))) w.heap.size (fun k_ => some k_ ≠ (u6 : Value).ownBlock ∧ k_ ≠ gb514) (.slice (some ad513) x5_1.length co24) x5_1) := ⟨by (with_reducible repeat (first | apply Kd.R_alloc | apply Kd.R_drewN | apply Kd.R_drew)); exact Kd.R_mono (Kd.R_far (p := ⟨gb514, 1, none⟩) (Kd.R_far (p := ⟨gb514, 0, none⟩) (Kd.R_mono HO_5.out (fun k_ hk => (⟨hk, hk.2⟩ : _ ∧ k_ ≠ gb514))) (fun _ hk => hk.2) (.int .i64 ((rd_T49 x5_1 x42_2).f0))) (fun _ hk => hk.2) (.int .i64 ((rd_T49 x5_1 x42_2).f1))) (fun _ hk => ⟨hk.1.1, hk.1.2⟩)⟩
               have n1_ : Aside0 (Kd.R k49 49 ((w43.setCell ⟨gb514, 0, none⟩ (.int .i64 ((rd_T49 x5_1 x42_2).f0))).setCell ⟨gb514, 1, none⟩ (.int .i64 ((rd_T49 x5_1 x42_2).f1))) w.heap.size (fun k_ => some k_ ≠ (.slice (some ad513) x5_1.length co24 : Value).ownBlock ∧ some k_ ≠ (.slice (some ad513) x5_1.length co24 : Value).ownBlock ∧ k_ ≠ gb514) u6 x6_2) := ⟨by (with_reducible repeat (first | apply Kd.R_alloc | apply Kd.R_drewN | apply Kd.R_drew)); exact Kd.R_mono (Kd.R_far (p := ⟨gb514, 1, none⟩) (Kd.R_far (p := ⟨gb514, 0, none⟩) (Kd.R_mono HO_6.out (fun k_ hk => (⟨hk, hk.2⟩ : _ ∧ k_ ≠ gb514))) (fun _ hk => hk.2) (.int .i64 ((rd_T49 x5_1 x42_2).f0))) (fun _ hk => hk.2) (.int .i64 ((rd_T49 x5_1 x42_2).f1))) (fun _ hk => ⟨hk.1.1.1, ⟨hk.1.1.2, hk.1.2⟩⟩)⟩
               have n2_ : Aside0 (Kd.R k49 49 ((w43.setCell ⟨gb514, 0, none⟩ (.int .i64 ((rd_T49 x5_1 x42_2).f0))).setCell ⟨gb514, 1, none⟩ (.int .i64 ((rd_T49 x5_1 x42_2).f1))) w.heap.size (fun k_ => some k_ ≠ (u6 : Value).ownBlock ∧ k_ ≠ gb514) (.slice (some ad513) x5_1.length co24) x5_1) := ⟨by (with_reducible repeat (first | apply Kd.R_alloc | apply Kd.R_drewN | apply Kd.R_drew)); exact Kd.R_mono (Kd.R_far (p := ⟨gb514, 1, none⟩) (Kd.R_far (p := ⟨gb514, 0, none⟩) (Kd.R_mono HO_40.out (fun k_ hk => (⟨hk, hk.2⟩ : _ ∧ k_ ≠ gb514))) (fun _ hk => hk.2) (.int .i64 ((rd_T49 x5_1 x42_2).f0))) (fun _ hk => hk.2) (.int .i64 ((rd_T49 x5_1 x42_2).f1))) (fun _ hk => ⟨hk.1.1, hk.1.2⟩)⟩
               have n3_ : Aside0 (((w43.setCell ⟨gb514, 0, none⟩ (.int .i64 ((rd_T49 x5_1 x42_2).f0))).setCell ⟨gb514, 1, none⟩ (.int .i64 ((rd_T49 x5_1 x42_2).f1))).heap[gb514]? = some (.cells #[.int .i64 ((rd_T49 x5_1 x42_2).f0), .int .i64 ((rd_T49 x5_1 x42_2).f1)] 49 (0, 0))) := ⟨by (with_reducible repeat (first | refine blk_drewN ?_ _ | refine blk_drew ?_ | refine blk_alloc ?_ _)); refine blk_put (cs := #[.int .i64 ((rd_T49 x5_1 x42_2).f0), .int .i64 0]) ?_ 1 _ rfl; (with_reducible repeat (first | refine blk_drewN ?_ _ | refine blk_drew ?_ | refine blk_alloc ?_ _)); refine blk_put (cs := #[.int .i64 0, .int .i64 0]) ?_ 0 _ rfl; (with_reducible repeat (first | refine blk_drewN ?_ _ | refine blk_drew ?_ | refine blk_alloc ?_ _)); exact BK514.out⟩
               have n4_ : Aside0 (Below w.heap.size w ((w43.setCell ⟨gb514, 0, none⟩ (.int .i64 ((rd_T49 x5_1 x42_2).f0))).setCell ⟨gb514, 1, none⟩ (.int .i64 ((rd_T49 x5_1 x42_2).f1)))) := ⟨bwg_ GE514.out HB.out⟩
               (try clear HO_5)
               (try clear HO_6)
               (try clear HO_40)
               (try clear BK514)
               (try clear HB)
               generalize ((w43.setCell ⟨gb514, 0, none⟩ (.int .i64 ((rd_T49 x5_1 x42_2).f0))).setCell ⟨gb514, 1, none⟩ (.int .i64 ((rd_T49 x5_1 x42_2).f1))) = w45 at n0_ n1_ n2_ n3_ n4_ ⊢
               have HO_5 := n0_; have HO_6 := n1_; have HO_40 := n2_; have BK514 := n3_; have HB := n4_
               clear n0_ n1_ n2_ n3_ n4_
               have n0_ := Aside0.mk (Kd.R_drew HO_5.out)
               have n1_ := Aside0.mk (Kd.R_drew HO_6.out)
               have n2_ := Aside0.mk (Kd.R_drew HO_40.out)
               have n3_ := Aside0.mk (blk_drew BK514.out)
               have n4_ := Aside0.mk (below_drew1 HB.out)
               clear HO_5 HO_6 HO_40 BK514 HB
               have HO_5 := n0_; have HO_6 := n1_; have HO_40 := n2_; have BK514 := n3_; have HB := n4_
               clear n0_ n1_ n2_ n3_ n4_
               have q47 : (x42_2 : Int) ≤ ((x5_1.length : Int) : Int) := od_
               obtain ⟨i047, hi047, _, hsz47, _⟩ := info_parts info49
               have hroom47 : x5_1.length ≤ co24 := (Kd.R_reads' HO_5.out).2.1
               have hC47 : Kd.C k49 _ (some ad513) x5_1.length x5_1 := (Kd.R_reads' HO_5.out).2.2
               have hcut47 := cut_to (P := Try.prog) 34 49 .i64 Try.underlying34 hi047 (some ad513) x5_1.length co24 x42_2 od_ q47 hroom47
               have hr47 := Kd.C_take (m := (x42_2 : Int).toNat) hC47 (by omega)
               have hy47 : y515.length = (x42_2 : Int).toNat := (by rw [Ny515.out, List.length_take]; omega)
               rw [← Ny515.out] at hr47
               rw [← hy47] at hcut47
               have HR518 := Aside0.mk hr47
               have HC518 := Aside0.mk (show y515.length ≤ co24 from by omega)
               clear hr47 hC47 hroom47 hi047 hsz47
               have KY47 := Aside0.mk hy47
               clear hy47
               have KL47 := Aside0.mk (show (x42_2 : Int).toNat ≤ x5_1.length from by omega)
               replace q47 := eq_true q47
               refine start_ (n := 15) (S := fun w' => w'.cell? ⟨gb514, 0, none⟩ = some (.int .i64 ((rd_T49 x5_1 x42_2).f0)) ∧ w'.cell? ⟨gb514, 1, none⟩ = some (.int .i64 ((rd_T49 x5_1 x42_2).f1))) (ds := []) #[false, false, false, false, false, false, false, false, false, false, false, false, false, false, false] (by kernel_rfl) rfl rfl ⟨(blk_cell BK514.out 0).trans rfl, (blk_cell BK514.out 1).trans rfl⟩ (fun hHeld => ?_); refine with_tabW impl_LooseEnds.tab14 impl_LooseEnds.bits14 (fun HT_ HW_ => ?_)
               generalize w45.drew = w46 at HO_5 HO_6 HO_40 BK514 HB HR518 hHeld ⊢
               refine pure_ (i := 0) (N := some 47) (v := ?_) (a' := ?_) #[true, false, false, false, false, false, false, false, false, false, false, false, false, false, false] rfl rfl (any_of HT_.out (by kernel_rfl)) (fun _ _ _ h => h) (Or.inl ⟨by rfl, ?_⟩) ?_ ?_
               rotate_left
               ·intro w'
                go_simp
                with_reducible rfl
               rotate_left
               ·simp only [Act.put, List.setIfInBounds_toArray, List.set_cons_zero, List.set_cons_succ, i64_w, i32_w]
                rfl
               refine pure_ (i := 1) (N := some 48) (v := ?_) (a' := ?_) #[true, true, false, false, false, false, false, false, false, false, false, false, false, false, false] rfl rfl (any_of HT_.out (by kernel_rfl)) (fun _ _ _ h => h) (Or.inl ⟨by rfl, ?_⟩) ?_ ?_
               rotate_left
               ·intro w'
                go_simp
                with_reducible rfl
               rotate_left
               ·simp only [Act.put, List.setIfInBounds_toArray, List.set_cons_zero, List.set_cons_succ, i64_w, i32_w]
                rfl
               refine pure_ (i := 2) (N := some 49) (v := ?_) (a' := ?_) #[true, true, true, false, false, false, false, false, false, false, false, false, false, false, false] rfl rfl (any_of HT_.out (by kernel_rfl)) (fun _ _ _ h => h) (Or.inl ⟨by rfl, ?_⟩) ?_ ?_
               rotate_left
               ·intro w'
                go_simp
                with_reducible rfl
               rotate_left
               ·simp only [Act.put, List.setIfInBounds_toArray, List.set_cons_zero, List.set_cons_succ, i64_w, i32_w]
                rfl
               refine take_ (i := 3) (N := some 50) (v := ?_) (a' := ?_) #[true, true, true, true, false, false, false, false, false, false, false, false, false, false, false] rfl rfl (take_ofW HT_.out HW_.out (by kernel_rfl)) (fun _ _ _ h => h) (Or.inl ⟨by rfl, ?_⟩) hHeld ?_ ?_
               rotate_left
               ·rintro w' ⟨s0, s1⟩
                go_simp
                with_reducible rfl
               rotate_left
               ·simp only [Act.put, List.setIfInBounds_toArray, List.set_cons_zero, List.set_cons_succ, i64_w, i32_w]
                rfl
               refine one_ (i := 4) (N := some 51) #[true, true, true, true, true, false, false, false, false, false, false, false, false, false, false] rfl rfl (one_of HT_.out (by kernel_rfl)) (by decide) (fun K hK => ?_)
               refine goes_ Try.func40 (by kernel_rfl) rfl #[.slice (some ad513) y515.length co24, .agg #[.int .i64 ((rd_T49 x5_1 x42_2).f0), .int .i64 ((rd_T49 x5_1 x42_2).f1)]] (by rfl) rfl rfl gl_ ?_
               with_reducible refine (impl_Place_40.calls k2 _ _ y515 ((rd_T49 x5_1 x42_2).f0) ((rd_T49 x5_1 x42_2).f1) false _ ?side1 ?side2 A30.out).mono ?_
               (case side1 => repeat (first | exact (by repeat (first | (with_reducible exact HR518.out) | (with_reducible refine Kd.C_alloc ?_ _) | (with_reducible refine Kd.C_drewN ?_ _) | (with_reducible refine Kd.C_drew ?_) | exact HR518.out)) | (with_reducible refine Kd.C_alloc ?_ _) | (with_reducible refine Kd.C_drewN ?_ _) | (with_reducible refine Kd.C_drew ?_)))
               (case side2 => exact HC518.out)
               rintro e w48 ⟨rfl, hb⟩
               refine ⟨_, rfl, ?_⟩
               have n0_ := Aside0.mk (Kd.R_below (by (with_reducible repeat (first | apply Kd.R_alloc | apply Kd.R_drewN | apply Kd.R_drew)); exact HO_5.out) hb)
               have n1_ := Aside0.mk (Kd.R_below (by (with_reducible repeat (first | apply Kd.R_alloc | apply Kd.R_drewN | apply Kd.R_drew)); exact HO_6.out) hb)
               have n2_ := Aside0.mk (Kd.R_below (by (with_reducible repeat (first | apply Kd.R_alloc | apply Kd.R_drewN | apply Kd.R_drew)); exact HO_40.out) hb)
               have n3_ := Aside0.mk (blk_below (bk_ BK514.out) hb)
               have n4_ := Aside0.mk (Kd.C_below (by repeat (first | (with_reducible exact HR518.out) | (with_reducible refine Kd.C_alloc ?_ _) | (with_reducible refine Kd.C_drewN ?_ _) | (with_reducible refine Kd.C_drew ?_) | exact HR518.out)) hb)
               have n5_ := Aside0.mk (below_step (bwg_ GE514.out HB.out) hb)
               clear HO_5 HO_6 HO_40 BK514 HR518 HB
               have HO_5 := n0_; have HO_6 := n1_; have HO_40 := n2_; have BK514 := n3_; have HR518 := n4_; have HB := n5_
               clear n0_ n1_ n2_ n3_ n4_ n5_
               (try clear hb)
               (try clear hb2)
               (try clear hk)
               (try clear hi)
               have q49 : ((ji38) : Int) ≤ ((x5_1.length : Int) : Int) := od_
               obtain ⟨i049, hi049, _, hsz49, _⟩ := info_parts info49
               have hroom49 : x5_1.length ≤ co24 := (Kd.R_reads' HO_5.out).2.1
               have hC49 : Kd.C k49 _ (some ad513) x5_1.length x5_1 := (Kd.R_reads' HO_5.out).2.2
               have q049 : (0 : Int) ≤ ((ji38) : Int) := od_
               have hcut49 := cut_from (P := Try.prog) 34 49 .i64 Try.underlying34 hi049 2 hsz49 (some ad513) x5_1.length co24 (ji38) q049 q49
               have hr49 := Kd.C_drop (m := ((ji38) : Int).toNat) (c := co24) hC49 (by omega) hroom49
               obtain ⟨A49, hA49⟩ : ∃ A_z, A_z = (if co24 = ((ji38) : Int).toNat then (some ad513) else ((some ad513) : Option Addr).map (·.add (((ji38) : Int).toNat * 2))) := ⟨_, rfl⟩
               obtain ⟨c49, hc49⟩ : ∃ c_z, c_z = co24 - ((ji38) : Int).toNat := ⟨_, rfl⟩
               have hy49 : y520.length = x5_1.length - ((ji38) : Int).toNat := (by rw [Ny520.out, List.length_drop] <;> omega)
               rw [show (x5_1).drop ((ji38) : Int).toNat = y520 from Ny520.out.symm] at hr49
               replace hr49 : Kd.C k49 _ A49 y520.length y520 := (by rw [hA49]; exact hr49)
               rw [← hy49, ← hA49, ← hc49] at hcut49
               have HR523 := Aside0.mk hr49
               have HC523 := Aside0.mk (show y520.length ≤ c49 from by rw [hy49, hc49]; exact Nat.sub_le_sub_right hroom49 _)
               clear hr49 hC49 hroom49 hi049 hsz49 hc49
               have KY49 := Aside0.mk hy49
               have KA49 := Aside0.mk hA49
               clear hy49 hA49
               have KL49 := Aside0.mk (show ((ji38) : Int).toNat ≤ x5_1.length from by omega)
               replace q49 := eq_true q49
               refine hK.out _ _ ⟨(blk_cell BK514.out 0).trans rfl, (blk_cell BK514.out 1).trans rfl⟩ (fun hHeld => ?_)
               clear hK K
               refine norm_ (a' := ?_) ?_ ?_
               rotate_left
               ·show Act.put _ (some 51) _ = _
                simp only [Act.put, List.setIfInBounds_toArray, List.set_cons_zero, List.set_cons_succ, i64_w, i32_w]
                rfl
               refine pure_ (i := 5) (N := some 52) (v := ?_) (a' := ?_) #[true, true, true, true, true, true, false, false, false, false, false, false, false, false, false] rfl rfl (any_of HT_.out (by kernel_rfl)) (fun _ _ _ h => h) (Or.inl ⟨by rfl, ?_⟩) ?_ ?_
               rotate_left
               ·intro w'
                go_simp
                with_reducible rfl
               rotate_left
               ·simp only [Act.put, List.setIfInBounds_toArray, List.set_cons_zero, List.set_cons_succ, i64_w, i32_w]
                rfl
               refine pure_ (i := 6) (N := some 53) (v := ?_) (a' := ?_) #[true, true, true, true, true, true, true, false, false, false, false, false, false, false, false] rfl rfl (any_of HT_.out (by kernel_rfl)) (fun _ _ _ h => h) (Or.inl ⟨by rfl, ?_⟩) ?_ ?_
               rotate_left
               ·intro w'
                go_simp
                with_reducible rfl
               rotate_left
               ·simp only [Act.put, List.setIfInBounds_toArray, List.set_cons_zero, List.set_cons_succ, i64_w, i32_w]
                rfl
               refine pure_ (i := 7) (N := some 54) (v := ?_) (a' := ?_) #[true, true, true, true, true, true, true, true, false, false, false, false, false, false, false] rfl rfl (any_of HT_.out (by kernel_rfl)) (fun _ _ _ h => h) (Or.inl ⟨by rfl, ?_⟩) ?_ ?_
               rotate_left
               ·intro w'
                go_simp
                with_reducible rfl
               rotate_left
               ·simp only [Act.put, List.setIfInBounds_toArray, List.set_cons_zero, List.set_cons_succ, i64_w, i32_w]
                rfl
               refine pure_ (i := 8) (N := some 55) (v := ?_) (a' := ?_) #[true, true, true, true, true, true, true, true, true, false, false, false, false, false, false] rfl rfl (any_of HT_.out (by kernel_rfl)) (fun _ _ _ h => h) (Or.inl ⟨by rfl, ?_⟩) ?_ ?_
               rotate_left
               ·intro w'
                go_simp
                with_reducible rfl
               rotate_left
               ·simp only [Act.put, List.setIfInBounds_toArray, List.set_cons_zero, List.set_cons_succ, i64_w, i32_w]
                rfl
               refine pure_ (i := 9) (N := some 56) (v := ?_) (a' := ?_) #[true, true, true, true, true, true, true, true, true, true, false, false, false, false, false] rfl rfl (any_of HT_.out (by kernel_rfl)) (fun _ _ _ h => h) (Or.inl ⟨by rfl, ?_⟩) ?_ ?_
               rotate_left
               ·intro w'
                go_simp
                with_reducible rfl
               rotate_left
               ·simp only [Act.put, List.setIfInBounds_toArray, List.set_cons_zero, List.set_cons_succ, i64_w, i32_w]
                rfl
               refine pure_ (i := 10) (N := some 57) (v := ?_) (a' := ?_) #[true, true, true, true, true, true, true, true, true, true, true, false, false, false, false] rfl rfl (any_of HT_.out (by kernel_rfl)) (fun _ _ _ h => h) (Or.inl ⟨by rfl, ?_⟩) ?_ ?_
               rotate_left
               ·intro w'
                go_simp
                with_reducible rfl
               rotate_left
               ·simp only [Act.put, List.setIfInBounds_toArray, List.set_cons_zero, List.set_cons_succ, i64_w, i32_w]
                rfl
               refine take_ (i := 11) (N := some 58) (v := ?_) (a' := ?_) #[true, true, true, true, true, true, true, true, true, true, true, true, false, false, false] rfl rfl (take_ofW HT_.out HW_.out (by kernel_rfl)) (fun _ _ _ h => h) (Or.inl ⟨by rfl, ?_⟩) hHeld ?_ ?_
               rotate_left
               ·rintro w' ⟨s0, s1⟩
                go_simp
                with_reducible rfl
               rotate_left
               ·simp only [Act.put, List.setIfInBounds_toArray, List.set_cons_zero, List.set_cons_succ, i64_w, i32_w]
                rfl
               refine one_ (i := 12) (N := some 59) #[true, true, true, true, true, true, true, true, true, true, true, true, true, false, false] rfl rfl (one_of HT_.out (by kernel_rfl)) (by decide) (fun K hK => ?_)
               refine goes_ Try.func40 (by kernel_rfl) rfl #[.slice A49 y520.length c49, .agg #[.int .i64 ((rd_T49 x5_1 x42_2).f0), .int .i64 ((rd_T49 x5_1 x42_2).f1)]] (by rfl) rfl rfl gl_ ?_
               with_reducible refine (impl_Place_40.calls k2 _ _ y520 ((rd_T49 x5_1 x42_2).f0) ((rd_T49 x5_1 x42_2).f1) true _ ?side1 ?side2 A41.out).mono ?_
               (case side1 => repeat (first | exact (by repeat (first | (with_reducible exact HR523.out) | (with_reducible refine Kd.C_alloc ?_ _) | (with_reducible refine Kd.C_drewN ?_ _) | (with_reducible refine Kd.C_drew ?_) | exact HR523.out)) | (with_reducible refine Kd.C_alloc ?_ _) | (with_reducible refine Kd.C_drewN ?_ _) | (with_reducible refine Kd.C_drew ?_)))
               (case side2 => exact HC523.out)
               rintro e w50 ⟨rfl, hb⟩
               refine ⟨_, rfl, ?_⟩
               have n0_ := Aside0.mk (Kd.R_below (by (with_reducible repeat (first | apply Kd.R_alloc | apply Kd.R_drewN | apply Kd.R_drew)); exact HO_5.out) hb)
               have n1_ := Aside0.mk (Kd.R_below (by (with_reducible repeat (first | apply Kd.R_alloc | apply Kd.R_drewN | apply Kd.R_drew)); exact HO_6.out) hb)
               have n2_ := Aside0.mk (Kd.R_below (by (with_reducible repeat (first | apply Kd.R_alloc | apply Kd.R_drewN | apply Kd.R_drew)); exact HO_40.out) hb)
               have n3_ := Aside0.mk (blk_below (bk_ BK514.out) hb)
               have n4_ := Aside0.mk (Kd.C_below (by repeat (first | (with_reducible exact HR518.out) | (with_reducible refine Kd.C_alloc ?_ _) | (with_reducible refine Kd.C_drewN ?_ _) | (with_reducible refine Kd.C_drew ?_) | exact HR518.out)) hb)
               have n5_ := Aside0.mk (Kd.C_below (by repeat (first | (with_reducible exact HR523.out) | (with_reducible refine Kd.C_alloc ?_ _) | (with_reducible refine Kd.C_drewN ?_ _) | (with_reducible refine Kd.C_drew ?_) | exact HR523.out)) hb)
               have n6_ := Aside0.mk (below_step (bwg_ GE514.out HB.out) hb)
               clear HO_5 HO_6 HO_40 BK514 HR518 HR523 HB
               have HO_5 := n0_; have HO_6 := n1_; have HO_40 := n2_; have BK514 := n3_; have HR518 := n4_; have HR523 := n5_; have HB := n6_
               clear n0_ n1_ n2_ n3_ n4_ n5_ n6_
               (try clear hb)
               (try clear hb2)
               (try clear hk)
               (try clear hi)
               refine hK.out _ _ ⟨(blk_cell BK514.out 0).trans rfl, (blk_cell BK514.out 1).trans rfl⟩ (fun hHeld => ?_)
               clear hK K
               refine norm_ (a' := ?_) ?_ ?_
               rotate_left
               ·show Act.put _ (some 59) _ = _
                simp only [Act.put, List.setIfInBounds_toArray, List.set_cons_zero, List.set_cons_succ, i64_w, i32_w]
                rfl
               refine pure_ (i := 13) (N := some 60) (v := ?_) (a' := ?_) #[true, true, true, true, true, true, true, true, true, true, true, true, true, true, false] rfl rfl (any_of HT_.out (by kernel_rfl)) (fun _ _ _ h => h) (Or.inl ⟨by rfl, ?_⟩) ?_ ?_
               rotate_left
               ·intro w'
                go_simp
                with_reducible rfl
               rotate_left
               ·simp only [Act.put, List.setIfInBounds_toArray, List.set_cons_zero, List.set_cons_succ, i64_w, i32_w]
                rfl
               refine pure_ (i := 14) (N := some 61) (v := ?_) (a' := ?_) #[true, true, true, true, true, true, true, true, true, true, true, true, true, true, true] rfl rfl (any_of HT_.out (by kernel_rfl)) (fun _ _ _ h => h) (Or.inl ⟨by rfl, ?_⟩) ?_ ?_
               rotate_left
               ·intro w'
                go_simp
                with_reducible rfl
               rotate_left
               ·simp only [Act.put, List.setIfInBounds_toArray, List.set_cons_zero, List.set_cons_succ, i64_w, i32_w]
                rfl
               refine done_ (done_of HT_.out (by kernel_rfl)) ?_
               try go_wp2
               go_roundg k2
               case measure => have := HK1.out; have := HK2.out; omega
               case rel => exact ⟨(x6_2), (ji38), (by first | rfl | (simp; done) | (simp only [← hji38] <;> (first | rfl | simp)) | (simp [*]; done)), H', ⟨by have := HK1.out; have := HK2.out; omega⟩, ⟨by (with_reducible repeat (first | apply Kd.R_alloc | apply Kd.R_drewN | apply Kd.R_drew)); exact Kd.R_mono HO_5.out (fun _ hk => hk.1)⟩, ⟨by (with_reducible repeat (first | apply Kd.R_alloc | apply Kd.R_drewN | apply Kd.R_drew)); exact Kd.R_mono HO_6.out (fun _ hk => ⟨hk.1, hk.2.1⟩)⟩, ⟨by (with_reducible repeat (first | apply Kd.R_alloc | apply Kd.R_drewN | apply Kd.R_drew)); exact Kd.R_mono HO_40.out (fun _ hk => hk.1)⟩, ⟨bwg_ GE514.out HB.out⟩⟩
              ·replace c42 := Bool.eq_false_iff.mpr c42
               subst c42
               have H1 : (if x6_2.length < 8796093022208 then (impl_LooseEnds.l1 k2 x5_1 (x6_2 ++ [(⟨(rd_T49 x5_1 x42_2).f0, (rd_T49 x5_1 x42_2).f1⟩ : S49)]) x5_1 (x5_1.length : Int) ji38) else (none)) = some (r1, r2) := by rw [if_neg (show ¬ (false = true) by decide)] at H; exact H
               clear H
               have H := H1
               clear H1
               by_cases c51 : x6_2.length < 8796093022208
               ·rw [if_pos c51] at H
                have LMc51 := Aside0.mk c51
                clear c51
                obtain ⟨y525, hy525⟩ : ∃ y_ : List (S49), y_ = (x6_2 ++ [(⟨(rd_T49 x5_1 x42_2).f0, (rd_T49 x5_1 x42_2).f1⟩ : S49)]) := ⟨_, rfl⟩
                replace H : (impl_LooseEnds.l1 k2 x5_1 y525 x5_1 (x5_1.length : Int) ji38) = some (r1, r2) := by first | (rw [hy525]; with_reducible exact H) | (have H2_ := (Option.bind_some _ _).symm.trans H; rw [hy525]; with_reducible exact H2_) | (have H2_ := (Option.bind_some _ _).symm.trans H; with_reducible exact H2_) | with_reducible exact H | (rw [hy525]; exact H) | exact H
                have Ny525 := Aside0.mk hy525
                clear hy525
                have H' := Aside0.mk H
                clear H
                have p513 : 0 ≤ (x42_2 : Int) := od_
                have q513 : x42_2 < (x5_1.length : Int) := od_
                obtain ⟨ad513, e513, hx513_0, hx513_1⟩ := at_T49 (Kd.R_reads' HO_40.out).2.2 x42_2 p513 q513
                cases e513
                replace p513 := eq_true p513
                replace q513 := eq_true q513
                try go_wp2_with (first | ((with_reducible refine gate_dst (N := 10) rfl ?_); refine box_event ?hg (N := 10) ?hd (cs := #[.int .i64 0, .int .i64 0]) (t := 49) ?hr ?_; (case hd => rfl); (case hg => rfl); (case hr => first | (go_simp; done) | (go_simp; rfl)); intro gb514 hg w52 hbox hb; have n0_ := Aside0.mk (Kd.R_below (Kd.R_elderB (by (with_reducible repeat (first | apply Kd.R_alloc | apply Kd.R_drewN | apply Kd.R_drew)); exact HO_5.out) gb514 (Nat.le_of_eq hg.symm)) hb); have n1_ := Aside0.mk (Kd.R_below (Kd.R_elderB (by (with_reducible repeat (first | apply Kd.R_alloc | apply Kd.R_drewN | apply Kd.R_drew)); exact HO_6.out) gb514 (Nat.le_of_eq hg.symm)) hb); have n2_ := Aside0.mk (Kd.R_below (Kd.R_elderB (by (with_reducible repeat (first | apply Kd.R_alloc | apply Kd.R_drewN | apply Kd.R_drew)); exact HO_40.out) gb514 (Nat.le_of_eq hg.symm)) hb); have n3_ := Aside0.mk (below_step (bw_ HB.out) hb); have n4_ := Aside0.mk (hbox); have n5_ := Aside0.mk ((ge_ hg (bw_ HB.out))); have n6_ := Aside0.mk ((ge_ hg (bw_ HB.out))); clear HO_5; clear HO_6; clear HO_40; clear HB; have HO_5 := n0_; have HO_6 := n1_; have HO_40 := n2_; have HB := n3_; have BK514 := n4_; have GW514 := n5_; have GE514 := n6_; clear n0_ n1_ n2_ n3_ n4_ n5_ n6_; clear hb hbox hg; have hcz53_0 : w52.cell? ⟨gb514, 0, none⟩ = some (.int .i64 0) := (blk_cell BK514.out 0).trans rfl; have hcz53_1 : w52.cell? ⟨gb514, 1, none⟩ = some (.int .i64 0) := (blk_cell BK514.out 1).trans rfl; have hfz53_0 := blk_frozen BK514.out 0; have hfz53_1 := blk_frozen BK514.out 1))
                have n0_ : Aside0 (Kd.R k49 49 ((w52.setCell ⟨gb514, 0, none⟩ (.int .i64 ((rd_T49 x5_1 x42_2).f0))).setCell ⟨gb514, 1, none⟩ (.int .i64 ((rd_T49 x5_1 x42_2).f1))) w.heap.size (fun k_ => some k_ ≠ (u6 : Value).ownBlock ∧ k_ ≠ gb514) (.slice (some ad513) x5_1.length co24) x5_1) := ⟨by (with_reducible repeat (first | apply Kd.R_alloc | apply Kd.R_drewN | apply Kd.R_drew)); exact Kd.R_mono (Kd.R_far (p := ⟨gb514, 1, none⟩) (Kd.R_far (p := ⟨gb514, 0, none⟩) (Kd.R_mono HO_5.out (fun k_ hk => (⟨hk, hk.2⟩ : _ ∧ k_ ≠ gb514))) (fun _ hk => hk.2) (.int .i64 ((rd_T49 x5_1 x42_2).f0))) (fun _ hk => hk.2) (.int .i64 ((rd_T49 x5_1 x42_2).f1))) (fun _ hk => ⟨hk.1.1, hk.1.2⟩)⟩
                have n1_ : Aside0 (Kd.R k49 49 ((w52.setCell ⟨gb514, 0, none⟩ (.int .i64 ((rd_T49 x5_1 x42_2).f0))).setCell ⟨gb514, 1, none⟩ (.int .i64 ((rd_T49 x5_1 x42_2).f1))) w.heap.size (fun k_ => some k_ ≠ (.slice (some ad513) x5_1.length co24 : Value).ownBlock ∧ some k_ ≠ (.slice (some ad513) x5_1.length co24 : Value).ownBlock ∧ k_ ≠ gb514) u6 x6_2) := ⟨by (with_reducible repeat (first | apply Kd.R_alloc | apply Kd.R_drewN | apply Kd.R_drew)); exact Kd.R_mono (Kd.R_far (p := ⟨gb514, 1, none⟩) (Kd.R_far (p := ⟨gb514, 0, none⟩) (Kd.R_mono HO_6.out (fun k_ hk => (⟨hk, hk.2⟩ : _ ∧ k_ ≠ gb514))) (fun _ hk => hk.2) (.int .i64 ((rd_T49 x5_1 x42_2).f0))) (fun _ hk => hk.2) (.int .i64 ((rd_T49 x5_1 x42_2).f1))) (fun _ hk => ⟨hk.1.1.1, ⟨hk.1.1.2, hk.1.2⟩⟩)⟩
                have n2_ : Aside0 (Kd.R k49 49 ((w52.setCell ⟨gb514, 0, none⟩ (.int .i64 ((rd_T49 x5_1 x42_2).f0))).setCell ⟨gb514, 1, none⟩ (.int .i64 ((rd_T49 x5_1 x42_2).f1))) w.heap.size (fun k_ => some k_ ≠ (u6 : Value).ownBlock ∧ k_ ≠ gb514) (.slice (some ad513) x5_1.length co24) x5_1) := ⟨by (with_reducible repeat (first | apply Kd.R_alloc | apply Kd.R_drewN | apply Kd.R_drew)); exact Kd.R_mono (Kd.R_far (p := ⟨gb514, 1, none⟩) (Kd.R_far (p := ⟨gb514, 0, none⟩) (Kd.R_mono HO_40.out (fun k_ hk => (⟨hk, hk.2⟩ : _ ∧ k_ ≠ gb514))) (fun _ hk => hk.2) (.int .i64 ((rd_T49 x5_1 x42_2).f0))) (fun _ hk => hk.2) (.int .i64 ((rd_T49 x5_1 x42_2).f1))) (fun _ hk => ⟨hk.1.1, hk.1.2⟩)⟩
                have n3_ : Aside0 (((w52.setCell ⟨gb514, 0, none⟩ (.int .i64 ((rd_T49 x5_1 x42_2).f0))).setCell ⟨gb514, 1, none⟩ (.int .i64 ((rd_T49 x5_1 x42_2).f1))).heap[gb514]? = some (.cells #[.int .i64 ((rd_T49 x5_1 x42_2).f0), .int .i64 ((rd_T49 x5_1 x42_2).f1)] 49 (0, 0))) := ⟨by (with_reducible repeat (first | refine blk_drewN ?_ _ | refine blk_drew ?_ | refine blk_alloc ?_ _)); refine blk_put (cs := #[.int .i64 ((rd_T49 x5_1 x42_2).f0), .int .i64 0]) ?_ 1 _ rfl; (with_reducible repeat (first | refine blk_drewN ?_ _ | refine blk_drew ?_ | refine blk_alloc ?_ _)); refine blk_put (cs := #[.int .i64 0, .int .i64 0]) ?_ 0 _ rfl; (with_reducible repeat (first | refine blk_drewN ?_ _ | refine blk_drew ?_ | refine blk_alloc ?_ _)); exact BK514.out⟩
                have n4_ : Aside0 (Below w.heap.size w ((w52.setCell ⟨gb514, 0, none⟩ (.int .i64 ((rd_T49 x5_1 x42_2).f0))).setCell ⟨gb514, 1, none⟩ (.int .i64 ((rd_T49 x5_1 x42_2).f1)))) := ⟨bwg_ GE514.out HB.out⟩
                (try clear HO_5)
                (try clear HO_6)
                (try clear HO_40)
                (try clear BK514)
                (try clear HB)
                generalize ((w52.setCell ⟨gb514, 0, none⟩ (.int .i64 ((rd_T49 x5_1 x42_2).f0))).setCell ⟨gb514, 1, none⟩ (.int .i64 ((rd_T49 x5_1 x42_2).f1))) = w54 at n0_ n1_ n2_ n3_ n4_ ⊢
                have HO_5 := n0_; have HO_6 := n1_; have HO_40 := n2_; have BK514 := n3_; have HB := n4_
                clear n0_ n1_ n2_ n3_ n4_
                have n0_ := Aside0.mk (Kd.R_drew HO_5.out)
                have n1_ := Aside0.mk (Kd.R_drew HO_6.out)
                have n2_ := Aside0.mk (Kd.R_drew HO_40.out)
                have n3_ := Aside0.mk (blk_drew BK514.out)
                have n4_ := Aside0.mk (below_drew1 HB.out)
                clear HO_5 HO_6 HO_40 BK514 HB
                have HO_5 := n0_; have HO_6 := n1_; have HO_40 := n2_; have BK514 := n3_; have HB := n4_
                clear n0_ n1_ n2_ n3_ n4_
                have q56 : (x42_2 : Int) ≤ ((x5_1.length : Int) : Int) := od_
                obtain ⟨i056, hi056, _, hsz56, _⟩ := info_parts info49
                have hroom56 : x5_1.length ≤ co24 := (Kd.R_reads' HO_5.out).2.1
                have hC56 : Kd.C k49 _ (some ad513) x5_1.length x5_1 := (Kd.R_reads' HO_5.out).2.2
                have hcut56 := cut_to (P := Try.prog) 34 49 .i64 Try.underlying34 hi056 (some ad513) x5_1.length co24 x42_2 od_ q56 hroom56
                have hr56 := Kd.C_take (m := (x42_2 : Int).toNat) hC56 (by omega)
                have hy56 : y515.length = (x42_2 : Int).toNat := (by rw [Ny515.out, List.length_take]; omega)
                rw [← Ny515.out] at hr56
                rw [← hy56] at hcut56
                have HR518 := Aside0.mk hr56
                have HC518 := Aside0.mk (show y515.length ≤ co24 from by omega)
                clear hr56 hC56 hroom56 hi056 hsz56
                have KY56 := Aside0.mk hy56
                clear hy56
                have KL56 := Aside0.mk (show (x42_2 : Int).toNat ≤ x5_1.length from by omega)
                replace q56 := eq_true q56
                refine start_ (n := 15) (S := fun w' => w'.cell? ⟨gb514, 0, none⟩ = some (.int .i64 ((rd_T49 x5_1 x42_2).f0)) ∧ w'.cell? ⟨gb514, 1, none⟩ = some (.int .i64 ((rd_T49 x5_1 x42_2).f1))) (ds := []) #[false, false, false, false, false, false, false, false, false, false, false, false, false, false, false] (by kernel_rfl) rfl rfl ⟨(blk_cell BK514.out 0).trans rfl, (blk_cell BK514.out 1).trans rfl⟩ (fun hHeld => ?_); refine with_tabW impl_LooseEnds.tab14 impl_LooseEnds.bits14 (fun HT_ HW_ => ?_)
                generalize w54.drew = w55 at HO_5 HO_6 HO_40 BK514 HB HR518 hHeld ⊢
                refine pure_ (i := 0) (N := some 47) (v := ?_) (a' := ?_) #[true, false, false, false, false, false, false, false, false, false, false, false, false, false, false] rfl rfl (any_of HT_.out (by kernel_rfl)) (fun _ _ _ h => h) (Or.inl ⟨by rfl, ?_⟩) ?_ ?_
                rotate_left
                ·intro w'
                 go_simp
                 with_reducible rfl
                rotate_left
                ·simp only [Act.put, List.setIfInBounds_toArray, List.set_cons_zero, List.set_cons_succ, i64_w, i32_w]
                 rfl
                refine pure_ (i := 1) (N := some 48) (v := ?_) (a' := ?_) #[true, true, false, false, false, false, false, false, false, false, false, false, false, false, false] rfl rfl (any_of HT_.out (by kernel_rfl)) (fun _ _ _ h => h) (Or.inl ⟨by rfl, ?_⟩) ?_ ?_
                rotate_left
                ·intro w'
                 go_simp
                 with_reducible rfl
                rotate_left
                ·simp only [Act.put, List.setIfInBounds_toArray, List.set_cons_zero, List.set_cons_succ, i64_w, i32_w]
                 rfl
                refine pure_ (i := 2) (N := some 49) (v := ?_) (a' := ?_) #[true, true, true, false, false, false, false, false, false, false, false, false, false, false, false] rfl rfl (any_of HT_.out (by kernel_rfl)) (fun _ _ _ h => h) (Or.inl ⟨by rfl, ?_⟩) ?_ ?_
                rotate_left
                ·intro w'
                 go_simp
                 with_reducible rfl
                rotate_left
                ·simp only [Act.put, List.setIfInBounds_toArray, List.set_cons_zero, List.set_cons_succ, i64_w, i32_w]
                 rfl
                refine take_ (i := 3) (N := some 50) (v := ?_) (a' := ?_) #[true, true, true, true, false, false, false, false, false, false, false, false, false, false, false] rfl rfl (take_ofW HT_.out HW_.out (by kernel_rfl)) (fun _ _ _ h => h) (Or.inl ⟨by rfl, ?_⟩) hHeld ?_ ?_
                rotate_left
                ·rintro w' ⟨s0, s1⟩
                 go_simp
                 with_reducible rfl
                rotate_left
                ·simp only [Act.put, List.setIfInBounds_toArray, List.set_cons_zero, List.set_cons_succ, i64_w, i32_w]
                 rfl
                refine one_ (i := 4) (N := some 51) #[true, true, true, true, true, false, false, false, false, false, false, false, false, false, false] rfl rfl (one_of HT_.out (by kernel_rfl)) (by decide) (fun K hK => ?_)
                refine goes_ Try.func40 (by kernel_rfl) rfl #[.slice (some ad513) y515.length co24, .agg #[.int .i64 ((rd_T49 x5_1 x42_2).f0), .int .i64 ((rd_T49 x5_1 x42_2).f1)]] (by rfl) rfl rfl gl_ ?_
                with_reducible refine (impl_Place_40.calls k2 _ _ y515 ((rd_T49 x5_1 x42_2).f0) ((rd_T49 x5_1 x42_2).f1) false _ ?side1 ?side2 A30.out).mono ?_
                (case side1 => repeat (first | exact (by repeat (first | (with_reducible exact HR518.out) | (with_reducible refine Kd.C_alloc ?_ _) | (with_reducible refine Kd.C_drewN ?_ _) | (with_reducible refine Kd.C_drew ?_) | exact HR518.out)) | (with_reducible refine Kd.C_alloc ?_ _) | (with_reducible refine Kd.C_drewN ?_ _) | (with_reducible refine Kd.C_drew ?_)))
                (case side2 => exact HC518.out)
                rintro e w57 ⟨rfl, hb⟩
                refine ⟨_, rfl, ?_⟩
                have n0_ := Aside0.mk (Kd.R_below (by (with_reducible repeat (first | apply Kd.R_alloc | apply Kd.R_drewN | apply Kd.R_drew)); exact HO_5.out) hb)
                have n1_ := Aside0.mk (Kd.R_below (by (with_reducible repeat (first | apply Kd.R_alloc | apply Kd.R_drewN | apply Kd.R_drew)); exact HO_6.out) hb)
                have n2_ := Aside0.mk (Kd.R_below (by (with_reducible repeat (first | apply Kd.R_alloc | apply Kd.R_drewN | apply Kd.R_drew)); exact HO_40.out) hb)
                have n3_ := Aside0.mk (blk_below (bk_ BK514.out) hb)
                have n4_ := Aside0.mk (Kd.C_below (by repeat (first | (with_reducible exact HR518.out) | (with_reducible refine Kd.C_alloc ?_ _) | (with_reducible refine Kd.C_drewN ?_ _) | (with_reducible refine Kd.C_drew ?_) | exact HR518.out)) hb)
                have n5_ := Aside0.mk (below_step (bwg_ GE514.out HB.out) hb)
                clear HO_5 HO_6 HO_40 BK514 HR518 HB
                have HO_5 := n0_; have HO_6 := n1_; have HO_40 := n2_; have BK514 := n3_; have HR518 := n4_; have HB := n5_
                clear n0_ n1_ n2_ n3_ n4_ n5_
                (try clear hb)
                (try clear hb2)
                (try clear hk)
                (try clear hi)
                have q58 : ((ji38) : Int) ≤ ((x5_1.length : Int) : Int) := od_
                obtain ⟨i058, hi058, _, hsz58, _⟩ := info_parts info49
                have hroom58 : x5_1.length ≤ co24 := (Kd.R_reads' HO_5.out).2.1
                have hC58 : Kd.C k49 _ (some ad513) x5_1.length x5_1 := (Kd.R_reads' HO_5.out).2.2
                have q058 : (0 : Int) ≤ ((ji38) : Int) := od_
                have hcut58 := cut_from (P := Try.prog) 34 49 .i64 Try.underlying34 hi058 2 hsz58 (some ad513) x5_1.length co24 (ji38) q058 q58
                have hr58 := Kd.C_drop (m := ((ji38) : Int).toNat) (c := co24) hC58 (by omega) hroom58
                obtain ⟨A58, hA58⟩ : ∃ A_z, A_z = (if co24 = ((ji38) : Int).toNat then (some ad513) else ((some ad513) : Option Addr).map (·.add (((ji38) : Int).toNat * 2))) := ⟨_, rfl⟩
                obtain ⟨c58, hc58⟩ : ∃ c_z, c_z = co24 - ((ji38) : Int).toNat := ⟨_, rfl⟩
                have hy58 : y520.length = x5_1.length - ((ji38) : Int).toNat := (by rw [Ny520.out, List.length_drop] <;> omega)
                rw [show (x5_1).drop ((ji38) : Int).toNat = y520 from Ny520.out.symm] at hr58
                replace hr58 : Kd.C k49 _ A58 y520.length y520 := (by rw [hA58]; exact hr58)
                rw [← hy58, ← hA58, ← hc58] at hcut58
                have HR523 := Aside0.mk hr58
                have HC523 := Aside0.mk (show y520.length ≤ c58 from by rw [hy58, hc58]; exact Nat.sub_le_sub_right hroom58 _)
                clear hr58 hC58 hroom58 hi058 hsz58 hc58
                have KY58 := Aside0.mk hy58
                have KA58 := Aside0.mk hA58
                clear hy58 hA58
                have KL58 := Aside0.mk (show ((ji38) : Int).toNat ≤ x5_1.length from by omega)
                replace q58 := eq_true q58
                refine hK.out _ _ ⟨(blk_cell BK514.out 0).trans rfl, (blk_cell BK514.out 1).trans rfl⟩ (fun hHeld => ?_)
                clear hK K
                refine norm_ (a' := ?_) ?_ ?_
                rotate_left
                ·show Act.put _ (some 51) _ = _
                 simp only [Act.put, List.setIfInBounds_toArray, List.set_cons_zero, List.set_cons_succ, i64_w, i32_w]
                 rfl
                refine pure_ (i := 5) (N := some 52) (v := ?_) (a' := ?_) #[true, true, true, true, true, true, false, false, false, false, false, false, false, false, false] rfl rfl (any_of HT_.out (by kernel_rfl)) (fun _ _ _ h => h) (Or.inl ⟨by rfl, ?_⟩) ?_ ?_
                rotate_left
                ·intro w'
                 go_simp
                 with_reducible rfl
                rotate_left
                ·simp only [Act.put, List.setIfInBounds_toArray, List.set_cons_zero, List.set_cons_succ, i64_w, i32_w]
                 rfl
                refine pure_ (i := 6) (N := some 53) (v := ?_) (a' := ?_) #[true, true, true, true, true, true, true, false, false, false, false, false, false, false, false] rfl rfl (any_of HT_.out (by kernel_rfl)) (fun _ _ _ h => h) (Or.inl ⟨by rfl, ?_⟩) ?_ ?_
                rotate_left
                ·intro w'
                 go_simp
                 with_reducible rfl
                rotate_left
                ·simp only [Act.put, List.setIfInBounds_toArray, List.set_cons_zero, List.set_cons_succ, i64_w, i32_w]
                 rfl
                refine pure_ (i := 7) (N := some 54) (v := ?_) (a' := ?_) #[true, true, true, true, true, true, true, true, false, false, false, false, false, false, false] rfl rfl (any_of HT_.out (by kernel_rfl)) (fun _ _ _ h => h) (Or.inl ⟨by rfl, ?_⟩) ?_ ?_
                rotate_left
                ·intro w'
                 go_simp
                 with_reducible rfl
                rotate_left
                ·simp only [Act.put, List.setIfInBounds_toArray, List.set_cons_zero, List.set_cons_succ, i64_w, i32_w]
                 rfl
                refine pure_ (i := 8) (N := some 55) (v := ?_) (a' := ?_) #[true, true, true, true, true, true, true, true, true, false, false, false, false, false, false] rfl rfl (any_of HT_.out (by kernel_rfl)) (fun _ _ _ h => h) (Or.inl ⟨by rfl, ?_⟩) ?_ ?_
                rotate_left
                ·intro w'
                 go_simp
                 with_reducible rfl
                rotate_left
                ·simp only [Act.put, List.setIfInBounds_toArray, List.set_cons_zero, List.set_cons_succ, i64_w, i32_w]
                 rfl
                refine pure_ (i := 9) (N := some 56) (v := ?_) (a' := ?_) #[true, true, true, true, true, true, true, true, true, true, false, false, false, false, false] rfl rfl (any_of HT_.out (by kernel_rfl)) (fun _ _ _ h => h) (Or.inl ⟨by rfl, ?_⟩) ?_ ?_
                rotate_left
                ·intro w'
                 go_simp
                 with_reducible rfl
                rotate_left
                ·simp only [Act.put, List.setIfInBounds_toArray, List.set_cons_zero, List.set_cons_succ, i64_w, i32_w]
                 rfl
                refine pure_ (i := 10) (N := some 57) (v := ?_) (a' := ?_) #[true, true, true, true, true, true, true, true, true, true, true, false, false, false, false] rfl rfl (any_of HT_.out (by kernel_rfl)) (fun _ _ _ h => h) (Or.inl ⟨by rfl, ?_⟩) ?_ ?_
                rotate_left
                ·intro w'
                 go_simp
                 with_reducible rfl
                rotate_left
                ·simp only [Act.put, List.setIfInBounds_toArray, List.set_cons_zero, List.set_cons_succ, i64_w, i32_w]
                 rfl
                refine take_ (i := 11) (N := some 58) (v := ?_) (a' := ?_) #[true, true, true, true, true, true, true, true, true, true, true, true, false, false, false] rfl rfl (take_ofW HT_.out HW_.out (by kernel_rfl)) (fun _ _ _ h => h) (Or.inl ⟨by rfl, ?_⟩) hHeld ?_ ?_
                rotate_left
                ·rintro w' ⟨s0, s1⟩
                 go_simp
                 with_reducible rfl
                rotate_left
                ·simp only [Act.put, List.setIfInBounds_toArray, List.set_cons_zero, List.set_cons_succ, i64_w, i32_w]
                 rfl
                refine one_ (i := 12) (N := some 59) #[true, true, true, true, true, true, true, true, true, true, true, true, true, false, false] rfl rfl (one_of HT_.out (by kernel_rfl)) (by decide) (fun K hK => ?_)
                refine goes_ Try.func40 (by kernel_rfl) rfl #[.slice A58 y520.length c58, .agg #[.int .i64 ((rd_T49 x5_1 x42_2).f0), .int .i64 ((rd_T49 x5_1 x42_2).f1)]] (by rfl) rfl rfl gl_ ?_
                with_reducible refine (impl_Place_40.calls k2 _ _ y520 ((rd_T49 x5_1 x42_2).f0) ((rd_T49 x5_1 x42_2).f1) false _ ?side1 ?side2 A41.out).mono ?_
                (case side1 => repeat (first | exact (by repeat (first | (with_reducible exact HR523.out) | (with_reducible refine Kd.C_alloc ?_ _) | (with_reducible refine Kd.C_drewN ?_ _) | (with_reducible refine Kd.C_drew ?_) | exact HR523.out)) | (with_reducible refine Kd.C_alloc ?_ _) | (with_reducible refine Kd.C_drewN ?_ _) | (with_reducible refine Kd.C_drew ?_)))
                (case side2 => exact HC523.out)
                rintro e w59 ⟨rfl, hb⟩
                refine ⟨_, rfl, ?_⟩
                have n0_ := Aside0.mk (Kd.R_below (by (with_reducible repeat (first | apply Kd.R_alloc | apply Kd.R_drewN | apply Kd.R_drew)); exact HO_5.out) hb)
                have n1_ := Aside0.mk (Kd.R_below (by (with_reducible repeat (first | apply Kd.R_alloc | apply Kd.R_drewN | apply Kd.R_drew)); exact HO_6.out) hb)
                have n2_ := Aside0.mk (Kd.R_below (by (with_reducible repeat (first | apply Kd.R_alloc | apply Kd.R_drewN | apply Kd.R_drew)); exact HO_40.out) hb)
                have n3_ := Aside0.mk (blk_below (bk_ BK514.out) hb)
                have n4_ := Aside0.mk (Kd.C_below (by repeat (first | (with_reducible exact HR518.out) | (with_reducible refine Kd.C_alloc ?_ _) | (with_reducible refine Kd.C_drewN ?_ _) | (with_reducible refine Kd.C_drew ?_) | exact HR518.out)) hb)
                have n5_ := Aside0.mk (Kd.C_below (by repeat (first | (with_reducible exact HR523.out) | (with_reducible refine Kd.C_alloc ?_ _) | (with_reducible refine Kd.C_drewN ?_ _) | (with_reducible refine Kd.C_drew ?_) | exact HR523.out)) hb)
                have n6_ := Aside0.mk (below_step (bwg_ GE514.out HB.out) hb)
                clear HO_5 HO_6 HO_40 BK514 HR518 HR523 HB
                have HO_5 := n0_; have HO_6 := n1_; have HO_40 := n2_; have BK514 := n3_; have HR518 := n4_; have HR523 := n5_; have HB := n6_
                clear n0_ n1_ n2_ n3_ n4_ n5_ n6_
                (try clear hb)
                (try clear hb2)
                (try clear hk)
                (try clear hi)
                refine hK.out _ _ ⟨(blk_cell BK514.out 0).trans rfl, (blk_cell BK514.out 1).trans rfl⟩ (fun hHeld => ?_)
                clear hK K
                refine norm_ (a' := ?_) ?_ ?_
                rotate_left
                ·show Act.put _ (some 59) _ = _
                 simp only [Act.put, List.setIfInBounds_toArray, List.set_cons_zero, List.set_cons_succ, i64_w, i32_w]
                 rfl
                refine pure_ (i := 13) (N := some 60) (v := ?_) (a' := ?_) #[true, true, true, true, true, true, true, true, true, true, true, true, true, true, false] rfl rfl (any_of HT_.out (by kernel_rfl)) (fun _ _ _ h => h) (Or.inl ⟨by rfl, ?_⟩) ?_ ?_
                rotate_left
                ·intro w'
                 go_simp
                 with_reducible rfl
                rotate_left
                ·simp only [Act.put, List.setIfInBounds_toArray, List.set_cons_zero, List.set_cons_succ, i64_w, i32_w]
                 rfl
                refine pure_ (i := 14) (N := some 61) (v := ?_) (a' := ?_) #[true, true, true, true, true, true, true, true, true, true, true, true, true, true, true] rfl rfl (any_of HT_.out (by kernel_rfl)) (fun _ _ _ h => h) (Or.inl ⟨by rfl, ?_⟩) ?_ ?_
                rotate_left
                ·intro w'
                 go_simp
                 with_reducible rfl
                rotate_left
                ·simp only [Act.put, List.setIfInBounds_toArray, List.set_cons_zero, List.set_cons_succ, i64_w, i32_w]
                 rfl
                refine done_ (done_of HT_.out (by kernel_rfl)) ?_
                have hcz60_0 : w59.cell? ⟨gb514, 0, none⟩ = some (.int .i64 ((rd_T49 x5_1 x42_2).f0)) := (blk_cell BK514.out 0).trans rfl
                have hcz60_1 : w59.cell? ⟨gb514, 1, none⟩ = some (.int .i64 ((rd_T49 x5_1 x42_2).f1)) := (blk_cell BK514.out 1).trans rfl
                have hfz60_0 := blk_frozen BK514.out 0
                have hfz60_1 := blk_frozen BK514.out 1
                try go_wp2_with (first | ((with_reducible refine gate_builtin (b := .append) (xs := #[.tmp 62, .tmp 64]) rfl ?_); at_builtin; refine Kd.R_append k49 (w0 := w) w.heap.size rfl (.tmp 62) (.tmp 64) 34 49 (.agg #[(.int .i64 0), (.int .i64 0)]) 16 rfl Try.underlying34 info49 rfl (by decide) (by omega) u6 x6_2 (⟨(rd_T49 x5_1 x42_2).f0, (rd_T49 x5_1 x42_2).f1⟩ : S49) [.int .i64 ((rd_T49 x5_1 x42_2).f0), .int .i64 ((rd_T49 x5_1 x42_2).f1)] (fun k_ => some k_ ≠ (.slice (some ad513) x5_1.length co24 : Value).ownBlock ∧ some k_ ≠ (.slice (some ad513) x5_1.length co24 : Value).ownBlock ∧ k_ ≠ gb514) (fun _ => False) rfl rfl ?aP (fun _ hk => hk.elim) ?aF ?aO ?aB ?aS ?aL ?_; (case aP => exact k49_mkM _ _ _ (⟨(rd_T49 x5_1 x42_2).f0, (rd_T49 x5_1 x42_2).f1⟩ : S49)); (case aB => exact (bwg_ GE514.out HB.out)); (case aF => exact (fun k_ hk => ⟨Kd.fresh' (Kd.R_lt (by (with_reducible repeat (first | apply Kd.R_alloc | apply Kd.R_drewN | apply Kd.R_drew)); exact HO_5.out)) k_ hk, Kd.fresh' (Kd.R_lt (by (with_reducible repeat (first | apply Kd.R_alloc | apply Kd.R_drewN | apply Kd.R_drew)); exact HO_40.out)) k_ hk, Kd.freshB (g := gb514) (o := .cells #[.int .i64 ((rd_T49 x5_1 x42_2).f0), .int .i64 ((rd_T49 x5_1 x42_2).f1)] 49 (0, 0)) (bk_ BK514.out) k_ hk⟩)); (case aO => exact (by (with_reducible repeat (first | apply Kd.R_alloc | apply Kd.R_drewN | apply Kd.R_drew)); exact HO_6.out)); (case aS => exact (below_size (bwg_ GE514.out HB.out))); (case aL => have := LMc51.out; omega); intro v526 w61 ho hb hg hat; rw [← Ny525.out] at ho; have n0_ := Aside0.mk (Kd.R_after (ok := (fun k_ => k_ ≠ gb514)) (by (with_reducible repeat (first | apply Kd.R_alloc | apply Kd.R_drewN | apply Kd.R_drew)); exact Kd.R_mono HO_5.out (fun _ hk => ⟨hk.2, hk.1⟩)) hg hat); have n1_ := Aside0.mk (Kd.R_after (ok := (fun k_ => k_ ≠ gb514)) (by (with_reducible repeat (first | apply Kd.R_alloc | apply Kd.R_drewN | apply Kd.R_drew)); exact Kd.R_mono HO_40.out (fun _ hk => ⟨hk.2, hk.1⟩)) hg hat); have n2_ := Aside0.mk (blk_grown (g := gb514) (o := .cells #[.int .i64 ((rd_T49 x5_1 x42_2).f0), .int .i64 ((rd_T49 x5_1 x42_2).f1)] 49 (0, 0)) (bk_ BK514.out) hg (Kd.R_away HO_6.out (fun _ hk => hk.2.2))); have n3_ := Aside0.mk (hb); have n4_ := Aside0.mk ((show Kd.C k49 w61 (some ad513) y515.length y515 from by rw [Ny515.out]; exact Kd.C_take (m := (x42_2 : Int).toNat) ((Kd.R_reads' (Kd.R_after (ok := (fun k_ => k_ ≠ gb514)) (by (with_reducible repeat (first | apply Kd.R_alloc | apply Kd.R_drewN | apply Kd.R_drew)); exact Kd.R_mono HO_5.out (fun _ hk => ⟨hk.2, hk.1⟩)) hg hat)).2.2) KL56.out)); have n5_ := Aside0.mk ((show Kd.C k49 w61 A58 y520.length y520 from by rw [Ny520.out, KA58.out]; exact Kd.C_drop (m := ((ji38) : Int).toNat) (c := co24) ((Kd.R_reads' (Kd.R_after (ok := (fun k_ => k_ ≠ gb514)) (by (with_reducible repeat (first | apply Kd.R_alloc | apply Kd.R_drewN | apply Kd.R_drew)); exact Kd.R_mono HO_5.out (fun _ hk => ⟨hk.2, hk.1⟩)) hg hat)).2.2) KL58.out ((Kd.R_reads' (Kd.R_after (ok := (fun k_ => k_ ≠ gb514)) (by (with_reducible repeat (first | apply Kd.R_alloc | apply Kd.R_drewN | apply Kd.R_drew)); exact Kd.R_mono HO_5.out (fun _ hk => ⟨hk.2, hk.1⟩)) hg hat)).2.1))); have n6_ := Aside0.mk (ho); clear HO_5; clear HO_40; clear BK514; clear HB; clear HR518; clear HR523; clear HO_6; have HO_5 := n0_; have HO_40 := n1_; have BK514 := n2_; have HB := n3_; have HR518 := n4_; have HR523 := n5_; have HO527 := n6_; clear n0_ n1_ n2_ n3_ n4_ n5_ n6_; clear ho hb hg hat))
                go_roundg k2
                case measure => have := HK1.out; have := HK2.out; omega
                case rel => exact ⟨(y525), (ji38), (by first | rfl | (simp; done) | (simp only [← hji38] <;> (first | rfl | simp)) | (simp [*]; done)), H', ⟨by have := HK1.out; have := HK2.out; omega⟩, ⟨by (with_reducible repeat (first | apply Kd.R_alloc | apply Kd.R_drewN | apply Kd.R_drew)); exact Kd.R_mono HO_5.out (fun _ hk => hk.2)⟩, ⟨by (with_reducible repeat (first | apply Kd.R_alloc | apply Kd.R_drewN | apply Kd.R_drew)); exact Kd.R_mono HO527.out (fun _ hk => ⟨hk.1, hk.2.1⟩)⟩, ⟨by (with_reducible repeat (first | apply Kd.R_alloc | apply Kd.R_drewN | apply Kd.R_drew)); exact Kd.R_mono HO_40.out (fun _ hk => hk.2)⟩, ⟨bwg_ GE514.out HB.out⟩⟩
               ·rw [if_neg c51] at H
                exact absurd H (by simp)
             ·rw [if_neg c40] at H
              exact absurd H (by simp)
            ·rw [if_neg c39] at H
             exact absurd H (by simp)
          ·rw [if_neg c29] at H
           exact absurd H (by simp)
         ·rw [if_neg c27] at H
          exact absurd H (by simp)
        ·rw [if_neg c26] at H
         exact absurd H (by simp)
       ·rw [if_neg c25] at H
        have c25b0 : decide (x42_2 < (x5_1.length : Int)) = false := decide_eq_false c25
        clear c25
        simp only [Option.some.injEq, Prod.mk.injEq] at H
        obtain ⟨rfl, rfl⟩ := H
        go_wp2
        go_ret2
        exact ⟨_, by first | rfl | (simp [errW_none, errW_some] <;> rfl) | (simp [*, errW_none, errW_some] <;> rfl), by (with_reducible repeat (first | apply Kd.R_alloc | apply Kd.R_drewN | apply Kd.R_drew)); exact Kd.R_mono HO_6.out (fun _ hk => trivial), by repeat (first | (with_reducible first | exact HB.out | apply below_alloc | apply pw_below_drewN | apply below_drew1) | exact HB.out)⟩
 ·rw [if_neg c3] at H
  have c3b0 : (t496 == 0) = false := beq_eq_false_iff_ne.mpr c3
  have c3b1 : (t496 != 0) = true := bne_iff_ne.mpr c3
  simp only [Option.some.injEq, Prod.mk.injEq] at H
  obtain ⟨rfl, rfl⟩ := H
  go_enter Try.func17, Try.ntmps17
  go_wp2_with (first | ((with_reducible refine gate_callee (f := 24) rfl ?_); refine goesL_ (some 12) rfl rfl Try.func24 (by kernel_rfl) rfl #[.slice A0 l0.length c0] rfl gl_ ?_; (with_reducible refine (impl_chainsCode.calls k _ _ l0 t496 _ ?side1 ?side2 A2.out).mono ?_); (case side1 => repeat (first | exact HR0.out | (with_reducible refine Kd.C_alloc ?_ _) | (with_reducible refine Kd.C_drewN ?_ _) | (with_reducible refine Kd.C_drew ?_))); (case side2 => exact HC0.out); rintro e w62 ⟨rfl, hb⟩; refine ⟨_, rfl, ?_⟩; have n0_ := Aside0.mk (below_step (bw_ HB.out) hb); clear HB; have HB := n0_; clear n0_; (try clear hb); (try clear hb2); (try clear hk); (try clear hi)))
  go_ret2
  exact ⟨_, by first | rfl | (simp [errW_none, errW_some] <;> rfl) | (simp [*, errW_none, errW_some] <;> rfl), by first | exact Kd.R_nil _ _ _ _ _ | exact Kd.N_nil _ _ _ _ _ | exact Kd.V_nil _ _ _ _ _ | exact Kd.Q_nil _ _ _ _ _ | exact Kd.S_nil _ _ _ _ _, by repeat (first | (with_reducible first | exact HB.out | apply below_alloc | apply pw_below_drewN | apply below_drew1) | exact HB.out)⟩

end Go.Proofs.Ytmedijjjhabpbaa.Print
