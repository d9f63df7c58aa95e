-- Printed by a program of this session out of the translation; not trusted: Lean checks it.
-- SQUEEZED
-- SHRUNK
import Derived.Test.YtmedijjjhabpbaaPrint0
import Derived.Test.YtmedijjjhabpbaaPrint1
import Derived.Test.YtmedijjjhabpbaaPrint2
namespace Go.Proofs.Ytmedijjjhabpbaa.Print
open Go.RowKit Go.Proofs.YtmedijjjhabpbaaW.PrintWords Go.Proofs.YtmedijjjhabpbaaW.PrintLast Go.Proofs.YtmedijjjhabpbaaW.PrintMore
attribute [local go_sem] max2_int min2_int max_two min_two max_three min_three max_four min_four   -- for this text's walks alone
set_option linter.unusedVariables false
set_option linter.unusedSimpArgs false

attribute [local go_sem high] eqA49
/-! ### spec_LooseEnds: function 18 -/
mutual
def spec_LooseEnds.l0 : Nat → List (List (S49)) → List (S49) → Int → Option ((List (S49)) × Int)
 | 0, _, _, _ => none
 | k + 1, x0, x5, x6 => if x6 < (x0.length : Int) then (if 0 ≤ x6 then ((spec_l10Closed.f (rd_L2 x0 x6)).bind fun t533 => (if t533 = true then (spec_LooseEnds.l0 k x0 x5 (wrap64 (x6 + 1))) else (if 0 < ((rd_L2 x0 x6).length : Int) then (if 0 ≤ (wrap64 (((rd_L2 x0 x6).length : Int) - 1)) then (if (wrap64 (((rd_L2 x0 x6).length : Int) - 1)) < ((rd_L2 x0 x6).length : Int) then ((some (([(⟨(rd_T49 (rd_L2 x0 x6) 0).f0, (rd_T49 (rd_L2 x0 x6) 0).f1⟩ : S49), (⟨(rd_T49 (rd_L2 x0 x6) (wrap64 (((rd_L2 x0 x6).length : Int) - 1))).f0, (rd_T49 (rd_L2 x0 x6) (wrap64 (((rd_L2 x0 x6).length : Int) - 1))).f1⟩ : S49)] : List (S49)) : List (S49))).bind fun y539 => (if x5.length + y539.length < 8796093022208 then (spec_LooseEnds.l0 k x0 (x5 ++ y539) (wrap64 (x6 + 1))) else (none))) else (none)) else (none)) else (none)))) else (none)) else (spec_LooseEnds.l1 k x5 (([] : List (S49))) 0)
def spec_LooseEnds.l1 : Nat → List (S49) → List (S49) → Int → Option ((List (S49)) × Int)
 | 0, _, _, _ => none
 | k + 1, x5, x7, x8 => if x8 < (x5.length : Int) then (spec_LooseEnds.l2 k x5 x7 x8 0 0) else (some (x7, 0))
def spec_LooseEnds.l2 : Nat → List (S49) → List (S49) → Int → Int → Int → Option ((List (S49)) × Int)
 | 0, _, _, _, _, _ => none
 | k + 1, x5, x7, x8, x9, x10 => if x10 < (x5.length : Int) then (if 0 ≤ x10 then (if 0 ≤ x8 then (if x8 < (x5.length : Int) then (if (((rd_T49 x5 x10).f0) == ((rd_T49 x5 x8).f0) && (((rd_T49 x5 x10).f1) == ((rd_T49 x5 x8).f1))) = true then (spec_LooseEnds.l2 k x5 x7 x8 (wrap64 (x9 + 1)) (wrap64 (x10 + 1))) else (spec_LooseEnds.l2 k x5 x7 x8 x9 (wrap64 (x10 + 1)))) else (none)) else (none)) else (none)) else (if x9 = 1 then (if 0 ≤ x8 then (if x8 < (x5.length : Int) then (if x7.length < 8796093022208 then (spec_LooseEnds.l1 k x5 (x7 ++ [(⟨(rd_T49 x5 x8).f0, (rd_T49 x5 x8).f1⟩ : S49)]) (wrap64 (x8 + 1))) else (none)) else (none)) else (none)) else (spec_LooseEnds.l1 k x5 x7 (wrap64 (x8 + 1))))
end
def spec_LooseEnds.f (k : Nat) (l0 : List (List (S49))) : Option ((List (S49)) × Int) := (spec_l10List.f k l0).bind fun t528 => (if t528 = 0 then (spec_LooseEnds.l0 k l0 (([] : List (S49))) 0) else (some (([] : List (S49)), t528)))
theorem spec_LooseEnds.mono_l : ∀ k, (∀ y0 y1 y2, LeO (spec_LooseEnds.l0 k y0 y1 y2) (spec_LooseEnds.l0 (k + 1) y0 y1 y2)) ∧ (∀ y0 y1 y2, LeO (spec_LooseEnds.l1 k y0 y1 y2) (spec_LooseEnds.l1 (k + 1) y0 y1 y2)) ∧ (∀ y0 y1 y2 y3 y4, LeO (spec_LooseEnds.l2 k y0 y1 y2 y3 y4) (spec_LooseEnds.l2 (k + 1) y0 y1 y2 y3 y4))
 | 0 => ⟨fun _ _ _ r h => by simp [spec_LooseEnds.l0] at h, fun _ _ _ r h => by simp [spec_LooseEnds.l1] at h, fun _ _ _ _ _ r h => by simp [spec_LooseEnds.l2] at h⟩
 | k + 1 => by
  obtain ⟨ih0, ih1, ih2⟩ := spec_LooseEnds.mono_l k
  refine ⟨?_, ?_, ?_⟩
  ·intro y0 y1 y2
   unfold spec_LooseEnds.l0
   repeat' first
   | (with_reducible exact ih0 _ _ _)
   | (with_reducible exact ih1 _ _ _)
   | (with_reducible exact ih2 _ _ _ _ _)
   | (with_reducible exact spec_l10List.mono _ _)
   | (with_reducible exact LeO.refl _)
   | (with_reducible exact LeO.none _)
   | (with_reducible refine LeO.ite ?_ ?_)
   | (with_reducible refine LeO.bind ?_ (fun _ => ?_))
   | exact ih0 _ _ _
   | exact ih1 _ _ _
   | exact ih2 _ _ _ _ _
   | exact spec_l10List.mono _ _
   | exact LeO.none _
   | refine LeO.ite ?_ ?_
   | refine LeO.bind ?_ (fun _ => ?_)
  ·intro y0 y1 y2
   unfold spec_LooseEnds.l1
   repeat' first
   | (with_reducible exact ih0 _ _ _)
   | (with_reducible exact ih1 _ _ _)
   | (with_reducible exact ih2 _ _ _ _ _)
   | (with_reducible exact spec_l10List.mono _ _)
   | (with_reducible exact LeO.refl _)
   | (with_reducible exact LeO.none _)
   | (with_reducible refine LeO.ite ?_ ?_)
   | (with_reducible refine LeO.bind ?_ (fun _ => ?_))
   | exact ih0 _ _ _
   | exact ih1 _ _ _
   | exact ih2 _ _ _ _ _
   | exact spec_l10List.mono _ _
   | exact LeO.none _
   | refine LeO.ite ?_ ?_
   | refine LeO.bind ?_ (fun _ => ?_)
  ·intro y0 y1 y2 y3 y4
   unfold spec_LooseEnds.l2
   repeat' first
   | (with_reducible exact ih0 _ _ _)
   | (with_reducible exact ih1 _ _ _)
   | (with_reducible exact ih2 _ _ _ _ _)
   | (with_reducible exact spec_l10List.mono _ _)
   | (with_reducible exact LeO.refl _)
   | (with_reducible exact LeO.none _)
   | (with_reducible refine LeO.ite ?_ ?_)
   | (with_reducible refine LeO.bind ?_ (fun _ => ?_))
   | exact ih0 _ _ _
   | exact ih1 _ _ _
   | exact ih2 _ _ _ _ _
   | exact spec_l10List.mono _ _
   | exact LeO.none _
   | refine LeO.ite ?_ ?_
   | refine LeO.bind ?_ (fun _ => ?_)
theorem spec_LooseEnds.mono : ∀ a0 k, LeO (spec_LooseEnds.f k a0) (spec_LooseEnds.f (k + 1) a0) := by
 intro a0 k
 obtain ⟨ih0, ih1, ih2⟩ := spec_LooseEnds.mono_l k
 unfold spec_LooseEnds.f
 repeat' first
   | (with_reducible exact ih0 _ _ _)
   | (with_reducible exact ih1 _ _ _)
   | (with_reducible exact ih2 _ _ _ _ _)
   | (with_reducible exact spec_l10List.mono _ _)
   | (with_reducible exact LeO.refl _)
   | (with_reducible exact LeO.none _)
   | (with_reducible refine LeO.ite ?_ ?_)
   | (with_reducible refine LeO.bind ?_ (fun _ => ?_))
   | exact ih0 _ _ _
   | exact ih1 _ _ _
   | exact ih2 _ _ _ _ _
   | exact spec_l10List.mono _ _
   | exact LeO.none _
   | refine LeO.ite ?_ ?_
   | refine LeO.bind ?_ (fun _ => ?_)
def spec_LooseEnds.T9 : Bool × List (List Nat × List Nat) := (true, [([], []), ([], []), ([], []), ([1, 2], [1, 2]), ([3], [3]), ([4], [4]), ([5], [5]), ([], []), ([], []), ([7, 8], [7, 8]), ([9], [9]), ([], []), ([], []), ([11, 12], [11, 12]), ([13], [13]), ([14], [14]), ([15], [15]), ([10, 16], [10, 16]), ([17], [17]), ([6, 18], [6, 18]), ([0, 19], [0, 19]), ([20, 20, 0, 1, 2, 3, 4, 5, 6, 7, 8, 9, 10, 11, 12, 13, 14, 15, 16, 17, 18, 19, 20], [0, 20])])
def spec_LooseEnds.B9 : List Nat := [0, 0, 0, 6, 14, 30, 62, 0, 0, 384, 896, 0, 0, 6144, 14336, 30720, 63488, 130944, 262016, 524286, 1048575, 2097151]
theorem spec_LooseEnds.tab9 : rtab .any (opsOf Try.f18 9) = spec_LooseEnds.T9 := by kernel_rfl
theorem spec_LooseEnds.bits9 : waitsOk spec_LooseEnds.T9.2 spec_LooseEnds.B9 = true := by kernel_rfl
def spec_LooseEnds.T18 : Bool × List (List Nat × List Nat) := (true, [([], []), ([], []), ([0, 1], [0, 1]), ([2], [2]), ([], []), ([], []), ([4, 5], [4, 5]), ([6], [6]), ([3, 7], [3, 7])])
def spec_LooseEnds.B18 : List Nat := [0, 0, 3, 7, 0, 0, 48, 112, 255]
theorem spec_LooseEnds.tab18 : rtab .any (opsOf Try.f18 18) = spec_LooseEnds.T18 := by kernel_rfl
theorem spec_LooseEnds.bits18 : waitsOk spec_LooseEnds.T18.2 spec_LooseEnds.B18 = true := by kernel_rfl
set_option maxHeartbeats 8000000 in
set_option maxRecDepth 100000 in
theorem spec_LooseEnds.calls (k : Nat) (A0 : Option Addr) (c0 : Nat) (l0 : List (List (S49))) (r1 : List (S49)) (r2 : Int) (w : World) (hr0 : Kd.C (Kd.slice 49 k49) w A0 l0.length l0) (hc0 : l0.length ≤ c0) (h : spec_LooseEnds.f k l0 = some (r1, r2)) :
  Calls Try.prog 18 #[.slice A0 l0.length c0] w fun e w' => ∃ v0_ : Value, e = .returned (.tuple #[v0_, .int .i64 r2]) ∧ Kd.R k49 49 w' w.heap.size (fun _ => True) v0_ r1 ∧ Below w.heap.size w w' := by
 have hu49 := Try.underlying49
 have HR0 := Aside0.mk hr0
 have HC0 := Aside0.mk hc0
 clear hr0 hc0
 have HB := Aside0.mk (Below.refl w.heap.size w)
 have H : ((spec_l10List.f k l0).bind fun t528 => (if t528 = 0 then (spec_LooseEnds.l0 k l0 (([] : List (S49))) 0) else (some (([] : List (S49)), t528)))) = some (r1, r2) := h
 clear h
 replace H := Option.bind_eq_some_iff.mp H
 obtain ⟨t528, A20, H⟩ := H
 replace H : (if t528 = 0 then (spec_LooseEnds.l0 k l0 (([] : List (S49))) 0) else (some (([] : List (S49)), t528))) = some (r1, r2) := H
 have A2 := Aside0.mk A20
 clear A20
 by_cases c3 : t528 = 0
 ·rw [if_pos c3] at H
  have c3b0 : (t528 == 0) = true := beq_iff_eq.mpr c3
  have c3b1 : (t528 != 0) = false := bne_eq_false_iff_eq.mpr c3
  clear c3
  obtain ⟨y529, hy529⟩ : ∃ y_ : List (S49), y_ = (([] : List (S49))) := ⟨_, rfl⟩
  replace H : (spec_LooseEnds.l0 k l0 y529 0) = some (r1, r2) := by first | (rw [hy529]; with_reducible exact H) | (have H2_ := (Option.bind_some _ _).symm.trans H; rw [hy529]; with_reducible exact H2_) | (have H2_ := (Option.bind_some _ _).symm.trans H; with_reducible exact H2_) | with_reducible exact H | (rw [hy529]; exact H) | exact H
  have Ny529 := Aside0.mk hy529
  clear hy529
  have H' := Aside0.mk H
  clear H
  go_enter Try.func18, Try.ntmps18
  go_wp2_with (first | ((with_reducible refine gate_callee (f := 21) rfl ?_); refine goesL_ (some 12) rfl rfl Try.func21 (by kernel_rfl) rfl #[.slice A0 l0.length c0] rfl gl_ ?_; (with_reducible refine (spec_l10List.calls k _ _ l0 t528 _ ?side1 ?side2 A2.out).mono ?_); (case side1 => repeat (first | exact HR0.out | (with_reducible refine Kd.C_alloc ?_ _) | (with_reducible refine Kd.C_drewN ?_ _) | (with_reducible refine Kd.C_drew ?_))); (case side2 => exact HC0.out); rintro e w' ⟨rfl, ⟨nd, rfl⟩⟩; refine ⟨_, rfl, ?_⟩) | ((with_reducible refine gate_dst (N := 16) rfl ?_); refine Kd.R_lit k49 _ 49 ?hg (N := 16) ?hd (xs := ([] : List (S49))) (inner := []) (ok := fun _ => True) (okp := fun _ => True) ?hr ?hp (fun _ hk => hk) trivial (Below.refl _ _) (Nat.le_refl _) (by simp) ?_; (case hd => rfl); (case hg => rfl); (case hr => first | (go_simp; done) | (go_simp; rfl)); (case hp => exact (Reps.none _ _)); intro v530 w4 ho5 hb hg_ hnew_; clear hg_ hnew_; (first | rw [← Ny529.out] at ho5 | (simp only [Int.reduceToNat] at ho5; rw [← Ny529.out] at ho5)); have n0_ := Aside0.mk (Kd.R_lower ho5 (below_size (bw_ HB.out))); have n1_ := Aside0.mk (below_step (bw_ HB.out) hb); clear HB; have HO531 := n0_; have HB := n1_; clear n0_ n1_; clear hb ho5))
  go_loopg [5, 6] k (fun kq v5 v6 w' => ∃ (x5_1 : List (S49)) (x6_1 : Int), v6 = .int .i64 x6_1 ∧ Aside0 (spec_LooseEnds.l0 kq l0 x5_1 x6_1 = some (r1, r2)) ∧ Aside0 (kq ≤ k) ∧ Aside0 (Kd.R k49 49 w' w.heap.size (fun _ => True) v5 x5_1) ∧ Aside0 (Below w.heap.size w w'))
  case atStart => exact ⟨(y529), (0), (by first | rfl | (simp; done) | (simp [*]; done)), H', ⟨Nat.le_refl _⟩, ⟨by (with_reducible repeat (first | apply Kd.R_alloc | apply Kd.R_drewN | apply Kd.R_drew)); exact HO531.out⟩, ⟨bw_ HB.out⟩⟩
  case round =>
   clear H'
   try clear c1
   try clear c2
   try clear p2
   try clear c3
   try clear c3b0
   try clear c3b1
   obtain ⟨x5_1, x6_1, rfl, HA, HK1, HO_5, HB⟩ := hrel
   cases gk with
   | zero => exact absurd HA.out (by simp [spec_LooseEnds.l0])
   | succ k1 =>
    have H := HA.out
    clear HA
    simp only [spec_LooseEnds.l0] at H
    by_cases c6 : x6_1 < (l0.length : Int)
    ·rw [if_pos c6] at H
     have c6b0 : decide (x6_1 < (l0.length : Int)) = true := decide_eq_true c6
     clear c6
     by_cases c7 : 0 ≤ x6_1
     ·rw [if_pos c7] at H
      have c7b0 : decide (0 ≤ x6_1) = true := decide_eq_true c7
      clear c7
      replace H := Option.bind_eq_some_iff.mp H
      obtain ⟨t533, A80, H⟩ := H
      replace H : (if t533 = true then (spec_LooseEnds.l0 k1 l0 x5_1 (wrap64 (x6_1 + 1))) else (if 0 < ((rd_L2 l0 x6_1).length : Int) then (if 0 ≤ (wrap64 (((rd_L2 l0 x6_1).length : Int) - 1)) then (if (wrap64 (((rd_L2 l0 x6_1).length : Int) - 1)) < ((rd_L2 l0 x6_1).length : Int) then ((some (([(⟨(rd_T49 (rd_L2 l0 x6_1) 0).f0, (rd_T49 (rd_L2 l0 x6_1) 0).f1⟩ : S49), (⟨(rd_T49 (rd_L2 l0 x6_1) (wrap64 (((rd_L2 l0 x6_1).length : Int) - 1))).f0, (rd_T49 (rd_L2 l0 x6_1) (wrap64 (((rd_L2 l0 x6_1).length : Int) - 1))).f1⟩ : S49)] : List (S49)) : List (S49))).bind fun y539 => (if x5_1.length + y539.length < 8796093022208 then (spec_LooseEnds.l0 k1 l0 (x5_1 ++ y539) (wrap64 (x6_1 + 1))) else (none))) else (none)) else (none)) else (none))) = some (r1, r2) := H
      have A8 := Aside0.mk A80
      clear A80
      by_cases c9 : t533 = true
      ·subst c9
       have H1 : (spec_LooseEnds.l0 k1 l0 x5_1 (wrap64 (x6_1 + 1))) = some (r1, r2) := by rw [if_pos rfl] at H; exact H
       clear H
       have H := H1
       clear H1
       have H' := Aside0.mk H
       clear H
       have p532 : 0 ≤ (x6_1 : Int) := od_
       have q532 : x6_1 < (l0.length : Int) := od_
       obtain ⟨ad532, A532_0, c532_0, e532, hx532_0, hl532_0, hi532_0⟩ := at_L2 HR0.out x6_1 p532 q532
       cases e532
       replace hx532_0 := (HB.out.cell (World.block_lt_of_cell? w _ hx532_0)).trans hx532_0
       have HR532_0 := Aside0.mk hi532_0
       have HC532_0 := Aside0.mk hl532_0
       clear hi532_0 hl532_0
       replace p532 := eq_true p532
       replace q532 := eq_true q532
       go_wp2_with (first | ((with_reducible refine gate_callee (f := 38) rfl ?_); refine goesL_ (some 27) rfl rfl Try.func38 (by kernel_rfl) rfl #[.slice A532_0 (rd_L2 l0 x6_1).length c532_0] rfl gl_ ?_; (with_reducible refine (spec_l10Closed.calls _ _ (rd_L2 l0 x6_1) true _ ?side1 ?side2 A8.out).mono ?_); (case side1 => repeat (first | exact (Kd.C_below HR532_0.out HB.out) | (with_reducible refine Kd.C_alloc ?_ _) | (with_reducible refine Kd.C_drewN ?_ _) | (with_reducible refine Kd.C_drew ?_))); (case side2 => exact HC532_0.out); rintro e w' ⟨rfl, ⟨nd, rfl⟩⟩; refine ⟨_, rfl, ?_⟩))
       go_roundg k1
       case measure => have := HK1.out; omega
       case rel => exact ⟨(x5_1), (wrap64 (x6_1 + 1)), (by first | rfl | (simp; done) | (simp [*]; done)), H', ⟨by have := HK1.out; omega⟩, ⟨by (with_reducible repeat (first | apply Kd.R_alloc | apply Kd.R_drewN | apply Kd.R_drew)); exact HO_5.out⟩, ⟨bw_ HB.out⟩⟩
      ·replace c9 := Bool.eq_false_iff.mpr c9
       subst c9
       have H1 : (if 0 < ((rd_L2 l0 x6_1).length : Int) then (if 0 ≤ (wrap64 (((rd_L2 l0 x6_1).length : Int) - 1)) then (if (wrap64 (((rd_L2 l0 x6_1).length : Int) - 1)) < ((rd_L2 l0 x6_1).length : Int) then ((some (([(⟨(rd_T49 (rd_L2 l0 x6_1) 0).f0, (rd_T49 (rd_L2 l0 x6_1) 0).f1⟩ : S49), (⟨(rd_T49 (rd_L2 l0 x6_1) (wrap64 (((rd_L2 l0 x6_1).length : Int) - 1))).f0, (rd_T49 (rd_L2 l0 x6_1) (wrap64 (((rd_L2 l0 x6_1).length : Int) - 1))).f1⟩ : S49)] : List (S49)) : List (S49))).bind fun y539 => (if x5_1.length + y539.length < 8796093022208 then (spec_LooseEnds.l0 k1 l0 (x5_1 ++ y539) (wrap64 (x6_1 + 1))) else (none))) else (none)) else (none)) else (none)) = some (r1, r2) := by rw [if_neg (show ¬ (false = true) by decide)] at H; exact H
       clear H
       have H := H1
       clear H1
       by_cases c10 : 0 < ((rd_L2 l0 x6_1).length : Int)
       ·rw [if_pos c10] at H
        have c10b0 : decide (0 < ((rd_L2 l0 x6_1).length : Int)) = true := decide_eq_true c10
        have c10b1 : decide (0 < (rd_L2 l0 x6_1).length) = true := decide_eq_true (by omega)
        clear c10
        obtain ⟨ji11, hji11⟩ : ∃ j_ : Int, (wrap64 (((rd_L2 l0 x6_1).length : Int) - 1)) = j_ := ⟨_, rfl⟩
        replace H : (if 0 ≤ (ji11) then (if (ji11) < ((rd_L2 l0 x6_1).length : Int) then ((some (([(⟨(rd_T49 (rd_L2 l0 x6_1) 0).f0, (rd_T49 (rd_L2 l0 x6_1) 0).f1⟩ : S49), (⟨(rd_T49 (rd_L2 l0 x6_1) (ji11)).f0, (rd_T49 (rd_L2 l0 x6_1) (ji11)).f1⟩ : S49)] : List (S49)) : List (S49))).bind fun y539 => (if x5_1.length + y539.length < 8796093022208 then (spec_LooseEnds.l0 k1 l0 (x5_1 ++ y539) (wrap64 (x6_1 + 1))) else (none))) else (none)) else (none)) = some (r1, r2) := by first | (rw [hji11] at H; exact H) | (simp only [hji11] at H ⊢; exact H)
        (try rw [hji11] at A8)
        have hji11w : (IntKind.i64.wrap (((rd_L2 l0 x6_1).length : Int) - 1)) = ji11 := (i64_w _).trans hji11
        by_cases c12 : 0 ≤ (ji11)
        ·rw [if_pos c12] at H
         have c12b0 : decide (0 ≤ (ji11)) = true := decide_eq_true c12
         clear c12
         by_cases c13 : (ji11) < ((rd_L2 l0 x6_1).length : Int)
         ·rw [if_pos c13] at H
          have c13b0 : decide ((ji11) < ((rd_L2 l0 x6_1).length : Int)) = true := decide_eq_true c13
          clear c13
          obtain ⟨y539, hy539⟩ : ∃ y_ : List (S49), y_ = (([(⟨(rd_T49 (rd_L2 l0 x6_1) 0).f0, (rd_T49 (rd_L2 l0 x6_1) 0).f1⟩ : S49), (⟨(rd_T49 (rd_L2 l0 x6_1) (ji11)).f0, (rd_T49 (rd_L2 l0 x6_1) (ji11)).f1⟩ : S49)] : List (S49))) := ⟨_, rfl⟩
          replace H : (if x5_1.length + y539.length < 8796093022208 then (spec_LooseEnds.l0 k1 l0 (x5_1 ++ y539) (wrap64 (x6_1 + 1))) else (none)) = some (r1, r2) := by first | (rw [hy539]; with_reducible exact H) | (have H2_ := (Option.bind_some _ _).symm.trans H; rw [hy539]; with_reducible exact H2_) | (have H2_ := (Option.bind_some _ _).symm.trans H; with_reducible exact H2_) | with_reducible exact H | (rw [hy539]; exact H) | exact H
          have Ny539 := Aside0.mk hy539
          clear hy539
          by_cases c14 : x5_1.length + y539.length < 8796093022208
          ·rw [if_pos c14] at H
           have LMc14 := Aside0.mk c14
           clear c14
           obtain ⟨y542, hy542⟩ : ∃ y_ : List (S49), y_ = (x5_1 ++ y539) := ⟨_, rfl⟩
           replace H : (spec_LooseEnds.l0 k1 l0 y542 (wrap64 (x6_1 + 1))) = some (r1, r2) := by first | (rw [hy542]; with_reducible exact H) | (have H2_ := (Option.bind_some _ _).symm.trans H; rw [hy542]; with_reducible exact H2_) | (have H2_ := (Option.bind_some _ _).symm.trans H; with_reducible exact H2_) | with_reducible exact H | (rw [hy542]; exact H) | exact H
           have Ny542 := Aside0.mk hy542
           clear hy542
           have H' := Aside0.mk H
           clear H
           have p532 : 0 ≤ (x6_1 : Int) := od_
           have q532 : x6_1 < (l0.length : Int) := od_
           obtain ⟨ad532, A532_0, c532_0, e532, hx532_0, hl532_0, hi532_0⟩ := at_L2 HR0.out x6_1 p532 q532
           cases e532
           replace hx532_0 := (HB.out.cell (World.block_lt_of_cell? w _ hx532_0)).trans hx532_0
           have HR532_0 := Aside0.mk hi532_0
           have HC532_0 := Aside0.mk hl532_0
           clear hi532_0 hl532_0
           replace p532 := eq_true p532
           replace q532 := eq_true q532
           try go_wp2_with (first | ((with_reducible refine gate_callee (f := 38) rfl ?_); refine goesL_ (some 27) rfl rfl Try.func38 (by kernel_rfl) rfl #[.slice A532_0 (rd_L2 l0 x6_1).length c532_0] rfl gl_ ?_; (with_reducible refine (spec_l10Closed.calls _ _ (rd_L2 l0 x6_1) false _ ?side1 ?side2 A8.out).mono ?_); (case side1 => repeat (first | exact (Kd.C_below HR532_0.out HB.out) | (with_reducible refine Kd.C_alloc ?_ _) | (with_reducible refine Kd.C_drewN ?_ _) | (with_reducible refine Kd.C_drew ?_))); (case side2 => exact HC532_0.out); rintro e w' ⟨rfl, ⟨nd, rfl⟩⟩; refine ⟨_, rfl, ?_⟩))
           (try (rw [drewN_self wr]; generalize hq_ : World.drewN wr _ = wr; have n0_ : Aside0 (Kd.R k49 49 wr w.heap.size (fun _ => True) u5 x5_1) := ⟨by rw [← hq_]; exact (by (with_reducible repeat (first | apply Kd.R_alloc | apply Kd.R_drewN | apply Kd.R_drew)); exact HO_5.out)⟩; have n1_ : Aside0 (Below w.heap.size w wr) := ⟨by rw [← hq_]; exact (bw_ HB.out)⟩; clear HO_5 HB hq_; have HO_5 := n0_; have HB := n1_; clear n0_ n1_))
           have n0_ := Aside0.mk (Kd.R_drew HO_5.out)
           have n1_ := Aside0.mk (below_drew1 HB.out)
           clear HO_5 HB
           have HO_5 := n0_; have HB := n1_
           clear n0_ n1_
           have p534 : 0 ≤ (x6_1 : Int) := od_
           have q534 : x6_1 < (l0.length : Int) := od_
           obtain ⟨ad534, A534_0, c534_0, e534, hx534_0, hl534_0, hi534_0⟩ := at_L2 HR0.out x6_1 p534 q534
           have hw534_0 := hx534_0
           obtain rfl : ad532 = ad534 := (by injection e534)
           replace hx534_0 := (HB.out.cell (World.block_lt_of_cell? w _ hx534_0)).trans hx534_0
           have HR534_0 := Aside0.mk hi534_0
           have HC534_0 := Aside0.mk hl534_0
           clear hi534_0 hl534_0
           replace p534 := eq_true p534
           replace q534 := eq_true q534
           have p535 : 0 ≤ (0 : Int) := (by omega)
           have q535 : 0 < ((rd_L2 l0 x6_1).length : Int) := od_
           obtain ⟨ad535, e535, hx535_0, hx535_1⟩ := at_T49 HR534_0.out 0 p535 q535
           have hw535_1 := hx535_1
           (try rw [show ((0 : Int)).toNat = 0 from rfl] at hw535_1)
           (try rw [show 0 * 2 = 0 from rfl] at hw535_1)
           (try rw [Addr.add_zero'] at hw535_1)
           have hw535_0 := hx535_0
           (try rw [show ((0 : Int)).toNat = 0 from rfl] at hw535_0)
           (try rw [show 0 * 2 = 0 from rfl] at hw535_0)
           (try rw [Addr.add_zero'] at hw535_0)
           cases e535
           have qi535 : (0 < (rd_L2 l0 x6_1).length) = True := eq_true (by omega)
           (try rw [show ((0 : Int)).toNat = 0 from rfl] at hx535_0)
           (try rw [show 0 * 2 = 0 from rfl] at hx535_0)
           (try rw [Addr.add_zero'] at hx535_0)
           (try rw [show ((0 : Int)).toNat = 0 from rfl] at hx535_1)
           (try rw [show 0 * 2 = 0 from rfl] at hx535_1)
           (try rw [Addr.add_zero'] at hx535_1)
           replace hx535_0 := (HB.out.cell (World.block_lt_of_cell? w _ hx535_0)).trans hx535_0
           replace hx535_1 := (HB.out.cell (World.block_lt_of_cell? w _ hx535_1)).trans hx535_1
           replace p535 := eq_true p535
           replace q535 := eq_true q535
           have p536 : 0 ≤ (x6_1 : Int) := od_
           have q536 : x6_1 < (l0.length : Int) := od_
           obtain ⟨ad536, A536_0, c536_0, e536, hx536_0, hl536_0, hi536_0⟩ := at_L2 HR0.out x6_1 p536 q536
           have hw536_0 := hx536_0
           obtain rfl : ad532 = ad536 := (by injection e536)
           replace hx536_0 := (HB.out.cell (World.block_lt_of_cell? w _ hx536_0)).trans hx536_0
           have HR536_0 := Aside0.mk hi536_0
           have HC536_0 := Aside0.mk hl536_0
           clear hi536_0 hl536_0
           replace p536 := eq_true p536
           replace q536 := eq_true q536
           have ea_ := Option.some.inj (hx534_0.symm.trans hx536_0)
           injection ea_ with ea_ en_ ec_
           subst ea_
           subst ec_
           clear en_
           have p537 : 0 ≤ (x6_1 : Int) := od_
           have q537 : x6_1 < (l0.length : Int) := od_
           obtain ⟨ad537, A537_0, c537_0, e537, hx537_0, hl537_0, hi537_0⟩ := at_L2 HR0.out x6_1 p537 q537
           have hw537_0 := hx537_0
           obtain rfl : ad532 = ad537 := (by injection e537)
           replace hx537_0 := (HB.out.cell (World.block_lt_of_cell? w _ hx537_0)).trans hx537_0
           have HR537_0 := Aside0.mk hi537_0
           have HC537_0 := Aside0.mk hl537_0
           clear hi537_0 hl537_0
           replace p537 := eq_true p537
           replace q537 := eq_true q537
           have ea_ := Option.some.inj (hx534_0.symm.trans hx537_0)
           injection ea_ with ea_ en_ ec_
           subst ea_
           subst ec_
           clear en_
           have p538 : 0 ≤ ((ji11) : Int) := od_
           have q538 : (ji11) < ((rd_L2 l0 x6_1).length : Int) := od_
           obtain ⟨ad538, e538, hx538_0, hx538_1⟩ := at_T49 HR536_0.out (ji11) p538 q538
           have hw538_1 := hx538_1
           have hw538_0 := hx538_0
           cases e538
           replace hx538_0 := (HB.out.cell (World.block_lt_of_cell? w _ hx538_0)).trans hx538_0
           replace hx538_1 := (HB.out.cell (World.block_lt_of_cell? w _ hx538_1)).trans hx538_1
           replace p538 := eq_true p538
           replace q538 := eq_true q538
           refine start_ (n := 22) (S := fun w' => w'.cell? (ad532.add (x6_1).toNat) = some (.slice (some ad535) (rd_L2 l0 x6_1).length c534_0) ∧ w'.cell? ad535 = some (.int .i64 ((rd_T49 (rd_L2 l0 x6_1) 0).f0)) ∧ w'.cell? ⟨ad535.block, ad535.off + 1, none⟩ = some (.int .i64 ((rd_T49 (rd_L2 l0 x6_1) 0).f1)) ∧ w'.cell? (ad532.add (x6_1).toNat) = some (.slice (some ad535) (rd_L2 l0 x6_1).length c534_0) ∧ w'.cell? (ad532.add (x6_1).toNat) = some (.slice (some ad535) (rd_L2 l0 x6_1).length c534_0) ∧ w'.cell? (ad535.add (((ji11)).toNat * 2)) = some (.int .i64 ((rd_T49 (rd_L2 l0 x6_1) (ji11)).f0)) ∧ w'.cell? ⟨(ad535.add (((ji11)).toNat * 2)).block, (ad535.add (((ji11)).toNat * 2)).off + 1, none⟩ = some (.int .i64 ((rd_T49 (rd_L2 l0 x6_1) (ji11)).f1))) (ds := []) #[false, false, false, false, false, false, false, false, false, false, false, false, false, false, false, false, false, false, false, false, false, false] (by kernel_rfl) rfl rfl ⟨((HB.out.cell (World.block_lt_of_cell? w _ hw534_0)).trans hw534_0), ((HB.out.cell (World.block_lt_of_cell? w _ hw535_0)).trans hw535_0), ((HB.out.cell (World.block_lt_of_cell? w _ hw535_1)).trans hw535_1), ((HB.out.cell (World.block_lt_of_cell? w _ hw536_0)).trans hw536_0), ((HB.out.cell (World.block_lt_of_cell? w _ hw537_0)).trans hw537_0), ((HB.out.cell (World.block_lt_of_cell? w _ hw538_0)).trans hw538_0), ((HB.out.cell (World.block_lt_of_cell? w _ hw538_1)).trans hw538_1)⟩ (fun hHeld => ?_); refine with_tabW spec_LooseEnds.tab9 spec_LooseEnds.bits9 (fun HT_ HW_ => ?_)
           generalize wr.drew = w15 at HO_5 HB HR534_0 HR536_0 HR537_0 hx534_0 hx535_0 hx535_1 hx536_0 hx537_0 hx538_0 hx538_1 hHeld ⊢
           refine pure_ (i := 0) (N := some 29) (v := ?_) (a' := ?_) #[true, false, false, false, false, false, false, false, false, false, false, false, false, false, false, false, false, false, false, false, false, false] rfl rfl (any_of HT_.out (by kernel_rfl)) (fun _ _ _ h => h) (Or.inl ⟨by rfl, ?_⟩) ?_ ?_
           rotate_left
           ·intro w'
            go_simp
            with_reducible rfl
           rotate_left
           ·simp only [Act.put, List.setIfInBounds_toArray, List.set_cons_zero, List.set_cons_succ, i64_w, i32_w]
            rfl
           refine pure_ (i := 1) (N := some 30) (v := ?_) (a' := ?_) #[true, true, false, false, false, false, false, false, false, false, false, false, false, false, false, false, false, false, false, false, false, false] rfl rfl (any_of HT_.out (by kernel_rfl)) (fun _ _ _ h => h) (Or.inl ⟨by rfl, ?_⟩) ?_ ?_
           rotate_left
           ·intro w'
            go_simp
            with_reducible rfl
           rotate_left
           ·simp only [Act.put, List.setIfInBounds_toArray, List.set_cons_zero, List.set_cons_succ, i64_w, i32_w]
            rfl
           refine pure_ (i := 2) (N := some 31) (v := ?_) (a' := ?_) #[true, true, true, false, false, false, false, false, false, false, false, false, false, false, false, false, false, false, false, false, false, false] rfl rfl (any_of HT_.out (by kernel_rfl)) (fun _ _ _ h => h) (Or.inl ⟨by rfl, ?_⟩) ?_ ?_
           rotate_left
           ·intro w'
            go_simp
            with_reducible rfl
           rotate_left
           ·simp only [Act.put, List.setIfInBounds_toArray, List.set_cons_zero, List.set_cons_succ, i64_w, i32_w]
            rfl
           refine pure_ (i := 3) (N := some 32) (v := ?_) (a' := ?_) #[true, true, true, true, false, false, false, false, false, false, false, false, false, false, false, false, false, false, false, false, false, false] rfl rfl (any_of HT_.out (by kernel_rfl)) (fun _ _ _ h => h) (Or.inl ⟨by rfl, ?_⟩) ?_ ?_
           rotate_left
           ·intro w'
            go_simp
            with_reducible rfl
           rotate_left
           ·simp only [Act.put, List.setIfInBounds_toArray, List.set_cons_zero, List.set_cons_succ, i64_w, i32_w]
            rfl
           refine pure_ (i := 7) (N := some 36) (v := ?_) (a' := ?_) #[true, true, true, true, false, false, false, true, false, false, false, false, false, false, false, false, false, false, false, false, false, false] rfl rfl (any_of HT_.out (by kernel_rfl)) (fun _ _ _ h => h) (Or.inl ⟨by rfl, ?_⟩) ?_ ?_
           rotate_left
           ·intro w'
            go_simp
            with_reducible rfl
           rotate_left
           ·simp only [Act.put, List.setIfInBounds_toArray, List.set_cons_zero, List.set_cons_succ, i64_w, i32_w]
            rfl
           refine pure_ (i := 8) (N := some 37) (v := ?_) (a' := ?_) #[true, true, true, true, false, false, false, true, true, false, false, false, false, false, false, false, false, false, false, false, false, false] rfl rfl (any_of HT_.out (by kernel_rfl)) (fun _ _ _ h => h) (Or.inl ⟨by rfl, ?_⟩) ?_ ?_
           rotate_left
           ·intro w'
            go_simp
            with_reducible rfl
           rotate_left
           ·simp only [Act.put, List.setIfInBounds_toArray, List.set_cons_zero, List.set_cons_succ, i64_w, i32_w]
            rfl
           refine pure_ (i := 9) (N := some 38) (v := ?_) (a' := ?_) #[true, true, true, true, false, false, false, true, true, true, false, false, false, false, false, false, false, false, false, false, false, false] rfl rfl (any_of HT_.out (by kernel_rfl)) (fun _ _ _ h => h) (Or.inl ⟨by rfl, ?_⟩) ?_ ?_
           rotate_left
           ·intro w'
            go_simp
            with_reducible rfl
           rotate_left
           ·simp only [Act.put, List.setIfInBounds_toArray, List.set_cons_zero, List.set_cons_succ, i64_w, i32_w]
            rfl
           refine pure_ (i := 11) (N := some 40) (v := ?_) (a' := ?_) #[true, true, true, true, false, false, false, true, true, true, false, true, false, false, false, false, false, false, false, false, false, false] rfl rfl (any_of HT_.out (by kernel_rfl)) (fun _ _ _ h => h) (Or.inl ⟨by rfl, ?_⟩) ?_ ?_
           rotate_left
           ·intro w'
            go_simp
            with_reducible rfl
           rotate_left
           ·simp only [Act.put, List.setIfInBounds_toArray, List.set_cons_zero, List.set_cons_succ, i64_w, i32_w]
            rfl
           refine pure_ (i := 12) (N := some 41) (v := ?_) (a' := ?_) #[true, true, true, true, false, false, false, true, true, true, false, true, true, false, false, false, false, false, false, false, false, false] rfl rfl (any_of HT_.out (by kernel_rfl)) (fun _ _ _ h => h) (Or.inl ⟨by rfl, ?_⟩) ?_ ?_
           rotate_left
           ·intro w'
            go_simp
            with_reducible rfl
           rotate_left
           ·simp only [Act.put, List.setIfInBounds_toArray, List.set_cons_zero, List.set_cons_succ, i64_w, i32_w]
            rfl
           refine pure_ (i := 13) (N := some 42) (v := ?_) (a' := ?_) #[true, true, true, true, false, false, false, true, true, true, false, true, true, true, false, false, false, false, false, false, false, false] rfl rfl (any_of HT_.out (by kernel_rfl)) (fun _ _ _ h => h) (Or.inl ⟨by rfl, ?_⟩) ?_ ?_
           rotate_left
           ·intro w'
            go_simp
            with_reducible rfl
           rotate_left
           ·simp only [Act.put, List.setIfInBounds_toArray, List.set_cons_zero, List.set_cons_succ, i64_w, i32_w]
            rfl
           refine take_ (i := 4) (N := some 33) (v := ?_) (a' := ?_) #[true, true, true, true, true, false, false, true, true, true, false, true, true, true, false, false, false, false, false, false, false, false] rfl rfl (take_ofW HT_.out HW_.out (by kernel_rfl)) (fun _ _ _ h => h) (Or.inl ⟨by rfl, ?_⟩) hHeld ?_ ?_
           rotate_left
           ·rintro w' ⟨s0, s1, s2, s3, s4, s5, s6⟩
            go_simp
            with_reducible rfl
           rotate_left
           ·simp only [Act.put, List.setIfInBounds_toArray, List.set_cons_zero, List.set_cons_succ, i64_w, i32_w]
            rfl
           refine pure_ (i := 5) (N := some 34) (v := ?_) (a' := ?_) #[true, true, true, true, true, true, false, true, true, true, false, true, true, true, false, false, false, false, false, false, false, false] rfl rfl (any_of HT_.out (by kernel_rfl)) (fun _ _ _ h => h) (Or.inl ⟨by rfl, ?_⟩) ?_ ?_
           rotate_left
           ·intro w'
            go_simp
            with_reducible rfl
           rotate_left
           ·simp only [Act.put, List.setIfInBounds_toArray, List.set_cons_zero, List.set_cons_succ, i64_w, i32_w]
            rfl
           refine take_ (i := 6) (N := some 35) (v := ?_) (a' := ?_) #[true, true, true, true, true, true, true, true, true, true, false, true, true, true, false, false, false, false, false, false, false, false] rfl rfl (take_ofW HT_.out HW_.out (by kernel_rfl)) (fun _ _ _ h => h) (Or.inl ⟨by rfl, ?_⟩) hHeld ?_ ?_
           rotate_left
           ·rintro w' ⟨s0, s1, s2, s3, s4, s5, s6⟩
            go_simp
            with_reducible rfl
           rotate_left
           ·simp only [Act.put, List.setIfInBounds_toArray, List.set_cons_zero, List.set_cons_succ, i64_w, i32_w]
            rfl
           refine take_ (i := 10) (N := some 39) (v := ?_) (a' := ?_) #[true, true, true, true, true, true, true, true, true, true, true, true, true, true, false, false, false, false, false, false, false, false] rfl rfl (take_ofW HT_.out HW_.out (by kernel_rfl)) (fun _ _ _ h => h) (Or.inl ⟨by rfl, ?_⟩) hHeld ?_ ?_
           rotate_left
           ·rintro w' ⟨s0, s1, s2, s3, s4, s5, s6⟩
            go_simp
            with_reducible rfl
           rotate_left
           ·simp only [Act.put, List.setIfInBounds_toArray, List.set_cons_zero, List.set_cons_succ, i64_w, i32_w]
            rfl
           refine take_ (i := 14) (N := some 43) (v := ?_) (a' := ?_) #[true, true, true, true, true, true, true, true, true, true, true, true, true, true, true, false, false, false, false, false, false, false] rfl rfl (take_ofW HT_.out HW_.out (by kernel_rfl)) (fun _ _ _ h => h) (Or.inl ⟨by rfl, ?_⟩) hHeld ?_ ?_
           rotate_left
           ·rintro w' ⟨s0, s1, s2, s3, s4, s5, s6⟩
            go_simp
            with_reducible rfl
           rotate_left
           ·simp only [Act.put, List.setIfInBounds_toArray, List.set_cons_zero, List.set_cons_succ, i64_w, i32_w]
            rfl
           refine pure_ (i := 15) (N := some 44) (v := ?_) (a' := ?_) #[true, true, true, true, true, true, true, true, true, true, true, true, true, true, true, true, false, false, false, false, false, false] rfl rfl (any_of HT_.out (by kernel_rfl)) (fun _ _ _ h => h) (Or.inl ⟨by rfl, ?_⟩) ?_ ?_
           rotate_left
           ·intro w'
            go_simp
            with_reducible rfl
           rotate_left
           ·simp only [Act.put, List.setIfInBounds_toArray, List.set_cons_zero, List.set_cons_succ, i64_w, i32_w]
            rfl
           refine pure_ (i := 16) (N := some 45) (v := ?_) (a' := ?_) #[true, true, true, true, true, true, true, true, true, true, true, true, true, true, true, true, true, false, false, false, false, false] rfl rfl (any_of HT_.out (by kernel_rfl)) (fun _ _ _ h => h) (Or.inl ⟨by rfl, ?_⟩) ?_ ?_
           rotate_left
           ·intro w'
            go_simp
            with_reducible rfl
           rotate_left
           ·simp only [Act.put, List.setIfInBounds_toArray, List.set_cons_zero, List.set_cons_succ, i64_w, i32_w]
            rfl
           refine pure_ (i := 17) (N := some 46) (v := ?_) (a' := ?_) #[true, true, true, true, true, true, true, true, true, true, true, true, true, true, true, true, true, true, false, false, false, false] rfl rfl (any_of HT_.out (by kernel_rfl)) (fun _ _ _ h => h) (Or.inl ⟨by rfl, ?_⟩) ?_ ?_
           rotate_left
           ·intro w'
            go_simp
            with_reducible rfl
           rotate_left
           ·simp only [Act.put, List.setIfInBounds_toArray, List.set_cons_zero, List.set_cons_succ, i64_w, i32_w]
            rfl
           refine take_ (i := 18) (N := some 47) (v := ?_) (a' := ?_) #[true, true, true, true, true, true, true, true, true, true, true, true, true, true, true, true, true, true, true, false, false, false] rfl rfl (take_ofW HT_.out HW_.out (by kernel_rfl)) (fun _ _ _ h => h) (Or.inl ⟨by rfl, ?_⟩) hHeld ?_ ?_
           rotate_left
           ·rintro w' ⟨s0, s1, s2, s3, s4, s5, s6⟩
            go_simp
            with_reducible rfl
           rotate_left
           ·simp only [Act.put, List.setIfInBounds_toArray, List.set_cons_zero, List.set_cons_succ, i64_w, i32_w]
            rfl
           refine one_ (i := 19) (N := some 48) #[true, true, true, true, true, true, true, true, true, true, true, true, true, true, true, true, true, true, true, true, false, false] rfl rfl (one_of HT_.out (by kernel_rfl)) (by decide) (fun K hK => ?_)
           refine Kd.R_lit_step k49 _ 49 ?hg (N := 48) ?hd (xs := ([(⟨(rd_T49 (rd_L2 l0 x6_1) 0).f0, (rd_T49 (rd_L2 l0 x6_1) 0).f1⟩ : S49), (⟨(rd_T49 (rd_L2 l0 x6_1) (ji11)).f0, (rd_T49 (rd_L2 l0 x6_1) (ji11)).f1⟩ : S49)] : List (S49))) (inner := [.int .i64 ((rd_T49 (rd_L2 l0 x6_1) 0).f0), .int .i64 ((rd_T49 (rd_L2 l0 x6_1) 0).f1), .int .i64 ((rd_T49 (rd_L2 l0 x6_1) (ji11)).f0), .int .i64 ((rd_T49 (rd_L2 l0 x6_1) (ji11)).f1)]) (ok := fun _ => True) (okp := fun _ => True) ?hr ?hp (fun _ hk => hk) trivial (Below.refl _ _) (Nat.le_refl _) (by simp) ?_; (case hd => rfl); (case hg => rfl); (case hr => first | (go_simp; done) | (go_simp; rfl)); (case hp => exact (Reps.c2 (show Kd.M k49 _ _ _ (⟨(rd_T49 (rd_L2 l0 x6_1) 0).f0, (rd_T49 (rd_L2 l0 x6_1) 0).f1⟩ : S49) [.int .i64 ((rd_T49 (rd_L2 l0 x6_1) 0).f0), .int .i64 ((rd_T49 (rd_L2 l0 x6_1) 0).f1)] from (k49_mkM _ _ _ (⟨(rd_T49 (rd_L2 l0 x6_1) 0).f0, (rd_T49 (rd_L2 l0 x6_1) 0).f1⟩ : S49) )) (Reps.c2 (show Kd.M k49 _ _ _ (⟨(rd_T49 (rd_L2 l0 x6_1) (ji11)).f0, (rd_T49 (rd_L2 l0 x6_1) (ji11)).f1⟩ : S49) [.int .i64 ((rd_T49 (rd_L2 l0 x6_1) (ji11)).f0), .int .i64 ((rd_T49 (rd_L2 l0 x6_1) (ji11)).f1)] from (k49_mkM _ _ _ (⟨(rd_T49 (rd_L2 l0 x6_1) (ji11)).f0, (rd_T49 (rd_L2 l0 x6_1) (ji11)).f1⟩ : S49) )) (Reps.none _ _))))
           intro v540 w16 ho17 hb hg_ hnew_
           clear hg_ hnew_
           (first | rw [← Ny539.out] at ho17 | (simp only [Int.reduceToNat] at ho17; rw [← Ny539.out] at ho17))
           have n0_ := Aside0.mk (Kd.R_elder' (by (with_reducible repeat (first | apply Kd.R_alloc | apply Kd.R_drewN | apply Kd.R_drew)); exact HO_5.out) (Kd.R_base ho17) hb)
           have n1_ := Aside0.mk (Kd.R_lower (Kd.R_new' ho17 (Kd.R_lt (by (with_reducible repeat (first | apply Kd.R_alloc | apply Kd.R_drewN | apply Kd.R_drew)); exact HO_5.out))) (below_size (bw_ HB.out)))
           have n2_ := Aside0.mk (below_step (bw_ HB.out) hb)
           clear HO_5 HB
           have HO_5 := n0_; have HO541 := n1_; have HB := n2_
           clear n0_ n1_ n2_ hb ho17
           obtain ⟨Ao19, co19, eo19⟩ := Kd.R_slice HO541.out
           (first | subst eo19 | (injection eo19 with f1_ f2_ f3_; have f4_ := f1_.symm; have f5_ := f3_.symm; clear f1_ f2_ f3_; subst f4_; subst f5_))
           refine hK.out _ _ ⟨((HB.out.cell (World.block_lt_of_cell? w _ hw534_0)).trans hw534_0), ((HB.out.cell (World.block_lt_of_cell? w _ hw535_0)).trans hw535_0), ((HB.out.cell (World.block_lt_of_cell? w _ hw535_1)).trans hw535_1), ((HB.out.cell (World.block_lt_of_cell? w _ hw536_0)).trans hw536_0), ((HB.out.cell (World.block_lt_of_cell? w _ hw537_0)).trans hw537_0), ((HB.out.cell (World.block_lt_of_cell? w _ hw538_0)).trans hw538_0), ((HB.out.cell (World.block_lt_of_cell? w _ hw538_1)).trans hw538_1)⟩ (fun hHeld => ?_)
           clear hK K
           refine norm_ (a' := ?_) ?_ ?_
           rotate_left
           ·show Act.put _ (some 48) _ = _
            simp only [Act.put, List.setIfInBounds_toArray, List.set_cons_zero, List.set_cons_succ, i64_w, i32_w]
            rfl
           refine one_ (i := 20) (N := some 49) #[true, true, true, true, true, true, true, true, true, true, true, true, true, true, true, true, true, true, true, true, true, false] rfl rfl (one_of HT_.out (by kernel_rfl)) (by decide) (fun K hK => ?_)
           refine Kd.R_append_rows_step k49 (w0 := w) w.heap.size (by rfl) (.tmp 29) (.tmp 48) 34 49 (.agg #[(.int .i64 0), (.int .i64 0)]) 16 rfl Try.underlying34 info49 rfl (by decide) (by omega) u5 x5_1 y539 _ _ _ (fun k_ => some k_ ≠ (.slice Ao19 y539.length co19 : Value).ownBlock) (fun _ => False) rfl rfl ?aO ?aR (fun _ _ h => h) (fun _ h => h.elim) ?aF ?aB ?aS ?aL ?_
           (case aR => repeat (first | exact (Kd.R_reads' HO541.out).2.2 | (with_reducible refine Kd.C_alloc ?_ _) | (with_reducible refine Kd.C_drewN ?_ _) | (with_reducible refine Kd.C_drew ?_)))
           (case aB => exact (bw_ HB.out))
           (case aF => exact (fun k_ hk => Kd.fresh' (Kd.R_lt (by (with_reducible repeat (first | apply Kd.R_alloc | apply Kd.R_drewN | apply Kd.R_drew)); exact HO541.out)) k_ hk))
           (case aO => exact (by (with_reducible repeat (first | apply Kd.R_alloc | apply Kd.R_drewN | apply Kd.R_drew)); exact Kd.R_mono HO_5.out (fun _ hk => hk.2)))
           (case aS => exact (below_size (bw_ HB.out)))
           (case aL => have := LMc14.out; omega)
           intro v543 w18 ho hb hg hat
           rw [← Ny542.out] at ho
           have n0_ := Aside0.mk (Kd.R_after (ok := (fun _ => True)) (by (with_reducible repeat (first | apply Kd.R_alloc | apply Kd.R_drewN | apply Kd.R_drew)); exact HO541.out) hg hat)
           have n1_ := Aside0.mk (hb)
           have n2_ := Aside0.mk (ho)
           clear HO541 HB HO_5
           have HO541 := n0_; have HB := n1_; have HO544 := n2_
           clear n0_ n1_ n2_ ho hb hg hat
           refine hK.out _ _ ⟨((HB.out.cell (World.block_lt_of_cell? w _ hw534_0)).trans hw534_0), ((HB.out.cell (World.block_lt_of_cell? w _ hw535_0)).trans hw535_0), ((HB.out.cell (World.block_lt_of_cell? w _ hw535_1)).trans hw535_1), ((HB.out.cell (World.block_lt_of_cell? w _ hw536_0)).trans hw536_0), ((HB.out.cell (World.block_lt_of_cell? w _ hw537_0)).trans hw537_0), ((HB.out.cell (World.block_lt_of_cell? w _ hw538_0)).trans hw538_0), ((HB.out.cell (World.block_lt_of_cell? w _ hw538_1)).trans hw538_1)⟩ (fun hHeld => ?_)
           clear hK K
           refine norm_ (a' := ?_) ?_ ?_
           rotate_left
           ·show Act.put _ (some 49) _ = _
            simp only [Act.put, List.setIfInBounds_toArray, List.set_cons_zero, List.set_cons_succ, i64_w, i32_w]
            rfl
           refine pure_ (i := 21) (N := some 5) (v := ?_) (a' := ?_) #[true, true, true, true, true, true, true, true, true, true, true, true, true, true, true, true, true, true, true, true, true, true] rfl rfl (any_of HT_.out (by kernel_rfl)) (fun _ _ _ h => h) (Or.inl ⟨by rfl, ?_⟩) ?_ ?_
           rotate_left
           ·intro w'
            go_simp
            with_reducible rfl
           rotate_left
           ·simp only [Act.put, List.setIfInBounds_toArray, List.set_cons_zero, List.set_cons_succ, i64_w, i32_w]
            rfl
           refine done_ (done_of HT_.out (by kernel_rfl)) ?_
           try go_wp2
           try subst hji11
           go_roundg k1
           case measure => have := HK1.out; omega
           case rel => exact ⟨(y542), (wrap64 (x6_1 + 1)), (by first | rfl | (simp; done) | (simp [*]; done)), H', ⟨by have := HK1.out; omega⟩, ⟨by (with_reducible repeat (first | apply Kd.R_alloc | apply Kd.R_drewN | apply Kd.R_drew)); exact Kd.R_mono HO544.out (fun _ hk => trivial)⟩, ⟨bw_ HB.out⟩⟩
          ·rw [if_neg c14] at H
           exact absurd H (by simp)
         ·rw [if_neg c13] at H
          exact absurd H (by simp)
        ·rw [if_neg c12] at H
         exact absurd H (by simp)
       ·rw [if_neg c10] at H
        exact absurd H (by simp)
     ·rw [if_neg c7] at H
      exact absurd H (by simp)
    ·rw [if_neg c6] at H
     have c6b0 : decide (x6_1 < (l0.length : Int)) = false := decide_eq_false c6
     clear c6
     obtain ⟨y545, hy545⟩ : ∃ y_ : List (S49), y_ = (([] : List (S49))) := ⟨_, rfl⟩
     replace H : (spec_LooseEnds.l1 k1 x5_1 y545 0) = some (r1, r2) := by first | (rw [hy545]; with_reducible exact H) | (have H2_ := (Option.bind_some _ _).symm.trans H; rw [hy545]; with_reducible exact H2_) | (have H2_ := (Option.bind_some _ _).symm.trans H; with_reducible exact H2_) | with_reducible exact H | (rw [hy545]; exact H) | exact H
     have Ny545 := Aside0.mk hy545
     clear hy545
     have H' := Aside0.mk H
     clear H
     go_wp2_with (first | ((with_reducible refine gate_dst (N := 50) rfl ?_); refine Kd.R_lit k49 _ 49 ?hg (N := 50) ?hd (xs := ([] : List (S49))) (inner := []) (ok := fun _ => True) (okp := fun _ => True) ?hr ?hp (fun _ hk => hk) trivial (Below.refl _ _) (Nat.le_refl _) (by simp) ?_; (case hd => rfl); (case hg => rfl); (case hr => first | (go_simp; done) | (go_simp; rfl)); (case hp => exact (Reps.none _ _)); intro v546 w20 ho21 hb hg_ hnew_; clear hg_ hnew_; (first | rw [← Ny545.out] at ho21 | (simp only [Int.reduceToNat] at ho21; rw [← Ny545.out] at ho21)); have n0_ := Aside0.mk (Kd.R_elder' (by (with_reducible repeat (first | apply Kd.R_alloc | apply Kd.R_drewN | apply Kd.R_drew)); exact HO_5.out) (Kd.R_base ho21) hb); have n1_ := Aside0.mk (Kd.R_lower (Kd.R_new' ho21 (Kd.R_lt (by (with_reducible repeat (first | apply Kd.R_alloc | apply Kd.R_drewN | apply Kd.R_drew)); exact HO_5.out))) (below_size (bw_ HB.out))); have n2_ := Aside0.mk (below_step (bw_ HB.out) hb); clear HO_5; clear HB; have HO_5 := n0_; have HO547 := n1_; have HB := n2_; clear n0_ n1_ n2_; clear hb ho21))
     go_loopg [7, 8] k1 (fun kq v7 v8 w' => ∃ (x7_2 : List (S49)) (x8_2 : Int), v8 = .int .i64 x8_2 ∧ Aside0 (spec_LooseEnds.l1 kq x5_1 x7_2 x8_2 = some (r1, r2)) ∧ Aside0 (kq ≤ k1) ∧ Aside0 (Kd.R k49 49 w' w.heap.size (fun k_ => some k_ ≠ (v7 : Value).ownBlock) u5 x5_1) ∧ Aside0 (Kd.R k49 49 w' w.heap.size (fun k_ => some k_ ≠ (u5 : Value).ownBlock) v7 x7_2) ∧ Aside0 (Below w.heap.size w w'))
     case atStart => exact ⟨(y545), (0), (by first | rfl | (simp; done) | (simp [*]; done)), H', ⟨Nat.le_refl _⟩, ⟨by (with_reducible repeat (first | apply Kd.R_alloc | apply Kd.R_drewN | apply Kd.R_drew)); exact Kd.R_mono HO_5.out (fun _ hk => hk.2)⟩, ⟨by (with_reducible repeat (first | apply Kd.R_alloc | apply Kd.R_drewN | apply Kd.R_drew)); exact Kd.R_mono HO547.out (fun _ hk => hk.2)⟩, ⟨bw_ HB.out⟩⟩
     case round =>
      clear H'
      try clear c1
      try clear c2
      try clear p2
      try clear c3
      try clear c3b0
      try clear c3b1
      try clear c5
      try clear p5
      try clear q5
      try clear hx5
      try clear qi5
      try clear c6
      try clear c6b0
      try clear p6
      try clear c7
      try clear c7b0
      try clear c9
      try clear c10
      try clear c10b0
      try clear c10b1
      try clear c12
      try clear c12b0
      try clear c13
      try clear c13b0
      try clear c14
      try clear c18
      try clear c21
      try clear hx532_0
      try clear hx534_0
      try clear hx535_0
      try clear hx535_1
      try clear hx536_0
      try clear hx537_0
      try clear hx538_0
      try clear hx538_1
      try clear p2
      try clear p532
      try clear p534
      try clear p535
      try clear p536
      try clear p537
      try clear p538
      try clear q532
      try clear q534
      try clear q535
      try clear q536
      try clear q537
      try clear q538
      obtain ⟨x7_2, x8_2, rfl, HA, HK2, HO_5, HO_7, HB⟩ := hrel
      cases gk with
      | zero => exact absurd HA.out (by simp [spec_LooseEnds.l1])
      | succ k2 =>
       have H := HA.out
       clear HA
       simp only [spec_LooseEnds.l1] at H
       by_cases c22 : x8_2 < (x5_1.length : Int)
       ·rw [if_pos c22] at H
        have c22b0 : decide (x8_2 < (x5_1.length : Int)) = true := decide_eq_true c22
        clear c22
        have H' := Aside0.mk H
        clear H
        obtain ⟨Ao23, co23, eo23⟩ := Kd.R_slice HO_5.out
        subst eo23
        go_wp2
        go_loopg [9, 10] k2 (fun kq v9 v10 w' => ∃ (x9_3 : Int) (x10_3 : Int), v9 = .int .i64 x9_3 ∧ v10 = .int .i64 x10_3 ∧ Aside0 (spec_LooseEnds.l2 kq x5_1 x7_2 x8_2 x9_3 x10_3 = some (r1, r2)) ∧ Aside0 (kq ≤ k2) ∧ Aside0 (Kd.R k49 49 w' w.heap.size (fun k_ => some k_ ≠ (u7 : Value).ownBlock) (.slice Ao23 x5_1.length co23) x5_1) ∧ Aside0 (Kd.R k49 49 w' w.heap.size (fun k_ => some k_ ≠ ((.slice Ao23 x5_1.length co23) : Value).ownBlock) u7 x7_2) ∧ Aside0 (Below w.heap.size w w'))
        case atStart => exact ⟨(0), (0), (by first | rfl | (simp; done) | (simp [*]; done)), (by first | rfl | (simp; done) | (simp [*]; done)), H', ⟨Nat.le_refl _⟩, ⟨by (with_reducible repeat (first | apply Kd.R_alloc | apply Kd.R_drewN | apply Kd.R_drew)); exact HO_5.out⟩, ⟨by (with_reducible repeat (first | apply Kd.R_alloc | apply Kd.R_drewN | apply Kd.R_drew)); exact HO_7.out⟩, ⟨bw_ HB.out⟩⟩
        case round =>
         clear H'
         try clear c1
         try clear c2
         try clear p2
         try clear c3
         try clear c3b0
         try clear c3b1
         try clear c5
         try clear p5
         try clear q5
         try clear hx5
         try clear qi5
         try clear c6
         try clear c6b0
         try clear p6
         try clear c7
         try clear c7b0
         try clear c9
         try clear c10
         try clear c10b0
         try clear c10b1
         try clear c12
         try clear c12b0
         try clear c13
         try clear c13b0
         try clear c14
         try clear c18
         try clear c21
         try clear c22
         try clear c22b0
         try clear hx532_0
         try clear hx534_0
         try clear hx535_0
         try clear hx535_1
         try clear hx536_0
         try clear hx537_0
         try clear hx538_0
         try clear hx538_1
         try clear p2
         try clear p5
         try clear p532
         try clear p534
         try clear p535
         try clear p536
         try clear p537
         try clear p538
         try clear p6
         try clear q5
         try clear q532
         try clear q534
         try clear q535
         try clear q536
         try clear q537
         try clear q538
         obtain ⟨x9_3, x10_3, rfl, rfl, HA, HK3, HO_5, HO_7, HB⟩ := hrel
         cases gk with
         | zero => exact absurd HA.out (by simp [spec_LooseEnds.l2])
         | succ k3 =>
          have H := HA.out
          clear HA
          simp only [spec_LooseEnds.l2] at H
          by_cases c24 : x10_3 < (x5_1.length : Int)
          ·rw [if_pos c24] at H
           have c24b0 : decide (x10_3 < (x5_1.length : Int)) = true := decide_eq_true c24
           clear c24
           by_cases c25 : 0 ≤ x10_3
           ·rw [if_pos c25] at H
            have c25b0 : decide (0 ≤ x10_3) = true := decide_eq_true c25
            clear c25
            by_cases c26 : 0 ≤ x8_2
            ·rw [if_pos c26] at H
             have c26b0 : decide (0 ≤ x8_2) = true := decide_eq_true c26
             clear c26
             by_cases c27 : x8_2 < (x5_1.length : Int)
             ·rw [if_pos c27] at H
              have c27b0 : decide (x8_2 < (x5_1.length : Int)) = true := decide_eq_true c27
              clear c27
              by_cases c28 : (((rd_T49 x5_1 x10_3).f0) == ((rd_T49 x5_1 x8_2).f0) && (((rd_T49 x5_1 x10_3).f1) == ((rd_T49 x5_1 x8_2).f1))) = true
              ·rw [if_pos c28] at H
               have c28b0 : (((rd_T49 x5_1 x10_3).f0) == ((rd_T49 x5_1 x8_2).f0) && (((rd_T49 x5_1 x10_3).f1) == ((rd_T49 x5_1 x8_2).f1))) = true := c28
               (try (have c28b1 : decide (((rd_T49 x5_1 x10_3).f0) = ((rd_T49 x5_1 x8_2).f0) && (((rd_T49 x5_1 x10_3).f1) == ((rd_T49 x5_1 x8_2).f1))) = true := by simpa using c28))
               (try (have c28b2 : (((rd_T49 x5_1 x10_3).f0) == ((rd_T49 x5_1 x8_2).f0) && (((rd_T49 x5_1 x10_3).f1) == ((rd_T49 x5_1 x8_2).f1))) = true := by simpa using c28))
               clear c28
               have H' := Aside0.mk H
               clear H
               try go_wp2
               have n0_ := Aside0.mk (Kd.R_drew HO_5.out)
               have n1_ := Aside0.mk (Kd.R_drew HO_7.out)
               have n2_ := Aside0.mk (below_drew1 HB.out)
               clear HO_5 HO_7 HB
               have HO_5 := n0_; have HO_7 := n1_; have HB := n2_
               clear n0_ n1_ n2_
               have p548 : 0 ≤ (x10_3 : Int) := od_
               have q548 : x10_3 < (x5_1.length : Int) := od_
               obtain ⟨ad548, e548, hx548_0, hx548_1⟩ := at_T49 (Kd.R_reads' HO_5.out).2.2 x10_3 p548 q548
               cases e548
               replace p548 := eq_true p548
               replace q548 := eq_true q548
               have p549 : 0 ≤ (x8_2 : Int) := od_
               have q549 : x8_2 < (x5_1.length : Int) := od_
               obtain ⟨ad549, e549, hx549_0, hx549_1⟩ := at_T49 (Kd.R_reads' HO_5.out).2.2 x8_2 p549 q549
               obtain rfl : ad548 = ad549 := (by injection e549)
               replace p549 := eq_true p549
               replace q549 := eq_true q549
               refine start_ (n := 9) (S := fun w' => w'.cell? (ad548.add ((x10_3).toNat * 2)) = some (.int .i64 ((rd_T49 x5_1 x10_3).f0)) ∧ w'.cell? ⟨(ad548.add ((x10_3).toNat * 2)).block, (ad548.add ((x10_3).toNat * 2)).off + 1, none⟩ = some (.int .i64 ((rd_T49 x5_1 x10_3).f1)) ∧ w'.cell? (ad548.add ((x8_2).toNat * 2)) = some (.int .i64 ((rd_T49 x5_1 x8_2).f0)) ∧ w'.cell? ⟨(ad548.add ((x8_2).toNat * 2)).block, (ad548.add ((x8_2).toNat * 2)).off + 1, none⟩ = some (.int .i64 ((rd_T49 x5_1 x8_2).f1))) (ds := []) #[false, false, false, false, false, false, false, false, false] (by kernel_rfl) rfl rfl ⟨hx548_0, hx548_1, hx549_0, hx549_1⟩ (fun hHeld => ?_); refine with_tabW spec_LooseEnds.tab18 spec_LooseEnds.bits18 (fun HT_ HW_ => ?_)
               generalize wr.drew = w29 at HO_5 HO_7 HB hx548_0 hx548_1 hx549_0 hx549_1 hHeld ⊢
               refine pure_ (i := 0) (N := some 63) (v := ?_) (a' := ?_) #[true, false, false, false, false, false, false, false, false] rfl rfl (any_of HT_.out (by kernel_rfl)) (fun _ _ _ h => h) (Or.inl ⟨by rfl, ?_⟩) ?_ ?_
               rotate_left
               ·intro w'
                go_simp
                with_reducible rfl
               rotate_left
               ·simp only [Act.put, List.setIfInBounds_toArray, List.set_cons_zero, List.set_cons_succ, i64_w, i32_w]
                rfl
               refine pure_ (i := 1) (N := some 64) (v := ?_) (a' := ?_) #[true, true, false, false, false, false, false, false, false] rfl rfl (any_of HT_.out (by kernel_rfl)) (fun _ _ _ h => h) (Or.inl ⟨by rfl, ?_⟩) ?_ ?_
               rotate_left
               ·intro w'
                go_simp
                with_reducible rfl
               rotate_left
               ·simp only [Act.put, List.setIfInBounds_toArray, List.set_cons_zero, List.set_cons_succ, i64_w, i32_w]
                rfl
               refine pure_ (i := 2) (N := some 65) (v := ?_) (a' := ?_) #[true, true, true, false, false, false, false, false, false] rfl rfl (any_of HT_.out (by kernel_rfl)) (fun _ _ _ h => h) (Or.inl ⟨by rfl, ?_⟩) ?_ ?_
               rotate_left
               ·intro w'
                go_simp
                with_reducible rfl
               rotate_left
               ·simp only [Act.put, List.setIfInBounds_toArray, List.set_cons_zero, List.set_cons_succ, i64_w, i32_w]
                rfl
               refine pure_ (i := 4) (N := some 67) (v := ?_) (a' := ?_) #[true, true, true, false, true, false, false, false, false] rfl rfl (any_of HT_.out (by kernel_rfl)) (fun _ _ _ h => h) (Or.inl ⟨by rfl, ?_⟩) ?_ ?_
               rotate_left
               ·intro w'
                go_simp
                with_reducible rfl
               rotate_left
               ·simp only [Act.put, List.setIfInBounds_toArray, List.set_cons_zero, List.set_cons_succ, i64_w, i32_w]
                rfl
               refine pure_ (i := 5) (N := some 68) (v := ?_) (a' := ?_) #[true, true, true, false, true, true, false, false, false] rfl rfl (any_of HT_.out (by kernel_rfl)) (fun _ _ _ h => h) (Or.inl ⟨by rfl, ?_⟩) ?_ ?_
               rotate_left
               ·intro w'
                go_simp
                with_reducible rfl
               rotate_left
               ·simp only [Act.put, List.setIfInBounds_toArray, List.set_cons_zero, List.set_cons_succ, i64_w, i32_w]
                rfl
               refine pure_ (i := 6) (N := some 69) (v := ?_) (a' := ?_) #[true, true, true, false, true, true, true, false, false] rfl rfl (any_of HT_.out (by kernel_rfl)) (fun _ _ _ h => h) (Or.inl ⟨by rfl, ?_⟩) ?_ ?_
               rotate_left
               ·intro w'
                go_simp
                with_reducible rfl
               rotate_left
               ·simp only [Act.put, List.setIfInBounds_toArray, List.set_cons_zero, List.set_cons_succ, i64_w, i32_w]
                rfl
               refine take_ (i := 3) (N := some 66) (v := ?_) (a' := ?_) #[true, true, true, true, true, true, true, false, false] rfl rfl (take_ofW HT_.out HW_.out (by kernel_rfl)) (fun _ _ _ h => h) (Or.inl ⟨by rfl, ?_⟩) hHeld ?_ ?_
               rotate_left
               ·rintro w' ⟨s0, s1, s2, s3⟩
                go_simp
                with_reducible rfl
               rotate_left
               ·simp only [Act.put, List.setIfInBounds_toArray, List.set_cons_zero, List.set_cons_succ, i64_w, i32_w]
                rfl
               refine take_ (i := 7) (N := some 70) (v := ?_) (a' := ?_) #[true, true, true, true, true, true, true, true, false] rfl rfl (take_ofW HT_.out HW_.out (by kernel_rfl)) (fun _ _ _ h => h) (Or.inl ⟨by rfl, ?_⟩) hHeld ?_ ?_
               rotate_left
               ·rintro w' ⟨s0, s1, s2, s3⟩
                go_simp
                with_reducible rfl
               rotate_left
               ·simp only [Act.put, List.setIfInBounds_toArray, List.set_cons_zero, List.set_cons_succ, i64_w, i32_w]
                rfl
               refine pure_ (i := 8) (N := some 71) (v := ?_) (a' := ?_) #[true, true, true, true, true, true, true, true, true] rfl rfl (any_of HT_.out (by kernel_rfl)) (fun _ _ _ h => h) (Or.inl ⟨by rfl, ?_⟩) ?_ ?_
               rotate_left
               ·intro w'
                go_simp
                with_reducible rfl
               rotate_left
               ·simp only [Act.put, List.setIfInBounds_toArray, List.set_cons_zero, List.set_cons_succ, i64_w, i32_w]
                rfl
               refine done_ (done_of HT_.out (by kernel_rfl)) ?_
               try go_wp2
               go_roundg k3
               case measure => have := HK1.out; have := HK2.out; have := HK3.out; omega
               case rel => exact ⟨(wrap64 (x9_3 + 1)), (wrap64 (x10_3 + 1)), (by first | rfl | (simp; done) | (simp [*]; done)), (by first | rfl | (simp; done) | (simp [*]; done)), H', ⟨by have := HK1.out; have := HK2.out; have := HK3.out; omega⟩, ⟨by (with_reducible repeat (first | apply Kd.R_alloc | apply Kd.R_drewN | apply Kd.R_drew)); exact HO_5.out⟩, ⟨by (with_reducible repeat (first | apply Kd.R_alloc | apply Kd.R_drewN | apply Kd.R_drew)); exact HO_7.out⟩, ⟨bw_ HB.out⟩⟩
              ·rw [if_neg c28] at H
               have c28b0 : (((rd_T49 x5_1 x10_3).f0) == ((rd_T49 x5_1 x8_2).f0) && (((rd_T49 x5_1 x10_3).f1) == ((rd_T49 x5_1 x8_2).f1))) = false := by simpa using c28
               (try (have c28b1 : decide (((rd_T49 x5_1 x10_3).f0) = ((rd_T49 x5_1 x8_2).f0) && (((rd_T49 x5_1 x10_3).f1) == ((rd_T49 x5_1 x8_2).f1))) = false := by simpa using c28))
               (try (have c28b2 : (((rd_T49 x5_1 x10_3).f0) == ((rd_T49 x5_1 x8_2).f0) && (((rd_T49 x5_1 x10_3).f1) == ((rd_T49 x5_1 x8_2).f1))) = false := by simpa using c28))
               (try (have c28b3 : ¬ (((rd_T49 x5_1 x10_3).f0) = ((rd_T49 x5_1 x8_2).f0) && (((rd_T49 x5_1 x10_3).f1) == ((rd_T49 x5_1 x8_2).f1))) := by simpa using c28))
               clear c28
               have H' := Aside0.mk H
               clear H
               try go_wp2
               have n0_ := Aside0.mk (Kd.R_drew HO_5.out)
               have n1_ := Aside0.mk (Kd.R_drew HO_7.out)
               have n2_ := Aside0.mk (below_drew1 HB.out)
               clear HO_5 HO_7 HB
               have HO_5 := n0_; have HO_7 := n1_; have HB := n2_
               clear n0_ n1_ n2_
               have p548 : 0 ≤ (x10_3 : Int) := od_
               have q548 : x10_3 < (x5_1.length : Int) := od_
               obtain ⟨ad548, e548, hx548_0, hx548_1⟩ := at_T49 (Kd.R_reads' HO_5.out).2.2 x10_3 p548 q548
               cases e548
               replace p548 := eq_true p548
               replace q548 := eq_true q548
               have p549 : 0 ≤ (x8_2 : Int) := od_
               have q549 : x8_2 < (x5_1.length : Int) := od_
               obtain ⟨ad549, e549, hx549_0, hx549_1⟩ := at_T49 (Kd.R_reads' HO_5.out).2.2 x8_2 p549 q549
               obtain rfl : ad548 = ad549 := (by injection e549)
               replace p549 := eq_true p549
               replace q549 := eq_true q549
               refine start_ (n := 9) (S := fun w' => w'.cell? (ad548.add ((x10_3).toNat * 2)) = some (.int .i64 ((rd_T49 x5_1 x10_3).f0)) ∧ w'.cell? ⟨(ad548.add ((x10_3).toNat * 2)).block, (ad548.add ((x10_3).toNat * 2)).off + 1, none⟩ = some (.int .i64 ((rd_T49 x5_1 x10_3).f1)) ∧ w'.cell? (ad548.add ((x8_2).toNat * 2)) = some (.int .i64 ((rd_T49 x5_1 x8_2).f0)) ∧ w'.cell? ⟨(ad548.add ((x8_2).toNat * 2)).block, (ad548.add ((x8_2).toNat * 2)).off + 1, none⟩ = some (.int .i64 ((rd_T49 x5_1 x8_2).f1))) (ds := []) #[false, false, false, false, false, false, false, false, false] (by kernel_rfl) rfl rfl ⟨hx548_0, hx548_1, hx549_0, hx549_1⟩ (fun hHeld => ?_); refine with_tabW spec_LooseEnds.tab18 spec_LooseEnds.bits18 (fun HT_ HW_ => ?_)
               generalize wr.drew = w30 at HO_5 HO_7 HB hx548_0 hx548_1 hx549_0 hx549_1 hHeld ⊢
               refine pure_ (i := 0) (N := some 63) (v := ?_) (a' := ?_) #[true, false, false, false, false, false, false, false, false] rfl rfl (any_of HT_.out (by kernel_rfl)) (fun _ _ _ h => h) (Or.inl ⟨by rfl, ?_⟩) ?_ ?_
               rotate_left
               ·intro w'
                go_simp
                with_reducible rfl
               rotate_left
               ·simp only [Act.put, List.setIfInBounds_toArray, List.set_cons_zero, List.set_cons_succ, i64_w, i32_w]
                rfl
               refine pure_ (i := 1) (N := some 64) (v := ?_) (a' := ?_) #[true, true, false, false, false, false, false, false, false] rfl rfl (any_of HT_.out (by kernel_rfl)) (fun _ _ _ h => h) (Or.inl ⟨by rfl, ?_⟩) ?_ ?_
               rotate_left
               ·intro w'
                go_simp
                with_reducible rfl
               rotate_left
               ·simp only [Act.put, List.setIfInBounds_toArray, List.set_cons_zero, List.set_cons_succ, i64_w, i32_w]
                rfl
               refine pure_ (i := 2) (N := some 65) (v := ?_) (a' := ?_) #[true, true, true, false, false, false, false, false, false] rfl rfl (any_of HT_.out (by kernel_rfl)) (fun _ _ _ h => h) (Or.inl ⟨by rfl, ?_⟩) ?_ ?_
               rotate_left
               ·intro w'
                go_simp
                with_reducible rfl
               rotate_left
               ·simp only [Act.put, List.setIfInBounds_toArray, List.set_cons_zero, List.set_cons_succ, i64_w, i32_w]
                rfl
               refine pure_ (i := 4) (N := some 67) (v := ?_) (a' := ?_) #[true, true, true, false, true, false, false, false, false] rfl rfl (any_of HT_.out (by kernel_rfl)) (fun _ _ _ h => h) (Or.inl ⟨by rfl, ?_⟩) ?_ ?_
               rotate_left
               ·intro w'
                go_simp
                with_reducible rfl
               rotate_left
               ·simp only [Act.put, List.setIfInBounds_toArray, List.set_cons_zero, List.set_cons_succ, i64_w, i32_w]
                rfl
               refine pure_ (i := 5) (N := some 68) (v := ?_) (a' := ?_) #[true, true, true, false, true, true, false, false, false] rfl rfl (any_of HT_.out (by kernel_rfl)) (fun _ _ _ h => h) (Or.inl ⟨by rfl, ?_⟩) ?_ ?_
               rotate_left
               ·intro w'
                go_simp
                with_reducible rfl
               rotate_left
               ·simp only [Act.put, List.setIfInBounds_toArray, List.set_cons_zero, List.set_cons_succ, i64_w, i32_w]
                rfl
               refine pure_ (i := 6) (N := some 69) (v := ?_) (a' := ?_) #[true, true, true, false, true, true, true, false, false] rfl rfl (any_of HT_.out (by kernel_rfl)) (fun _ _ _ h => h) (Or.inl ⟨by rfl, ?_⟩) ?_ ?_
               rotate_left
               ·intro w'
                go_simp
                with_reducible rfl
               rotate_left
               ·simp only [Act.put, List.setIfInBounds_toArray, List.set_cons_zero, List.set_cons_succ, i64_w, i32_w]
                rfl
               refine take_ (i := 3) (N := some 66) (v := ?_) (a' := ?_) #[true, true, true, true, true, true, true, false, false] rfl rfl (take_ofW HT_.out HW_.out (by kernel_rfl)) (fun _ _ _ h => h) (Or.inl ⟨by rfl, ?_⟩) hHeld ?_ ?_
               rotate_left
               ·rintro w' ⟨s0, s1, s2, s3⟩
                go_simp
                with_reducible rfl
               rotate_left
               ·simp only [Act.put, List.setIfInBounds_toArray, List.set_cons_zero, List.set_cons_succ, i64_w, i32_w]
                rfl
               refine take_ (i := 7) (N := some 70) (v := ?_) (a' := ?_) #[true, true, true, true, true, true, true, true, false] rfl rfl (take_ofW HT_.out HW_.out (by kernel_rfl)) (fun _ _ _ h => h) (Or.inl ⟨by rfl, ?_⟩) hHeld ?_ ?_
               rotate_left
               ·rintro w' ⟨s0, s1, s2, s3⟩
                go_simp
                with_reducible rfl
               rotate_left
               ·simp only [Act.put, List.setIfInBounds_toArray, List.set_cons_zero, List.set_cons_succ, i64_w, i32_w]
                rfl
               refine pure_ (i := 8) (N := some 71) (v := ?_) (a' := ?_) #[true, true, true, true, true, true, true, true, true] rfl rfl (any_of HT_.out (by kernel_rfl)) (fun _ _ _ h => h) (Or.inl ⟨by rfl, ?_⟩) ?_ ?_
               rotate_left
               ·intro w'
                go_simp
                with_reducible rfl
               rotate_left
               ·simp only [Act.put, List.setIfInBounds_toArray, List.set_cons_zero, List.set_cons_succ, i64_w, i32_w]
                rfl
               refine done_ (done_of HT_.out (by kernel_rfl)) ?_
               try go_wp2
               go_roundg k3
               case measure => have := HK1.out; have := HK2.out; have := HK3.out; omega
               case rel => exact ⟨(x9_3), (wrap64 (x10_3 + 1)), (by first | rfl | (simp; done) | (simp [*]; done)), (by first | rfl | (simp; done) | (simp [*]; done)), H', ⟨by have := HK1.out; have := HK2.out; have := HK3.out; omega⟩, ⟨by (with_reducible repeat (first | apply Kd.R_alloc | apply Kd.R_drewN | apply Kd.R_drew)); exact HO_5.out⟩, ⟨by (with_reducible repeat (first | apply Kd.R_alloc | apply Kd.R_drewN | apply Kd.R_drew)); exact HO_7.out⟩, ⟨bw_ HB.out⟩⟩
             ·rw [if_neg c27] at H
              exact absurd H (by simp)
            ·rw [if_neg c26] at H
             exact absurd H (by simp)
           ·rw [if_neg c25] at H
            exact absurd H (by simp)
          ·rw [if_neg c24] at H
           have c24b0 : decide (x10_3 < (x5_1.length : Int)) = false := decide_eq_false c24
           clear c24
           by_cases c31 : x9_3 = 1
           ·rw [if_pos c31] at H
            have c31b0 : (x9_3 == 1) = true := beq_iff_eq.mpr c31
            have c31b1 : (x9_3 != 1) = false := bne_eq_false_iff_eq.mpr c31
            clear c31
            by_cases c32 : 0 ≤ x8_2
            ·rw [if_pos c32] at H
             have c32b0 : decide (0 ≤ x8_2) = true := decide_eq_true c32
             clear c32
             by_cases c33 : x8_2 < (x5_1.length : Int)
             ·rw [if_pos c33] at H
              have c33b0 : decide (x8_2 < (x5_1.length : Int)) = true := decide_eq_true c33
              clear c33
              by_cases c34 : x7_2.length < 8796093022208
              ·rw [if_pos c34] at H
               have LMc34 := Aside0.mk c34
               clear c34
               obtain ⟨y551, hy551⟩ : ∃ y_ : List (S49), y_ = (x7_2 ++ [(⟨(rd_T49 x5_1 x8_2).f0, (rd_T49 x5_1 x8_2).f1⟩ : S49)]) := ⟨_, rfl⟩
               replace H : (spec_LooseEnds.l1 k3 x5_1 y551 (wrap64 (x8_2 + 1))) = some (r1, r2) := by first | (rw [hy551]; with_reducible exact H) | (have H2_ := (Option.bind_some _ _).symm.trans H; rw [hy551]; with_reducible exact H2_) | (have H2_ := (Option.bind_some _ _).symm.trans H; with_reducible exact H2_) | with_reducible exact H | (rw [hy551]; exact H) | exact H
               have Ny551 := Aside0.mk hy551
               clear hy551
               have H' := Aside0.mk H
               clear H
               have p550 : 0 ≤ (x8_2 : Int) := od_
               have q550 : x8_2 < (x5_1.length : Int) := od_
               obtain ⟨ad550, e550, hx550_0, hx550_1⟩ := at_T49 (Kd.R_reads' HO_5.out).2.2 x8_2 p550 q550
               cases e550
               replace p550 := eq_true p550
               replace q550 := eq_true q550
               go_wp2_with (first | ((with_reducible refine gate_builtin (b := .append) (xs := #[.tmp 76, .tmp 81]) rfl ?_); at_builtin; refine Kd.R_append k49 (w0 := w) w.heap.size rfl (.tmp 76) (.tmp 81) 34 49 (.agg #[(.int .i64 0), (.int .i64 0)]) 16 rfl Try.underlying34 info49 rfl (by decide) (by omega) u7 x7_2 (⟨(rd_T49 x5_1 x8_2).f0, (rd_T49 x5_1 x8_2).f1⟩ : S49) [.int .i64 ((rd_T49 x5_1 x8_2).f0), .int .i64 ((rd_T49 x5_1 x8_2).f1)] (fun k_ => some k_ ≠ (.slice (some ad550) x5_1.length co23 : Value).ownBlock) (fun _ => False) rfl rfl ?aP (fun _ hk => hk.elim) ?aF ?aO ?aB ?aS ?aL ?_; (case aP => exact k49_mkM _ _ _ (⟨(rd_T49 x5_1 x8_2).f0, (rd_T49 x5_1 x8_2).f1⟩ : S49)); (case aB => exact (bw_ HB.out)); (case aF => exact (fun k_ hk => Kd.fresh' (Kd.R_lt (by (with_reducible repeat (first | apply Kd.R_alloc | apply Kd.R_drewN | apply Kd.R_drew)); exact HO_5.out)) k_ hk)); (case aO => exact (by (with_reducible repeat (first | apply Kd.R_alloc | apply Kd.R_drewN | apply Kd.R_drew)); exact HO_7.out)); (case aS => exact (below_size (bw_ HB.out))); (case aL => have := LMc34.out; omega); intro v552 w35 ho hb hg hat; rw [← Ny551.out] at ho; have n0_ := Aside0.mk (Kd.R_after (ok := (fun _ => True)) (by (with_reducible repeat (first | apply Kd.R_alloc | apply Kd.R_drewN | apply Kd.R_drew)); exact Kd.R_mono HO_5.out (fun _ hk => ⟨trivial, hk⟩)) hg hat); have n1_ := Aside0.mk (hb); have n2_ := Aside0.mk (ho); clear HO_5; clear HB; clear HO_7; have HO_5 := n0_; have HB := n1_; have HO553 := n2_; clear n0_ n1_ n2_; clear ho hb hg hat))
               go_roundg k3
               case measure => have := HK1.out; have := HK2.out; have := HK3.out; omega
               case rel => exact ⟨(y551), (wrap64 (x8_2 + 1)), (by first | rfl | (simp; done) | (simp [*]; done)), H', ⟨by have := HK1.out; have := HK2.out; have := HK3.out; omega⟩, ⟨by (with_reducible repeat (first | apply Kd.R_alloc | apply Kd.R_drewN | apply Kd.R_drew)); exact Kd.R_mono HO_5.out (fun _ hk => hk.2)⟩, ⟨by (with_reducible repeat (first | apply Kd.R_alloc | apply Kd.R_drewN | apply Kd.R_drew)); exact HO553.out⟩, ⟨bw_ HB.out⟩⟩
              ·rw [if_neg c34] at H
               exact absurd H (by simp)
             ·rw [if_neg c33] at H
              exact absurd H (by simp)
            ·rw [if_neg c32] at H
             exact absurd H (by simp)
           ·rw [if_neg c31] at H
            have c31b0 : (x9_3 == 1) = false := beq_eq_false_iff_ne.mpr c31
            have c31b1 : (x9_3 != 1) = true := bne_iff_ne.mpr c31
            have H' := Aside0.mk H
            clear H
            go_wp2
            go_roundg k3
            case measure => have := HK1.out; have := HK2.out; have := HK3.out; omega
            case rel => exact ⟨(x7_2), (wrap64 (x8_2 + 1)), (by first | rfl | (simp; done) | (simp [*]; done)), H', ⟨by have := HK1.out; have := HK2.out; have := HK3.out; omega⟩, ⟨by (with_reducible repeat (first | apply Kd.R_alloc | apply Kd.R_drewN | apply Kd.R_drew)); exact HO_5.out⟩, ⟨by (with_reducible repeat (first | apply Kd.R_alloc | apply Kd.R_drewN | apply Kd.R_drew)); exact HO_7.out⟩, ⟨bw_ HB.out⟩⟩
       ·rw [if_neg c22] at H
        have c22b0 : decide (x8_2 < (x5_1.length : Int)) = false := decide_eq_false c22
        clear c22
        simp only [Option.some.injEq, Prod.mk.injEq] at H
        obtain ⟨rfl, rfl⟩ := H
        obtain ⟨Ao36, co36, eo36⟩ := Kd.R_slice HO_5.out
        subst eo36
        go_wp2
        go_ret2
        exact ⟨_, by first | rfl | (simp [errW_none, errW_some] <;> rfl) | (simp [*, errW_none, errW_some] <;> rfl), by (with_reducible repeat (first | apply Kd.R_alloc | apply Kd.R_drewN | apply Kd.R_drew)); exact Kd.R_mono HO_7.out (fun _ hk => trivial), by repeat (first | (with_reducible first | exact HB.out | apply below_alloc | apply pw_below_drewN | apply below_drew1) | exact HB.out)⟩
 ·rw [if_neg c3] at H
  have c3b0 : (t528 == 0) = false := beq_eq_false_iff_ne.mpr c3
  have c3b1 : (t528 != 0) = true := bne_iff_ne.mpr c3
  simp only [Option.some.injEq, Prod.mk.injEq] at H
  obtain ⟨rfl, rfl⟩ := H
  go_enter Try.func18, Try.ntmps18
  go_wp2_with (first | ((with_reducible refine gate_callee (f := 21) rfl ?_); refine goesL_ (some 12) rfl rfl Try.func21 (by kernel_rfl) rfl #[.slice A0 l0.length c0] rfl gl_ ?_; (with_reducible refine (spec_l10List.calls k _ _ l0 t528 _ ?side1 ?side2 A2.out).mono ?_); (case side1 => repeat (first | exact HR0.out | (with_reducible refine Kd.C_alloc ?_ _) | (with_reducible refine Kd.C_drewN ?_ _) | (with_reducible refine Kd.C_drew ?_))); (case side2 => exact HC0.out); rintro e w' ⟨rfl, ⟨nd, rfl⟩⟩; refine ⟨_, rfl, ?_⟩))
  go_ret2
  exact ⟨_, by first | rfl | (simp [errW_none, errW_some] <;> rfl) | (simp [*, errW_none, errW_some] <;> rfl), by first | exact Kd.R_nil _ _ _ _ _ | exact Kd.N_nil _ _ _ _ _ | exact Kd.V_nil _ _ _ _ _ | exact Kd.Q_nil _ _ _ _ _ | exact Kd.S_nil _ _ _ _ _, by repeat (first | (with_reducible first | exact HB.out | apply below_alloc | apply pw_below_drewN | apply below_drew1) | exact HB.out)⟩

end Go.Proofs.Ytmedijjjhabpbaa.Print

-- LEFIX
