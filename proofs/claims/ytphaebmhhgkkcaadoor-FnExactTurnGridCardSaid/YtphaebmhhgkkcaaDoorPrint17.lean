-- Printed by a program of this session out of the translation; not trusted: Lean checks it.
-- SHRUNK
import Derived.Test.YtphaebmhhgkkcaaDoorPrint0
import Derived.Test.YtphaebmhhgkkcaaDoorPrint5
import Derived.Test.YtphaebmhhgkkcaaDoorPrint13
import Derived.Test.YtphaebmhhgkkcaaDoorPrint16
namespace Go.Proofs.YtphaebmhhgkkcaaDoor.Print
open Go.RowKit Go.Proofs.YtphaebmhhgkkcaaDoorW.PrintWords Go.Proofs.YtphaebmhhgkkcaaDoorW.PrintLast Go.Proofs.YtphaebmhhgkkcaaDoorW.PrintMore
attribute [local go_sem] max2_int min2_int max_two min_two max_three min_three max_four min_four   -- for this text's walks alone
set_option linter.unusedVariables false
set_option linter.unusedSimpArgs false

/-! ### impl_TurnGrid: function 20 -/
def impl_TurnGrid.l0 : Nat → Int → List ByteArray → List ByteArray → Int → Int → Option (List ByteArray × Int)
 | 0, _, _, _, _, _ => none
 | k + 1, x8, x9, x32, x33, x34 => if x34 < x33 then (if 0 ≤ x34 then (if x34 < (x32.length : Int) then (if 0 ≤ x8 then (if x8 ≤ ((rdOf ByteArray.empty x32 x34).size : Int) then (if ((rdOf ByteArray.empty x32 x34).extract (x8 : Int).toNat (rdOf ByteArray.empty x32 x34).size).size + ((rdOf ByteArray.empty x32 x34).extract 0 (x8 : Int).toNat).size ≤ 9223372036854775807 then (if x9.length < 8796093022208 then (impl_TurnGrid.l0 k x8 (x9 ++ [((rdOf ByteArray.empty x32 x34).extract (x8 : Int).toNat (rdOf ByteArray.empty x32 x34).size) ++ ((rdOf ByteArray.empty x32 x34).extract 0 (x8 : Int).toNat)]) x32 x33 (wrap64 (x34 + 1))) else (none)) else (none)) else (none)) else (none)) else (none)) else (none)) else (some (x9, 0))
def impl_TurnGrid.f (k : Nat) (l0 : List ByteArray) (a1 : Int) : Option (List ByteArray × Int) := (impl_ValidGrid.f k l0).bind fun t216 => ((impl_within.f a1 (-1000) 1000).bind fun t217 => ((impl_check.f t216 t217).bind fun t218 => (if t218 = 0 then (if 0 < (l0.length : Int) then (if ((rdOf ByteArray.empty l0 0).size : Int) = 0 then (none) else (impl_TurnGrid.l0 k (Int.tmod (wrap64 (((rdOf ByteArray.empty l0 0).size : Int) - (Int.tmod a1 ((rdOf ByteArray.empty l0 0).size : Int)))) ((rdOf ByteArray.empty l0 0).size : Int)) (([] : List ByteArray)) l0 (l0.length : Int) 0)) else (none)) else (some (([] : List ByteArray), t218)))))
theorem impl_TurnGrid.mono_l : ∀ k, (∀ y0 y1 y2 y3 y4, LeO (impl_TurnGrid.l0 k y0 y1 y2 y3 y4) (impl_TurnGrid.l0 (k + 1) y0 y1 y2 y3 y4))
 | 0 => fun _ _ _ _ _ r h => by simp [impl_TurnGrid.l0] at h
 | k + 1 => by
  have ih0 := impl_TurnGrid.mono_l k
  ·intro y0 y1 y2 y3 y4
   unfold impl_TurnGrid.l0
   repeat' first
   | (with_reducible exact ih0 _ _ _ _ _)
   | (with_reducible exact impl_ValidGrid.mono _ _)
   | (with_reducible exact LeO.refl _)
   | (with_reducible exact LeO.none _)
   | (with_reducible refine LeO.ite ?_ ?_)
   | (with_reducible refine LeO.bind ?_ (fun _ => ?_))
   | exact ih0 _ _ _ _ _
   | exact impl_ValidGrid.mono _ _
   | exact LeO.none _
   | refine LeO.ite ?_ ?_
   | refine LeO.bind ?_ (fun _ => ?_)
theorem impl_TurnGrid.mono : ∀ a0 a1 k, LeO (impl_TurnGrid.f k a0 a1) (impl_TurnGrid.f (k + 1) a0 a1) := by
 intro a0 a1 k
 have ih0 := impl_TurnGrid.mono_l k
 unfold impl_TurnGrid.f
 repeat' first
   | (with_reducible exact ih0 _ _ _ _ _)
   | (with_reducible exact impl_ValidGrid.mono _ _)
   | (with_reducible exact LeO.refl _)
   | (with_reducible exact LeO.none _)
   | (with_reducible refine LeO.ite ?_ ?_)
   | (with_reducible refine LeO.bind ?_ (fun _ => ?_))
   | exact ih0 _ _ _ _ _
   | exact impl_ValidGrid.mono _ _
   | exact LeO.none _
   | refine LeO.ite ?_ ?_
   | refine LeO.bind ?_ (fun _ => ?_)
def impl_TurnGrid.T10 : Bool × List (List Nat × List Nat) := (true, [([], []), ([], []), ([], []), ([1, 2], [1, 2]), ([], []), ([], []), ([4, 5], [4, 5]), ([3, 6], [3, 6]), ([7], [7]), ([0, 8], [0, 8]), ([9, 9, 0, 1, 2, 3, 4, 5, 6, 7, 8, 9], [0, 9])])
def impl_TurnGrid.B10 : List Nat := [0, 0, 0, 6, 0, 0, 48, 126, 254, 511, 1023]
theorem impl_TurnGrid.tab10 : rtab .any (opsOf Tryd.f20 10) = impl_TurnGrid.T10 := by kernel_rfl
theorem impl_TurnGrid.bits10 : waitsOk impl_TurnGrid.T10.2 impl_TurnGrid.B10 = true := by kernel_rfl
set_option maxHeartbeats 8000000 in
set_option maxRecDepth 100000 in
theorem impl_TurnGrid.calls (k : Nat) (A0 : Option Addr) (c0 : Nat) (l0 : List ByteArray) (a1 : Int) (r1 : List ByteArray) (r2 : Int) (w : World) (hr0 : Kd.C Kd.string w A0 l0.length l0) (hc0 : l0.length ≤ c0) (h : impl_TurnGrid.f k l0 a1 = some (r1, r2)) :
  Calls Tryd.prog 20 #[.slice A0 l0.length c0, .int .i64 a1] w fun e w' => ∃ v0_ : Value, e = .returned (.tuple #[v0_, .int .i64 r2]) ∧ Kd.R Kd.string 9 w' w.heap.size (fun _ => True) v0_ r1 ∧ Below w.heap.size w w' := by
 have HR0 := Aside0.mk hr0
 have HC0 := Aside0.mk hc0
 clear hr0 hc0
 have HB := Aside0.mk (Below.refl w.heap.size w)
 have H : ((impl_ValidGrid.f k l0).bind fun t216 => ((impl_within.f a1 (-1000) 1000).bind fun t217 => ((impl_check.f t216 t217).bind fun t218 => (if t218 = 0 then (if 0 < (l0.length : Int) then (if ((rdOf ByteArray.empty l0 0).size : Int) = 0 then (none) else (impl_TurnGrid.l0 k (Int.tmod (wrap64 (((rdOf ByteArray.empty l0 0).size : Int) - (Int.tmod a1 ((rdOf ByteArray.empty l0 0).size : Int)))) ((rdOf ByteArray.empty l0 0).size : Int)) (([] : List ByteArray)) l0 (l0.length : Int) 0)) else (none)) else (some (([] : List ByteArray), t218)))))) = some (r1, r2) := h
 clear h
 replace H := Option.bind_eq_some_iff.mp H
 obtain ⟨t216, A30, H⟩ := H
 replace H : ((impl_within.f a1 (-1000) 1000).bind fun t217 => ((impl_check.f t216 t217).bind fun t218 => (if t218 = 0 then (if 0 < (l0.length : Int) then (if ((rdOf ByteArray.empty l0 0).size : Int) = 0 then (none) else (impl_TurnGrid.l0 k (Int.tmod (wrap64 (((rdOf ByteArray.empty l0 0).size : Int) - (Int.tmod a1 ((rdOf ByteArray.empty l0 0).size : Int)))) ((rdOf ByteArray.empty l0 0).size : Int)) (([] : List ByteArray)) l0 (l0.length : Int) 0)) else (none)) else (some (([] : List ByteArray), t218))))) = some (r1, r2) := H
 have A3 := Aside0.mk A30
 clear A30
 replace H := Option.bind_eq_some_iff.mp H
 obtain ⟨t217, A40, H⟩ := H
 replace H : ((impl_check.f t216 t217).bind fun t218 => (if t218 = 0 then (if 0 < (l0.length : Int) then (if ((rdOf ByteArray.empty l0 0).size : Int) = 0 then (none) else (impl_TurnGrid.l0 k (Int.tmod (wrap64 (((rdOf ByteArray.empty l0 0).size : Int) - (Int.tmod a1 ((rdOf ByteArray.empty l0 0).size : Int)))) ((rdOf ByteArray.empty l0 0).size : Int)) (([] : List ByteArray)) l0 (l0.length : Int) 0)) else (none)) else (some (([] : List ByteArray), t218)))) = some (r1, r2) := H
 have A4 := Aside0.mk A40
 clear A40
 replace H := Option.bind_eq_some_iff.mp H
 obtain ⟨t218, A50, H⟩ := H
 replace H : (if t218 = 0 then (if 0 < (l0.length : Int) then (if ((rdOf ByteArray.empty l0 0).size : Int) = 0 then (none) else (impl_TurnGrid.l0 k (Int.tmod (wrap64 (((rdOf ByteArray.empty l0 0).size : Int) - (Int.tmod a1 ((rdOf ByteArray.empty l0 0).size : Int)))) ((rdOf ByteArray.empty l0 0).size : Int)) (([] : List ByteArray)) l0 (l0.length : Int) 0)) else (none)) else (some (([] : List ByteArray), t218))) = some (r1, r2) := H
 have A5 := Aside0.mk A50
 clear A50
 by_cases c6 : t218 = 0
 ·rw [if_pos c6] at H
  have c6b0 : (t218 == 0) = true := beq_iff_eq.mpr c6
  have c6b1 : (t218 != 0) = false := bne_eq_false_iff_eq.mpr c6
  clear c6
  by_cases c7 : 0 < (l0.length : Int)
  ·rw [if_pos c7] at H
   have c7b0 : decide (0 < (l0.length : Int)) = true := decide_eq_true c7
   have c7b1 : decide (0 < l0.length) = true := decide_eq_true (by omega)
   clear c7
   by_cases c8 : ((rdOf ByteArray.empty l0 0).size : Int) = 0
   ·rw [if_pos c8] at H
    exact absurd H (by simp)
   ·rw [if_neg c8] at H
    have c8b0 : (((rdOf ByteArray.empty l0 0).size : Int) == 0) = false := beq_eq_false_iff_ne.mpr c8
    have c8b1 : (((rdOf ByteArray.empty l0 0).size : Int) != 0) = true := bne_iff_ne.mpr c8
    try have c8b9 : (rdOf ByteArray.empty l0 0 = ByteArray.empty) = False := eq_false (fun h_ => c8 (by rw [h_]; rfl))
    obtain ⟨y220, hy220⟩ : ∃ y_ : List ByteArray, y_ = (([] : List ByteArray)) := ⟨_, rfl⟩
    replace H : (impl_TurnGrid.l0 k (Int.tmod (wrap64 (((rdOf ByteArray.empty l0 0).size : Int) - (Int.tmod a1 ((rdOf ByteArray.empty l0 0).size : Int)))) ((rdOf ByteArray.empty l0 0).size : Int)) y220 l0 (l0.length : Int) 0) = some (r1, r2) := by first | (rw [hy220]; with_reducible exact H) | (have H2_ := (Option.bind_some _ _).symm.trans H; rw [hy220]; with_reducible exact H2_) | (have H2_ := (Option.bind_some _ _).symm.trans H; with_reducible exact H2_) | with_reducible exact H | (rw [hy220]; exact H) | exact H
    have Ny220 := Aside0.mk hy220
    clear hy220
    have H' := Aside0.mk H
    clear H
    go_enter Tryd.func20, Tryd.ntmps20
    go_wp2_with (first | ((with_reducible refine gate_callee (f := 15) rfl ?_); refine goesL_ (some 13) rfl rfl Tryd.func15 (by kernel_rfl) rfl #[.slice A0 l0.length c0] rfl (by (try simp only [List.map_toArray, List.map_cons, List.map_nil]); first | done | rfl | (simp only [List.length_drop, List.length_take]; rfl)) ?_; (with_reducible refine (impl_ValidGrid.calls k _ _ l0 t216 _ ?side1 ?side2 A3.out).mono ?_); (case side1 => repeat (first | exact HR0.out | (with_reducible refine Kd.C_alloc ?_ _) | (with_reducible refine Kd.C_drewN ?_ _) | (with_reducible refine Kd.C_drew ?_))); (case side2 => exact HC0.out); rintro e w9 ⟨rfl, hb⟩; refine ⟨_, rfl, ?_⟩; have n0_ := Aside0.mk (below_step (by repeat (first | (with_reducible first | exact HB.out | apply below_alloc | apply pw_below_drewN | apply below_drew1) | exact HB.out)) hb); clear HB; have HB := n0_; clear n0_; (try clear hb); (try clear hb2); (try clear hk); (try clear hi)) | ((with_reducible refine gate_callee (f := 41) rfl ?_); refine goesL_ (some 15) rfl rfl Tryd.func41 (by kernel_rfl) rfl #[.int .i64 a1, .int .i64 (-1000), .int .i64 1000] rfl (by (try simp only [List.map_toArray, List.map_cons, List.map_nil]); first | done | rfl | (simp only [List.length_drop, List.length_take]; rfl)) ?_; (with_reducible refine (impl_within.calls a1 (-1000) 1000 t217 _ A4.out).mono ?_); rintro e w' ⟨rfl, ⟨nd, rfl⟩⟩; refine ⟨_, rfl, ?_⟩) | ((with_reducible refine gate_callee (f := 40) rfl ?_); refine goesL_ (some 16) rfl rfl Tryd.func40 (by kernel_rfl) rfl #[.bool t216, .bool t217] rfl (by (try simp only [List.map_toArray, List.map_cons, List.map_nil]); first | done | rfl | (simp only [List.length_drop, List.length_take]; rfl)) ?_; (with_reducible refine (impl_check.calls t216 t217 t218 _ A5.out).mono ?_); rintro e w' ⟨rfl, ⟨nd, rfl⟩⟩; refine ⟨_, rfl, ?_⟩; have p219 : 0 ≤ (0 : Int) := (by omega); have q219 : 0 < (l0.length : Int) := od_; obtain ⟨ad219, e219, hx219_0⟩ := Kd.at_string HR0.out 0 p219 q219; cases e219; have qi219 : (0 < l0.length) = True := eq_true (by omega); (try rw [show ((0 : Int)).toNat = 0 from rfl] at hx219_0); (try rw [Addr.add_zero'] at hx219_0); replace hx219_0 := (HB.out.cell (World.block_lt_of_cell? w _ hx219_0)).trans hx219_0; replace p219 := eq_true p219; replace q219 := eq_true q219) | ((with_reducible refine gate_dst (N := 31) rfl ?_); refine Kd.R_lit Kd.string _ 9 ?hg (N := 31) ?hd (xs := ([] : List ByteArray)) (inner := []) (ok := fun _ => True) (okp := fun _ => True) ?hr ?hp (fun _ hk => hk) trivial (Below.refl _ _) (Nat.le_refl _) (by simp) ?_; (case hd => rfl); (case hg => rfl); (case hr => first | (go_simp; done) | (go_simp; rfl)); (case hp => exact (Reps.none _ _)); intro v221 w10 ho11 hb hg_ hnew_; clear hg_ hnew_; (first | rw [← Ny220.out] at ho11 | (simp only [Int.reduceToNat] at ho11; rw [← Ny220.out] at ho11)); have n0_ := Aside0.mk (Kd.R_lower ho11 (below_size (by repeat (first | (with_reducible first | exact HB.out | apply below_alloc | apply pw_below_drewN | apply below_drew1) | exact HB.out)))); have n1_ := Aside0.mk (below_step (by repeat (first | (with_reducible first | exact HB.out | apply below_alloc | apply pw_below_drewN | apply below_drew1) | exact HB.out)) hb); clear HB; have HO222 := n0_; have HB := n1_; clear n0_ n1_; clear hb ho11))
    go_loopg [9, 34] k (fun kq v9 v34 w' => ∃ (x9_1 : List ByteArray) (x34_1 : Int), v34 = .int .i64 x34_1 ∧ Aside0 (impl_TurnGrid.l0 kq (Int.tmod (wrap64 (((rdOf ByteArray.empty l0 0).size : Int) - (Int.tmod a1 ((rdOf ByteArray.empty l0 0).size : Int)))) ((rdOf ByteArray.empty l0 0).size : Int)) x9_1 l0 (l0.length : Int) x34_1 = some (r1, r2)) ∧ Aside0 (kq ≤ k) ∧ Aside0 (Kd.R Kd.string 9 w' w.heap.size (fun _ => True) v9 x9_1) ∧ Aside0 (Below w.heap.size w w'))
    case atStart => exact ⟨(y220), (0), (by first | rfl | (simp; done) | (simp [*]; done)), H', ⟨Nat.le_refl _⟩, ⟨by (with_reducible repeat (first | apply Kd.R_alloc | apply Kd.R_drewN | apply Kd.R_drew)); exact HO222.out⟩, ⟨by repeat (first | (with_reducible first | exact HB.out | apply below_alloc | apply pw_below_drewN | apply below_drew1) | exact HB.out)⟩⟩
    case round =>
     clear H'
     try clear c1
     try clear c2
     try clear p2
     try clear q2
     try clear hx2
     try clear qi2
     try clear c4
     try clear c6
     try clear c6b0
     try clear c6b1
     try clear p6
     try clear c7
     try clear c7b0
     try clear c7b1
     try clear c8
     try clear c8b0
     try clear c8b1
     try clear hx219_0
     try clear p219
     try clear q219
     obtain ⟨x9_1, x34_1, rfl, HA, HK1, HO_9, HB⟩ := hrel
     cases gk with
     | zero => exact absurd HA.out (by simp [impl_TurnGrid.l0])
     | succ k1 =>
      have H := HA.out
      clear HA
      simp only [impl_TurnGrid.l0] at H
      by_cases c12 : x34_1 < (l0.length : Int)
      ·rw [if_pos c12] at H
       have c12b0 : decide (x34_1 < (l0.length : Int)) = true := decide_eq_true c12
       clear c12
       by_cases c13 : 0 ≤ x34_1
       ·rw [if_pos c13] at H
        have c13b0 : decide (0 ≤ x34_1) = true := decide_eq_true c13
        clear c13
        by_cases c14 : x34_1 < (l0.length : Int)
        ·rw [if_pos c14] at H
         have c14b0 : decide (x34_1 < (l0.length : Int)) = true := decide_eq_true c14
         clear c14
         obtain ⟨ji15, hji15⟩ : ∃ j_ : Int, (Int.tmod (wrap64 (((rdOf ByteArray.empty l0 0).size : Int) - (Int.tmod a1 ((rdOf ByteArray.empty l0 0).size : Int)))) ((rdOf ByteArray.empty l0 0).size : Int)) = j_ := ⟨_, rfl⟩
         replace H : (if 0 ≤ (ji15) then (if (ji15) ≤ ((rdOf ByteArray.empty l0 x34_1).size : Int) then (if ((rdOf ByteArray.empty l0 x34_1).extract ((ji15) : Int).toNat (rdOf ByteArray.empty l0 x34_1).size).size + ((rdOf ByteArray.empty l0 x34_1).extract 0 ((ji15) : Int).toNat).size ≤ 9223372036854775807 then (if x9_1.length < 8796093022208 then (impl_TurnGrid.l0 k1 (ji15) (x9_1 ++ [((rdOf ByteArray.empty l0 x34_1).extract ((ji15) : Int).toNat (rdOf ByteArray.empty l0 x34_1).size) ++ ((rdOf ByteArray.empty l0 x34_1).extract 0 ((ji15) : Int).toNat)]) l0 (l0.length : Int) (wrap64 (x34_1 + 1))) else (none)) else (none)) else (none)) else (none)) = some (r1, r2) := by first | (rw [hji15] at H; exact H) | (simp only [hji15] at H ⊢; exact H)
         by_cases c16 : 0 ≤ (ji15)
         ·rw [if_pos c16] at H
          have c16b0 := eq_true c16
          have c16b1 : decide (0 ≤ (ji15)) = true := decide_eq_true c16
          clear c16
          by_cases c17 : (ji15) ≤ ((rdOf ByteArray.empty l0 x34_1).size : Int)
          ·rw [if_pos c17] at H
           have c17b0 := eq_true c17
           have c17b1 : decide ((ji15) ≤ ((rdOf ByteArray.empty l0 x34_1).size : Int)) = true := decide_eq_true c17
           clear c17
           have c18b0 := eq_true (od_ : 0 ≤ (ji15))
           have c19b0 := eq_true (od_ : (ji15) ≤ ((rdOf ByteArray.empty l0 x34_1).size : Int))
           by_cases c20 : ((rdOf ByteArray.empty l0 x34_1).extract ((ji15) : Int).toNat (rdOf ByteArray.empty l0 x34_1).size).size + ((rdOf ByteArray.empty l0 x34_1).extract 0 ((ji15) : Int).toNat).size ≤ 9223372036854775807
           ·rw [if_pos c20] at H
            have c20b0 := eq_true c20
            have c20b1 : decide (((rdOf ByteArray.empty l0 x34_1).extract ((ji15) : Int).toNat (rdOf ByteArray.empty l0 x34_1).size).size + ((rdOf ByteArray.empty l0 x34_1).extract 0 ((ji15) : Int).toNat).size ≤ 9223372036854775807) = true := decide_eq_true c20
            try have c20b2 : (9223372036854775807 < ((rdOf ByteArray.empty l0 x34_1).extract ((ji15) : Int).toNat (rdOf ByteArray.empty l0 x34_1).size).size + ((rdOf ByteArray.empty l0 x34_1).extract 0 ((ji15) : Int).toNat).size) = False := eq_false (Nat.not_lt.2 c20)
            try have c20b4 : (9223372036854775807 < (rdOf ByteArray.empty l0 x34_1).size) = False := eq_false (by have h_ := c20; simp only [ByteArray.size_extract] at h_; omega)
            try (have c20b3 := c20; simp at c20b3; replace c20b3 := eq_false (Nat.not_lt.2 c20b3))
            by_cases c21 : x9_1.length < 8796093022208
            ·rw [if_pos c21] at H
             have LMc21 := Aside0.mk c21
             clear c21
             obtain ⟨y224, hy224⟩ : ∃ y_ : List ByteArray, y_ = (x9_1 ++ [((rdOf ByteArray.empty l0 x34_1).extract ((ji15) : Int).toNat (rdOf ByteArray.empty l0 x34_1).size) ++ ((rdOf ByteArray.empty l0 x34_1).extract 0 ((ji15) : Int).toNat)]) := ⟨_, rfl⟩
             replace H : (impl_TurnGrid.l0 k1 (ji15) y224 l0 (l0.length : Int) (wrap64 (x34_1 + 1))) = some (r1, r2) := by first | (rw [hy224]; with_reducible exact H) | (have H2_ := (Option.bind_some _ _).symm.trans H; rw [hy224]; with_reducible exact H2_) | (have H2_ := (Option.bind_some _ _).symm.trans H; with_reducible exact H2_) | with_reducible exact H | (rw [hy224]; exact H) | exact H
             have Ny224 := Aside0.mk hy224
             clear hy224
             have H' := Aside0.mk H
             clear H
             have p223 : 0 ≤ (x34_1 : Int) := od_
             have q223 : x34_1 < (l0.length : Int) := od_
             obtain ⟨ad223, e223, hx223_0⟩ := Kd.at_string HR0.out x34_1 p223 q223
             obtain rfl : ad219 = ad223 := (by injection e223)
             replace hx223_0 := (HB.out.cell (World.block_lt_of_cell? w _ hx223_0)).trans hx223_0
             replace p223 := eq_true p223
             replace q223 := eq_true q223
             try go_wp2
             have n0_ := Aside0.mk (Kd.R_drew HO_9.out)
             have n1_ := Aside0.mk (below_drew1 HB.out)
             clear HO_9
             clear HB
             have HO_9 := n0_
             have HB := n1_
             clear n0_ n1_
             refine start_ (n := 11) (S := fun w' => True) (ds := []) #[false, false, false, false, false, false, false, false, false, false, false] (by kernel_rfl) rfl rfl trivial (fun hHeld => ?_); refine with_tabW impl_TurnGrid.tab10 impl_TurnGrid.bits10 (fun HT_ HW_ => ?_)
             generalize wr.drew = w22 at HO_9 HB hHeld ⊢
             refine pure_ (i := 0) (N := some 38) (v := ?_) (a' := ?_) #[true, false, false, false, false, false, false, false, false, false, false] rfl rfl (any_of HT_.out (by kernel_rfl)) (fun _ _ _ h => h) (Or.inl ⟨by rfl, ?_⟩) ?_ ?_
             rotate_left
             ·intro w'
              go_simp
              with_reducible rfl
             rotate_left
             ·simp only [Act.put, List.setIfInBounds_toArray, List.set_cons_zero, List.set_cons_succ, i64_w, i32_w]
              rfl
             refine pure_ (i := 1) (N := some 39) (v := ?_) (a' := ?_) #[true, true, false, false, false, false, false, false, false, false, false] rfl rfl (any_of HT_.out (by kernel_rfl)) (fun _ _ _ h => h) (Or.inl ⟨by rfl, ?_⟩) ?_ ?_
             rotate_left
             ·intro w'
              go_simp
              with_reducible rfl
             rotate_left
             ·simp only [Act.put, List.setIfInBounds_toArray, List.set_cons_zero, List.set_cons_succ, i64_w, i32_w]
              rfl
             refine pure_ (i := 2) (N := some 40) (v := ?_) (a' := ?_) #[true, true, true, false, false, false, false, false, false, false, false] rfl rfl (any_of HT_.out (by kernel_rfl)) (fun _ _ _ h => h) (Or.inl ⟨by rfl, ?_⟩) ?_ ?_
             rotate_left
             ·intro w'
              go_simp
              with_reducible rfl
             rotate_left
             ·simp only [Act.put, List.setIfInBounds_toArray, List.set_cons_zero, List.set_cons_succ, i64_w, i32_w]
              rfl
             refine pure_ (i := 3) (N := some 41) (v := ?_) (a' := ?_) #[true, true, true, true, false, false, false, false, false, false, false] rfl rfl (any_of HT_.out (by kernel_rfl)) (fun _ _ _ h => h) (Or.inl ⟨by rfl, ?_⟩) ?_ ?_
             rotate_left
             ·intro w'
              go_simp
              with_reducible rfl
             rotate_left
             ·simp only [Act.put, List.setIfInBounds_toArray, List.set_cons_zero, List.set_cons_succ, i64_w, i32_w]
              rfl
             refine pure_ (i := 4) (N := some 42) (v := ?_) (a' := ?_) #[true, true, true, true, true, false, false, false, false, false, false] rfl rfl (any_of HT_.out (by kernel_rfl)) (fun _ _ _ h => h) (Or.inl ⟨by rfl, ?_⟩) ?_ ?_
             rotate_left
             ·intro w'
              go_simp
              with_reducible rfl
             rotate_left
             ·simp only [Act.put, List.setIfInBounds_toArray, List.set_cons_zero, List.set_cons_succ, i64_w, i32_w]
              rfl
             refine pure_ (i := 5) (N := some 43) (v := ?_) (a' := ?_) #[true, true, true, true, true, true, false, false, false, false, false] rfl rfl (any_of HT_.out (by kernel_rfl)) (fun _ _ _ h => h) (Or.inl ⟨by rfl, ?_⟩) ?_ ?_
             rotate_left
             ·intro w'
              go_simp
              with_reducible rfl
             rotate_left
             ·simp only [Act.put, List.setIfInBounds_toArray, List.set_cons_zero, List.set_cons_succ, i64_w, i32_w]
              rfl
             refine pure_ (i := 6) (N := some 44) (v := ?_) (a' := ?_) #[true, true, true, true, true, true, true, false, false, false, false] rfl rfl (any_of HT_.out (by kernel_rfl)) (fun _ _ _ h => h) (Or.inl ⟨by rfl, ?_⟩) ?_ ?_
             rotate_left
             ·intro w'
              go_simp
              with_reducible rfl
             rotate_left
             ·simp only [Act.put, List.setIfInBounds_toArray, List.set_cons_zero, List.set_cons_succ, i64_w, i32_w]
              rfl
             refine pure_ (i := 7) (N := some 45) (v := ?_) (a' := ?_) #[true, true, true, true, true, true, true, true, false, false, false] rfl rfl (any_of HT_.out (by kernel_rfl)) (fun _ _ _ h => h) (Or.inl ⟨by rfl, ?_⟩) ?_ ?_
             rotate_left
             ·intro w'
              go_simp
              with_reducible rfl
             rotate_left
             ·simp only [Act.put, List.setIfInBounds_toArray, List.set_cons_zero, List.set_cons_succ, i64_w, i32_w]
              rfl
             refine one_ (i := 8) (N := some 46) #[true, true, true, true, true, true, true, true, true, false, false] rfl rfl (one_of HT_.out (by kernel_rfl)) (by decide) (fun K hK => ?_)
             refine value_ (w1 := ?_) (v := ?_) (by rfl) rfl ?_ ?_
             rotate_left 2
             ·go_simp
              constructor
              ·rfl
              ·rfl
             refine hK.out _ _ trivial (fun hHeld => ?_)
             clear hK K
             refine norm_ (a' := ?_) ?_ ?_
             rotate_left
             ·show Act.put _ (some 46) _ = _
              simp only [Act.put, List.setIfInBounds_toArray, List.set_cons_zero, List.set_cons_succ, i64_w, i32_w]
              rfl
             refine one_ (i := 9) (N := some 47) #[true, true, true, true, true, true, true, true, true, true, false] rfl rfl (one_of HT_.out (by kernel_rfl)) (by decide) (fun K hK => ?_)
             refine Kd.R_append_step Kd.string (w0 := w) w.heap.size (by rfl) (.tmp 38) (.tmp 46) 22 9 (.string ⟨#[]⟩) 16 rfl Tryd.underlying22 info9 rfl (by decide) (by omega) u9 x9_1 (((rdOf ByteArray.empty l0 x34_1).extract ((ji15) : Int).toNat (rdOf ByteArray.empty l0 x34_1).size) ++ ((rdOf ByteArray.empty l0 x34_1).extract 0 ((ji15) : Int).toNat)) [.string (((rdOf ByteArray.empty l0 x34_1).extract ((ji15) : Int).toNat (rdOf ByteArray.empty l0 x34_1).size) ++ ((rdOf ByteArray.empty l0 x34_1).extract 0 ((ji15) : Int).toNat))] (fun _ => True) (fun _ => False) rfl rfl ?aP (fun _ hk => hk.elim) ?aF ?aO ?aB ?aS ?aL ?_
             (case aP => exact rfl)
             (case aB => exact (by repeat (first | (with_reducible first | exact HB.out | apply below_alloc | apply pw_below_drewN | apply below_drew1) | exact HB.out)))
             (case aF => exact (fun _ _ => trivial))
             (case aO => exact (by (with_reducible repeat (first | apply Kd.R_alloc | apply Kd.R_drewN | apply Kd.R_drew)); exact HO_9.out))
             (case aS => exact (below_size (by repeat (first | (with_reducible first | exact HB.out | apply below_alloc | apply pw_below_drewN | apply below_drew1) | exact HB.out))))
             (case aL => have := LMc21.out; omega)
             intro v225 w23 ho hb hg hat
             rw [← Ny224.out] at ho
             have n0_ := Aside0.mk (hb)
             have n1_ := Aside0.mk (ho)
             clear HB
             clear HO_9
             have HB := n0_
             have HO226 := n1_
             clear n0_ n1_
             clear ho hb hg hat
             refine hK.out _ _ trivial (fun hHeld => ?_)
             clear hK K
             refine norm_ (a' := ?_) ?_ ?_
             rotate_left
             ·show Act.put _ (some 47) _ = _
              simp only [Act.put, List.setIfInBounds_toArray, List.set_cons_zero, List.set_cons_succ, i64_w, i32_w]
              rfl
             refine pure_ (i := 10) (N := some 9) (v := ?_) (a' := ?_) #[true, true, true, true, true, true, true, true, true, true, true] rfl rfl (any_of HT_.out (by kernel_rfl)) (fun _ _ _ h => h) (Or.inl ⟨by rfl, ?_⟩) ?_ ?_
             rotate_left
             ·intro w'
              go_simp
              with_reducible rfl
             rotate_left
             ·simp only [Act.put, List.setIfInBounds_toArray, List.set_cons_zero, List.set_cons_succ, i64_w, i32_w]
              rfl
             refine done_ (done_of HT_.out (by kernel_rfl)) ?_
             try go_wp2
             try subst hji15
             go_roundg k1
             case measure => have := HK1.out; omega
             case rel => exact ⟨(y224), (wrap64 (x34_1 + 1)), (by first | rfl | (simp; done) | (simp [*]; done)), H', ⟨by have := HK1.out; omega⟩, ⟨by (with_reducible repeat (first | apply Kd.R_alloc | apply Kd.R_drewN | apply Kd.R_drew)); exact HO226.out⟩, ⟨by repeat (first | (with_reducible first | exact HB.out | apply below_alloc | apply pw_below_drewN | apply below_drew1) | exact HB.out)⟩⟩
            ·rw [if_neg c21] at H
             exact absurd H (by simp)
           ·rw [if_neg c20] at H
            exact absurd H (by simp)
          ·rw [if_neg c17] at H
           exact absurd H (by simp)
         ·rw [if_neg c16] at H
          exact absurd H (by simp)
        ·rw [if_neg c14] at H
         exact absurd H (by simp)
       ·rw [if_neg c13] at H
        exact absurd H (by simp)
      ·rw [if_neg c12] at H
       have c12b0 : decide (x34_1 < (l0.length : Int)) = false := decide_eq_false c12
       clear c12
       simp only [Option.some.injEq, Prod.mk.injEq] at H
       obtain ⟨rfl, rfl⟩ := H
       go_wp2
       go_ret2
       exact ⟨_, by first | rfl | (simp [errW_none, errW_some] <;> rfl) | (simp [*, errW_none, errW_some] <;> rfl), by (with_reducible repeat (first | apply Kd.R_alloc | apply Kd.R_drewN | apply Kd.R_drew)); exact HO_9.out, by repeat (first | (with_reducible first | exact HB.out | apply below_alloc | apply pw_below_drewN | apply below_drew1) | exact HB.out)⟩
  ·rw [if_neg c7] at H
   exact absurd H (by simp)
 ·rw [if_neg c6] at H
  have c6b0 : (t218 == 0) = false := beq_eq_false_iff_ne.mpr c6
  have c6b1 : (t218 != 0) = true := bne_iff_ne.mpr c6
  simp only [Option.some.injEq, Prod.mk.injEq] at H
  obtain ⟨rfl, rfl⟩ := H
  go_enter Tryd.func20, Tryd.ntmps20
  go_wp2_with (first | ((with_reducible refine gate_callee (f := 15) rfl ?_); refine goesL_ (some 13) rfl rfl Tryd.func15 (by kernel_rfl) rfl #[.slice A0 l0.length c0] rfl (by (try simp only [List.map_toArray, List.map_cons, List.map_nil]); first | done | rfl | (simp only [List.length_drop, List.length_take]; rfl)) ?_; (with_reducible refine (impl_ValidGrid.calls k _ _ l0 t216 _ ?side1 ?side2 A3.out).mono ?_); (case side1 => repeat (first | exact HR0.out | (with_reducible refine Kd.C_alloc ?_ _) | (with_reducible refine Kd.C_drewN ?_ _) | (with_reducible refine Kd.C_drew ?_))); (case side2 => exact HC0.out); rintro e w24 ⟨rfl, hb⟩; refine ⟨_, rfl, ?_⟩; have n0_ := Aside0.mk (below_step (by repeat (first | (with_reducible first | exact HB.out | apply below_alloc | apply pw_below_drewN | apply below_drew1) | exact HB.out)) hb); clear HB; have HB := n0_; clear n0_; (try clear hb); (try clear hb2); (try clear hk); (try clear hi)) | ((with_reducible refine gate_callee (f := 41) rfl ?_); refine goesL_ (some 15) rfl rfl Tryd.func41 (by kernel_rfl) rfl #[.int .i64 a1, .int .i64 (-1000), .int .i64 1000] rfl (by (try simp only [List.map_toArray, List.map_cons, List.map_nil]); first | done | rfl | (simp only [List.length_drop, List.length_take]; rfl)) ?_; (with_reducible refine (impl_within.calls a1 (-1000) 1000 t217 _ A4.out).mono ?_); rintro e w' ⟨rfl, ⟨nd, rfl⟩⟩; refine ⟨_, rfl, ?_⟩) | ((with_reducible refine gate_callee (f := 40) rfl ?_); refine goesL_ (some 16) rfl rfl Tryd.func40 (by kernel_rfl) rfl #[.bool t216, .bool t217] rfl (by (try simp only [List.map_toArray, List.map_cons, List.map_nil]); first | done | rfl | (simp only [List.length_drop, List.length_take]; rfl)) ?_; (with_reducible refine (impl_check.calls t216 t217 t218 _ A5.out).mono ?_); rintro e w' ⟨rfl, ⟨nd, rfl⟩⟩; refine ⟨_, rfl, ?_⟩))
  go_ret2
  exact ⟨_, by first | rfl | (simp [errW_none, errW_some] <;> rfl) | (simp [*, errW_none, errW_some] <;> rfl), by first | exact Kd.R_nil _ _ _ _ _ | exact Kd.N_nil _ _ _ _ _ | exact Kd.V_nil _ _ _ _ _ | exact Kd.Q_nil _ _ _ _ _ | exact Kd.S_nil _ _ _ _ _, by repeat (first | (with_reducible first | exact HB.out | apply below_alloc | apply pw_below_drewN | apply below_drew1) | exact HB.out)⟩

end Go.Proofs.YtphaebmhhgkkcaaDoor.Print
