-- Printed by a program of this session out of the translation; not trusted: Lean checks it.
-- SHRUNK
import Derived.Test.YtacbacbmomhjoaaDoorPrint0
import Derived.Test.YtacbacbmomhjoaaDoorPrint5
namespace Go.Proofs.YtacbacbmomhjoaaDoor.Print
open Go.RowKit Go.Proofs.YtacbacbmomhjoaaDoorW.PrintWords Go.Proofs.YtacbacbmomhjoaaDoorW.PrintLast Go.Proofs.YtacbacbmomhjoaaDoorW.PrintMore
attribute [local go_sem] max2_int min2_int max_two min_two max_three min_three max_four min_four   -- for this text's walks alone
set_option linter.unusedVariables false
set_option linter.unusedSimpArgs false

/-! ### impl_ValidGrid: function 14 -/
def impl_ValidGrid.l0 : Nat → List ByteArray → List ByteArray → Int → Int → Option (Bool)
 | 0, _, _, _, _ => none
 | k + 1, x0, x5, x6, x7 => if x7 < x6 then (if 0 ≤ x7 then (if x7 < (x5.length : Int) then (if 0 < (x0.length : Int) then (if ((rdOf ByteArray.empty x5 x7).size : Int) = ((rdOf ByteArray.empty x0 0).size : Int) then ((strings_Trim.f (rdOf ByteArray.empty x5 x7) (⟨#[46, 97, 98, 99, 100, 101, 102, 103, 104, 105, 106, 107, 108, 109, 110, 111, 112, 113, 114, 115, 116, 117, 118, 119, 120, 121, 122]⟩ : ByteArray)).bind fun t155 => (if t155.toList = ([] : List UInt8) then (impl_ValidGrid.l0 k x0 x5 x6 (wrap64 (x7 + 1))) else (some false))) else (some false)) else (none)) else (none)) else (none)) else (if (x0.length : Int) ≥ 1 then (if (x0.length : Int) ≤ 16 then (if 0 < (x0.length : Int) then (if ((rdOf ByteArray.empty x0 0).size : Int) ≥ 1 then (some (decide (((rdOf ByteArray.empty x0 0).size : Int) ≤ 32))) else (some false)) else (none)) else (some false)) else (some false))
def impl_ValidGrid.f (k : Nat) (l0 : List ByteArray) : Option (Bool) := impl_ValidGrid.l0 k l0 l0 (l0.length : Int) 0
theorem impl_ValidGrid.mono_l : ∀ k, (∀ y0 y1 y2 y3, LeO (impl_ValidGrid.l0 k y0 y1 y2 y3) (impl_ValidGrid.l0 (k + 1) y0 y1 y2 y3))
 | 0 => fun _ _ _ _ r h => by simp [impl_ValidGrid.l0] at h
 | k + 1 => by
  have ih0 := impl_ValidGrid.mono_l k
  ·intro y0 y1 y2 y3
   unfold impl_ValidGrid.l0
   repeat' first
   | (with_reducible exact ih0 _ _ _ _)
   | (with_reducible exact LeO.refl _)
   | (with_reducible exact LeO.none _)
   | (with_reducible refine LeO.ite ?_ ?_)
   | (with_reducible refine LeO.bind ?_ (fun _ => ?_))
   | exact ih0 _ _ _ _
   | exact LeO.none _
   | refine LeO.ite ?_ ?_
   | refine LeO.bind ?_ (fun _ => ?_)
theorem impl_ValidGrid.mono : ∀ a0 k, LeO (impl_ValidGrid.f k a0) (impl_ValidGrid.f (k + 1) a0) := by
 intro a0 k
 have ih0 := impl_ValidGrid.mono_l k
 unfold impl_ValidGrid.f
 repeat' first
   | (with_reducible exact ih0 _ _ _ _)
   | (with_reducible exact LeO.refl _)
   | (with_reducible exact LeO.none _)
   | (with_reducible refine LeO.ite ?_ ?_)
   | (with_reducible refine LeO.bind ?_ (fun _ => ?_))
   | exact ih0 _ _ _ _
   | exact LeO.none _
   | refine LeO.ite ?_ ?_
   | refine LeO.bind ?_ (fun _ => ?_)
set_option maxHeartbeats 8000000 in
set_option maxRecDepth 100000 in
theorem impl_ValidGrid.calls (k : Nat) (A0 : Option Addr) (c0 : Nat) (l0 : List ByteArray) (r : Bool) (w : World) (hr0 : Kd.C Kd.string w A0 l0.length l0) (hc0 : l0.length ≤ c0) (h : impl_ValidGrid.f k l0 = some r) :
  Calls Tryd.prog 14 #[.slice A0 l0.length c0] w fun e w' => e = .returned (.bool r) ∧ Below w.heap.size w w' := by
 have HR0 := Aside0.mk hr0
 have HC0 := Aside0.mk hc0
 clear hr0 hc0
 have HB := Aside0.mk (Below.refl w.heap.size w)
 have H : (impl_ValidGrid.l0 k l0 l0 (l0.length : Int) 0) = some r := h
 clear h
 have H' := Aside0.mk H
 clear H
 go_enter Tryd.func14, Tryd.ntmps14
 go_wp2
 go_loopg [7] k (fun kq v7 w' => ∃ (x7_1 : Int), v7 = .int .i64 x7_1 ∧ Aside0 (impl_ValidGrid.l0 kq l0 l0 (l0.length : Int) x7_1 = some r) ∧ Aside0 (kq ≤ k) ∧ Aside0 (Below w.heap.size w w'))
 case atStart => exact ⟨(0), (by first | rfl | (simp; done) | (simp [*]; done)), H', ⟨Nat.le_refl _⟩, ⟨by repeat (first | (with_reducible first | exact HB.out | apply below_alloc | apply pw_below_drewN | apply below_drew1) | exact HB.out)⟩⟩
 case round =>
  clear H'
  try clear c1
  obtain ⟨x7_1, rfl, HA, HK1, HB⟩ := hrel
  cases gk with
  | zero => exact absurd HA.out (by simp [impl_ValidGrid.l0])
  | succ k1 =>
   have H := HA.out
   clear HA
   simp only [impl_ValidGrid.l0] at H
   by_cases c2 : x7_1 < (l0.length : Int)
   ·rw [if_pos c2] at H
    have c2b0 : decide (x7_1 < (l0.length : Int)) = true := decide_eq_true c2
    clear c2
    by_cases c3 : 0 ≤ x7_1
    ·rw [if_pos c3] at H
     have c3b0 : decide (0 ≤ x7_1) = true := decide_eq_true c3
     clear c3
     by_cases c4 : x7_1 < (l0.length : Int)
     ·rw [if_pos c4] at H
      have c4b0 : decide (x7_1 < (l0.length : Int)) = true := decide_eq_true c4
      clear c4
      by_cases c5 : 0 < (l0.length : Int)
      ·rw [if_pos c5] at H
       have c5b0 : decide (0 < (l0.length : Int)) = true := decide_eq_true c5
       have c5b1 : decide (0 < l0.length) = true := decide_eq_true (by omega)
       clear c5
       by_cases c6 : ((rdOf ByteArray.empty l0 x7_1).size : Int) = ((rdOf ByteArray.empty l0 0).size : Int)
       ·rw [if_pos c6] at H
        have c6b0 : (((rdOf ByteArray.empty l0 x7_1).size : Int) == ((rdOf ByteArray.empty l0 0).size : Int)) = true := beq_iff_eq.mpr c6
        have c6b1 : (((rdOf ByteArray.empty l0 x7_1).size : Int) != ((rdOf ByteArray.empty l0 0).size : Int)) = false := bne_eq_false_iff_eq.mpr c6
        have c6b2 : ((rdOf ByteArray.empty l0 x7_1).size == (rdOf ByteArray.empty l0 0).size) = true := by first | simpa using c6 | (simp at c6 ⊢; omega)
        clear c6
        replace H := Option.bind_eq_some_iff.mp H
        obtain ⟨t155, A70, H⟩ := H
        replace H : (if t155.toList = ([] : List UInt8) then (impl_ValidGrid.l0 k1 l0 l0 (l0.length : Int) (wrap64 (x7_1 + 1))) else (some false)) = some r := H
        have A7 := Aside0.mk A70
        clear A70
        by_cases c8 : t155.toList = ([] : List UInt8)
        ·rw [if_pos c8] at H
         have c8b0 : (t155.toList == ([] : List UInt8)) = true := beq_iff_eq.mpr c8
         have c8b1 : (t155.toList != ([] : List UInt8)) = false := bne_eq_false_iff_eq.mpr c8
         clear c8
         have H' := Aside0.mk H
         clear H
         have p153 : 0 ≤ (x7_1 : Int) := od_
         have q153 : x7_1 < (l0.length : Int) := od_
         obtain ⟨ad153, e153, hx153_0⟩ := Kd.at_string HR0.out x7_1 p153 q153
         cases e153
         replace hx153_0 := (HB.out.cell (World.block_lt_of_cell? w _ hx153_0)).trans hx153_0
         replace p153 := eq_true p153
         replace q153 := eq_true q153
         have p154 : 0 ≤ (0 : Int) := (by omega)
         have q154 : 0 < (l0.length : Int) := od_
         obtain ⟨ad154, e154, hx154_0⟩ := Kd.at_string HR0.out 0 p154 q154
         obtain rfl : ad153 = ad154 := (by injection e154)
         have qi154 : (0 < l0.length) = True := eq_true (by omega)
         (try rw [show ((0 : Int)).toNat = 0 from rfl] at hx154_0)
         (try rw [Addr.add_zero'] at hx154_0)
         replace hx154_0 := (HB.out.cell (World.block_lt_of_cell? w _ hx154_0)).trans hx154_0
         replace p154 := eq_true p154
         replace q154 := eq_true q154
         go_wp2_with (first | (go_at_call 20; (with_reducible refine (strings_Trim.calls (rdOf ByteArray.empty l0 x7_1) (⟨#[46, 97, 98, 99, 100, 101, 102, 103, 104, 105, 106, 107, 108, 109, 110, 111, 112, 113, 114, 115, 116, 117, 118, 119, 120, 121, 122]⟩ : ByteArray) t155 _ A7.out).mono ?_); rintro e w9 ⟨rfl, hb⟩; have n0_ := Aside0.mk (below_step (by repeat (first | (with_reducible first | exact HB.out | apply below_alloc | apply pw_below_drewN | apply below_drew1) | exact HB.out)) hb); clear HB; have HB := n0_; clear n0_; (try clear hb); (try clear hb2); (try clear hk); (try clear hi)))
         go_roundg k1
         case measure => have := HK1.out; omega
         case rel => exact ⟨(wrap64 (x7_1 + 1)), (by first | rfl | (simp; done) | (simp [*]; done)), H', ⟨by have := HK1.out; omega⟩, ⟨by repeat (first | (with_reducible first | exact HB.out | apply below_alloc | apply pw_below_drewN | apply below_drew1) | exact HB.out)⟩⟩
        ·rw [if_neg c8] at H
         have c8b0 : (t155.toList == ([] : List UInt8)) = false := beq_eq_false_iff_ne.mpr c8
         have c8b1 : (t155.toList != ([] : List UInt8)) = true := bne_iff_ne.mpr c8
         obtain rfl := Option.some.inj H
         have p153 : 0 ≤ (x7_1 : Int) := od_
         have q153 : x7_1 < (l0.length : Int) := od_
         obtain ⟨ad153, e153, hx153_0⟩ := Kd.at_string HR0.out x7_1 p153 q153
         cases e153
         replace hx153_0 := (HB.out.cell (World.block_lt_of_cell? w _ hx153_0)).trans hx153_0
         replace p153 := eq_true p153
         replace q153 := eq_true q153
         have p154 : 0 ≤ (0 : Int) := (by omega)
         have q154 : 0 < (l0.length : Int) := od_
         obtain ⟨ad154, e154, hx154_0⟩ := Kd.at_string HR0.out 0 p154 q154
         obtain rfl : ad153 = ad154 := (by injection e154)
         have qi154 : (0 < l0.length) = True := eq_true (by omega)
         (try rw [show ((0 : Int)).toNat = 0 from rfl] at hx154_0)
         (try rw [Addr.add_zero'] at hx154_0)
         replace hx154_0 := (HB.out.cell (World.block_lt_of_cell? w _ hx154_0)).trans hx154_0
         replace p154 := eq_true p154
         replace q154 := eq_true q154
         go_wp2_with (first | (go_at_call 20; (with_reducible refine (strings_Trim.calls (rdOf ByteArray.empty l0 x7_1) (⟨#[46, 97, 98, 99, 100, 101, 102, 103, 104, 105, 106, 107, 108, 109, 110, 111, 112, 113, 114, 115, 116, 117, 118, 119, 120, 121, 122]⟩ : ByteArray) t155 _ A7.out).mono ?_); rintro e w10 ⟨rfl, hb⟩; have n0_ := Aside0.mk (below_step (by repeat (first | (with_reducible first | exact HB.out | apply below_alloc | apply pw_below_drewN | apply below_drew1) | exact HB.out)) hb); clear HB; have HB := n0_; clear n0_; (try clear hb); (try clear hb2); (try clear hk); (try clear hi)))
         go_ret
         exact ⟨by first | rfl | (simp [errW_none, errW_some] <;> rfl) | (simp [*, errW_none, errW_some] <;> rfl), by repeat (first | (with_reducible first | exact HB.out | apply below_alloc | apply pw_below_drewN | apply below_drew1) | exact HB.out)⟩
       ·rw [if_neg c6] at H
        have c6b0 : (((rdOf ByteArray.empty l0 x7_1).size : Int) == ((rdOf ByteArray.empty l0 0).size : Int)) = false := beq_eq_false_iff_ne.mpr c6
        have c6b1 : (((rdOf ByteArray.empty l0 x7_1).size : Int) != ((rdOf ByteArray.empty l0 0).size : Int)) = true := bne_iff_ne.mpr c6
        have c6b2 : ((rdOf ByteArray.empty l0 x7_1).size == (rdOf ByteArray.empty l0 0).size) = false := by first | simpa using c6 | (simp at c6 ⊢; omega)
        obtain rfl := Option.some.inj H
        have p153 : 0 ≤ (x7_1 : Int) := od_
        have q153 : x7_1 < (l0.length : Int) := od_
        obtain ⟨ad153, e153, hx153_0⟩ := Kd.at_string HR0.out x7_1 p153 q153
        cases e153
        replace hx153_0 := (HB.out.cell (World.block_lt_of_cell? w _ hx153_0)).trans hx153_0
        replace p153 := eq_true p153
        replace q153 := eq_true q153
        have p154 : 0 ≤ (0 : Int) := (by omega)
        have q154 : 0 < (l0.length : Int) := od_
        obtain ⟨ad154, e154, hx154_0⟩ := Kd.at_string HR0.out 0 p154 q154
        obtain rfl : ad153 = ad154 := (by injection e154)
        have qi154 : (0 < l0.length) = True := eq_true (by omega)
        (try rw [show ((0 : Int)).toNat = 0 from rfl] at hx154_0)
        (try rw [Addr.add_zero'] at hx154_0)
        replace hx154_0 := (HB.out.cell (World.block_lt_of_cell? w _ hx154_0)).trans hx154_0
        replace p154 := eq_true p154
        replace q154 := eq_true q154
        go_wp2
        go_ret
        exact ⟨by first | rfl | (simp [errW_none, errW_some] <;> rfl) | (simp [*, errW_none, errW_some] <;> rfl), by repeat (first | (with_reducible first | exact HB.out | apply below_alloc | apply pw_below_drewN | apply below_drew1) | exact HB.out)⟩
      ·rw [if_neg c5] at H
       exact absurd H (by simp)
     ·rw [if_neg c4] at H
      exact absurd H (by simp)
    ·rw [if_neg c3] at H
     exact absurd H (by simp)
   ·rw [if_neg c2] at H
    have c2b0 : decide (x7_1 < (l0.length : Int)) = false := decide_eq_false c2
    clear c2
    by_cases c11 : (l0.length : Int) ≥ 1
    ·rw [if_pos c11] at H
     have c11b0 : decide (1 ≤ (l0.length : Int)) = true := decide_eq_true c11
     have c11b1 : decide (1 ≤ l0.length) = true := decide_eq_true (by omega)
     clear c11
     by_cases c12 : (l0.length : Int) ≤ 16
     ·rw [if_pos c12] at H
      have c12b0 : decide ((l0.length : Int) ≤ 16) = true := decide_eq_true c12
      have c12b1 : decide (l0.length ≤ 16) = true := decide_eq_true (by omega)
      clear c12
      by_cases c13 : 0 < (l0.length : Int)
      ·rw [if_pos c13] at H
       have c13b0 : decide (0 < (l0.length : Int)) = true := decide_eq_true c13
       have c13b1 : decide (0 < l0.length) = true := decide_eq_true (by omega)
       clear c13
       by_cases c14 : ((rdOf ByteArray.empty l0 0).size : Int) ≥ 1
       ·rw [if_pos c14] at H
        have c14b0 : decide (1 ≤ ((rdOf ByteArray.empty l0 0).size : Int)) = true := decide_eq_true c14
        have c14b1 : decide (1 ≤ (rdOf ByteArray.empty l0 0).size) = true := decide_eq_true (by omega)
        clear c14
        obtain rfl := Option.some.inj H
        have p156 : 0 ≤ (0 : Int) := (by omega)
        have q156 : 0 < (l0.length : Int) := od_
        obtain ⟨ad156, e156, hx156_0⟩ := Kd.at_string HR0.out 0 p156 q156
        cases e156
        have qi156 : (0 < l0.length) = True := eq_true (by omega)
        (try rw [show ((0 : Int)).toNat = 0 from rfl] at hx156_0)
        (try rw [Addr.add_zero'] at hx156_0)
        replace hx156_0 := (HB.out.cell (World.block_lt_of_cell? w _ hx156_0)).trans hx156_0
        replace p156 := eq_true p156
        replace q156 := eq_true q156
        have p157 : 0 ≤ (0 : Int) := (by omega)
        have q157 : 0 < (l0.length : Int) := od_
        obtain ⟨ad157, e157, hx157_0⟩ := Kd.at_string HR0.out 0 p157 q157
        obtain rfl : ad156 = ad157 := (by injection e157)
        have qi157 : (0 < l0.length) = True := eq_true (by omega)
        (try rw [show ((0 : Int)).toNat = 0 from rfl] at hx157_0)
        (try rw [Addr.add_zero'] at hx157_0)
        replace hx157_0 := (HB.out.cell (World.block_lt_of_cell? w _ hx157_0)).trans hx157_0
        replace p157 := eq_true p157
        replace q157 := eq_true q157
        go_wp2
        go_ret
        exact ⟨by first | rfl | (simp [errW_none, errW_some] <;> rfl) | (simp [*, errW_none, errW_some] <;> rfl), by repeat (first | (with_reducible first | exact HB.out | apply below_alloc | apply pw_below_drewN | apply below_drew1) | exact HB.out)⟩
       ·rw [if_neg c14] at H
        have c14b0 : decide (1 ≤ ((rdOf ByteArray.empty l0 0).size : Int)) = false := decide_eq_false c14
        have c14b1 : decide (1 ≤ (rdOf ByteArray.empty l0 0).size) = false := decide_eq_false (by omega)
        clear c14
        obtain rfl := Option.some.inj H
        have p156 : 0 ≤ (0 : Int) := (by omega)
        have q156 : 0 < (l0.length : Int) := od_
        obtain ⟨ad156, e156, hx156_0⟩ := Kd.at_string HR0.out 0 p156 q156
        cases e156
        have qi156 : (0 < l0.length) = True := eq_true (by omega)
        (try rw [show ((0 : Int)).toNat = 0 from rfl] at hx156_0)
        (try rw [Addr.add_zero'] at hx156_0)
        replace hx156_0 := (HB.out.cell (World.block_lt_of_cell? w _ hx156_0)).trans hx156_0
        replace p156 := eq_true p156
        replace q156 := eq_true q156
        go_wp2
        go_ret
        exact ⟨by first | rfl | (simp [errW_none, errW_some] <;> rfl) | (simp [*, errW_none, errW_some] <;> rfl), by repeat (first | (with_reducible first | exact HB.out | apply below_alloc | apply pw_below_drewN | apply below_drew1) | exact HB.out)⟩
      ·rw [if_neg c13] at H
       exact absurd H (by simp)
     ·rw [if_neg c12] at H
      have c12b0 : decide ((l0.length : Int) ≤ 16) = false := decide_eq_false c12
      have c12b1 : decide (l0.length ≤ 16) = false := decide_eq_false (by omega)
      clear c12
      obtain rfl := Option.some.inj H
      go_wp2
      go_ret
      exact ⟨by first | rfl | (simp [errW_none, errW_some] <;> rfl) | (simp [*, errW_none, errW_some] <;> rfl), by repeat (first | (with_reducible first | exact HB.out | apply below_alloc | apply pw_below_drewN | apply below_drew1) | exact HB.out)⟩
    ·rw [if_neg c11] at H
     have c11b0 : decide (1 ≤ (l0.length : Int)) = false := decide_eq_false c11
     have c11b1 : decide (1 ≤ l0.length) = false := decide_eq_false (by omega)
     clear c11
     obtain rfl := Option.some.inj H
     go_wp2
     go_ret
     exact ⟨by first | rfl | (simp [errW_none, errW_some] <;> rfl) | (simp [*, errW_none, errW_some] <;> rfl), by repeat (first | (with_reducible first | exact HB.out | apply below_alloc | apply pw_below_drewN | apply below_drew1) | exact HB.out)⟩

end Go.Proofs.YtacbacbmomhjoaaDoor.Print
