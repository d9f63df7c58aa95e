-- Printed by a program of this session out of the translation; not trusted: Lean checks it.
-- SHRUNK
import Derived.Test.YtphaebmhhgkkcaaDoorPrint0
namespace Go.Proofs.YtphaebmhhgkkcaaDoor.Print
open Go.RowKit Go.Proofs.YtphaebmhhgkkcaaDoorW.PrintWords Go.Proofs.YtphaebmhhgkkcaaDoorW.PrintLast Go.Proofs.YtphaebmhhgkkcaaDoorW.PrintMore
attribute [local go_sem] max2_int min2_int max_two min_two max_three min_three max_four min_four   -- for this text's walks alone
set_option linter.unusedVariables false
set_option linter.unusedSimpArgs false

/-! ### spec_l12East: function 61 -/
def spec_l12East.f (l0 : List ByteArray) (a1 : Int) (a2 : Int) : Option (Int) := if 0 ≤ a1 then (if a1 < (l0.length : Int) then (if ((rdOf ByteArray.empty l0 a1).size : Int) = 0 then (none) else (if 0 ≤ (Int.tmod (wrap64 (a2 + 1)) ((rdOf ByteArray.empty l0 a1).size : Int)) then (if (Int.tmod (wrap64 (a2 + 1)) ((rdOf ByteArray.empty l0 a1).size : Int)) < ((rdOf ByteArray.empty l0 a1).size : Int) then (some (bt (rdOf ByteArray.empty l0 a1) (Int.tmod (wrap64 (a2 + 1)) ((rdOf ByteArray.empty l0 a1).size : Int)))) else (none)) else (none))) else (none)) else (none)
set_option maxHeartbeats 8000000 in
set_option maxRecDepth 100000 in
theorem spec_l12East.calls (A0 : Option Addr) (c0 : Nat) (l0 : List ByteArray) (a1 : Int) (a2 : Int) (r : Int) (w : World) (hr0 : Kd.C Kd.string w A0 l0.length l0) (hc0 : l0.length ≤ c0) (h : spec_l12East.f l0 a1 a2 = some r) :
  Calls Tryd.prog 61 #[.slice A0 l0.length c0, .int .i64 a1, .int .i64 a2] w fun e w' => e = .returned (.int .u8 r) ∧ Drawn0 w w' := by
 have HR0 := Aside0.mk hr0
 have HC0 := Aside0.mk hc0
 clear hr0 hc0
 have H : (if 0 ≤ a1 then (if a1 < (l0.length : Int) then (if ((rdOf ByteArray.empty l0 a1).size : Int) = 0 then (none) else (if 0 ≤ (Int.tmod (wrap64 (a2 + 1)) ((rdOf ByteArray.empty l0 a1).size : Int)) then (if (Int.tmod (wrap64 (a2 + 1)) ((rdOf ByteArray.empty l0 a1).size : Int)) < ((rdOf ByteArray.empty l0 a1).size : Int) then (some (bt (rdOf ByteArray.empty l0 a1) (Int.tmod (wrap64 (a2 + 1)) ((rdOf ByteArray.empty l0 a1).size : Int)))) else (none)) else (none))) else (none)) else (none)) = some r := h
 clear h
 by_cases c4 : 0 ≤ a1
 ·rw [if_pos c4] at H
  have c4b0 : decide (0 ≤ a1) = true := decide_eq_true c4
  clear c4
  by_cases c5 : a1 < (l0.length : Int)
  ·rw [if_pos c5] at H
   have c5b0 : decide (a1 < (l0.length : Int)) = true := decide_eq_true c5
   clear c5
   by_cases c6 : ((rdOf ByteArray.empty l0 a1).size : Int) = 0
   ·rw [if_pos c6] at H
    exact absurd H (by simp)
   ·rw [if_neg c6] at H
    have c6b0 : (((rdOf ByteArray.empty l0 a1).size : Int) == 0) = false := beq_eq_false_iff_ne.mpr c6
    have c6b1 : (((rdOf ByteArray.empty l0 a1).size : Int) != 0) = true := bne_iff_ne.mpr c6
    try have c6b9 : (rdOf ByteArray.empty l0 a1 = ByteArray.empty) = False := eq_false (fun h_ => c6 (by rw [h_]; rfl))
    obtain ⟨ji7, hji7⟩ : ∃ j_ : Int, (Int.tmod (wrap64 (a2 + 1)) ((rdOf ByteArray.empty l0 a1).size : Int)) = j_ := ⟨_, rfl⟩
    replace H : (if 0 ≤ (ji7) then (if (ji7) < ((rdOf ByteArray.empty l0 a1).size : Int) then (some (bt (rdOf ByteArray.empty l0 a1) (ji7))) else (none)) else (none)) = some r := by first | (rw [hji7] at H; exact H) | (simp only [hji7] at H ⊢; exact H)
    by_cases c8 : 0 ≤ (ji7)
    ·rw [if_pos c8] at H
     have c8b0 : decide (0 ≤ (ji7)) = true := decide_eq_true c8
     clear c8
     by_cases c9 : (ji7) < ((rdOf ByteArray.empty l0 a1).size : Int)
     ·rw [if_pos c9] at H
      have c9b0 : decide ((ji7) < ((rdOf ByteArray.empty l0 a1).size : Int)) = true := decide_eq_true c9
      clear c9
      obtain rfl := Option.some.inj H
      have p269 : 0 ≤ (a1 : Int) := od_
      have q269 : a1 < (l0.length : Int) := od_
      obtain ⟨ad269, e269, hx269_0⟩ := Kd.at_string HR0.out a1 p269 q269
      cases e269
      replace p269 := eq_true p269
      replace q269 := eq_true q269
      have p270 : 0 ≤ (a1 : Int) := od_
      have q270 : a1 < (l0.length : Int) := od_
      obtain ⟨ad270, e270, hx270_0⟩ := Kd.at_string HR0.out a1 p270 q270
      obtain rfl : ad269 = ad270 := (by injection e270)
      replace p270 := eq_true p270
      replace q270 := eq_true q270
      have p10 : 0 ≤ ((ji7) : Int) := od_
      have q10 : (ji7) < ((rdOf ByteArray.empty l0 a1).size : Int) := od_
      have hx10 := bt_at (rdOf ByteArray.empty l0 a1) (ji7)
      replace p10 := eq_true p10
      replace q10 := eq_true q10
      go_enter Tryd.func61, Tryd.ntmps61
      go_wp2
      repeat (go_quiet (fail); try go_wp2)
      go_ret
      exact ⟨by first | rfl | (simp; done) | (simp only [← hji7] <;> (first | rfl | simp)) | (simp [*]; done), by repeat (first | exact Drawn0.refl _ | apply Drawn0.step)⟩
     ·rw [if_neg c9] at H
      exact absurd H (by simp)
    ·rw [if_neg c8] at H
     exact absurd H (by simp)
  ·rw [if_neg c5] at H
   exact absurd H (by simp)
 ·rw [if_neg c4] at H
  exact absurd H (by simp)

end Go.Proofs.YtphaebmhhgkkcaaDoor.Print
