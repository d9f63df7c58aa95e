/- The law FnExactLandlockedOf: the program's LandlockedOf returns what the reference's returns. -/
import Derived.Test.YtphaebmhhgkkcaaDoorPrint6
import Derived.Test.YtphaebmhhgkkcaaDoorPrint12
import Derived.Test.YtphaebmhhgkkcaaDoorNum
import Derived.Test.YtphaebmhhgkkcaaDoorInS
import Derived.Test.YtphaebmhhgkkcaaDoorGrA
import Derived.Test.YtphaebmhhgkkcaaDoorGrV
import Derived.Test.YtphaebmhhgkkcaaDoorGrC
import Derived.Test.YtphaebmhhgkkcaaDoorGrM
import Derived.Test.YtphaebmhhgkkcaaDoorGrK
namespace Go.Proofs.YtphaebmhhgkkcaaDoor.Pure
open Go.RowKit Go.Proofs.YtphaebmhhgkkcaaDoor.Print Go.Proofs.YtphaebmhhgkkcaaDoorW.PrintWords Go.Proofs.YtphaebmhhgkkcaaDoorW.PrintLast Go.Proofs.YtphaebmhhgkkcaaDoorW.PrintMore
set_option linter.unusedVariables false
set_option linter.unusedSimpArgs false
theorem rdB {s : ByteArray} {i : Nat} (h : i < s.size) : rd (g_bytes s) (i : Int) = bt s (i : Int) := by
  have h2 : i < s.data.toList.length := by rw [sz_list]; exact h
  rw [bt_at h2]
  simp [rd, g_bytes, List.getD, h2, h]
theorem w64L {i : Nat} (h : i ≤ 1000) : wrap64 ((i : Int) + 1) = ((i + 1 : Nat) : Int) := by unfold wrap64; omega
theorem locked_loop {xs : List ByteArray} (g : Grid xs) (s : ByteArray) (hs : s.size ≤ 26) (hL : ∀ j : Nat, j < s.size → landC xs (bt s (j : Int))) : ∀ (d k i : Nat) (acc : ByteArray), s.size - i = d → i ≤ s.size → d + 10001 < k → acc.size + d ≤ 26 →
    ∃ v, impl_LandlockedOf.l0 k xs (g_bytes s) acc i = some v ∧ spec_LandlockedOf.l0 k xs s acc i = some v := by
  intro d
  induction d with
  | zero =>
    intro k i acc hd hi hk hb
    obtain ⟨k, rfl⟩ : ∃ m, k = m + 1 := ⟨k - 1, by omega⟩
    have q2 : ¬ (i : Int) < (s.size : Int) := by omega
    have q1 : ¬ (i : Int) < ((g_bytes s).length : Int) := by rw [g_bytes_len]; exact q2
    simp only [impl_LandlockedOf.l0, spec_LandlockedOf.l0]
    rw [if_neg q1, if_neg q2]
    exact ⟨_, rfl, rfl⟩
  | succ d ih =>
    intro k i acc hd hi hk hb
    obtain ⟨k, rfl⟩ : ∃ m, k = m + 1 := ⟨k - 1, by omega⟩
    have h : i < s.size := by omega
    have q3 : (i : Int) < (s.size : Int) := by omega
    have q1 : (i : Int) < ((g_bytes s).length : Int) := by rw [g_bytes_len]; exact q3
    have q2 : (0 : Int) ≤ (i : Int) := by omega
    have q4 : (i : Int) ≤ ((i + 1 : Nat) : Int) := by omega
    have q5 : ((i + 1 : Nat) : Int) ≤ (s.size : Int) := by omega
    have q6 : acc.size + 1 ≤ 9223372036854775807 := by omega
    have q7 : 10000 < k := by omega
    have a1 : s.size - (i + 1) = d := by omega
    have a2 : i + 1 ≤ s.size := by omega
    have a3 : d + 10001 < k := by omega
    have a4 : acc.size + d ≤ 26 := by omega
    have a5 : acc.size + 1 + d ≤ 26 := by omega
    have hw := w64L (i := i) (by omega)
    obtain ⟨e1, e2⟩ := enc_land (hL i h)
    have hcut := cut_one s i h
    simp only [impl_LandlockedOf.l0, spec_LandlockedOf.l0]
    rw [if_pos q1, if_pos q2, if_pos q3, if_pos q2, rdB h, coast_impl g _ k q7, coast_spec g _ k q7, Option.bind_some, Option.bind_some, hw]
    rw [if_pos q4, if_pos q5, Int.toNat_natCast, Int.toNat_natCast, hcut, e1, e2, if_pos q6]
    generalize ((cellsL xs (bt s (i : Int))).map (cntP xs)).sum = c
    by_cases hc : c = 0
    · rw [if_pos hc, if_pos hc, if_pos q6]
      exact ih k (i + 1) (acc ++ strOfNums [bt s (i : Int)]) a1 a2 a3 (by rw [ByteArray.size_append, e2]; exact a5)
    · rw [if_neg hc, if_neg hc]
      exact ih k (i + 1) _ a1 a2 a3 a4
theorem FnExactLandlockedOf : laws_FnExactLandlockedOf.Pure := by
  intro a ha hb
  suffices H : ∀ k, a.length + 9000000 ≤ k → laws_FnExactLandlockedOf.f k a = some true from ⟨_, H _ (Nat.le_refl _)⟩
  intro k hk
  unfold laws_FnExactLandlockedOf.f
  obtain ⟨r, e, hr⟩ := szStr_some a (by omega) ha.2 k (by omega)
  rw [e, Option.bind_some]
  by_cases h : r < 0
  · rw [if_pos h]
  rw [if_neg h]
  obtain ⟨h1, h2⟩ := hr (by omega)
  obtain ⟨k, rfl⟩ : ∃ n, k = n + 1 := ⟨k - 1, by omega⟩
  have ea := toStr_some a h1
  have e1 := grid_spec a (by omega) (fun c hc => by have := h2 c hc; omega) (k + 1) (by omega)
  have e2 := grid_impl a (by omega) (fun c hc => by have := h2 c hc; omega) (k + 1) (by omega)
  have q := eqStr_some a (by omega)
  have E : ∃ v, spec_LandlockedOf.f (k + 1) a = some v ∧ impl_LandlockedOf.f (k + 1) a = some v := by
    unfold spec_LandlockedOf.f impl_LandlockedOf.f
    rw [e1, e2, Option.bind_some, Option.bind_some]
    cases hg : gridOk a with
    | false => exact ⟨_, rfl, rfl⟩
    | true =>
      obtain ⟨s, f, hs, hL⟩ := lands_all (grid_of hg)
      obtain ⟨f1, f2⟩ := f (k + 1) (by omega)
      rw [if_pos rfl, if_pos rfl, f1, f2, Option.bind_some, Option.bind_some, if_pos (by omega)]
      obtain ⟨v, g1, g2⟩ := locked_loop (grid_of hg) s hs hL s.size (k + 1) 0 (⟨#[]⟩ : ByteArray) (by omega) (by omega) (by omega) (by show 0 + s.size ≤ 26; omega)
      exact ⟨v, g2, g1⟩
  obtain ⟨v, g1, g2⟩ := E
  rw [ea (k + 1) (by omega), Option.bind_some, g1, Option.bind_some, Option.bind_some, g2, Option.bind_some, if_pos rfl, bne_self_eq_false]
  simp only [laws_FnExactLandlockedOf.j0]
  rw [if_neg (by simp), ea k (by omega), Option.bind_some, q k (by omega), Option.bind_some, if_pos rfl]
end Go.Proofs.YtphaebmhhgkkcaaDoor.Pure
