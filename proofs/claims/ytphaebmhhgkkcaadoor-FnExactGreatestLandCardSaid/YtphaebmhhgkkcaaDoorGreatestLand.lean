/- The law FnExactGreatestLand: the program's GreatestLand returns what the reference's returns. -/
import Derived.Test.YtphaebmhhgkkcaaDoorPrint13
import Derived.Test.YtphaebmhhgkkcaaDoorPrint14
import Derived.Test.YtphaebmhhgkkcaaDoorNum
import Derived.Test.YtphaebmhhgkkcaaDoorInS
import Derived.Test.YtphaebmhhgkkcaaDoorGrA
import Derived.Test.YtphaebmhhgkkcaaDoorGrV
import Derived.Test.YtphaebmhhgkkcaaDoorGrC
import Derived.Test.YtphaebmhhgkkcaaDoorGrM
namespace Go.Proofs.YtphaebmhhgkkcaaDoor.Pure
open Go.RowKit Go.Proofs.YtphaebmhhgkkcaaDoor.Print Go.Proofs.YtphaebmhhgkkcaaDoorW.PrintWords Go.Proofs.YtphaebmhhgkkcaaDoorW.PrintLast Go.Proofs.YtphaebmhhgkkcaaDoorW.PrintMore
set_option linter.unusedVariables false
set_option linter.unusedSimpArgs false
theorem rdG {s : ByteArray} {i : Nat} (h : i < s.size) : rd (g_bytesG s) (i : Int) = bt s (i : Int) := by
  have h2 : i < s.data.toList.length := by rw [sz_list]; exact h
  rw [bt_at h2]
  simp [rd, g_bytesG, List.getD, h2, h]
theorem w64G {i : Nat} (h : i ≤ 1000) : wrap64 ((i : Int) + 1) = ((i + 1 : Nat) : Int) := by unfold wrap64; omega
theorem great_loop {xs : List ByteArray} (g : Grid xs) (s : ByteArray) (hs : s.size ≤ 26) (hL : ∀ j : Nat, j < s.size → landC xs (bt s (j : Int))) : ∀ (d k i m : Nat), s.size - i = d → i ≤ s.size → m < i → d + 1001 < k →
    ∃ v, impl_GreatestLand.l0 k xs (g_bytesG s) (strOfNums [bt s (m : Int)]) ((cellsL xs (bt s (m : Int))).length : Int) i = some v ∧ spec_GreatestLand.l0 k xs s m i = some v := by
  intro d
  induction d with
  | zero =>
    intro k i m hd hi hm hk
    obtain ⟨k, rfl⟩ : ∃ n, k = n + 1 := ⟨k - 1, by omega⟩
    have q2 : ¬ (i : Int) < (s.size : Int) := by omega
    have q1 : ¬ (i : Int) < ((g_bytesG s).length : Int) := by rw [g_bytesG_len]; exact q2
    have q3 := w64G (i := m) (by omega)
    have q0 : (0 : Int) ≤ (m : Int) := by omega
    have q4 : (m : Int) ≤ ((m + 1 : Nat) : Int) := by omega
    have q5 : ((m + 1 : Nat) : Int) ≤ (s.size : Int) := by omega
    have q6 : m < s.size := by omega
    have q7 := (pos_land (hL m q6)).1
    simp only [impl_GreatestLand.l0, spec_GreatestLand.l0]
    rw [if_neg q1, if_neg q2, if_neg q7, q3, if_pos q0, if_pos q4, if_pos q5, Int.toNat_natCast, Int.toNat_natCast, cut_one s m q6]
    exact ⟨_, rfl, rfl⟩
  | succ d ih =>
    intro k i m hd hi hm hk
    obtain ⟨k, rfl⟩ : ∃ n, k = n + 1 := ⟨k - 1, by omega⟩
    have h : i < s.size := by omega
    have q3 : (i : Int) < (s.size : Int) := by omega
    have q1 : (i : Int) < ((g_bytesG s).length : Int) := by rw [g_bytesG_len]; exact q3
    have q2 : (0 : Int) ≤ (i : Int) := by omega
    have q4 : (m : Int) < (s.size : Int) := by omega
    have q5 : (0 : Int) ≤ (m : Int) := by omega
    have q7 : 1000 < k := by omega
    have a1 : s.size - (i + 1) = d := by omega
    have a2 : i + 1 ≤ s.size := by omega
    have a3 : d + 1001 < k := by omega
    have a4 : i < i + 1 := by omega
    have a5 : m < i + 1 := by omega
    have hw := w64G (i := i) (by omega)
    obtain ⟨e3, _⟩ := enc_land (hL i h)
    simp only [impl_GreatestLand.l0, spec_GreatestLand.l0]
    rw [if_pos q1, if_pos q2, if_pos q3, if_pos q2, rdG h, e3, cells_some _ g k q7, count_some _ g k q7, count_some _ g k q7, Option.bind_some, Option.bind_some, if_pos q5, if_pos q4, Option.bind_some, hw]
    by_cases hc : ((cellsL xs (bt s (i : Int))).length : Int) > ((cellsL xs (bt s (m : Int))).length : Int)
    · rw [if_pos hc, if_pos hc]
      exact ih k (i + 1) i a1 a2 a4 a3
    · rw [if_neg hc, if_neg hc]
      exact ih k (i + 1) m a1 a2 a5 a3
theorem great_all {xs : List ByteArray} (g : Grid xs) (s : ByteArray) (hs : s.size ≤ 26) (hL : ∀ j : Nat, j < s.size → landC xs (bt s (j : Int))) (k : Nat) (hk : 2000 < k) :
    ∃ v, impl_GreatestLand.l0 k xs (g_bytesG s) (⟨#[]⟩ : ByteArray) 0 0 = some v ∧ (if s.toList = ([] : List UInt8) then (some ((⟨#[]⟩ : ByteArray), (3 : Int))) else spec_GreatestLand.l0 k xs s 0 1) = some v := by
  obtain ⟨k, rfl⟩ : ∃ n, k = n + 1 := ⟨k - 1, by omega⟩
  have hE : s.toList = ([] : List UInt8) ↔ s.size = 0 := by
    rw [ByteArray.toList_eq]
    constructor
    · intro h; rw [← sz_list, h]; rfl
    · intro h; exact List.eq_nil_of_length_eq_zero (by rw [sz_list]; exact h)
  by_cases h0 : s.size = 0
  · have q1 : ¬ (0 : Int) < ((g_bytesG s).length : Int) := by rw [g_bytesG_len, h0]; decide
    rw [if_pos (hE.2 h0)]
    simp only [impl_GreatestLand.l0]
    rw [if_neg q1, if_pos True.intro]
    exact ⟨_, rfl, rfl⟩
  · rw [if_neg (fun h => h0 (hE.1 h))]
    have h : 0 < s.size := by omega
    have q1 : (0 : Int) < ((g_bytesG s).length : Int) := by rw [g_bytesG_len]; omega
    have a0 : 1000 < k := by omega
    have a1 : 1 ≤ s.size := by omega
    have a2 : s.size - 1 + 1001 < k := by omega
    have hl0 := hL 0 h
    rw [Int.natCast_zero] at hl0
    obtain ⟨e3, _⟩ := enc_land hl0
    have hp := (pos_land hl0).2
    have hr := rdG h
    rw [Int.natCast_zero] at hr
    have e4 : impl_GreatestLand.l0 (k + 1) xs (g_bytesG s) (⟨#[]⟩ : ByteArray) 0 0 = impl_GreatestLand.l0 k xs (g_bytesG s) (strOfNums [bt s 0]) ((cellsL xs (bt s 0)).length : Int) 1 := by
      conv => lhs; unfold impl_GreatestLand.l0
      rw [if_pos q1, if_pos (Int.le_refl 0), hr, e3, cells_some _ g k a0, Option.bind_some, if_pos hp, show wrap64 ((0 : Int) + 1) = 1 by unfold wrap64; omega]
    obtain ⟨v, g1, g2⟩ := great_loop g s hs hL (s.size - 1) k 1 0 rfl a1 (by decide) a2
    rw [Int.natCast_zero] at g1 g2
    refine ⟨v, e4.trans g1, ?_⟩
    exact at_rounds (fun k => spec_GreatestLand.mono_l k _ _ _ _) (Nat.le_succ k) g2
theorem FnExactGreatestLand : laws_FnExactGreatestLand.Pure := by
  intro a ha hb
  suffices H : ∀ k, a.length + 9000000 ≤ k → laws_FnExactGreatestLand.f k a = some true from ⟨_, H _ (Nat.le_refl _)⟩
  intro k hk
  unfold laws_FnExactGreatestLand.f
  obtain ⟨r, e, hr⟩ := szStr_some a (by omega) ha.2 k (by omega)
  rw [e, Option.bind_some]
  by_cases h : r < 0
  · rw [if_pos h]
  rw [if_neg h]
  obtain ⟨h1, h2⟩ := hr (by omega)
  obtain ⟨k, rfl⟩ : ∃ n, k = n + 1 := ⟨k - 1, by omega⟩
  have ea := toStr_some a h1
  have e1 := grid_spec a (by omega) (fun c hc => by have := h2 c hc; omega) (k + 1) (by omega)
  have e2 := grid_impl a (by omega) (fun c hc => by have := h2 c hc; omega) (k + 1) (by omega)
  have q := eqStr_some a (by omega)
  have E : ∃ v, spec_GreatestLand.f (k + 1) a = some v ∧ impl_GreatestLand.f (k + 1) a = some v := by
    unfold spec_GreatestLand.f impl_GreatestLand.f
    rw [e1, e2, Option.bind_some, Option.bind_some]
    cases hg : gridOk a with
    | false => exact ⟨_, rfl, rfl⟩
    | true =>
      obtain ⟨s, f, hs, hL⟩ := lands_all (grid_of hg)
      obtain ⟨f1, f2⟩ := f (k + 1) (by omega)
      rw [if_pos rfl, if_pos rfl, f1, f2, Option.bind_some, Option.bind_some, if_pos (show s.size ≤ 9223372036854775807 by omega)]
      obtain ⟨v, g1, g2⟩ := great_all (grid_of hg) s hs hL (k + 1) (by omega)
      exact ⟨v, g2, g1⟩
  obtain ⟨v, g1, g2⟩ := E
  rw [ea (k + 1) (by omega), Option.bind_some, g1, Option.bind_some, Option.bind_some, g2, Option.bind_some, if_pos rfl, bne_self_eq_false]
  simp only [laws_FnExactGreatestLand.j0]
  rw [if_neg (by simp), ea k (by omega), Option.bind_some, q k (by omega), Option.bind_some, if_pos rfl]
end Go.Proofs.YtphaebmhhgkkcaaDoor.Pure
