/- The law FnExactSwapColours: the program's SwapColours returns what the reference's returns. -/
import Derived.Test.YtlkpnjcbokeoeaaPrint0
import Derived.Test.YtlkpnjcbokeoeaaPrint2
import Derived.Test.YtlkpnjcbokeoeaaPrint7
import Derived.Test.YtlkpnjcbokeoeaaPrint17
import Derived.Test.YtlkpnjcbokeoeaaPrint18
import Derived.Test.YtlkpnjcbokeoeaaPrint19
import Derived.Test.YtlkpnjcbokeoeaaPrint20
import Derived.Test.YtlkpnjcbokeoeaaPrint21
import Derived.Test.YtlkpnjcbokeoeaaPrint22
import Derived.Test.YtlkpnjcbokeoeaaNum
import Derived.Test.YtlkpnjcbokeoeaaInS
import Derived.Test.YtlkpnjcbokeoeaaInW
import Derived.Test.YtlkpnjcbokeoeaaIntsR
import Derived.Test.YtlkpnjcbokeoeaaInts
import Derived.Test.YtlkpnjcbokeoeaaIntsQ
import Derived.Test.YtlkpnjcbokeoeaaIntsH
import Derived.Test.YtlkpnjcbokeoeaaLabI
import Derived.Test.YtlkpnjcbokeoeaaHasP
import Derived.Test.YtlkpnjcbokeoeaaBoA
import Derived.Test.YtlkpnjcbokeoeaaBoV
import Derived.Test.YtlkpnjcbokeoeaaBoM
import Derived.Test.YtlkpnjcbokeoeaaClashP
import Derived.Test.YtlkpnjcbokeoeaaAscP
import Derived.Test.YtlkpnjcbokeoeaaBoN
import Derived.Test.YtlkpnjcbokeoeaaNodP
import Derived.Test.YtlkpnjcbokeoeaaSwap
namespace Go.Proofs.Ytlkpnjcbokeoeaa.Pure
open Go.RowKit Go.Proofs.Ytlkpnjcbokeoeaa.Print Go.Proofs.YtlkpnjcbokeoeaaW.PrintWords Go.Proofs.YtlkpnjcbokeoeaaW.PrintLast Go.Proofs.YtlkpnjcbokeoeaaW.PrintMore
set_option linter.unusedVariables false
set_option linter.unusedSimpArgs false
theorem landS_some (n land : Int) (hn : 1 ≤ n ∧ n ≤ 10) : impl_isLand.f n land = some (decide (0 ≤ land ∧ land ≤ n - 1)) := by
  unfold impl_isLand.f
  rw [w64 (by omega) (by omega), within_some, Option.bind_some]
theorem okCs_iff {n : Int} {ys : List Int} (h : okCs n ys = true) : (ys.length : Int) = n ∧ ∀ c ∈ ys, 0 ≤ c ∧ c ≤ 9 := by
  unfold okCs at h
  simp only [Bool.and_eq_true, decide_eq_true_eq, List.all_eq_true] at h
  exact h
theorem rd_in {ys : List Int} (h : ∀ c ∈ ys, 0 ≤ c ∧ c ≤ 9) {i : Int} (h0 : 0 ≤ i) (h1 : i < (ys.length : Int)) : 0 ≤ rd ys i ∧ rd ys i ≤ 9 := by
  refine h _ ?_
  unfold rd
  rw [List.getD_eq_getElem?_getD, List.getElem?_eq_getElem (by omega)]
  exact List.getElem_mem _
theorem bothSwapJ {n : Int} {xs : List S55} {ys : List Int} (O : OkBs n xs) (hc : (ys.length : Int) = n ∧ ∀ c ∈ ys, 0 ≤ c ∧ c ≤ 9) (land other : Int) (hl : 0 ≤ land ∧ land ≤ n - 1) (ho : 0 ≤ other ∧ other ≤ 9) (k : Nat) (hk : 2000 < k) : ∃ (r : List Int) (c : Int), r.length ≤ 10 ∧ spec_SwapColours.j0 k n xs ys land other false = some (r, c) ∧ impl_SwapColours.j0 k xs ys land other false = some (r, c) := by
  have hn := O.lands
  have hm := O.many
  have hlen := hc.1
  obtain ⟨k, rfl⟩ : ∃ m, k = m + 1 := ⟨k - 1, by omega⟩
  have hoB : ∀ p ∈ xs, (0 ≤ p.f0 ∧ p.f0 < (ys.length : Int)) ∧ 0 ≤ p.f1 ∧ p.f1 < (ys.length : Int) := fun p hp => by have := O.at_ p hp; omega
  have ha : xs.all (g_okB ys) = true := List.all_eq_true.2 fun p hp => decide_eq_true (hoB p hp)
  have e0 : spec_l09Clash.f k xs ys = some (g_ffrom ys xs 0) := by
    have e := clash_loop xs ys (by omega) hoB xs.length k 0 (by omega) (by omega) (by omega)
    rw [Int.natCast_zero, List.drop_zero] at e
    exact e
  have e1 : impl_firstClash.f xs ys = some (g_ffrom ys xs 0) := by
    unfold impl_firstClash.f
    rw [if_pos ha]
  have q1 : land < (ys.length : Int) := by omega
  have hyl : ys.length ≤ 10 := by omega
  have hown := rd_in hc.2 hl.1 q1
  simp only [spec_SwapColours.j0, impl_SwapColours.j0, Bool.false_eq_true, if_false]
  rw [e0, e1, Option.bind_some, Option.bind_some]
  by_cases h1 : g_ffrom ys xs 0 ≥ 0
  · rw [if_pos h1, if_pos h1]
    exact ⟨[], 6, by simp, rfl, rfl⟩
  · rw [if_neg h1, if_neg h1, if_pos hl.1, if_pos hl.1, if_pos q1, if_pos q1]
    by_cases h2 : rd ys land = other
    · rw [if_pos h2, if_pos h2]
      exact ⟨[], 9, by simp, rfl, rfl⟩
    · have W : Sw n xs ys (rd ys land) other := ⟨O, hlen, hown, ho, h2⟩
      have hR : Rch n ys (rd ys land) other [land] := ⟨by simp, fun r hr => by rw [List.mem_singleton.1 hr]; exact ⟨⟨hl.1, by omega⟩, .inl rfl⟩⟩
      obtain ⟨r, hr, b1, b2⟩ := both_out W 11 k 0 [land] rfl (by simp) (by clear h1 h2 hown e0 e1; omega) hR
      rw [Int.natCast_zero, List.take_zero] at b1
      rw [Int.natCast_zero] at b2
      have e3 : swp ys (rd ys land + other) ys [] = ys := rfl
      rw [e3] at b1
      rw [if_neg h2, if_neg h2]
      unfold slices_Clone_int64_int64.f
      rw [Option.bind_some, if_pos (by simp; omega), Option.bind_some, List.nil_append]
      exact ⟨r, 0, by omega, b2, b1⟩
theorem bothSwapColours (n : Int) (xs : List S55) (ys : List Int) (land other : Int) (hl : xs.length ≤ 1048576) (hy : ys.length ≤ 1048576) (k : Nat) (hk : (xs.length + 1) * (xs.length + 3) + 2 * xs.length + ys.length + 2100 < k) : ∃ (r : List Int) (c : Int), r.length ≤ 10 ∧ spec_SwapColours.f k n xs ys land other = some (r, c) ∧ impl_SwapColours.f k n xs ys land other = some (r, c) := by
  unfold spec_SwapColours.f impl_SwapColours.f
  rw [spec_ok n xs (by omega) k (by omega), impl_ok n xs (by omega) k (by omega), Option.bind_some, Option.bind_some]
  cases hv : okBs n xs with
  | false => exact ⟨_, _, by simp, rfl, rfl⟩
  | true =>
    have O := okBs_of hv
    have hn := O.lands
    have k1 : 2000 < k := by omega
    have k2 : ys.length < k := by omega
    have k3 : ys.length ≤ 1000000000000 := by omega
    obtain ⟨k0, rfl⟩ : ∃ m, k = m + 1 := ⟨k - 1, by omega⟩
    have hs : spec_SwapColours.j0 (k0 + 1) n xs ys land other true = some ([], 2) := by
      simp only [spec_SwapColours.j0]
      rw [if_pos trivial]
    have hi : impl_SwapColours.j0 (k0 + 1) xs ys land other true = some ([], 2) := by
      simp only [impl_SwapColours.j0]
      rw [if_pos trivial]
    rw [if_pos rfl, if_pos rfl, landS_some n land hn, specC_some n ys k3 _ k2, implC_some n ys k3 _ k2, Option.bind_some, Option.bind_some, Option.bind_some, w64 (x := n - 1) (by omega) (by omega), l00In_some, l00In_some, within_some, Option.bind_some, Option.bind_some, hs, hi]
    by_cases h1 : 0 ≤ land ∧ land ≤ n - 1
    · rw [decide_eq_true h1, if_pos rfl, if_pos rfl]
      cases hc : okCs n ys with
      | false => exact ⟨_, _, by simp, rfl, rfl⟩
      | true =>
        rw [if_pos rfl, if_pos rfl, Option.bind_some]
        by_cases h2 : 0 ≤ other ∧ other ≤ 9
        · rw [decide_eq_true h2]
          exact bothSwapJ O (okCs_iff hc) land other h1 h2 (k0 + 1) k1
        · rw [decide_eq_false h2]
          exact ⟨_, _, by simp, hs, hi⟩
    · rw [decide_eq_false h1]
      cases okCs n ys <;> exact ⟨[], 2, by simp, rfl, rfl⟩
theorem FnExactSwapColours : laws_FnExactSwapColours.Pure := by
  intro n a y land other _ _ ha _ hy _ _
  suffices H : ∀ k, (a.length + 1) * (a.length + 3) + 2 * a.length + y.length + 3000 ≤ k → laws_FnExactSwapColours.f k n a y land other = some true from ⟨_, H _ (Nat.le_refl _)⟩
  intro k hk
  obtain ⟨k, rfl⟩ : ∃ m, k = m + 3 := ⟨k - 3, by omega⟩
  unfold laws_FnExactSwapColours.f
  by_cases hyl : (y.length : Int) > 1048576
  · rw [if_pos hyl]
  rw [if_neg hyl, szBorderS_some a (by omega) _ (by omega) (by omega)]
  by_cases h : 1048576 < (a.length : Int)
  · simp [h]
  rw [if_neg h, Option.bind_some, if_neg (by omega)]
  have l := bordersOf_length a
  have ea : ∀ q, a.length < q → laws_toBorderS.f q a = some (bordersOf a) := toBorderS_some a (by omega)
  have ey := toInt_some y (by omega)
  obtain ⟨r, c, hr, e1, e2⟩ := bothSwapColours n (bordersOf a) y land other (by omega) (by omega) (k + 1) (by rw [l]; omega)
  have e3 : impl_SwapColours.f (k + 3) n (bordersOf a) y land other = some (r, c) := at_rounds (fun k => impl_SwapColours.mono _ _ _ _ _ k) (by omega) e2
  have e4 : spec_SwapColours.f (k + 3) n (bordersOf a) y land other = some (r, c) := at_rounds (fun k => spec_SwapColours.mono _ _ _ _ _ k) (by omega) e1
  have qa := eqBorderS_some (bordersOf a) (by omega)
  have qy := eqInt_some y (by omega)
  have qr := eq1_some r (by omega)
  obtain ⟨zs, m0⟩ := markB_some (bordersOf a) 1 (by omega) (by omega) (by omega) (k + 2) (by omega)
  have m9 := mark1_some y (1 + 2 * ((bordersOf a).length : Int)) (by omega) (by omega) (by omega) (k + 2) (by omega)
  have m1 := mark1_some r 1 (by omega) (by omega) (by omega) (k + 1) (by omega)
  have m2 := held1_some r.length 1 (by omega) (by omega) (by omega) (k + 1) (by omega)
  have m3 := held1_some r.length 1 (by omega) (by omega) (by omega) k (by omega)
  have n0 : ¬ (1 + 2 * ((bordersOf a).length : Int) + (y.length : Int) < 0) := by omega
  have n1 : ¬ (1 + (r.length : Int) < 0) := by omega
  simp only [ea (k + 3) (by omega), ey (k + 3) (by omega), e3, e4, qr (k + 3) (by omega), Option.bind_some, if_true, bne_self_eq_false]
  simp only [laws_FnExactSwapColours.j0, Bool.false_eq_true, if_false, if_true, ea (k + 2) (by omega), ey (k + 2) (by omega), qa (k + 2) (by omega), qy (k + 2) (by omega), qr (k + 2) (by omega), m0, m9, n0, Option.bind_some, bne_self_eq_false]
  simp only [laws_FnExactSwapColours.j1, Bool.false_eq_true, if_false, if_true, ea (k + 1) (by omega), ey (k + 1) (by omega), e2, qr (k + 1) (by omega), m1, m2, n1, Option.bind_some, bne_self_eq_false]
  simp only [laws_FnExactSwapColours.j2, Bool.false_eq_true, if_false, if_true, m3, n1, Option.bind_some]
end Go.Proofs.Ytlkpnjcbokeoeaa.Pure
