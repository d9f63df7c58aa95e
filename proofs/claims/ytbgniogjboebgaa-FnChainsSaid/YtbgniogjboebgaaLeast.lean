/- The program's LeastBound and the reference's return one bound, the least one. -/
import Derived.Test.YtbgniogjboebgaaPrint0
import Derived.Test.YtbgniogjboebgaaPrint12
import Derived.Test.YtbgniogjboebgaaPrint39
import Derived.Test.YtbgniogjboebgaaNum
import Derived.Test.YtbgniogjboebgaaInW
import Derived.Test.YtbgniogjboebgaaChA
import Derived.Test.YtbgniogjboebgaaChV
import Derived.Test.YtbgniogjboebgaaChP
import Derived.Test.YtbgniogjboebgaaChK
import Derived.Test.YtbgniogjboebgaaStand
import Derived.Test.YtbgniogjboebgaaFew
import Derived.Test.YtbgniogjboebgaaMono
namespace Go.Proofs.Ytbgniogjboebgaa.Pure
open Go.RowKit Go.Proofs.Ytbgniogjboebgaa.Print Go.Proofs.YtbgniogjboebgaaW.PrintWords Go.Proofs.YtbgniogjboebgaaW.PrintLast Go.Proofs.YtbgniogjboebgaaW.PrintMore
set_option linter.unusedVariables false
set_option linter.unusedSimpArgs false
def Res (xs : List S48) (many v : Int) : Prop := (0 ≤ v ∧ v ≤ 3000) ∧ (∀ x, 0 ≤ x → x < v → ¬ Short xs many x) ∧ (v = 3000 ∨ Short xs many v)
theorem Res.uniq {xs : List S48} {many v u : Int} (hv : Res xs many v) (hu : Res xs many u) : v = u := by
  obtain ⟨a1, a2, a3⟩ := hv
  obtain ⟨b1, b2, b3⟩ := hu
  rcases Int.lt_trichotomy v u with h | h | h
  · have := b2 v a1.1 h
    rcases a3 with e | e
    · omega
    · exact absurd e this
  · exact h
  · have := a2 u b1.1 h
    rcases b3 with e | e
    · omega
    · exact absurd e this
theorem half {a b : Int} (h : 0 ≤ a + b) (hb : a + b ≤ 100000) : wrap64 (Int.tdiv (wrap64 (a + b)) 2) = (a + b) / 2 := by
  rw [w64 (x := a + b) (by omega) (by omega), Int.tdiv_eq_ediv_of_nonneg h, w64 (by omega) (by omega)]
theorem least_spec (xs : List S48) (h2 : 2 ≤ xs.length) (h24 : xs.length ≤ 24) (ho : ∀ p ∈ xs, okP p = true) (many : Int) : ∀ (d : Nat) (lo hi : Int), (hi - lo).toNat = d → -1 ≤ lo → lo < hi → hi ≤ 3000 → (∀ x, 0 ≤ x → x ≤ lo → ¬ Short xs many x) → (hi = 3000 ∨ Short xs many hi) → ∃ v, Res xs many v ∧ ∀ k, d + 1000 < k → spec_LeastBound.l0 k xs many lo hi = some (v, 0) := by
  intro d
  induction d using Nat.strongRecOn with
  | ind d ih =>
    intro lo hi hd hlo hlt hhi hn hy
    by_cases h : hi - lo > 1
    · have em := half (a := lo) (b := hi) (by omega) (by omega)
      obtain ⟨r, hr, hk⟩ := few_both xs h2 h24 ho ((lo + hi) / 2)
      have hs := hr.short (many := many)
      by_cases hc : ((r.length + 1 : Nat) : Int) ≤ many
      · obtain ⟨v, hv, hg⟩ := ih ((lo + hi) / 2 - lo).toNat (by omega) lo ((lo + hi) / 2) rfl hlo (by omega) (by omega) hn (.inr (hs.2 hc))
        refine ⟨v, hv, fun k hk' => ?_⟩
        obtain ⟨k, rfl⟩ : ∃ m, k = m + 1 := ⟨k - 1, by omega⟩
        have e1 := (hk k (by omega)).2
        have e2 := hg k (by omega)
        have e3 : wrap64 (hi - lo) = hi - lo := w64 (by omega) (by omega)
        simp only [spec_LeastBound.l0, em, e1, e3, Option.bind_some, List.length_cons]
        rw [if_pos h, if_pos hc, e2]
      · obtain ⟨v, hv, hg⟩ := ih (hi - (lo + hi) / 2).toNat (by omega) ((lo + hi) / 2) hi rfl (by omega) (by omega) hhi (fun x h0 h1 hx => by
          by_cases e : x ≤ lo
          · exact hn x h0 e hx
          · exact hc (hs.1 (hx.mono h2 ho h0 h1 (by omega)))) hy
        refine ⟨v, hv, fun k hk' => ?_⟩
        obtain ⟨k, rfl⟩ : ∃ m, k = m + 1 := ⟨k - 1, by omega⟩
        have e1 := (hk k (by omega)).2
        have e2 := hg k (by omega)
        have e3 : wrap64 (hi - lo) = hi - lo := w64 (by omega) (by omega)
        simp only [spec_LeastBound.l0, em, e1, e3, Option.bind_some, List.length_cons]
        rw [if_pos h, if_neg hc, e2]
    · refine ⟨hi, ⟨⟨by omega, hhi⟩, fun x h0 h1 => hn x h0 (by omega), hy⟩, fun k hk => ?_⟩
      obtain ⟨k, rfl⟩ : ∃ m, k = m + 1 := ⟨k - 1, by omega⟩
      have e3 : wrap64 (hi - lo) = hi - lo := w64 (by omega) (by omega)
      simp only [spec_LeastBound.l0, e3]
      rw [if_neg h]
theorem least_impl (xs : List S48) (h2 : 2 ≤ xs.length) (h24 : xs.length ≤ 24) (ho : ∀ p ∈ xs, okP p = true) (many : Int) : ∀ (d : Nat) (lo hi : Int), (hi - lo).toNat = d → 0 ≤ lo → lo ≤ hi → hi ≤ 3000 → (∀ x, 0 ≤ x → x < lo → ¬ Short xs many x) → (hi = 3000 ∨ Short xs many hi) → ∃ v, Res xs many v ∧ ∀ k, d + 1000 < k → impl_LeastBound.l0 k xs many lo hi = some (v, 0) := by
  intro d
  induction d using Nat.strongRecOn with
  | ind d ih =>
    intro lo hi hd hlo hlt hhi hn hy
    by_cases h : lo < hi
    · have em := half (a := lo) (b := hi) (by omega) (by omega)
      obtain ⟨r, hr, hk⟩ := few_both xs h2 h24 ho ((lo + hi) / 2)
      have hs := hr.short (many := many)
      by_cases hc : ((r.length + 1 : Nat) : Int) ≤ many
      · obtain ⟨v, hv, hg⟩ := ih ((lo + hi) / 2 - lo).toNat (by omega) lo ((lo + hi) / 2) rfl hlo (by omega) (by omega) hn (.inr (hs.2 hc))
        refine ⟨v, hv, fun k hk' => ?_⟩
        obtain ⟨k, rfl⟩ : ∃ m, k = m + 1 := ⟨k - 1, by omega⟩
        have e1 := (hk k (by omega)).1
        have e2 := hg k (by omega)
        simp only [impl_LeastBound.l0, em, e1, Option.bind_some, List.length_cons]
        rw [if_pos h, if_pos hc, e2]
      · obtain ⟨v, hv, hg⟩ := ih (hi - ((lo + hi) / 2 + 1)).toNat (by omega) ((lo + hi) / 2 + 1) hi rfl (by omega) (by omega) hhi (fun x h0 h1 hx => by
          by_cases e : x < lo
          · exact hn x h0 e hx
          · exact hc (hs.1 (hx.mono h2 ho h0 (by omega) (by omega)))) hy
        refine ⟨v, hv, fun k hk' => ?_⟩
        obtain ⟨k, rfl⟩ : ∃ m, k = m + 1 := ⟨k - 1, by omega⟩
        have e1 := (hk k (by omega)).1
        have e2 := hg k (by omega)
        have e3 : wrap64 ((lo + hi) / 2 + 1) = (lo + hi) / 2 + 1 := w64 (by omega) (by omega)
        simp only [impl_LeastBound.l0, em, e1, e3, Option.bind_some, List.length_cons]
        rw [if_pos h, if_neg hc, e2]
    · obtain rfl : lo = hi := by omega
      refine ⟨lo, ⟨⟨by omega, hhi⟩, hn, hy⟩, fun k hk => ?_⟩
      obtain ⟨k, rfl⟩ : ∃ m, k = m + 1 := ⟨k - 1, by omega⟩
      simp only [impl_LeastBound.l0]
      rw [if_neg h]
theorem least_both (xs : List S48) (h2 : 2 ≤ xs.length) (h24 : xs.length ≤ 24) (ho : ∀ p ∈ xs, okP p = true) (many : Int) : ∃ v, Res xs many v ∧ ∀ k, 4100 < k → spec_LeastBound.l0 k xs many (-1) 3000 = some (v, 0) ∧ impl_LeastBound.l0 k xs many 0 3000 = some (v, 0) := by
  obtain ⟨v, hv, e1⟩ := least_spec xs h2 h24 ho many _ (-1) 3000 rfl (by omega) (by omega) (by omega) (fun x h0 h1 => by omega) (.inl rfl)
  obtain ⟨u, hu, e2⟩ := least_impl xs h2 h24 ho many _ 0 3000 rfl (by omega) (by omega) (by omega) (fun x h0 h1 => by omega) (.inl rfl)
  obtain rfl := hv.uniq hu
  exact ⟨v, hv, fun k hk => ⟨e1 k (by omega), e2 k (by omega)⟩⟩
theorem bothLeastBound (xs : List S48) (m : Int) (hl : xs.length ≤ 10000000) : ∃ r, ∀ k, xs.length + 4100 < k → spec_LeastBound.f k xs m = some r ∧ impl_LeastBound.f k xs m = some r := by
  by_cases hv : okCh xs = true
  · have hv' := okCh_iff.1 hv
    by_cases hn : 2 ≤ m ∧ m ≤ 24
    · obtain ⟨v, _, hk⟩ := least_both xs hv'.2.1 hv'.2.2 hv'.1 m
      refine ⟨(v, 0), fun k hk' => ?_⟩
      obtain ⟨k1, k2⟩ := hk k (by omega)
      unfold spec_LeastBound.f impl_LeastBound.f
      rw [l07Ok_some xs (by omega) _ (by omega), valid_some xs (by omega) _ (by omega), l00In_some, within_some]
      simp only [hv, hn, check_some, Option.bind_some, and_self, decide_true, if_true, k1, k2]
    · refine ⟨(0, 2), fun k hk' => ?_⟩
      unfold spec_LeastBound.f impl_LeastBound.f
      rw [l07Ok_some xs (by omega) _ (by omega), valid_some xs (by omega) _ (by omega), l00In_some, within_some]
      simp [hv, hn, check_some]
  · refine ⟨(0, 1), fun k hk' => ?_⟩
    unfold spec_LeastBound.f impl_LeastBound.f
    rw [l07Ok_some xs (by omega) _ (by omega), valid_some xs (by omega) _ (by omega), within_some]
    simp [hv, check_some]
end Go.Proofs.Ytbgniogjboebgaa.Pure
