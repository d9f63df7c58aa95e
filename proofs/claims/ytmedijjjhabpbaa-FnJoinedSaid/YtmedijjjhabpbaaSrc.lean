/- What is drawn out of bytes: numbers in their bounds, whatever the bytes. -/
import Derived.Test.YtmedijjjhabpbaaPrint0
import Derived.Test.YtmedijjjhabpbaaPrint14
import Derived.Test.YtmedijjjhabpbaaNum
import Derived.Laws.BitsLemmas
namespace Go.Proofs.Ytmedijjjhabpbaa.Pure
open Go.RowKit Go.Proofs.Ytmedijjjhabpbaa.Print Go.Proofs.YtmedijjjhabpbaaW.PrintWords Go.Proofs.YtmedijjjhabpbaaW.PrintLast Go.Proofs.YtmedijjjhabpbaaW.PrintMore
set_option linter.unusedVariables false
set_option linter.unusedSimpArgs false
/-- The bytes of a source. -/
def Code (c : List Int) : Prop := c.length ≤ 4611686018427387903 ∧ ∀ x ∈ c, 0 ≤ x ∧ x ≤ 255
theorem code_of {c : List Int} (h : wfS (wfI .u8) c) (hl : c.length * 1 ≤ 140737488351232) : Code c := by
  refine ⟨by omega, fun x hx => ?_⟩
  have := h.2 x hx
  simpa [wfI, Lit.wf, IntKind.min, IntKind.max, IntKind.signed, IntKind.bits] using this
theorem code_rd {c : List Int} (h : Code c) (i : Int) : 0 ≤ rd c i ∧ rd c i ≤ 255 := by
  unfold rd
  rw [List.getD_eq_getElem?_getD]
  cases e : c[i.toNat]? with
  | none => simp
  | some x => exact h.2 x (List.mem_of_getElem? e)
theorem u64w (n : Int) : IntKind.u64.wrap n = n % 18446744073709551616 := by simp [IntKind.wrap, IntKind.bits, IntKind.signed]
theorem seed_byte (n : Int) : 0 ≤ wrap64 (Go.bits .and .u64 ((IntKind.u64.wrap n) / 1099511627776) 255) ∧ wrap64 (Go.bits .and .u64 ((IntKind.u64.wrap n) / 1099511627776) 255) ≤ 255 := by
  rw [u64w]
  have h0 : 0 ≤ n % 18446744073709551616 / 1099511627776 := by omega
  have h1 : n % 18446744073709551616 / 1099511627776 < 16777216 := by omega
  have e := Go.bits_mask .u64 24 (by decide) (fun m a b => by rw [u64w]; omega) 8 (by decide) (n % 18446744073709551616 / 1099511627776) h0 (by simpa using h1)
  have e' : Go.bits .and .u64 (n % 18446744073709551616 / 1099511627776) 255 = n % 18446744073709551616 / 1099511627776 % 256 := by simpa using e
  rw [e', w64 (by omega) (by omega)]
  omega
theorem next_some {c : List Int} (h : Code c) (a sd : Int) (h0 : 0 ≤ a) (h1 : a ≤ 4000000000000000000) : ∃ v sd', spec_l00Src_next.f c a sd = some (v, a + 1, sd') ∧ 0 ≤ v ∧ v ≤ 255 := by
  unfold spec_l00Src_next.f
  have hr := code_rd h a
  rw [w64 (x := a + 1) (by omega) (by omega), w64 (x := rd c a) (by omega) (by omega)]
  by_cases p : a < (c.length : Int)
  · rw [if_pos p, if_pos h0]
    by_cases q : a + 1 ≤ (c.length : Int)
    · rw [if_pos q]; exact ⟨_, _, rfl, hr⟩
    · rw [if_neg q]; exact ⟨_, _, rfl, seed_byte _⟩
  · rw [if_neg p]
    by_cases q : a + 1 ≤ (c.length : Int)
    · rw [if_pos q]; exact ⟨_, _, rfl, by decide⟩
    · rw [if_neg q]; exact ⟨_, _, rfl, seed_byte _⟩
theorem tmod_in {x n : Int} (h0 : 0 ≤ x) (hn : 0 < n) : 0 ≤ Int.tmod x n ∧ Int.tmod x n < n := ⟨Int.tmod_nonneg n h0, Int.tmod_lt_of_pos x hn⟩
theorem pick_some {c : List Int} (h : Code c) (a sd n : Int) (h0 : 0 ≤ a) (h1 : a ≤ 3000000000000000000) : ∃ v a' sd', spec_l00Src_pick.f c a sd n = some (v, a', sd') ∧ a ≤ a' ∧ a' ≤ a + 2 ∧ 0 ≤ v ∧ (v < n ∨ v = 0 ∧ n ≤ 1) := by
  unfold spec_l00Src_pick.f
  by_cases p : n ≤ 1
  · rw [if_pos p]
    exact ⟨_, _, _, rfl, by omega, by omega, by omega, by omega⟩
  · rw [if_neg p]
    obtain ⟨v, s1, e, v0, v1⟩ := next_some h a sd h0 (by omega)
    rw [e]
    simp only [Option.bind_some]
    by_cases q : n > 200
    · obtain ⟨v', s2, e', v0', v1'⟩ := next_some h (a + 1) s1 (by omega) (by omega)
      rw [if_pos q, e']
      simp only [Option.bind_some]
      rw [if_neg (by omega), w64 (x := v * 256) (by omega) (by omega), w64 (x := v * 256 + v') (by omega) (by omega)]
      have := tmod_in (x := v * 256 + v') (n := n) (by omega) (by omega)
      exact ⟨_, _, _, rfl, by omega, by omega, this.1, .inl this.2⟩
    · rw [if_neg q, if_neg (by omega)]
      have := tmod_in (x := v) (n := n) (by omega) (by omega)
      exact ⟨_, _, _, rfl, by omega, by omega, this.1, .inl this.2⟩
end Go.Proofs.Ytmedijjjhabpbaa.Pure
