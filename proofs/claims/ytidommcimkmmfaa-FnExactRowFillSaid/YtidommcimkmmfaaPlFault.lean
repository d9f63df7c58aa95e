/- The first fault of places is found alike by the program and the reference. -/
import Derived.Test.YtidommcimkmmfaaPrint0
import Derived.Test.YtidommcimkmmfaaPrint5
import Derived.Test.YtidommcimkmmfaaPrint13
import Derived.Test.YtidommcimkmmfaaPrint21
import Derived.Test.YtidommcimkmmfaaPrint22
import Derived.Test.YtidommcimkmmfaaNum
import Derived.Test.YtidommcimkmmfaaInts
import Derived.Test.YtidommcimkmmfaaIntsE
import Derived.Test.YtidommcimkmmfaaLabA
import Derived.Test.YtidommcimkmmfaaLabV
import Derived.Test.YtidommcimkmmfaaLabC
import Derived.Test.YtidommcimkmmfaaChK
import Derived.Test.YtidommcimkmmfaaLabMeet
namespace Go.Proofs.Ytidommcimkmmfaa.Pure
open Go.RowKit Go.Proofs.Ytidommcimkmmfaa.Print Go.Proofs.YtidommcimkmmfaaW.PrintWords Go.Proofs.YtidommcimkmmfaaW.PrintLast Go.Proofs.YtidommcimkmmfaaW.PrintMore
set_option linter.unusedVariables false
set_option linter.unusedSimpArgs false
theorem meet_comm (a0 a1 b0 b1 x y : Int) : g_meet a0 a1 b0 b1 x y = g_meet b0 b1 a0 a1 y x := by
  unfold g_meet
  rw [Bool.eq_iff_iff]
  simp only [Bool.and_eq_true, beq_iff_eq, decide_eq_true_eq]
  constructor <;> rintro ⟨h1, h2, h3⟩ <;> exact ⟨h1.symm, h3, h2⟩
theorem rd_take (ps : List Int) (i j : Nat) (h : j < i) (hi : i ≤ ps.length) : rd (ps.take i) (j : Int) = rd ps (j : Int) := by
  rw [rdI (xs := ps.take i) (by simp; omega), rdI (xs := ps) (by omega), List.getElem_take]
theorem over_loop (ls : List S36) (ps : List Int) (hl : ls.length ≤ 1048576) (H : OkPs ls ps) (i : Nat) (hi : i < ls.length) (p : Int) (hp0 : 0 ≤ p) (hp : p < (ls[i].f2.length : Int)) : ∀ (d k j : Nat), i - j = d → j ≤ i → d < k → (∀ t, t < j → g_freeAt ls ps i (rd ls[i].f2 p) t = false) →
    impl_overlaps.l0 k ls i p (ps.take i) ((ps.take i).length : Int) j = some ((List.range i).any (g_freeAt ls ps i (rd ls[i].f2 p))) := by
  intro d
  have hpl := H.len
  have htl : (ps.take i).length = i := by simp; omega
  rw [htl]
  induction d with
  | zero =>
    intro k j hd hj hk hf
    obtain ⟨k, rfl⟩ : ∃ m, k = m + 1 := ⟨k - 1, by omega⟩
    simp only [impl_overlaps.l0]
    rw [if_neg (by omega), List.any_eq_false.2 fun t ht => by rw [hf t (by have := List.mem_range.1 ht; omega)]; simp]
  | succ d ih =>
    intro k j hd hj hk hf
    obtain ⟨k, rfl⟩ : ∃ m, k = m + 1 := ⟨k - 1, by omega⟩
    have h : j < i := by omega
    have hjl : j < ls.length := by omega
    obtain ⟨g0, g1⟩ := H.at_ j hjl
    have hfa : g_freeAt ls ps i (rd ls[i].f2 p) j = (decide (rd ps (j : Int) ≥ 0) && g_meet ls[i].f0 ls[i].f1 ls[j].f0 ls[j].f1 (rd ls[i].f2 p) (rd ls[j].f2 (rd ps (j : Int)))) := by
      unfold g_freeAt g_meetL
      rw [rdLb hjl, rdLb hi, meet_comm]
    simp only [impl_overlaps.l0]
    rw [htl, if_pos (by omega), if_pos (by omega), if_pos (by omega), if_neg (by omega), if_pos hp0, rd_take ps i j h (by omega), nxt h (by omega)]
    by_cases hr : rd ps (j : Int) ≥ 0
    · rw [if_pos hr, if_pos (by omega), if_pos (by omega), if_pos (by omega), if_pos hp0, rdLb hi, rdLb hjl, if_pos hp, if_pos (by omega), if_pos g1, meet_some, Option.bind_some]
      rw [decide_eq_true hr, Bool.true_and] at hfa
      cases e : g_meet ls[i].f0 ls[i].f1 ls[j].f0 ls[j].f1 (rd ls[i].f2 p) (rd ls[j].f2 (rd ps (j : Int))) with
      | true => rw [if_pos rfl, List.any_eq_true.2 ⟨j, List.mem_range.2 h, by rw [hfa, e]⟩]
      | false =>
        rw [if_neg (by simp)]
        refine ih k (j + 1) (by omega) (by omega) (by omega) fun t ht => ?_
        by_cases htj : t = j
        · subst htj; rw [hfa, e]
        · exact hf t (by omega)
    · rw [if_neg hr]
      refine ih k (j + 1) (by omega) (by omega) (by omega) fun t ht => ?_
      by_cases htj : t = j
      · subst htj; rw [hfa, decide_eq_false hr, Bool.false_and]
      · exact hf t (by omega)
theorem over_none (ls : List S36) (qs : List Int) (hl : qs.length ≤ 1048576) (i : Nat) (p : Int) (hp0 : ¬ p ≥ 0) : ∀ (d k j : Nat), qs.length - j = d → j ≤ qs.length → d < k → impl_overlaps.l0 k ls i p qs (qs.length : Int) j = some false := by
  intro d
  induction d with
  | zero =>
    intro k j hd hj hk
    obtain ⟨k, rfl⟩ : ∃ m, k = m + 1 := ⟨k - 1, by omega⟩
    simp only [impl_overlaps.l0]
    rw [if_neg (by omega)]
  | succ d ih =>
    intro k j hd hj hk
    obtain ⟨k, rfl⟩ : ∃ m, k = m + 1 := ⟨k - 1, by omega⟩
    have h : j < qs.length := by omega
    simp only [impl_overlaps.l0]
    rw [if_pos (by omega), if_pos (by omega), if_pos (by omega), nxt h (by omega), ih k (j + 1) (by omega) (by omega) (by omega), if_neg hp0]
    split <;> rfl
theorem free_some (ls : List S36) (ps : List Int) (H : OkPs ls ps) (i : Nat) (hi : i < ls.length) (st : Int) : spec_l11Free.f ls ps i st = some (!(List.range i).any (g_freeAt ls ps i st)) := by
  have hpl := H.len
  unfold spec_l11Free.f
  rw [if_pos, Int.toNat_natCast]
  unfold g_freePre
  rw [decide_eq_true (by omega), decide_eq_true (by omega), decide_eq_true (by omega), Bool.true_and, Bool.true_and, Bool.true_and, Int.toNat_natCast]
  refine List.all_eq_true.2 fun t ht => ?_
  have := List.mem_range.1 ht
  have htl : t < ls.length := by omega
  rw [rdLb htl]
  exact decide_eq_true (H.at_ t htl).2
theorem fault_loop (ls : List S36) (ps : List Int) (hl : ls.length ≤ 1048576) (H : OkPs ls ps) : ∀ (d k i : Nat), ls.length - i = d → i ≤ ls.length → d + 1048578 < k →
    ∃ r : Int, impl_placesFault.l0 k ls ps ps (ps.length : Int) i = some r ∧ spec_l11Fault.l0 k ls ps i = some r := by
  intro d
  have hpl := H.len
  induction d with
  | zero =>
    intro k i hd hi hk
    obtain ⟨k, rfl⟩ : ∃ m, k = m + 1 := ⟨k - 1, by omega⟩
    simp only [impl_placesFault.l0, spec_l11Fault.l0]
    rw [if_neg (by omega), if_neg (by omega)]
    exact ⟨-1, rfl, rfl⟩
  | succ d ih =>
    intro k i hd hi hk
    obtain ⟨k, rfl⟩ : ∃ m, k = m + 1 := ⟨k - 1, by omega⟩
    have h : i < ls.length := by omega
    obtain ⟨g0, g1⟩ := H.at_ i h
    obtain ⟨r, f1, f2⟩ := ih k (i + 1) (by omega) (by omega) (by omega)
    by_cases hr : rd ps (i : Int) ≥ 0
    · have e := over_loop ls ps hl H i h (rd ps (i : Int)) hr g1 i k 0 (by omega) (by omega) (by omega) (fun t ht => by omega)
      rw [Int.natCast_zero] at e
      have ea : impl_placesFault.l0 (k + 1) ls ps ps (ps.length : Int) i = if (List.range i).any (g_freeAt ls ps i (rd ls[i].f2 (rd ps (i : Int)))) = true then some (i : Int) else some r := by
        simp only [impl_placesFault.l0, impl_overlaps.f]
        rw [if_pos (by omega), if_pos (by omega), if_pos (by omega), if_pos (by omega), nxt h (by omega), Int.toNat_natCast, e, Option.bind_some, f1]
      have eb : spec_l11Fault.l0 (k + 1) ls ps i = if (List.range i).any (g_freeAt ls ps i (rd ls[i].f2 (rd ps (i : Int)))) = true then some (i : Int) else some r := by
        simp only [spec_l11Fault.l0]
        rw [if_pos (by omega), if_pos (by omega), if_pos (by omega), if_pos hr, if_pos (by omega), rdLb h, if_pos g1, nxt h (by omega), free_some ls ps H i h, Option.bind_some, f2]
        cases (List.range i).any (g_freeAt ls ps i (rd ls[i].f2 (rd ps (i : Int)))) <;> rfl
      rw [ea, eb]
      split
      · exact ⟨i, rfl, rfl⟩
      · exact ⟨r, rfl, rfl⟩
    · have e := over_none ls (ps.take i) (by simp; omega) i (rd ps (i : Int)) hr (ps.take i).length k 0 (by omega) (by omega) (by simp; omega)
      rw [Int.natCast_zero] at e
      refine ⟨r, ?_, ?_⟩
      · simp only [impl_placesFault.l0, impl_overlaps.f]
        rw [if_pos (by omega), if_pos (by omega), if_pos (by omega), if_pos (by omega), nxt h (by omega), Int.toNat_natCast, e, Option.bind_some, if_neg (by simp)]
        exact f1
      · simp only [spec_l11Fault.l0]
        rw [if_pos (by omega), if_pos (by omega), if_pos (by omega), if_neg hr, nxt h (by omega)]
        exact f2
theorem fault_some (ls : List S36) (ps : List Int) (hl : ls.length ≤ 1048576) (H : OkPs ls ps) (k : Nat) (hk : 4000000 < k) : ∃ r : Int, impl_placesFault.f k ls ps = some r ∧ spec_l11Fault.f k ls ps = some r := by
  unfold impl_placesFault.f spec_l11Fault.f
  exact fault_loop ls ps hl H ls.length k 0 (by omega) (by omega) (by omega)
end Go.Proofs.Ytidommcimkmmfaa.Pure
