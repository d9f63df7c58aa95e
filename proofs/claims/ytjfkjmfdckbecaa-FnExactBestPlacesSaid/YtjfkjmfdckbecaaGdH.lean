/- What a place hits: the program's overlaps as one question for all places. -/
import Derived.Test.YtjfkjmfdckbecaaPrint0
import Derived.Test.YtjfkjmfdckbecaaPrint5
import Derived.Test.YtjfkjmfdckbecaaPrint8
import Derived.Test.YtjfkjmfdckbecaaNum
import Derived.Test.YtjfkjmfdckbecaaIntsR
import Derived.Test.YtjfkjmfdckbecaaInts
import Derived.Test.YtjfkjmfdckbecaaIntsQ
import Derived.Test.YtjfkjmfdckbecaaIntsE
import Derived.Test.YtjfkjmfdckbecaaLabA
import Derived.Test.YtjfkjmfdckbecaaLabI
import Derived.Test.YtjfkjmfdckbecaaLabV
import Derived.Test.YtjfkjmfdckbecaaLabMeetS
namespace Go.Proofs.Ytjfkjmfdckbecaa.Pure
open Go.RowKit Go.Proofs.Ytjfkjmfdckbecaa.Print Go.Proofs.YtjfkjmfdckbecaaW.PrintWords Go.Proofs.YtjfkjmfdckbecaaW.PrintLast Go.Proofs.YtjfkjmfdckbecaaW.PrintMore
set_option linter.unusedVariables false
set_option linter.unusedSimpArgs false
def hit (ls : List S36) (qs : List Int) (i : Nat) (p : Int) (t : Nat) : Bool := !decide (t = i) && (decide (rd qs (t : Int) ≥ 0) && g_meet (rd_T36 ls (i : Int)).f0 (rd_T36 ls (i : Int)).f1 (rd_T36 ls (t : Int)).f0 (rd_T36 ls (t : Int)).f1 (rd (rd_T36 ls (i : Int)).f2 p) (rd (rd_T36 ls (t : Int)).f2 (rd qs (t : Int))))
theorem over_all (ls : List S36) (qs : List Int) (hl : ls.length ≤ 1048576) (hq : qs.length ≤ ls.length) (HQ : ∀ t : Nat, t < qs.length → rd qs (t : Int) < ((rd_T36 ls (t : Int)).f2.length : Int)) (i : Nat) (hi : i < ls.length) (p : Int) (hp0 : 0 ≤ p) (hp : p < ((rd_T36 ls (i : Int)).f2.length : Int)) : ∀ (d k j : Nat), qs.length - j = d → j ≤ qs.length → d < k → (∀ t, t < j → hit ls qs i p t = false) →
    impl_overlaps.l0 k ls (i : Int) p qs (qs.length : Int) (j : Int) = some ((List.range qs.length).any (hit ls qs i p)) := by
  intro d
  have HP := Aside0.mk hp
  have HQA := Aside0.mk HQ
  clear hp HQ
  induction d with
  | zero =>
    intro k j hd hj hk hf
    obtain ⟨k, rfl⟩ : ∃ m, k = m + 1 := ⟨k - 1, by omega⟩
    have c1 : ¬ (j : Int) < (qs.length : Int) := by omega
    simp only [impl_overlaps.l0]
    rw [if_neg c1, List.any_eq_false.2 fun t ht => by rw [hf t (by have := List.mem_range.1 ht; omega)]; simp]
  | succ d ih =>
    intro k j hd hj hk hf
    obtain ⟨k, rfl⟩ : ∃ m, k = m + 1 := ⟨k - 1, by omega⟩
    have h : j < qs.length := by omega
    have hnx : wrap64 ((j : Int) + 1) = ((j + 1 : Nat) : Int) := nxt h (by omega)
    have c1 : (j : Int) < (qs.length : Int) := by omega
    have c2 : (0 : Int) ≤ (j : Int) := by omega
    have c3 : (i : Int) < (ls.length : Int) := by omega
    have c4 : (0 : Int) ≤ (i : Int) := by omega
    have c5 : (j : Int) < (ls.length : Int) := by omega
    simp only [impl_overlaps.l0]
    rw [if_pos c1, if_pos c2, if_pos c1, hnx]
    by_cases hji : j = i
    · subst hji
      rw [if_pos rfl]
      refine ih k (j + 1) (by omega) (by omega) (by omega) fun t ht => ?_
      by_cases htj : t = j
      · subst htj; unfold hit; rw [decide_eq_true rfl]; rfl
      · exact hf t (Nat.lt_of_le_of_ne (Nat.le_of_lt_succ ht) htj)
    · have c6 : ¬ (j : Int) = (i : Int) := by omega
      have i1 := ih k (j + 1) (by omega) (by omega) (by omega)
      have hb := HQA.out j h
      have hp := HP.out
      rw [if_neg c6, if_pos hp0]
      have hfa : hit ls qs i p j = (decide (rd qs (j : Int) ≥ 0) && g_meet (rd_T36 ls (i : Int)).f0 (rd_T36 ls (i : Int)).f1 (rd_T36 ls (j : Int)).f0 (rd_T36 ls (j : Int)).f1 (rd (rd_T36 ls (i : Int)).f2 p) (rd (rd_T36 ls (j : Int)).f2 (rd qs (j : Int)))) := by
        unfold hit; rw [decide_eq_false hji]; rfl
      by_cases hr : rd qs (j : Int) ≥ 0
      · rw [if_pos hr, if_pos c4, if_pos c3, if_pos c5, if_pos hp0, if_pos hp, if_pos hr, if_pos hb, meet_some, Option.bind_some]
        rw [decide_eq_true hr, Bool.true_and] at hfa
        cases e : g_meet (rd_T36 ls (i : Int)).f0 (rd_T36 ls (i : Int)).f1 (rd_T36 ls (j : Int)).f0 (rd_T36 ls (j : Int)).f1 (rd (rd_T36 ls (i : Int)).f2 p) (rd (rd_T36 ls (j : Int)).f2 (rd qs (j : Int))) with
        | true => rw [if_pos rfl, List.any_eq_true.2 ⟨j, List.mem_range.2 h, by rw [hfa]; exact e⟩]
        | false =>
          rw [if_neg (by simp)]
          refine i1 fun t ht => ?_
          by_cases htj : t = j
          · subst htj; rw [hfa]; exact e
          · exact hf t (Nat.lt_of_le_of_ne (Nat.le_of_lt_succ ht) htj)
      · rw [if_neg hr]
        refine i1 fun t ht => ?_
        by_cases htj : t = j
        · subst htj; rw [hfa, decide_eq_false hr, Bool.false_and]
        · exact hf t (Nat.lt_of_le_of_ne (Nat.le_of_lt_succ ht) htj)
theorem lab_at {ls : List S36} (h : g_labs ls = true) {i : Nat} (hi : i < ls.length) : g_lab (rd_T36 ls (i : Int)) = true := by
  unfold g_labs at h
  rw [Bool.and_eq_true] at h
  rw [rdLb hi]
  exact List.all_eq_true.1 h.1 _ (List.getElem_mem hi)
theorem one_out {a0 a1 a3 : Int} {l : List Int} (h : g_one a0 a1 l a3 = true) : l.length ≤ 3 ∧ 1 ≤ a3 ∧ a3 ≤ 1000 := by
  unfold g_one g_in at h
  simp only [Bool.and_eq_true, decide_eq_true_eq] at h
  omega
theorem labs_len {ls : List S36} (h : g_labs ls = true) : ls.length ≤ 8 := by
  unfold g_labs at h
  rw [Bool.and_eq_true, decide_eq_true_eq] at h
  exact h.2
end Go.Proofs.Ytjfkjmfdckbecaa.Pure
