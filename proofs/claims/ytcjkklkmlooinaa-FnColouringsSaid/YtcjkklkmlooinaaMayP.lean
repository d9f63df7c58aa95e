/- Which colour the next land may have, as the program asks it. -/
import Derived.Test.YtcjkklkmlooinaaPrint0
import Derived.Test.YtcjkklkmlooinaaPrint6
import Derived.Test.YtcjkklkmlooinaaPrint7
import Derived.Test.YtcjkklkmlooinaaNum
import Derived.Test.YtcjkklkmlooinaaMgA
import Derived.Test.YtcjkklkmlooinaaBoVI
import Derived.Test.YtcjkklkmlooinaaAscP
import Derived.Test.YtcjkklkmlooinaaBoNI
import Derived.Test.YtcjkklkmlooinaaAdjP
import Derived.Test.YtcjkklkmlooinaaCntA
namespace Go.Proofs.Ytcjkklkmlooinaa.Pure
open Go.RowKit Go.Proofs.Ytcjkklkmlooinaa.Print Go.Proofs.YtcjkklkmlooinaaW.PrintWords Go.Proofs.YtcjkklkmlooinaaW.PrintLast Go.Proofs.YtcjkklkmlooinaaW.PrintMore
set_option linter.unusedVariables false
set_option linter.unusedSimpArgs false
theorem prs_iff : ∀ (cs : List Nat) (i : Nat) (q : Nat × Nat), q ∈ prs i cs ↔ ∃ j, ∃ h : j < cs.length, q = (i + j, cs[j])
  | [], i, q => ⟨(fun h => by cases h), (fun ⟨j, h, _⟩ => by simp at h)⟩
  | c :: cs, i, q => by
    have e : prs i (c :: cs) = (i, c) :: prs (i + 1) cs := rfl
    rw [e, List.mem_cons, prs_iff cs (i + 1) q]
    constructor
    · rintro (rfl | ⟨j, h, rfl⟩)
      · exact ⟨0, by simp, rfl⟩
      · exact ⟨j + 1, by simp; omega, by simp; omega⟩
    · rintro ⟨j, h, rfl⟩
      cases j with
      | zero => exact .inl rfl
      | succ j => exact .inr ⟨j, by simpa using h, by simp; omega⟩
def ints (cs : List Nat) : List Int := cs.map fun (c : Nat) => (c : Int)
theorem ints_length (cs : List Nat) : (ints cs).length = cs.length := by simp [ints]
theorem ints_rd (cs : List Nat) {i : Nat} (h : i < cs.length) : rd (ints cs) (i : Int) = (cs[i] : Int) := by
  unfold rd ints
  rw [Int.toNat_natCast, List.getD_eq_getElem?_getD, List.getElem?_map, List.getElem?_eq_getElem h]
  rfl
theorem ints_snoc (cs : List Nat) (c : Nat) : ints cs ++ [(c : Int)] = ints (cs ++ [c]) := by simp [ints]
def mayI (ys : List Int) (c : Int) (nb : List Int) : Bool := nb.all fun x => !(decide (x < (ys.length : Int)) && (rd ys x == c))
theorem may_loop (ys : List Int) (c : Int) (nb : List Int) (hnb : ∀ x ∈ nb, 0 ≤ x) (hl : nb.length ≤ 1000000) : ∀ (d k j : Nat), nb.length - j = d → j ≤ nb.length → d < k → impl_mayHave.l0 k ys c nb (nb.length : Int) (j : Int) = some (mayI ys c (nb.drop j)) := by
  intro d
  induction d with
  | zero =>
    intro k j hd hj hk
    obtain ⟨k, rfl⟩ : ∃ m, k = m + 1 := ⟨k - 1, by omega⟩
    simp only [impl_mayHave.l0]
    rw [if_neg (by omega), List.drop_eq_nil_of_le (by omega)]
    rfl
  | succ d ih =>
    intro k j hd hj hk
    obtain ⟨k, rfl⟩ : ∃ m, k = m + 1 := ⟨k - 1, by omega⟩
    have h : j < nb.length := by omega
    have q1 : (j : Int) < (nb.length : Int) := by omega
    have q2 : (0 : Int) ≤ (j : Int) := by omega
    have e := ih k (j + 1) (by omega) (by omega) (by omega)
    have en := nxt h (by omega)
    have h0 := hnb _ (List.getElem_mem h)
    have ed : mayI ys c (nb.drop j) = (!(decide (nb[j] < (ys.length : Int)) && (rd ys nb[j] == c)) && mayI ys c (nb.drop (j + 1))) := by
      rw [List.drop_eq_getElem_cons h]
      unfold mayI
      rw [List.all_cons]
    rw [ed]
    simp only [impl_mayHave.l0]
    rw [if_pos q1, if_pos q2, if_pos q1, rdI h, en, e]
    by_cases c1 : nb[j] < (ys.length : Int)
    · rw [if_pos c1, if_pos h0, decide_eq_true c1, Bool.true_and]
      by_cases c2 : rd ys nb[j] = c
      · rw [if_pos c2, beq_iff_eq.2 c2]; rfl
      · rw [if_neg c2, beq_eq_false_iff_ne.2 c2]; rfl
    · rw [if_neg c1, decide_eq_false c1]; rfl
theorem may_some {n : Int} {xs : List S58} (O : OkBs n xs) (cs : List Nat) (hcs : (cs.length : Int) < n) (c : Nat) (k : Nat) (hk : 60 < k) : impl_mayHave.f k xs (ints cs) (c : Int) = some (mayH (adjB xs) cs c) := by
  have hn := O.lands
  unfold impl_mayHave.f
  rw [ints_length, implN_some O (cs.length : Int) k (by omega), Option.bind_some]
  have hz : n.toNat ≤ 10 := by omega
  have hnl := Nat.le_trans (nbs_length xs (cs.length : Int) n.toNat) hz
  have e := may_loop (ints cs) (c : Int) (nbs xs (cs.length : Int) n.toNat) (fun x hx => ((nbs_mem xs _ x _).1 hx).1) (Nat.le_trans hnl (by decide)) (nbs xs (cs.length : Int) n.toNat).length k 0 (Nat.sub_zero _) (Nat.zero_le _) (Nat.lt_of_le_of_lt hnl (by omega))
  rw [Int.natCast_zero, List.drop_zero] at e
  rw [e]
  congr 1
  rw [Bool.eq_iff_iff]
  unfold mayI mayH
  rw [List.all_eq_true, List.all_eq_true]
  constructor
  · intro h q hq
    obtain ⟨j, hj, rfl⟩ := (prs_iff cs 0 q).1 hq
    rw [Nat.zero_add]
    cases hb : (cs[j] == c) with
    | false => rfl
    | true =>
      cases ha : adjB xs j cs.length with
      | false => rfl
      | true =>
        have hm : (j : Int) ∈ nbs xs (cs.length : Int) n.toNat := (nbs_mem xs _ _ _).2 ⟨by omega, by omega, ha⟩
        have := h _ hm
        rw [ints_length, ints_rd cs hj, decide_eq_true (by omega), Bool.true_and] at this
        have e2 : ((cs[j] : Int) == (c : Int)) = true := by rw [beq_iff_eq.1 hb]; simp
        rw [e2] at this
        cases this
  · intro h x hx
    obtain ⟨x0, x1, xa⟩ := (nbs_mem xs _ x _).1 hx
    rw [ints_length]
    by_cases hl : x < (cs.length : Int)
    · obtain ⟨j, rfl⟩ : ∃ j : Nat, x = (j : Int) := ⟨x.toNat, by omega⟩
      have hj : j < cs.length := by omega
      have := h (j, cs[j]) ((prs_iff cs 0 _).2 ⟨j, hj, by rw [Nat.zero_add]⟩)
      have ha : adjB xs j cs.length = true := xa
      rw [ha, Bool.and_true] at this
      rw [decide_eq_true hl, Bool.true_and, ints_rd cs hj]
      have hb : ((cs[j] : Int) == (c : Int)) = (cs[j] == c) := by
        rw [Bool.eq_iff_iff, beq_iff_eq, beq_iff_eq]; omega
      rw [hb]
      exact this
    · rw [decide_eq_false hl]; rfl
theorem clone_ints (cs : List Nat) (h : cs.length ≤ 1000) : slices_Clone_int64_int64.f (ints cs) = some (ints cs) := by
  unfold slices_Clone_int64_int64.f
  rw [Option.bind_some, if_pos (by rw [ints_length]; simp; omega), List.nil_append]
end Go.Proofs.Ytcjkklkmlooinaa.Pure
