/- The program's walk, which counts one new colour for all, counts the right colourings. -/
import Derived.Test.YtlkpnjcbokeoeaaPrint0
import Derived.Test.YtlkpnjcbokeoeaaPrint7
import Derived.Test.YtlkpnjcbokeoeaaPrint23
import Derived.Test.YtlkpnjcbokeoeaaPrint24
import Derived.Test.YtlkpnjcbokeoeaaNum
import Derived.Test.YtlkpnjcbokeoeaaInS
import Derived.Test.YtlkpnjcbokeoeaaInW
import Derived.Test.YtlkpnjcbokeoeaaIntsR
import Derived.Test.YtlkpnjcbokeoeaaBoA
import Derived.Test.YtlkpnjcbokeoeaaBoV
import Derived.Test.YtlkpnjcbokeoeaaAscP
import Derived.Test.YtlkpnjcbokeoeaaBoN
import Derived.Test.YtlkpnjcbokeoeaaCntA
import Derived.Test.YtlkpnjcbokeoeaaCntS
namespace Go.Proofs.Ytlkpnjcbokeoeaa.Pure
open Go.RowKit Go.Proofs.Ytlkpnjcbokeoeaa.Print Go.Proofs.YtlkpnjcbokeoeaaW.PrintWords Go.Proofs.YtlkpnjcbokeoeaaW.PrintLast Go.Proofs.YtlkpnjcbokeoeaaW.PrintMore
set_option linter.unusedVariables false
set_option linter.unusedSimpArgs false
theorem prs_iff : ∀ (cs : List Nat) (i : Nat) (q : Nat × Nat), q ∈ prs i cs ↔ ∃ j, ∃ h : j < cs.length, q = (i + j, cs[j])
  | [], i, q => ⟨(fun h => by cases h), (fun ⟨j, h, _⟩ => by simp at h)⟩
  | c :: cs, i, q => by
    have e : prs i (c :: cs) = (i, c) :: prs (i + 1) cs := rfl
    rw [e, List.mem_cons, prs_iff cs (i + 1) q]
    constructor
    · rintro (rfl | ⟨j, h, rfl⟩)
      · exact ⟨0, by simp, rfl⟩
      · exact ⟨j + 1, by simp; omega, by simp; omega⟩
    · rintro ⟨j, h, rfl⟩
      cases j with
      | zero => exact .inl rfl
      | succ j => exact .inr ⟨j, by simpa using h, by simp; omega⟩
def ints (cs : List Nat) : List Int := cs.map fun (c : Nat) => (c : Int)
theorem ints_length (cs : List Nat) : (ints cs).length = cs.length := by simp [ints]
theorem ints_rd (cs : List Nat) {i : Nat} (h : i < cs.length) : rd (ints cs) (i : Int) = (cs[i] : Int) := by
  unfold rd ints
  rw [Int.toNat_natCast, List.getD_eq_getElem?_getD, List.getElem?_map, List.getElem?_eq_getElem h]
  rfl
theorem ints_snoc (cs : List Nat) (c : Nat) : ints cs ++ [(c : Int)] = ints (cs ++ [c]) := by simp [ints]
def mayI (ys : List Int) (c : Int) (nb : List Int) : Bool := nb.all fun x => !(decide (x < (ys.length : Int)) && (rd ys x == c))
theorem may_loop (ys : List Int) (c : Int) (nb : List Int) (hnb : ∀ x ∈ nb, 0 ≤ x) (hl : nb.length ≤ 1000000) : ∀ (d k j : Nat), nb.length - j = d → j ≤ nb.length → d < k → impl_mayHave.l0 k ys c nb (nb.length : Int) (j : Int) = some (mayI ys c (nb.drop j)) := by
  intro d
  induction d with
  | zero =>
    intro k j hd hj hk
    obtain ⟨k, rfl⟩ : ∃ m, k = m + 1 := ⟨k - 1, by omega⟩
    simp only [impl_mayHave.l0]
    rw [if_neg (by omega), List.drop_eq_nil_of_le (by omega)]
    rfl
  | succ d ih =>
    intro k j hd hj hk
    obtain ⟨k, rfl⟩ : ∃ m, k = m + 1 := ⟨k - 1, by omega⟩
    have h : j < nb.length := by omega
    have q1 : (j : Int) < (nb.length : Int) := by omega
    have q2 : (0 : Int) ≤ (j : Int) := by omega
    have e := ih k (j + 1) (by omega) (by omega) (by omega)
    have en := nxt h (by omega)
    have h0 := hnb _ (List.getElem_mem h)
    have ed : mayI ys c (nb.drop j) = (!(decide (nb[j] < (ys.length : Int)) && (rd ys nb[j] == c)) && mayI ys c (nb.drop (j + 1))) := by
      rw [List.drop_eq_getElem_cons h]
      unfold mayI
      rw [List.all_cons]
    rw [ed]
    simp only [impl_mayHave.l0]
    rw [if_pos q1, if_pos q2, if_pos q1, rdI h, en, e]
    by_cases c1 : nb[j] < (ys.length : Int)
    · rw [if_pos c1, if_pos h0, decide_eq_true c1, Bool.true_and]
      by_cases c2 : rd ys nb[j] = c
      · rw [if_pos c2, beq_iff_eq.2 c2]; rfl
      · rw [if_neg c2, beq_eq_false_iff_ne.2 c2]; rfl
    · rw [if_neg c1, decide_eq_false c1]; rfl
theorem may_some {n : Int} {xs : List S55} (O : OkBs n xs) (cs : List Nat) (hcs : (cs.length : Int) < n) (c : Nat) (k : Nat) (hk : 60 < k) : impl_mayHave.f k xs (ints cs) (c : Int) = some (mayH (adjB xs) cs c) := by
  have hn := O.lands
  unfold impl_mayHave.f
  rw [ints_length, implN_some O (cs.length : Int) k (by omega), Option.bind_some]
  have hz : n.toNat ≤ 10 := by omega
  have hnl := Nat.le_trans (nbs_length xs (cs.length : Int) n.toNat) hz
  have e := may_loop (ints cs) (c : Int) (nbs xs (cs.length : Int) n.toNat) (fun x hx => ((nbs_mem xs _ x _).1 hx).1) (Nat.le_trans hnl (by decide)) (nbs xs (cs.length : Int) n.toNat).length k 0 (Nat.sub_zero _) (Nat.zero_le _) (Nat.lt_of_le_of_lt hnl (by omega))
  rw [Int.natCast_zero, List.drop_zero] at e
  rw [e]
  congr 1
  rw [Bool.eq_iff_iff]
  unfold mayI mayH
  rw [List.all_eq_true, List.all_eq_true]
  constructor
  · intro h q hq
    obtain ⟨j, hj, rfl⟩ := (prs_iff cs 0 q).1 hq
    rw [Nat.zero_add]
    cases hb : (cs[j] == c) with
    | false => rfl
    | true =>
      cases ha : adjB xs j cs.length with
      | false => rfl
      | true =>
        have hm : (j : Int) ∈ nbs xs (cs.length : Int) n.toNat := (nbs_mem xs _ _ _).2 ⟨by omega, by omega, ha⟩
        have := h _ hm
        rw [ints_length, ints_rd cs hj, decide_eq_true (by omega), Bool.true_and] at this
        have e2 : ((cs[j] : Int) == (c : Int)) = true := by rw [beq_iff_eq.1 hb]; simp
        rw [e2] at this
        cases this
  · intro h x hx
    obtain ⟨x0, x1, xa⟩ := (nbs_mem xs _ x _).1 hx
    rw [ints_length]
    by_cases hl : x < (cs.length : Int)
    · obtain ⟨j, rfl⟩ : ∃ j : Nat, x = (j : Int) := ⟨x.toNat, by omega⟩
      have hj : j < cs.length := by omega
      have := h (j, cs[j]) ((prs_iff cs 0 _).2 ⟨j, hj, by rw [Nat.zero_add]⟩)
      have ha : adjB xs j cs.length = true := xa
      rw [ha, Bool.and_true] at this
      rw [decide_eq_true hl, Bool.true_and, ints_rd cs hj]
      have hb : ((cs[j] : Int) == (c : Int)) = (cs[j] == c) := by
        rw [Bool.eq_iff_iff, beq_iff_eq, beq_iff_eq]; omega
      rw [hb]
      exact this
    · rw [decide_eq_false hl]; rfl
theorem cnt_small (A : Nat → Nat → Bool) (m d : Nat) (hm : m ≤ 6) (hd : d ≤ 10) (cs : List Nat) : 0 ≤ cnt A m d cs ∧ cnt A m d cs ≤ 60466176 := by
  have h := cnt_bound A m d cs
  have h2 : m ^ d ≤ 6 ^ 10 := Nat.le_trans (Nat.pow_le_pow_left hm _) (Nat.pow_le_pow_right (by decide) hd)
  have h3 : (6 : Nat) ^ 10 = 60466176 := by decide
  rw [h3] at h2
  omega
/-- What the loop over the used colours has added so far. -/
def part (xs : List S55) (m d : Nat) (cs : List Nat) (c : Nat) : Int := sumL (fun c => if mayH (adjB xs) cs c = true then cnt (adjB xs) m d (cs ++ [c]) else 0) (List.range c)
theorem part_succ (xs : List S55) (m d : Nat) (cs : List Nat) (c : Nat) : part xs m d cs (c + 1) = part xs m d cs c + (if mayH (adjB xs) cs c = true then cnt (adjB xs) m d (cs ++ [c]) else 0) := by
  unfold part
  rw [List.range_succ, sumL_append, sumL_cons, sumL_nil, Int.add_zero]
theorem part_small (xs : List S55) (m d : Nat) (hm : m ≤ 6) (hd : d ≤ 10) (cs : List Nat) (c : Nat) (hc : c ≤ 7) : 0 ≤ part xs m d cs c ∧ part xs m d cs c ≤ 500000000 := by
  have h := sumL_bound (f := fun c => if mayH (adjB xs) cs c = true then cnt (adjB xs) m d (cs ++ [c]) else 0) (b := 60466176) (List.range c) (fun x _ => by
    have := cnt_small (adjB xs) m d hm hd (cs ++ [x])
    split
    · exact this
    · decide)
  rw [List.length_range] at h
  refine ⟨h.1, Int.le_trans h.2 ?_⟩
  have : (c : Int) ≤ 7 := by omega
  have := Int.mul_le_mul_of_nonneg_right this (show (0 : Int) ≤ 60466176 by decide)
  exact Int.le_trans this (by decide)
theorem clone_ints (cs : List Nat) (h : cs.length ≤ 1000) : slices_Clone_int64_int64.f (ints cs) = some (ints cs) := by
  unfold slices_Clone_int64_int64.f
  rw [Option.bind_some, if_pos (by rw [ints_length]; simp; omega), List.nil_append]
theorem count_main {n : Int} {xs : List S55} (O : OkBs n xs) (m : Nat) (hm : m ≤ 6) : ∀ (d k used : Nat) (cs : List Nat), (cs.length : Int) + (d : Int) = n → (∀ x ∈ cs, x < used) → used ≤ m → 20 * d + 100 < k →
    impl_countColours.f k n xs (m : Int) (used : Int) (ints cs) = some (cnt (adjB xs) m d cs) := by
  intro d
  have hn := O.lands
  induction d with
  | zero =>
    intro k used cs hl hcs hu hk
    obtain ⟨k, rfl⟩ : ∃ m, k = m + 1 := ⟨k - 1, by omega⟩
    simp only [impl_countColours.f]
    rw [ints_length, if_pos (by omega)]
    rfl
  | succ d ih =>
    intro k used cs hl hcs hu hk
    obtain ⟨k, rfl⟩ : ∃ m, k = m + 1 := ⟨k - 1, by omega⟩
    have hcl : (cs.length : Int) < n := by omega
    have hcl2 : cs.length ≤ 1000 := by omega
    have hd10 : d ≤ 10 := by omega
    have hsn : ∀ c : Nat, ((cs ++ [c]).length : Int) + (d : Int) = n := fun c => by rw [List.length_append, List.length_singleton]; omega
    have hmem : ∀ (u c : Nat), used ≤ u → c < u → ∀ x ∈ cs ++ [c], x < u := fun u c h1 h2 x hx => by
      rcases List.mem_append.1 hx with hx | hx
      · exact Nat.lt_of_lt_of_le (hcs x hx) h1
      · rw [List.mem_singleton.1 hx]; exact h2
    have hlim_ : mn (m : Int) (wrap64 ((used : Int) + 1)) = ((min m (used + 1) : Nat) : Int) := by
      rw [w64 (by omega) (by omega)]
      unfold mn
      split <;> omega
    have hlim := Aside0.mk hlim_
    clear hlim_
    have hn0 : ¬ (cs.length : Int) = n := by omega
    have hk0 : 20 * d + 110 + used < k := by omega
    have hloop : ∀ (e k c : Nat), used - c = e → c ≤ used → 20 * d + 110 + e < k →
        impl_countColours.l0 k n xs (m : Int) (used : Int) (ints cs) (part xs m d cs c) ((min m (used + 1) : Nat) : Int) (c : Int) = some (cnt (adjB xs) m (d + 1) cs) := by
      intro e
      induction e with
      | zero =>
        intro k c he hc hk2
        obtain ⟨k, rfl⟩ : ∃ m, k = m + 2 := ⟨k - 2, by omega⟩
        have hcu : c = used := by omega
        subst hcu
        have hc7 : c ≤ 7 := by omega
        have y1 : 60 < k + 1 := by omega
        have y2 : 20 * d + 100 < k + 1 := by omega
        have y3 : ¬ c < m → m = c := fun _ => by omega
        have y4 : (c : Int) < ((c + 1 : Nat) : Int) := by omega
        have y5 : (ints cs).length < 17592186044416 := by rw [ints_length]; omega
        have y6 : ((m - c : Nat) : Int) ≤ 6 := by omega
        have z3 : wrap64 ((c : Int) + 1) = ((c + 1 : Nat) : Int) := by rw [w64 (by omega) (by omega)]; omega
        have z4 : wrap64 ((m : Int) - (c : Int)) = ((m - c : Nat) : Int) := by clear z3; rw [w64 (by omega) (by omega)]; omega
        rw [cnt_used (adjB xs) hcs hu d]
        have hp := part_small xs m d hm hd10 cs c hc7
        by_cases hum : c < m
        · have hmin : (min m (c + 1) : Nat) = c + 1 := Nat.min_eq_right hum
          have hmy := mayH_new (adjB xs) hcs (Nat.le_refl c)
          have em := may_some O cs hcl c (k + 1) y1
          have ef := ih (k + 1) (c + 1) (cs ++ [c]) (hsn c) (hmem (c + 1) c (Nat.le_succ _) (Nat.lt_succ_self _)) hum y2
          have hs := cnt_small (adjB xs) m d hm hd10 (cs ++ [c])
          have z1 := y4
          have z2 := y5
          have hmc := y6
          have hpr : 0 ≤ ((m - c : Nat) : Int) * cnt (adjB xs) m d (cs ++ [c]) ∧ ((m - c : Nat) : Int) * cnt (adjB xs) m d (cs ++ [c]) ≤ 362797056 := by
            refine ⟨Int.mul_nonneg (Int.natCast_nonneg _) hs.1, ?_⟩
            have h1 := Int.mul_le_mul_of_nonneg_right hmc hs.1
            have h2 := Int.mul_le_mul_of_nonneg_left hs.2 (show (0 : Int) ≤ 6 by decide)
            exact Int.le_trans h1 (Int.le_trans h2 (by decide))
          have e5 : part xs m d cs c = sumL (fun c => if mayH (adjB xs) cs c = true then cnt (adjB xs) m d (cs ++ [c]) else 0) (List.range c) := rfl
          rw [← e5, hmin]
          generalize cnt (adjB xs) m d (cs ++ [c]) = v at ef hs hpr ⊢
          have z5 : wrap64 (((m - c : Nat) : Int) * v) = ((m - c : Nat) : Int) * v := w64 (Int.le_trans (by decide) hpr.1) (Int.le_trans hpr.2 (by decide))
          generalize part xs m d cs c = q at hp ⊢
          have z6 : wrap64 (q + ((m - c : Nat) : Int) * v) = q + ((m - c : Nat) : Int) * v := w64 (Int.le_trans (by decide) (Int.add_nonneg hp.1 hpr.1)) (Int.le_trans (Int.add_le_add hp.2 hpr.2) (by decide))
          simp only [impl_countColours.l0]
          rw [if_pos z1, em, Option.bind_some, if_pos hmy, clone_ints cs hcl2, Option.bind_some, if_pos z2, Option.bind_some, if_neg (Int.lt_irrefl _), z3, ints_snoc, ef, Option.bind_some, z4, z5, z6, if_neg (Int.lt_irrefl _)]
        · have hmc : m = c := y3 hum
          have hmin : (min m (c + 1) : Nat) = c := by rw [hmc]; exact Nat.min_eq_left (Nat.le_succ _)
          rw [hmin, hmc, Nat.sub_self]
          simp only [impl_countColours.l0]
          rw [if_neg (Int.lt_irrefl _), Int.natCast_zero, Int.zero_mul, Int.add_zero]
          rfl
      | succ e ihe =>
        intro k c he hc hk2
        obtain ⟨k, rfl⟩ : ∃ m, k = m + 1 := ⟨k - 1, by omega⟩
        have hcu : c < used := by omega
        have hc7 : c ≤ 7 := by omega
        have y1 : 60 < k := by omega
        have y2 : 20 * d + 100 < k := by omega
        have y3 : used - (c + 1) = e := by omega
        have y4 : 20 * d + 110 + e < k := by omega
        have z1 : (c : Int) < ((min m (used + 1) : Nat) : Int) := by omega
        have z2 : (ints cs).length < 17592186044416 := by rw [ints_length]; omega
        have z7 : (c : Int) < (used : Int) := by omega
        have z3 : wrap64 ((c : Int) + 1) = ((c + 1 : Nat) : Int) := by rw [w64 (by omega) (by omega)]; omega
        have hp := part_small xs m d hm hd10 cs c hc7
        have em := may_some O cs hcl c k y1
        have ef := ih k used (cs ++ [c]) (hsn c) (hmem used c (Nat.le_refl _) hcu) hu y2
        have hs := cnt_small (adjB xs) m d hm hd10 (cs ++ [c])
        have en := ihe k (c + 1) y3 hcu y4
        rw [part_succ] at en
        simp only [impl_countColours.l0]
        rw [if_pos z1, em, Option.bind_some, clone_ints cs hcl2, Option.bind_some, if_pos z2, Option.bind_some, if_pos z7, z3, ints_snoc, ef, Option.bind_some]
        cases hmy : mayH (adjB xs) cs c with
        | true =>
          rw [hmy, if_pos rfl] at en
          have z6 : wrap64 (part xs m d cs c + cnt (adjB xs) m d (cs ++ [c])) = part xs m d cs c + cnt (adjB xs) m d (cs ++ [c]) := w64 (Int.le_trans (by decide) (Int.add_nonneg hp.1 hs.1)) (Int.le_trans (Int.add_le_add hp.2 hs.2) (by decide))
          rw [if_pos rfl, z6]
          exact en
        | false =>
          rw [hmy, if_neg (by simp), Int.add_zero] at en
          rw [if_neg (by simp)]
          exact en
    simp only [impl_countColours.f]
    rw [ints_length, if_neg hn0, hlim.out]
    have := hloop used k 0 (Nat.sub_zero _) (Nat.zero_le _) hk0
    rw [Int.natCast_zero] at this
    exact this
end Go.Proofs.Ytlkpnjcbokeoeaa.Pure
