/- The program's walk, which counts one new colour for all, counts the right colourings. -/
import Derived.Test.YtcjkklkmlooinaaPrint0
import Derived.Test.YtcjkklkmlooinaaPrint13
import Derived.Test.YtcjkklkmlooinaaNum
import Derived.Test.YtcjkklkmlooinaaMgA
import Derived.Test.YtcjkklkmlooinaaBoVI
import Derived.Test.YtcjkklkmlooinaaAscP
import Derived.Test.YtcjkklkmlooinaaBoNI
import Derived.Test.YtcjkklkmlooinaaAdjP
import Derived.Test.YtcjkklkmlooinaaCntA
import Derived.Test.YtcjkklkmlooinaaMayP
namespace Go.Proofs.Ytcjkklkmlooinaa.Pure
open Go.RowKit Go.Proofs.Ytcjkklkmlooinaa.Print Go.Proofs.YtcjkklkmlooinaaW.PrintWords Go.Proofs.YtcjkklkmlooinaaW.PrintLast Go.Proofs.YtcjkklkmlooinaaW.PrintMore
set_option linter.unusedVariables false
set_option linter.unusedSimpArgs false
theorem cnt_small (A : Nat → Nat → Bool) (m d : Nat) (hm : m ≤ 6) (hd : d ≤ 10) (cs : List Nat) : 0 ≤ cnt A m d cs ∧ cnt A m d cs ≤ 60466176 := by
  have h := cnt_bound A m d cs
  have h2 : m ^ d ≤ 6 ^ 10 := Nat.le_trans (Nat.pow_le_pow_left hm _) (Nat.pow_le_pow_right (by decide) hd)
  have h3 : (6 : Nat) ^ 10 = 60466176 := by decide
  rw [h3] at h2
  omega
/-- What the loop over the used colours has added so far. -/
def part (xs : List S58) (m d : Nat) (cs : List Nat) (c : Nat) : Int := sumL (fun c => if mayH (adjB xs) cs c = true then cnt (adjB xs) m d (cs ++ [c]) else 0) (List.range c)
theorem part_succ (xs : List S58) (m d : Nat) (cs : List Nat) (c : Nat) : part xs m d cs (c + 1) = part xs m d cs c + (if mayH (adjB xs) cs c = true then cnt (adjB xs) m d (cs ++ [c]) else 0) := by
  unfold part
  rw [List.range_succ, sumL_append, sumL_cons, sumL_nil, Int.add_zero]
theorem part_small (xs : List S58) (m d : Nat) (hm : m ≤ 6) (hd : d ≤ 10) (cs : List Nat) (c : Nat) (hc : c ≤ 7) : 0 ≤ part xs m d cs c ∧ part xs m d cs c ≤ 500000000 := by
  have h := sumL_bound (f := fun c => if mayH (adjB xs) cs c = true then cnt (adjB xs) m d (cs ++ [c]) else 0) (b := 60466176) (List.range c) (fun x _ => by
    have := cnt_small (adjB xs) m d hm hd (cs ++ [x])
    split
    · exact this
    · decide)
  rw [List.length_range] at h
  refine ⟨h.1, Int.le_trans h.2 ?_⟩
  have : (c : Int) ≤ 7 := by omega
  have := Int.mul_le_mul_of_nonneg_right this (show (0 : Int) ≤ 60466176 by decide)
  exact Int.le_trans this (by decide)
theorem count_main {n : Int} {xs : List S58} (O : OkBs n xs) (m : Nat) (hm : m ≤ 6) : ∀ (d k used : Nat) (cs : List Nat), (cs.length : Int) + (d : Int) = n → (∀ x ∈ cs, x < used) → used ≤ m → 20 * d + 100 < k →
    impl_countColours.f k n xs (m : Int) (used : Int) (ints cs) = some (cnt (adjB xs) m d cs) := by
  intro d
  have hn := O.lands
  induction d with
  | zero =>
    intro k used cs hl hcs hu hk
    obtain ⟨k, rfl⟩ : ∃ m, k = m + 1 := ⟨k - 1, by omega⟩
    simp only [impl_countColours.f]
    rw [ints_length, if_pos (by omega)]
    rfl
  | succ d ih =>
    intro k used cs hl hcs hu hk
    obtain ⟨k, rfl⟩ : ∃ m, k = m + 1 := ⟨k - 1, by omega⟩
    have hcl : (cs.length : Int) < n := by omega
    have hcl2 : cs.length ≤ 1000 := by omega
    have hd10 : d ≤ 10 := by omega
    have hsn : ∀ c : Nat, ((cs ++ [c]).length : Int) + (d : Int) = n := fun c => by rw [List.length_append, List.length_singleton]; omega
    have hmem : ∀ (u c : Nat), used ≤ u → c < u → ∀ x ∈ cs ++ [c], x < u := fun u c h1 h2 x hx => by
      rcases List.mem_append.1 hx with hx | hx
      · exact Nat.lt_of_lt_of_le (hcs x hx) h1
      · rw [List.mem_singleton.1 hx]; exact h2
    have hlim_ : mn (m : Int) (wrap64 ((used : Int) + 1)) = ((min m (used + 1) : Nat) : Int) := by
      rw [w64 (by omega) (by omega)]
      unfold mn
      split <;> omega
    have hlim := Aside0.mk hlim_
    clear hlim_
    have hn0 : ¬ (cs.length : Int) = n := by omega
    have hk0 : 20 * d + 110 + used < k := by omega
    have hloop : ∀ (e k c : Nat), used - c = e → c ≤ used → 20 * d + 110 + e < k →
        impl_countColours.l0 k n xs (m : Int) (used : Int) (ints cs) (part xs m d cs c) ((min m (used + 1) : Nat) : Int) (c : Int) = some (cnt (adjB xs) m (d + 1) cs) := by
      intro e
      induction e with
      | zero =>
        intro k c he hc hk2
        obtain ⟨k, rfl⟩ : ∃ m, k = m + 2 := ⟨k - 2, by omega⟩
        have hcu : c = used := by omega
        subst hcu
        have hc7 : c ≤ 7 := by omega
        have y1 : 60 < k + 1 := by omega
        have y2 : 20 * d + 100 < k + 1 := by omega
        have y3 : ¬ c < m → m = c := fun _ => by omega
        have y4 : (c : Int) < ((c + 1 : Nat) : Int) := by omega
        have y5 : (ints cs).length < 17592186044416 := by rw [ints_length]; omega
        have y6 : ((m - c : Nat) : Int) ≤ 6 := by omega
        have z3 : wrap64 ((c : Int) + 1) = ((c + 1 : Nat) : Int) := by rw [w64 (by omega) (by omega)]; omega
        have z4 : wrap64 ((m : Int) - (c : Int)) = ((m - c : Nat) : Int) := by clear z3; rw [w64 (by omega) (by omega)]; omega
        rw [cnt_used (adjB xs) hcs hu d]
        have hp := part_small xs m d hm hd10 cs c hc7
        by_cases hum : c < m
        · have hmin : (min m (c + 1) : Nat) = c + 1 := Nat.min_eq_right hum
          have hmy := mayH_new (adjB xs) hcs (Nat.le_refl c)
          have em := may_some O cs hcl c (k + 1) y1
          have ef := ih (k + 1) (c + 1) (cs ++ [c]) (hsn c) (hmem (c + 1) c (Nat.le_succ _) (Nat.lt_succ_self _)) hum y2
          have hs := cnt_small (adjB xs) m d hm hd10 (cs ++ [c])
          have z1 := y4
          have z2 := y5
          have hmc := y6
          have hpr : 0 ≤ ((m - c : Nat) : Int) * cnt (adjB xs) m d (cs ++ [c]) ∧ ((m - c : Nat) : Int) * cnt (adjB xs) m d (cs ++ [c]) ≤ 362797056 := by
            refine ⟨Int.mul_nonneg (Int.natCast_nonneg _) hs.1, ?_⟩
            have h1 := Int.mul_le_mul_of_nonneg_right hmc hs.1
            have h2 := Int.mul_le_mul_of_nonneg_left hs.2 (show (0 : Int) ≤ 6 by decide)
            exact Int.le_trans h1 (Int.le_trans h2 (by decide))
          have e5 : part xs m d cs c = sumL (fun c => if mayH (adjB xs) cs c = true then cnt (adjB xs) m d (cs ++ [c]) else 0) (List.range c) := rfl
          rw [← e5, hmin]
          generalize cnt (adjB xs) m d (cs ++ [c]) = v at ef hs hpr ⊢
          have z5 : wrap64 (((m - c : Nat) : Int) * v) = ((m - c : Nat) : Int) * v := w64 (Int.le_trans (by decide) hpr.1) (Int.le_trans hpr.2 (by decide))
          generalize part xs m d cs c = q at hp ⊢
          have z6 : wrap64 (q + ((m - c : Nat) : Int) * v) = q + ((m - c : Nat) : Int) * v := w64 (Int.le_trans (by decide) (Int.add_nonneg hp.1 hpr.1)) (Int.le_trans (Int.add_le_add hp.2 hpr.2) (by decide))
          simp only [impl_countColours.l0]
          rw [if_pos z1, em, Option.bind_some, if_pos hmy, clone_ints cs hcl2, Option.bind_some, if_pos z2, Option.bind_some, if_neg (Int.lt_irrefl _), z3, ints_snoc, ef, Option.bind_some, z4, z5, z6, if_neg (Int.lt_irrefl _)]
        · have hmc : m = c := y3 hum
          have hmin : (min m (c + 1) : Nat) = c := by rw [hmc]; exact Nat.min_eq_left (Nat.le_succ _)
          rw [hmin, hmc, Nat.sub_self]
          simp only [impl_countColours.l0]
          rw [if_neg (Int.lt_irrefl _), Int.natCast_zero, Int.zero_mul, Int.add_zero]
          rfl
      | succ e ihe =>
        intro k c he hc hk2
        obtain ⟨k, rfl⟩ : ∃ m, k = m + 1 := ⟨k - 1, by omega⟩
        have hcu : c < used := by omega
        have hc7 : c ≤ 7 := by omega
        have y1 : 60 < k := by omega
        have y2 : 20 * d + 100 < k := by omega
        have y3 : used - (c + 1) = e := by omega
        have y4 : 20 * d + 110 + e < k := by omega
        have z1 : (c : Int) < ((min m (used + 1) : Nat) : Int) := by omega
        have z2 : (ints cs).length < 17592186044416 := by rw [ints_length]; omega
        have z7 : (c : Int) < (used : Int) := by omega
        have z3 : wrap64 ((c : Int) + 1) = ((c + 1 : Nat) : Int) := by rw [w64 (by omega) (by omega)]; omega
        have hp := part_small xs m d hm hd10 cs c hc7
        have em := may_some O cs hcl c k y1
        have ef := ih k used (cs ++ [c]) (hsn c) (hmem used c (Nat.le_refl _) hcu) hu y2
        have hs := cnt_small (adjB xs) m d hm hd10 (cs ++ [c])
        have en := ihe k (c + 1) y3 hcu y4
        rw [part_succ] at en
        simp only [impl_countColours.l0]
        rw [if_pos z1, em, Option.bind_some, clone_ints cs hcl2, Option.bind_some, if_pos z2, Option.bind_some, if_pos z7, z3, ints_snoc, ef, Option.bind_some]
        cases hmy : mayH (adjB xs) cs c with
        | true =>
          rw [hmy, if_pos rfl] at en
          have z6 : wrap64 (part xs m d cs c + cnt (adjB xs) m d (cs ++ [c])) = part xs m d cs c + cnt (adjB xs) m d (cs ++ [c]) := w64 (Int.le_trans (by decide) (Int.add_nonneg hp.1 hs.1)) (Int.le_trans (Int.add_le_add hp.2 hs.2) (by decide))
          rw [if_pos rfl, z6]
          exact en
        | false =>
          rw [hmy, if_neg (by simp), Int.add_zero] at en
          rw [if_neg (by simp)]
          exact en
    simp only [impl_countColours.f]
    rw [ints_length, if_neg hn0, hlim.out]
    have := hloop used k 0 (Nat.sub_zero _) (Nat.zero_le _) hk0
    rw [Int.natCast_zero] at this
    exact this
end Go.Proofs.Ytcjkklkmlooinaa.Pure
