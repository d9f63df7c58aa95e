/- Loose ends: the program and the reference find the same. -/
import Derived.Test.YtmedijjjhabpbaaPrint0
import Derived.Test.YtmedijjjhabpbaaPrint21
import Derived.Test.YtmedijjjhabpbaaPrint22
import Derived.Test.YtmedijjjhabpbaaPrint23
import Derived.Test.YtmedijjjhabpbaaNum
import Derived.Test.YtmedijjjhabpbaaInS
import Derived.Test.YtmedijjjhabpbaaInW
import Derived.Test.YtmedijjjhabpbaaChA
import Derived.Test.YtmedijjjhabpbaaChV
import Derived.Test.YtmedijjjhabpbaaChK
import Derived.Test.YtmedijjjhabpbaaChC
import Derived.Test.YtmedijjjhabpbaaRdP
import Derived.Test.YtmedijjjhabpbaaChSC
namespace Go.Proofs.Ytmedijjjhabpbaa.Pure
open Go.RowKit Go.Proofs.Ytmedijjjhabpbaa.Print Go.Proofs.YtmedijjjhabpbaaW.PrintWords Go.Proofs.YtmedijjjhabpbaaW.PrintLast Go.Proofs.YtmedijjjhabpbaaW.PrintMore
set_option linter.unusedVariables false
set_option linter.unusedSimpArgs false
def endP (c : List S49) : List S49 := [rd_T49 c 0, rd_T49 c (wrap64 ((c.length : Int) - 1))]
def ends (xs : List (List S49)) : List S49 := xs.flatMap fun c => if okCl c = true then [] else endP c
theorem ends_cons (c : List S49) (xs : List (List S49)) : ends (c :: xs) = (if okCl c = true then [] else endP c) ++ ends xs := List.flatMap_cons
theorem ends_len (xs : List (List S49)) : (ends xs).length ≤ 2 * xs.length := by
  induction xs with
  | nil => simp [ends]
  | cons c xs ih =>
    have : (if okCl c = true then ([] : List S49) else endP c).length ≤ 2 := by split <;> simp [endP]
    rw [ends_cons, List.length_append, List.length_cons]
    omega
def eqL (p q : S49) : Bool := q.f0 == p.f0 && q.f1 == p.f1
theorem eqL_self (p : S49) : eqL p p = true := by simp [eqL]
theorem eqL_comm (p q : S49) : eqL p q = (p.f0 == q.f0 && p.f1 == q.f1) := by
  unfold eqL
  rw [Bool.beq_comm (a := q.f0), Bool.beq_comm (a := q.f1)]
def lone (E L : List S49) : List S49 := L.filter fun p => decide (E.countP (eqL p) = 1)
theorem lone_cons (E L : List S49) (p : S49) : lone E (p :: L) = if E.countP (eqL p) = 1 then p :: lone E L else lone E L := by
  unfold lone
  rw [List.filter_cons]
  by_cases h : E.countP (eqL p) = 1 <;> simp [h]
theorem specL2 (E : List S49) (hE : E.length ≤ 100) (out : List S49) (i : Nat) (hi : i < E.length) : ∀ (d k j cnt : Nat), E.length - j = d → j ≤ E.length → cnt ≤ j →
    spec_LooseEnds.l2 (k + d + 1) E out i cnt j = if cnt + (E.drop j).countP (eqL E[i]) = 1 then (if out.length < 8796093022208 then spec_LooseEnds.l1 k E (out ++ [E[i]]) (wrap64 ((i : Int) + 1)) else none) else spec_LooseEnds.l1 k E out (wrap64 ((i : Int) + 1)) := by
  intro d
  induction d with
  | zero =>
    intro k j cnt hd hj hc
    rw [show k + 0 + 1 = k + 1 from rfl]
    simp only [spec_LooseEnds.l2]
    rw [if_neg (by omega), show j = E.length by omega, List.drop_length, List.countP_nil, Nat.add_zero]
    by_cases h1 : cnt = 1
    · rw [if_pos (by omega), if_pos h1, if_pos (by omega), if_pos (by omega), rdP hi]
    · rw [if_neg (by omega), if_neg h1]
  | succ d ih =>
    intro k j cnt hd hj hc
    have h : j < E.length := by omega
    rw [show k + (d + 1) + 1 = (k + d + 1) + 1 from by omega]
    rw [spec_LooseEnds.l2, if_pos (by omega), if_pos (by omega), if_pos (by omega), if_pos (by omega), rdP h, rdP hi, nxt h (by omega), List.drop_eq_getElem_cons h, List.countP_cons]
    by_cases he : (E[j].f0 == E[i].f0 && E[j].f1 == E[i].f1) = true
    · rw [if_pos he, show wrap64 ((cnt : Int) + 1) = ((cnt + 1 : Nat) : Int) from by rw [w64 (by omega) (by omega)]; omega, ih k (j + 1) (cnt + 1) (by omega) (by omega) (by omega), if_pos (show eqL E[i] E[j] = true from he)]
      rw [show cnt + 1 + (E.drop (j + 1)).countP (eqL E[i]) = cnt + ((E.drop (j + 1)).countP (eqL E[i]) + 1) by omega]
    · rw [if_neg he, ih k (j + 1) cnt (by omega) (by omega) (by omega), if_neg (show ¬ eqL E[i] E[j] = true from he)]
      rfl
theorem specL1 (E : List S49) (hE : E.length ≤ 100) : ∀ (d k i : Nat) (out : List S49), E.length - i = d → i ≤ E.length → out.length + d ≤ 1000 → spec_LooseEnds.l1 (k + d * 200 + 1) E out i = some (out ++ lone E (E.drop i), 0) := by
  intro d
  induction d with
  | zero =>
    intro k i out hd hi ho
    rw [spec_LooseEnds.l1, if_neg (by omega), show i = E.length by omega, List.drop_length]
    simp [lone]
  | succ d ih =>
    intro k i out hd hi ho
    have h : i < E.length := by omega
    rw [show k + (d + 1) * 200 + 1 = (((k + 198 - E.length) + d * 200 + 1) + E.length + 1) + 1 by omega, spec_LooseEnds.l1, if_pos (by omega)]
    have e := specL2 E hE out i h E.length ((k + 198 - E.length) + d * 200 + 1) 0 0 (by omega) (by omega) (by omega)
    rw [List.drop_zero, Nat.zero_add] at e
    refine Eq.trans e ?_
    rw [nxt h (by omega), List.drop_eq_getElem_cons h]
    by_cases h1 : E.countP (eqL E[i]) = 1
    · rw [if_pos h1, if_pos (by omega), ih _ (i + 1) _ (by omega) (by omega) (by rw [List.length_append, List.length_singleton]; omega)]
      rw [lone_cons, if_pos h1, List.append_assoc]
      rfl
    · rw [if_neg h1, ih _ (i + 1) _ (by omega) (by omega) (by omega)]
      rw [lone_cons, if_neg h1]
theorem specL0 (xs : List (List S49)) (hl : xs.length ≤ 100) (hc : ∀ c ∈ xs, 1 ≤ c.length ∧ c.length ≤ 100) : ∀ (d k i : Nat) (acc : List S49), xs.length - i = d → i ≤ xs.length → acc.length + 2 * d ≤ 1000 → spec_LooseEnds.l0 (k + d + 1) xs acc i = spec_LooseEnds.l1 k (acc ++ ends (xs.drop i)) [] 0 := by
  intro d
  induction d with
  | zero =>
    intro k i acc hd hi ho
    rw [show k + 0 + 1 = k + 1 from rfl, spec_LooseEnds.l0, if_neg (by omega), show i = xs.length by omega, List.drop_length]
    simp [ends]
  | succ d ih =>
    intro k i acc hd hi ho
    have h : i < xs.length := by omega
    obtain ⟨c1, c2⟩ := hc _ (List.getElem_mem h)
    have w : wrap64 ((xs[i].length : Int) - 1) = (xs[i].length : Int) - 1 := w64 (by omega) (by omega)
    rw [show k + (d + 1) + 1 = (k + d + 1) + 1 from by omega, spec_LooseEnds.l0, if_pos (by omega), if_pos (by omega), rdPP h, (closed_some xs[i] (by omega)).2, Option.bind_some, nxt h (by omega), List.drop_eq_getElem_cons h]
    by_cases ho' : okCl xs[i] = true
    · rw [if_pos ho', ih k (i + 1) acc (by omega) (by omega) (by omega)]
      rw [ends_cons, if_pos ho', List.nil_append]
    · rw [if_neg ho', if_pos (by omega), if_pos (by omega), if_pos (by omega), Option.bind_some, if_pos (by simp; omega), ih k (i + 1) _ (by omega) (by omega) (by simp; omega)]
      rw [ends_cons, if_neg ho', List.append_assoc]
      rfl
theorem idx_loop (L : List S49) (hL : L.length ≤ 1000) (a b : Int) : ∀ (d k i : Nat), L.length - i = d → i ≤ L.length → d < k → ∃ r : Int, impl_Place_59.l0 k L (L.length : Int) i a b = some r ∧ decide (r ≥ 0) = (L.drop i).any fun q => a == q.f0 && b == q.f1 := by
  intro d
  induction d with
  | zero =>
    intro k i hd hi hk
    obtain ⟨k, rfl⟩ : ∃ m, k = m + 1 := ⟨k - 1, by omega⟩
    rw [impl_Place_59.l0, if_neg (by omega), show i = L.length by omega]
    exact ⟨-1, rfl, by simp⟩
  | succ d ih =>
    intro k i hd hi hk
    obtain ⟨k, rfl⟩ : ∃ m, k = m + 1 := ⟨k - 1, by omega⟩
    have h : i < L.length := by omega
    rw [impl_Place_59.l0, if_pos (by omega), if_pos (by omega), if_pos (by omega), rdP h, nxt h (by omega), List.drop_eq_getElem_cons h, List.any_cons]
    by_cases he : (a == L[i].f0 && b == L[i].f1) = true
    · rw [if_pos he, he]
      exact ⟨i, rfl, by simp⟩
    · rw [if_neg he, Bool.eq_false_iff.2 he, Bool.false_or]
      exact ih k (i + 1) (by omega) (by omega) (by omega)
theorem has_some (L : List S49) (hL : L.length ≤ 1000) (p : S49) (k : Nat) (hk : L.length < k) : impl_Place_40.f k L p.f0 p.f1 = some (decide (0 < L.countP (eqL p))) := by
  unfold impl_Place_40.f impl_Place_59.f
  obtain ⟨r, e, hr⟩ := idx_loop L hL p.f0 p.f1 L.length k 0 (by omega) (by omega) hk
  rw [Int.natCast_zero] at e
  rw [e, Option.bind_some, hr, List.drop_zero, show (fun q : S49 => p.f0 == q.f0 && p.f1 == q.f1) = eqL p from funext fun q => (eqL_comm p q).symm]
  congr 1
  rw [Bool.eq_iff_iff, decide_eq_true_iff, List.countP_pos_iff, List.any_eq_true]
theorem count_split (E : List S49) {i : Nat} (h : i < E.length) : E.countP (eqL E[i]) = (E.take i).countP (eqL E[i]) + 1 + (E.drop (i + 1)).countP (eqL E[i]) := by
  have : E = E.take i ++ E[i] :: E.drop (i + 1) := by rw [← List.drop_eq_getElem_cons h, List.take_append_drop]
  generalize hp : E[i] = p at *
  conv => lhs; rw [this]
  rw [List.countP_append, List.countP_cons, if_pos (eqL_self p)]
  omega
theorem implL1 (E : List S49) (hE : E.length ≤ 100) : ∀ (d k i : Nat) (out : List S49), E.length - i = d → i ≤ E.length → out.length + d ≤ 1000 → d + 200 < k → impl_LooseEnds.l1 k E out E (E.length : Int) i = some (out ++ lone E (E.drop i), 0) := by
  intro d
  induction d with
  | zero =>
    intro k i out hd hi ho hk
    obtain ⟨k, rfl⟩ : ∃ m, k = m + 1 := ⟨k - 1, by omega⟩
    rw [impl_LooseEnds.l1, if_neg (by omega), show i = E.length by omega, List.drop_length]
    simp [lone]
  | succ d ih =>
    intro k i out hd hi ho hk
    obtain ⟨k, rfl⟩ : ∃ m, k = m + 1 := ⟨k - 1, by omega⟩
    have h : i < E.length := by omega
    have cs := count_split E h
    rw [impl_LooseEnds.l1, if_pos (by omega), if_pos (by omega), if_pos (by omega), if_pos (by omega), rdP h, show ((i : Int)).toNat = i by omega, has_some (E.take i) (by rw [List.length_take]; omega) E[i] k (by rw [List.length_take]; omega), Option.bind_some, nxt h (by omega), List.drop_eq_getElem_cons h]
    by_cases h1 : 0 < (E.take i).countP (eqL E[i])
    · rw [decide_eq_true h1, if_pos rfl, ih k (i + 1) out (by omega) (by omega) (by omega) (by omega)]
      rw [lone_cons, if_neg (by omega)]
    · rw [decide_eq_false h1, if_neg (by decide), if_pos (by omega), if_pos (by omega), show (((i + 1 : Nat) : Int)).toNat = i + 1 by omega, has_some (E.drop (i + 1)) (by rw [List.length_drop]; omega) E[i] k (by rw [List.length_drop]; omega), Option.bind_some]
      by_cases h2 : 0 < (E.drop (i + 1)).countP (eqL E[i])
      · rw [decide_eq_true h2, if_pos rfl, ih k (i + 1) out (by omega) (by omega) (by omega) (by omega)]
        rw [lone_cons, if_neg (by omega)]
      · rw [decide_eq_false h2, if_neg (by decide), if_pos (by omega), ih k (i + 1) _ (by omega) (by omega) (by rw [List.length_append, List.length_singleton]; omega) (by omega)]
        rw [lone_cons, if_pos (by omega), List.append_assoc]
        rfl
theorem implL0 (xs : List (List S49)) (hl : xs.length ≤ 100) (hc : ∀ c ∈ xs, 1 ≤ c.length ∧ c.length ≤ 100) : ∀ (d k i : Nat) (acc : List S49), xs.length - i = d → i ≤ xs.length → acc.length + 2 * d ≤ 1000 → impl_LooseEnds.l0 (k + d + 1) acc [] xs (xs.length : Int) i = impl_LooseEnds.l1 k (acc ++ ends (xs.drop i)) [] (acc ++ ends (xs.drop i)) ((acc ++ ends (xs.drop i)).length : Int) 0 := by
  intro d
  induction d with
  | zero =>
    intro k i acc hd hi ho
    rw [show k + 0 + 1 = k + 1 from rfl, impl_LooseEnds.l0, if_neg (by omega), show i = xs.length by omega, List.drop_length]
    simp [ends]
  | succ d ih =>
    intro k i acc hd hi ho
    have h : i < xs.length := by omega
    obtain ⟨c1, c2⟩ := hc _ (List.getElem_mem h)
    have w : wrap64 ((xs[i].length : Int) - 1) = (xs[i].length : Int) - 1 := w64 (by omega) (by omega)
    rw [show k + (d + 1) + 1 = (k + d + 1) + 1 from by omega, impl_LooseEnds.l0, if_pos (by omega), if_pos (by omega), if_pos (by omega), rdPP h, (closed_some xs[i] (by omega)).1, Option.bind_some, nxt h (by omega), List.drop_eq_getElem_cons h]
    by_cases ho' : okCl xs[i] = true
    · rw [if_pos ho', ih k (i + 1) acc (by omega) (by omega) (by omega)]
      rw [ends_cons, if_pos ho', List.nil_append]
    · rw [if_neg ho', if_pos (by omega), if_pos (by omega), if_pos (by omega), Option.bind_some, if_pos (by simp; omega), ih k (i + 1) _ (by omega) (by omega) (by simp; omega)]
      rw [ends_cons, if_neg ho', List.append_assoc]
      rfl
theorem bothLoose (xs : List (List S49)) (hl : xs.length ≤ 1048576) (hw : ∀ c ∈ xs, c.length ≤ 1048576) : ∃ (r : List S49) (c : Int), r.length ≤ 100 ∧ ∀ k, xs.length + 1050000 + 100000 < k → spec_LooseEnds.f k xs = some (r, c) ∧ impl_LooseEnds.f k xs = some (r, c) := by
  by_cases h0 : chsCode xs = 0
  · obtain ⟨o1, o2⟩ := chsCode_ok h0
    have hc : ∀ c ∈ xs, 1 ≤ c.length ∧ c.length ≤ 100 := fun c hc => by have := okCh_iff.1 (o1 c hc); omega
    have el := ends_len xs
    have ll : (lone (ends xs) (ends xs)).length ≤ (ends xs).length := List.length_filter_le _ _
    refine ⟨lone (ends xs) (ends xs), 0, by omega, fun k hk => ?_⟩
    obtain ⟨e1, e2⟩ := chsCode_some xs hl hw k (by omega)
    unfold spec_LooseEnds.f impl_LooseEnds.f
    rw [e1, e2, Option.bind_some, Option.bind_some, if_pos h0, if_pos h0]
    constructor
    · obtain ⟨m, rfl⟩ : ∃ m, k = (m + (ends xs).length * 200 + 1) + xs.length + 1 := ⟨k - (1 + (ends xs).length * 200 + 1 + xs.length), by omega⟩
      have e := specL0 xs (by omega) hc xs.length (m + (ends xs).length * 200 + 1) 0 [] (by omega) (by omega) (by simp; omega)
      rw [List.drop_zero, List.nil_append] at e
      refine Eq.trans e ?_
      have e' := specL1 (ends xs) (by omega) (ends xs).length m 0 [] (by omega) (by omega) (by simp; omega)
      rw [List.drop_zero, List.nil_append] at e'
      exact e'
    · obtain ⟨m, rfl⟩ : ∃ m, k = m + xs.length + 1 := ⟨k - (xs.length + 1), by omega⟩
      have e := implL0 xs (by omega) hc xs.length m 0 [] (by omega) (by omega) (by simp; omega)
      rw [List.drop_zero, List.nil_append] at e
      refine Eq.trans e ?_
      have e' := implL1 (ends xs) (by omega) (ends xs).length m 0 [] (by omega) (by omega) (by simp; omega) (by omega)
      rw [List.drop_zero, List.nil_append] at e'
      exact e'
  · refine ⟨[], chsCode xs, by simp, fun k hk => ?_⟩
    obtain ⟨e1, e2⟩ := chsCode_some xs hl hw k (by omega)
    unfold spec_LooseEnds.f impl_LooseEnds.f
    rw [e1, e2, Option.bind_some, Option.bind_some, if_neg h0, if_neg h0]
    exact ⟨rfl, rfl⟩
end Go.Proofs.Ytmedijjjhabpbaa.Pure
