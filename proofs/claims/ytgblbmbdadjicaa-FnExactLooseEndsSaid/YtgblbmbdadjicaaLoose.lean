/- The law FnExactLooseEnds: the program's LooseEnds returns what the reference's returns. -/
import Derived.Test.YtgblbmbdadjicaaPrint0
import Derived.Test.YtgblbmbdadjicaaPrint5
import Derived.Test.YtgblbmbdadjicaaPrint7
import Derived.Test.YtgblbmbdadjicaaPrint8
import Derived.Test.YtgblbmbdadjicaaPrint10
import Derived.Test.YtgblbmbdadjicaaPrint11
import Derived.Test.YtgblbmbdadjicaaPrint13
import Derived.Test.YtgblbmbdadjicaaPrint14
import Derived.Test.YtgblbmbdadjicaaNum
import Derived.Test.YtgblbmbdadjicaaInS
import Derived.Test.YtgblbmbdadjicaaInW
import Derived.Test.YtgblbmbdadjicaaChA
import Derived.Test.YtgblbmbdadjicaaChAX
import Derived.Test.YtgblbmbdadjicaaChV
import Derived.Test.YtgblbmbdadjicaaChM
import Derived.Test.YtgblbmbdadjicaaChMX
import Derived.Test.YtgblbmbdadjicaaChK
import Derived.Test.YtgblbmbdadjicaaChC
import Derived.Test.YtgblbmbdadjicaaRdP
import Derived.Test.YtgblbmbdadjicaaChS
import Derived.Test.YtgblbmbdadjicaaChSC
namespace Go.Proofs.Ytgblbmbdadjicaa.Pure
open Go.RowKit Go.Proofs.Ytgblbmbdadjicaa.Print Go.Proofs.YtgblbmbdadjicaaW.PrintWords Go.Proofs.YtgblbmbdadjicaaW.PrintLast Go.Proofs.YtgblbmbdadjicaaW.PrintMore
set_option linter.unusedVariables false
set_option linter.unusedSimpArgs false
def endP (c : List S44) : List S44 := [rd_T44 c 0, rd_T44 c (wrap64 ((c.length : Int) - 1))]
def ends (xs : List (List S44)) : List S44 := xs.flatMap fun c => if okCl c = true then [] else endP c
theorem ends_cons (c : List S44) (xs : List (List S44)) : ends (c :: xs) = (if okCl c = true then [] else endP c) ++ ends xs := List.flatMap_cons
theorem ends_len (xs : List (List S44)) : (ends xs).length ≤ 2 * xs.length := by
  induction xs with
  | nil => simp [ends]
  | cons c xs ih =>
    have : (if okCl c = true then ([] : List S44) else endP c).length ≤ 2 := by split <;> simp [endP]
    rw [ends_cons, List.length_append, List.length_cons]
    omega
def eqP (p q : S44) : Bool := q.f0 == p.f0 && q.f1 == p.f1
theorem eqP_self (p : S44) : eqP p p = true := by simp [eqP]
theorem eqP_comm (p q : S44) : eqP p q = (p.f0 == q.f0 && p.f1 == q.f1) := by
  unfold eqP
  rw [Bool.beq_comm (a := q.f0), Bool.beq_comm (a := q.f1)]
def lone (E L : List S44) : List S44 := L.filter fun p => decide (E.countP (eqP p) = 1)
theorem lone_cons (E L : List S44) (p : S44) : lone E (p :: L) = if E.countP (eqP p) = 1 then p :: lone E L else lone E L := by
  unfold lone
  rw [List.filter_cons]
  by_cases h : E.countP (eqP p) = 1 <;> simp [h]
theorem specL2 (E : List S44) (hE : E.length ≤ 100) (out : List S44) (i : Nat) (hi : i < E.length) : ∀ (d k j cnt : Nat), E.length - j = d → j ≤ E.length → cnt ≤ j →
    spec_LooseEnds.l2 (k + d + 1) E out i cnt j = if cnt + (E.drop j).countP (eqP E[i]) = 1 then (if out.length < 8796093022208 then spec_LooseEnds.l1 k E (out ++ [E[i]]) (wrap64 ((i : Int) + 1)) else none) else spec_LooseEnds.l1 k E out (wrap64 ((i : Int) + 1)) := by
  intro d
  induction d with
  | zero =>
    intro k j cnt hd hj hc
    rw [show k + 0 + 1 = k + 1 from rfl]
    simp only [spec_LooseEnds.l2]
    rw [if_neg (by omega), show j = E.length by omega, List.drop_length, List.countP_nil, Nat.add_zero]
    by_cases h1 : cnt = 1
    · rw [if_pos (by omega), if_pos h1, if_pos (by omega), if_pos (by omega), rdP hi]
    · rw [if_neg (by omega), if_neg h1]
  | succ d ih =>
    intro k j cnt hd hj hc
    have h : j < E.length := by omega
    rw [show k + (d + 1) + 1 = (k + d + 1) + 1 from by omega]
    rw [spec_LooseEnds.l2, if_pos (by omega), if_pos (by omega), if_pos (by omega), if_pos (by omega), rdP h, rdP hi, nxt h (by omega), List.drop_eq_getElem_cons h, List.countP_cons]
    by_cases he : (E[j].f0 == E[i].f0 && E[j].f1 == E[i].f1) = true
    · rw [if_pos he, show wrap64 ((cnt : Int) + 1) = ((cnt + 1 : Nat) : Int) from by rw [w64 (by omega) (by omega)]; omega, ih k (j + 1) (cnt + 1) (by omega) (by omega) (by omega), if_pos (show eqP E[i] E[j] = true from he)]
      rw [show cnt + 1 + (E.drop (j + 1)).countP (eqP E[i]) = cnt + ((E.drop (j + 1)).countP (eqP E[i]) + 1) by omega]
    · rw [if_neg he, ih k (j + 1) cnt (by omega) (by omega) (by omega), if_neg (show ¬ eqP E[i] E[j] = true from he)]
      rfl
theorem specL1 (E : List S44) (hE : E.length ≤ 100) : ∀ (d k i : Nat) (out : List S44), E.length - i = d → i ≤ E.length → out.length + d ≤ 1000 → spec_LooseEnds.l1 (k + d * 200 + 1) E out i = some (out ++ lone E (E.drop i), 0) := by
  intro d
  induction d with
  | zero =>
    intro k i out hd hi ho
    rw [spec_LooseEnds.l1, if_neg (by omega), show i = E.length by omega, List.drop_length]
    simp [lone]
  | succ d ih =>
    intro k i out hd hi ho
    have h : i < E.length := by omega
    rw [show k + (d + 1) * 200 + 1 = (((k + 198 - E.length) + d * 200 + 1) + E.length + 1) + 1 by omega, spec_LooseEnds.l1, if_pos (by omega)]
    have e := specL2 E hE out i h E.length ((k + 198 - E.length) + d * 200 + 1) 0 0 (by omega) (by omega) (by omega)
    rw [List.drop_zero, Nat.zero_add] at e
    refine Eq.trans e ?_
    rw [nxt h (by omega), List.drop_eq_getElem_cons h]
    by_cases h1 : E.countP (eqP E[i]) = 1
    · rw [if_pos h1, if_pos (by omega), ih _ (i + 1) _ (by omega) (by omega) (by rw [List.length_append, List.length_singleton]; omega)]
      rw [lone_cons, if_pos h1, List.append_assoc]
      rfl
    · rw [if_neg h1, ih _ (i + 1) _ (by omega) (by omega) (by omega)]
      rw [lone_cons, if_neg h1]
theorem specL0 (xs : List (List S44)) (hl : xs.length ≤ 100) (hc : ∀ c ∈ xs, 1 ≤ c.length ∧ c.length ≤ 100) : ∀ (d k i : Nat) (acc : List S44), xs.length - i = d → i ≤ xs.length → acc.length + 2 * d ≤ 1000 → spec_LooseEnds.l0 (k + d + 1) xs acc i = spec_LooseEnds.l1 k (acc ++ ends (xs.drop i)) [] 0 := by
  intro d
  induction d with
  | zero =>
    intro k i acc hd hi ho
    rw [show k + 0 + 1 = k + 1 from rfl, spec_LooseEnds.l0, if_neg (by omega), show i = xs.length by omega, List.drop_length]
    simp [ends]
  | succ d ih =>
    intro k i acc hd hi ho
    have h : i < xs.length := by omega
    obtain ⟨c1, c2⟩ := hc _ (List.getElem_mem h)
    have w : wrap64 ((xs[i].length : Int) - 1) = (xs[i].length : Int) - 1 := w64 (by omega) (by omega)
    rw [show k + (d + 1) + 1 = (k + d + 1) + 1 from by omega, spec_LooseEnds.l0, if_pos (by omega), if_pos (by omega), rdPP h, (closed_some xs[i] (by omega)).2, Option.bind_some, nxt h (by omega), List.drop_eq_getElem_cons h]
    by_cases ho' : okCl xs[i] = true
    · rw [if_pos ho', ih k (i + 1) acc (by omega) (by omega) (by omega)]
      rw [ends_cons, if_pos ho', List.nil_append]
    · rw [if_neg ho', if_pos (by omega), if_pos (by omega), if_pos (by omega), Option.bind_some, if_pos (by simp; omega), ih k (i + 1) _ (by omega) (by omega) (by simp; omega)]
      rw [ends_cons, if_neg ho', List.append_assoc]
      rfl
theorem idx_loop (L : List S44) (hL : L.length ≤ 1000) (a b : Int) : ∀ (d k i : Nat), L.length - i = d → i ≤ L.length → d < k → ∃ r : Int, impl_Place_127.l0 k L (L.length : Int) i a b = some r ∧ decide (r ≥ 0) = (L.drop i).any fun q => a == q.f0 && b == q.f1 := by
  intro d
  induction d with
  | zero =>
    intro k i hd hi hk
    obtain ⟨k, rfl⟩ : ∃ m, k = m + 1 := ⟨k - 1, by omega⟩
    rw [impl_Place_127.l0, if_neg (by omega), show i = L.length by omega]
    exact ⟨-1, rfl, by simp⟩
  | succ d ih =>
    intro k i hd hi hk
    obtain ⟨k, rfl⟩ : ∃ m, k = m + 1 := ⟨k - 1, by omega⟩
    have h : i < L.length := by omega
    rw [impl_Place_127.l0, if_pos (by omega), if_pos (by omega), if_pos (by omega), rdP h, nxt h (by omega), List.drop_eq_getElem_cons h, List.any_cons]
    by_cases he : (a == L[i].f0 && b == L[i].f1) = true
    · rw [if_pos he, he]
      exact ⟨i, rfl, by simp⟩
    · rw [if_neg he, Bool.eq_false_iff.2 he, Bool.false_or]
      exact ih k (i + 1) (by omega) (by omega) (by omega)
theorem has_some (L : List S44) (hL : L.length ≤ 1000) (p : S44) (k : Nat) (hk : L.length < k) : impl_Place_96.f k L p.f0 p.f1 = some (decide (0 < L.countP (eqP p))) := by
  unfold impl_Place_96.f impl_Place_127.f
  obtain ⟨r, e, hr⟩ := idx_loop L hL p.f0 p.f1 L.length k 0 (by omega) (by omega) hk
  rw [Int.natCast_zero] at e
  rw [e, Option.bind_some, hr, List.drop_zero, show (fun q : S44 => p.f0 == q.f0 && p.f1 == q.f1) = eqP p from funext fun q => (eqP_comm p q).symm]
  congr 1
  rw [Bool.eq_iff_iff, decide_eq_true_iff, List.countP_pos_iff, List.any_eq_true]
theorem count_split (E : List S44) {i : Nat} (h : i < E.length) : E.countP (eqP E[i]) = (E.take i).countP (eqP E[i]) + 1 + (E.drop (i + 1)).countP (eqP E[i]) := by
  have : E = E.take i ++ E[i] :: E.drop (i + 1) := by rw [← List.drop_eq_getElem_cons h, List.take_append_drop]
  generalize hp : E[i] = p at *
  conv => lhs; rw [this]
  rw [List.countP_append, List.countP_cons, if_pos (eqP_self p)]
  omega
theorem implL1 (E : List S44) (hE : E.length ≤ 100) : ∀ (d k i : Nat) (out : List S44), E.length - i = d → i ≤ E.length → out.length + d ≤ 1000 → d + 200 < k → impl_LooseEnds.l1 k E out E (E.length : Int) i = some (out ++ lone E (E.drop i), 0) := by
  intro d
  induction d with
  | zero =>
    intro k i out hd hi ho hk
    obtain ⟨k, rfl⟩ : ∃ m, k = m + 1 := ⟨k - 1, by omega⟩
    rw [impl_LooseEnds.l1, if_neg (by omega), show i = E.length by omega, List.drop_length]
    simp [lone]
  | succ d ih =>
    intro k i out hd hi ho hk
    obtain ⟨k, rfl⟩ : ∃ m, k = m + 1 := ⟨k - 1, by omega⟩
    have h : i < E.length := by omega
    have cs := count_split E h
    rw [impl_LooseEnds.l1, if_pos (by omega), if_pos (by omega), if_pos (by omega), if_pos (by omega), rdP h, show ((i : Int)).toNat = i by omega, has_some (E.take i) (by rw [List.length_take]; omega) E[i] k (by rw [List.length_take]; omega), Option.bind_some, nxt h (by omega), List.drop_eq_getElem_cons h]
    by_cases h1 : 0 < (E.take i).countP (eqP E[i])
    · rw [decide_eq_true h1, if_pos rfl, ih k (i + 1) out (by omega) (by omega) (by omega) (by omega)]
      rw [lone_cons, if_neg (by omega)]
    · rw [decide_eq_false h1, if_neg (by decide), if_pos (by omega), if_pos (by omega), show (((i + 1 : Nat) : Int)).toNat = i + 1 by omega, has_some (E.drop (i + 1)) (by rw [List.length_drop]; omega) E[i] k (by rw [List.length_drop]; omega), Option.bind_some]
      by_cases h2 : 0 < (E.drop (i + 1)).countP (eqP E[i])
      · rw [decide_eq_true h2, if_pos rfl, ih k (i + 1) out (by omega) (by omega) (by omega) (by omega)]
        rw [lone_cons, if_neg (by omega)]
      · rw [decide_eq_false h2, if_neg (by decide), if_pos (by omega), ih k (i + 1) _ (by omega) (by omega) (by rw [List.length_append, List.length_singleton]; omega) (by omega)]
        rw [lone_cons, if_pos (by omega), List.append_assoc]
        rfl
theorem implL0 (xs : List (List S44)) (hl : xs.length ≤ 100) (hc : ∀ c ∈ xs, 1 ≤ c.length ∧ c.length ≤ 100) : ∀ (d k i : Nat) (acc : List S44), xs.length - i = d → i ≤ xs.length → acc.length + 2 * d ≤ 1000 → impl_LooseEnds.l0 (k + d + 1) acc [] xs (xs.length : Int) i = impl_LooseEnds.l1 k (acc ++ ends (xs.drop i)) [] (acc ++ ends (xs.drop i)) ((acc ++ ends (xs.drop i)).length : Int) 0 := by
  intro d
  induction d with
  | zero =>
    intro k i acc hd hi ho
    rw [show k + 0 + 1 = k + 1 from rfl, impl_LooseEnds.l0, if_neg (by omega), show i = xs.length by omega, List.drop_length]
    simp [ends]
  | succ d ih =>
    intro k i acc hd hi ho
    have h : i < xs.length := by omega
    obtain ⟨c1, c2⟩ := hc _ (List.getElem_mem h)
    have w : wrap64 ((xs[i].length : Int) - 1) = (xs[i].length : Int) - 1 := w64 (by omega) (by omega)
    rw [show k + (d + 1) + 1 = (k + d + 1) + 1 from by omega, impl_LooseEnds.l0, if_pos (by omega), if_pos (by omega), if_pos (by omega), rdPP h, (closed_some xs[i] (by omega)).1, Option.bind_some, nxt h (by omega), List.drop_eq_getElem_cons h]
    by_cases ho' : okCl xs[i] = true
    · rw [if_pos ho', ih k (i + 1) acc (by omega) (by omega) (by omega)]
      rw [ends_cons, if_pos ho', List.nil_append]
    · rw [if_neg ho', if_pos (by omega), if_pos (by omega), if_pos (by omega), Option.bind_some, if_pos (by simp; omega), ih k (i + 1) _ (by omega) (by omega) (by simp; omega)]
      rw [ends_cons, if_neg ho', List.append_assoc]
      rfl
theorem bothLoose (xs : List (List S44)) (hl : xs.length ≤ 1048576) (hw : ∀ c ∈ xs, c.length ≤ 1048576) : ∃ (r : List S44) (c : Int), r.length ≤ 100 ∧ ∀ k, xs.length + 1050000 + 100000 < k → spec_LooseEnds.f k xs = some (r, c) ∧ impl_LooseEnds.f k xs = some (r, c) := by
  by_cases h0 : chsCode xs = 0
  · obtain ⟨o1, o2⟩ := chsCode_ok h0
    have hc : ∀ c ∈ xs, 1 ≤ c.length ∧ c.length ≤ 100 := fun c hc => by have := okCh_iff.1 (o1 c hc); omega
    have el := ends_len xs
    have ll : (lone (ends xs) (ends xs)).length ≤ (ends xs).length := List.length_filter_le _ _
    refine ⟨lone (ends xs) (ends xs), 0, by omega, fun k hk => ?_⟩
    obtain ⟨e1, e2⟩ := chsCode_some xs hl hw k (by omega)
    unfold spec_LooseEnds.f impl_LooseEnds.f
    rw [e1, e2, Option.bind_some, Option.bind_some, if_pos h0, if_pos h0]
    constructor
    · obtain ⟨m, rfl⟩ : ∃ m, k = (m + (ends xs).length * 200 + 1) + xs.length + 1 := ⟨k - (1 + (ends xs).length * 200 + 1 + xs.length), by omega⟩
      have e := specL0 xs (by omega) hc xs.length (m + (ends xs).length * 200 + 1) 0 [] (by omega) (by omega) (by simp; omega)
      rw [List.drop_zero, List.nil_append] at e
      refine Eq.trans e ?_
      have e' := specL1 (ends xs) (by omega) (ends xs).length m 0 [] (by omega) (by omega) (by simp; omega)
      rw [List.drop_zero, List.nil_append] at e'
      exact e'
    · obtain ⟨m, rfl⟩ : ∃ m, k = m + xs.length + 1 := ⟨k - (xs.length + 1), by omega⟩
      have e := implL0 xs (by omega) hc xs.length m 0 [] (by omega) (by omega) (by simp; omega)
      rw [List.drop_zero, List.nil_append] at e
      refine Eq.trans e ?_
      have e' := implL1 (ends xs) (by omega) (ends xs).length m 0 [] (by omega) (by omega) (by simp; omega) (by omega)
      rw [List.drop_zero, List.nil_append] at e'
      exact e'
  · refine ⟨[], chsCode xs, by simp, fun k hk => ?_⟩
    obtain ⟨e1, e2⟩ := chsCode_some xs hl hw k (by omega)
    unfold spec_LooseEnds.f impl_LooseEnds.f
    rw [e1, e2, Option.bind_some, Option.bind_some, if_neg h0, if_neg h0]
    exact ⟨rfl, rfl⟩
theorem szSum_loop (xs : List (List S80)) (hl : xs.length ≤ 4611686018427387903) (hw : ∀ c ∈ xs, c.length ≤ 9223372036854775807) : ∀ (d k i : Nat) (a : Int), xs.length - i = d → i ≤ xs.length → d < k → 0 ≤ a → a ≤ 1048576 →
    ∃ r, laws_szPlaceSS.l0 k xs a i = some r ∧ (0 ≤ r → (((xs.drop i).map List.length).sum : Int) ≤ a) := by
  intro d
  induction d with
  | zero =>
    intro k i a hd hi hk h0 h1
    obtain ⟨k, rfl⟩ : ∃ m, k = m + 1 := ⟨k - 1, by omega⟩
    simp only [laws_szPlaceSS.l0]
    rw [if_neg (by omega), show i = xs.length by omega, List.drop_length]
    exact ⟨a, rfl, fun _ => by simpa using h0⟩
  | succ d ih =>
    intro k i a hd hi hk h0 h1
    obtain ⟨k, rfl⟩ : ∃ m, k = m + 1 := ⟨k - 1, by omega⟩
    have h : i < xs.length := by omega
    simp only [laws_szPlaceSS.l0]
    rw [if_pos (by omega), if_pos (by omega), rdLL h, szPlaceS_some _ (hw _ (List.getElem_mem h)) a h0 h1, Option.bind_some, nxt h hl]
    by_cases hb : a < (xs[i].length : Int)
    · rw [if_pos hb, if_pos (by omega)]
      exact ⟨-1, rfl, fun h => by omega⟩
    · rw [if_neg hb, if_neg (by omega)]
      obtain ⟨r, e, hr⟩ := ih k (i + 1) (a - xs[i].length) (by omega) (by omega) (by omega) (by omega) (by omega)
      refine ⟨r, e, fun h0 => ?_⟩
      have := hr h0
      rw [List.drop_eq_getElem_cons h, List.map_cons, List.sum_cons]
      omega
theorem szSum_some (xs : List (List S80)) (hl : xs.length ≤ 4611686018427387903) (hw : ∀ c ∈ xs, c.length ≤ 9223372036854775807) (k : Nat) (hk : xs.length < k) {r : Int} (e : laws_szPlaceSS.f k xs 1048576 = some r) (h0 : 0 ≤ r) : (xs.map List.length).sum ≤ 1048576 := by
  unfold laws_szPlaceSS.f at e
  rw [w64 (by omega) (by omega)] at e
  by_cases h : (1048576 : Int) - xs.length < 0
  · rw [if_pos h] at e
    injection e with e
    omega
  · rw [if_neg h] at e
    obtain ⟨r', e', hr⟩ := szSum_loop xs hl hw xs.length k 0 (1048576 - xs.length) (by omega) (by omega) hk (by omega) (by omega)
    rw [Int.natCast_zero] at e'
    rw [e'] at e
    injection e with e
    have := hr (by omega)
    rw [List.drop_zero] at this
    omega
theorem markSS_loop (K : Nat) (hK : 1048576 < K) : ∀ (d k i : Nat) (ys : List (List S44)) (a : Int), ys.length ≤ 1048576 → ys.length - i = d → i ≤ ys.length → (∀ c ∈ ys, c.length ≤ 1048576) → 0 ≤ a → a + 2 * (((ys.drop i).map List.length).sum : Int) ≤ 3000000 → d < k → ∃ t : Int, 0 ≤ t ∧ laws_markPlaceSS.l0 K k ys a i = some t := by
  intro d
  induction d with
  | zero =>
    intro k i ys a hl hd hi hy h0 h1 hk
    obtain ⟨k, rfl⟩ : ∃ m, k = m + 1 := ⟨k - 1, by omega⟩
    rw [laws_markPlaceSS.l0, if_neg (by omega)]
    exact ⟨a, h0, rfl⟩
  | succ d ih =>
    intro k i ys a hl hd hi hy h0 h1 hk
    obtain ⟨k, rfl⟩ : ∃ m, k = m + 1 := ⟨k - 1, by omega⟩
    have h : i < ys.length := by omega
    have hc := hy _ (List.getElem_mem h)
    rw [List.drop_eq_getElem_cons h, List.map_cons, List.sum_cons] at h1
    rw [laws_markPlaceSS.l0, if_pos (by omega), if_pos (by omega), show ((i : Int)).toNat = i by omega, List.getD_eq_getElem?_getD, List.getElem?_eq_getElem h, Option.getD_some, markP_some ys[i] a h0 (by omega) (by omega) K (by omega), Option.bind_some, nxt h (by omega)]
    refine ih k (i + 1) _ _ (by simp; omega) (by simp; omega) (by simp; omega) (fun c hc' => ?_) (by dsimp only; omega) ?_ (by omega)
    · rcases List.mem_or_eq_of_mem_set hc' with h2 | h2
      · exact hy c h2
      · subst h2
        simp [mk2]
        omega
    · rw [List.drop_set_of_lt (by omega)]
      dsimp only
      omega
theorem sum_chains (xs : List (List S80)) : ((chainsOf xs).map List.length).sum = (xs.map List.length).sum := by
  unfold chainsOf
  rw [List.map_map]
  congr 1
  exact List.map_congr_left fun c _ => chainOf_length c
theorem FnExactLooseEnds : laws_FnExactLooseEnds.Pure := by
  intro a hw ha
  suffices H : ∀ k, a.length + 2000000 ≤ k → laws_FnExactLooseEnds.f k a = some true from ⟨_, H _ (Nat.le_refl _)⟩
  intro k hk
  obtain ⟨k, rfl⟩ : ∃ m, k = m + 3 := ⟨k - 3, by omega⟩
  unfold laws_FnExactLooseEnds.f
  obtain ⟨s, e, hs⟩ := szSS_some a (by omega) (fun c hc => (hw.2 c hc).1) (k + 3) (by omega)
  rw [e, Option.bind_some]
  by_cases h : s < 0
  · rw [if_pos h]
  rw [if_neg h]
  have hsum := szSum_some a (by omega) (fun c hc => (hw.2 c hc).1) (k + 3) (by omega) e (by omega)
  obtain ⟨hl, hc⟩ := hs (by omega)
  obtain ⟨bl, bc⟩ := chainsOf_bound hl hc
  have l : (chainsOf a).length = a.length := by simp [chainsOf]
  have ea : ∀ q, a.length + 1048576 < q → laws_toPlaceSS.f q a = some (chainsOf a) := fun q hq => toSS_some a hl hc q hq
  obtain ⟨r, c, hr, eb⟩ := bothLoose (chainsOf a) bl bc
  have qa := eqSS_some (chainsOf a) bl bc (k + 2) (by omega)
  have qr := eqPlaceS_some r (by omega)
  obtain ⟨t, ht, m0⟩ := markSS_loop (k + 2) (by omega) (chainsOf a).length (k + 2) 0 (chainsOf a) 1 bl (by omega) (by omega) bc (by omega) (by rw [List.drop_zero, sum_chains]; omega) (by omega)
  rw [Int.natCast_zero] at m0
  have m0 : laws_markPlaceSS.f (k + 2) (chainsOf a) 1 = some t := m0
  have m1 := markP_some r 1 (by omega) (by omega) (by omega) (k + 1) (by omega)
  have m2 := heldP_some r.length 1 (by omega) (by omega) (by omega) (k + 1) (by omega)
  have m3 := heldP_some r.length 1 (by omega) (by omega) (by omega) k (by omega)
  have n0 : ¬ (t < 0) := by omega
  have n1 : ¬ (1 + 2 * (r.length : Int) < 0) := by omega
  obtain ⟨e1, e2⟩ := eb (k + 3) (by omega)
  obtain ⟨_, e3⟩ := eb (k + 1) (by omega)
  simp only [ea (k + 3) (by omega), e1, e2, qr (k + 3) (by omega), Option.bind_some, if_true, bne_self_eq_false]
  simp only [laws_FnExactLooseEnds.j0, Bool.false_eq_true, if_false, if_true, ea (k + 2) (by omega), qa, qr (k + 2) (by omega), m0, n0, Option.bind_some, bne_self_eq_false]
  simp only [laws_FnExactLooseEnds.j1, Bool.false_eq_true, if_false, if_true, ea (k + 1) (by omega), e3, qr (k + 1) (by omega), m1, m2, n1, Option.bind_some, bne_self_eq_false]
  simp only [laws_FnExactLooseEnds.j2, Bool.false_eq_true, if_false, if_true, m3, n1, Option.bind_some]
end Go.Proofs.Ytgblbmbdadjicaa.Pure
