/- Twice the area of a chain as a sum over its list: moved chains keep it when they are closed, turned ones have the opposite. -/
import Derived.Test.YtgblbmbdadjicaaPrint0
import Derived.Test.YtgblbmbdadjicaaNum
import Derived.Test.YtgblbmbdadjicaaChA
import Derived.Test.YtgblbmbdadjicaaChV
import Derived.Test.YtgblbmbdadjicaaChArea
import Derived.Test.YtgblbmbdadjicaaAreaB
namespace Go.Proofs.Ytgblbmbdadjicaa.Pure
open Go.RowKit Go.Proofs.Ytgblbmbdadjicaa.Print Go.Proofs.YtgblbmbdadjicaaW.PrintWords Go.Proofs.YtgblbmbdadjicaaW.PrintLast Go.Proofs.YtgblbmbdadjicaaW.PrintMore
set_option linter.unusedVariables false
set_option linter.unusedSimpArgs false
def cr (p q : S44) : Int := p.f0 * q.f1 - q.f0 * p.f1
def crossSum : List S44 → Int
  | p :: q :: r => cr p q + crossSum (q :: r)
  | _ => 0
theorem crossSum_two (p q : S44) (r : List S44) : crossSum (p :: q :: r) = cr p q + crossSum (q :: r) := rfl
theorem areaFrom_sum (xs : List S44) (ho : ∀ p ∈ xs, okP p = true) (hl : xs.length ≤ 1000000) : ∀ (d i : Nat) (s : Int) (B : Nat), i + 1 + d = xs.length → -(B : Int) ≤ s → s ≤ (B : Int) → B + d * 4000000 ≤ 1000000000000 → areaFrom xs d (i + 1) s = s + crossSum (xs.drop i) := by
  intro d
  induction d with
  | zero =>
    intro i s B hi h0 h1 hB
    have h : i < xs.length := by omega
    rw [List.drop_eq_getElem_cons h, List.drop_eq_nil_of_le (by omega)]
    simp [areaFrom, crossSum]
  | succ d ih =>
    intro i s B hi h0 h1 hB
    have hi0 : i < xs.length := by omega
    have h : i + 1 < xs.length := by omega
    have w : wrap64 (((i + 1 : Nat) : Int) - 1) = (i : Int) := by rw [w64 (by omega) (by omega)]; omega
    have ha := okP_iff.1 (ho _ (List.getElem_mem hi0))
    have hb := okP_iff.1 (ho _ (List.getElem_mem h))
    have q1 := prod_pos ha.1 hb.2
    have q2 := prod_pos hb.1 ha.2
    unfold areaFrom
    rw [w, rdP hi0, rdP h, w64 (x := xs[i].f0 * xs[i + 1].f1) (by omega) (by omega), w64 (x := xs[i + 1].f0 * xs[i].f1) (by omega) (by omega), w64 (x := xs[i].f0 * xs[i + 1].f1 - xs[i + 1].f0 * xs[i].f1) (by omega) (by omega), w64 (x := s + (xs[i].f0 * xs[i + 1].f1 - xs[i + 1].f0 * xs[i].f1)) (by omega) (by omega)]
    have e := ih (i + 1) (s + (xs[i].f0 * xs[i + 1].f1 - xs[i + 1].f0 * xs[i].f1)) (B + 4000000) (by omega) (by omega) (by omega) (by omega)
    rw [e, List.drop_eq_getElem_cons hi0, List.drop_eq_getElem_cons h, crossSum_two]
    unfold cr
    omega
theorem area_sum {xs : List S44} (h : okCh xs = true) : area xs = crossSum xs := by
  obtain ⟨ho, h2, h24⟩ := okCh_iff.1 h
  have := areaFrom_sum xs ho (by omega) (xs.length - 1) 0 0 0 (by omega) (by omega) (by omega) (by omega)
  rw [List.drop_zero, Int.zero_add] at this
  exact this
def shiftP (u v : Int) (p : S44) : S44 := ⟨p.f0 + u, p.f1 + v⟩
theorem crossSum_shift (u v : Int) : ∀ (r : List S44) (p : S44), crossSum ((p :: r).map (shiftP u v)) = crossSum (p :: r) + (u * (((p :: r).getLast (List.cons_ne_nil p r)).f1 - p.f1) - v * (((p :: r).getLast (List.cons_ne_nil p r)).f0 - p.f0)) := by
  intro r
  induction r with
  | nil => intro p; simp [crossSum]
  | cons q r ih =>
    intro p
    have e := ih q
    rw [List.map_cons, List.map_cons, crossSum_two, ← List.map_cons, e, crossSum_two, List.getLast_cons (List.cons_ne_nil q r)]
    generalize (q :: r).getLast (List.cons_ne_nil q r) = l
    unfold cr shiftP
    simp only
    grind
theorem crossSum_snoc (p q : S44) : ∀ (A : List S44), crossSum (A ++ [p, q]) = crossSum (A ++ [p]) + cr p q := by
  intro A
  induction A with
  | nil => simp [crossSum]
  | cons a A ih =>
    cases A with
    | nil => simp [crossSum]
    | cons b A =>
      simp only [List.cons_append] at *
      rw [crossSum_two, crossSum_two, ih]
      omega
theorem crossSum_reverse : ∀ (xs : List S44), crossSum xs.reverse = -crossSum xs := by
  intro xs
  induction xs with
  | nil => rfl
  | cons p r ih =>
    cases r with
    | nil => rfl
    | cons q r =>
      rw [List.reverse_cons, List.reverse_cons, List.append_assoc, List.singleton_append, crossSum_snoc, crossSum_two]
      rw [List.reverse_cons] at ih
      rw [ih]
      unfold cr
      omega
end Go.Proofs.Ytgblbmbdadjicaa.Pure
