/- The neighbours of a land, as the program finds them. -/
import Derived.Test.YtcjkklkmlooinaaPrint0
import Derived.Test.YtcjkklkmlooinaaPrint6
import Derived.Test.YtcjkklkmlooinaaNum
import Derived.Test.YtcjkklkmlooinaaMgA
import Derived.Test.YtcjkklkmlooinaaBoVI
import Derived.Test.YtcjkklkmlooinaaAscP
namespace Go.Proofs.Ytcjkklkmlooinaa.Pure
open Go.RowKit Go.Proofs.Ytcjkklkmlooinaa.Print Go.Proofs.YtcjkklkmlooinaaW.PrintWords Go.Proofs.YtcjkklkmlooinaaW.PrintLast Go.Proofs.YtcjkklkmlooinaaW.PrintMore
set_option linter.unusedVariables false
set_option linter.unusedSimpArgs false
theorem okB_iff {n : Int} {p : S58} : okB n p = true ↔ 0 ≤ p.f0 ∧ p.f0 < p.f1 ∧ p.f1 < n := by unfold okB; rw [decide_eq_true_eq]
theorem okFrom_at (n : Int) (xs : List S58) : ∀ (r : List S58) (i : Nat), okFrom n xs i r = true → ∀ j (h : j < r.length), okB n r[j] = true ∧ ((xs.take (i + j)).any fun q => sameB r[j] q) = false
  | [], _, _, j, h => by simp at h
  | p :: r, i, ho, j, h => by
    rw [okFrom_cons] at ho
    simp only [Bool.and_eq_true, Bool.not_eq_true'] at ho
    cases j with
    | zero => exact ⟨ho.1.1, ho.1.2⟩
    | succ j =>
      have := okFrom_at n xs r (i + 1) ho.2 j (by simpa using h)
      rw [show i + 1 + j = i + (j + 1) by omega] at this
      exact this
/-- Valid lands and borders. -/
structure OkBs (n : Int) (xs : List S58) : Prop where
  lands : 1 ≤ n ∧ n ≤ 10
  many : xs.length ≤ 30
  at_ : ∀ p ∈ xs, 0 ≤ p.f0 ∧ p.f0 < p.f1 ∧ p.f1 < n
  dist : xs.Nodup
theorem okBs_of {n : Int} {xs : List S58} (h : okBs n xs = true) : OkBs n xs := by
  unfold okBs at h
  simp only [Bool.and_eq_true, decide_eq_true_eq] at h
  obtain ⟨⟨h1, h2⟩, h3⟩ := h
  have ha := okFrom_at n xs xs 0 h2
  refine ⟨h1, h3, fun p hp => ?_, ?_⟩
  · obtain ⟨j, hj, rfl⟩ := List.mem_iff_getElem.1 hp
    exact okB_iff.1 (ha j hj).1
  · rw [List.Nodup, List.pairwise_iff_getElem]
    intro i j hi hj hij e
    have h4 := (ha j hj).2
    rw [Nat.zero_add, List.any_eq_false] at h4
    refine h4 xs[i] ?_ ?_
    · rw [List.mem_iff_getElem]
      exact ⟨i, by rw [List.length_take]; omega, by rw [List.getElem_take]⟩
    · unfold sameB; rw [← e]; simp
def matB (land x : Int) (p : S58) : Bool := decide (p.f0 = land ∧ p.f1 = x) || decide (p.f1 = land ∧ p.f0 = x)
/-- The neighbours of a land, in rising order. -/
def nbs (xs : List S58) (land : Int) : Nat → List Int
  | 0 => []
  | m + 1 => nbs xs land m ++ (if xs.any (matB land (m : Int)) = true then [(m : Int)] else [])
theorem nbs_lt (xs : List S58) (land : Int) : ∀ m, (nbs xs land m).Pairwise (· < ·) ∧ ∀ x ∈ nbs xs land m, x < (m : Int)
  | 0 => ⟨List.Pairwise.nil, fun x h => by simp [nbs] at h⟩
  | m + 1 => by
    obtain ⟨h1, h2⟩ := nbs_lt xs land m
    have e : nbs xs land (m + 1) = nbs xs land m ++ (if xs.any (matB land (m : Int)) = true then [(m : Int)] else []) := rfl
    rw [e]
    split
    · refine ⟨List.pairwise_append.2 ⟨h1, List.pairwise_singleton _ _, fun a ha b hb => ?_⟩, fun x hx => ?_⟩
      · rw [List.mem_singleton.1 hb]; exact h2 a ha
      · rcases List.mem_append.1 hx with hx | hx
        · have := h2 x hx; omega
        · rw [List.mem_singleton.1 hx]; omega
    · rw [List.append_nil]
      exact ⟨h1, fun x hx => by have := h2 x hx; omega⟩
theorem nbs_mem (xs : List S58) (land : Int) (x : Int) : ∀ m, x ∈ nbs xs land m ↔ 0 ≤ x ∧ x < (m : Int) ∧ xs.any (matB land x) = true
  | 0 => ⟨fun h => by simp [nbs] at h, fun h => by omega⟩
  | m + 1 => by
    have e : nbs xs land (m + 1) = nbs xs land m ++ (if xs.any (matB land (m : Int)) = true then [(m : Int)] else []) := rfl
    rw [e, List.mem_append, nbs_mem xs land x m]
    constructor
    · rintro (h | h)
      · exact ⟨h.1, by omega, h.2.2⟩
      · split at h
        · rename_i hc
          have := List.mem_singleton.1 h
          subst this
          exact ⟨by omega, by omega, hc⟩
        · simp at h
    · rintro ⟨h1, h2, h3⟩
      by_cases hx : x = (m : Int)
      · subst hx
        rw [if_pos h3]
        exact .inr (by simp)
      · exact .inl ⟨h1, by omega, h3⟩
theorem mat_one {n : Int} {land x : Int} {p q : S58} (hp : 0 ≤ p.f0 ∧ p.f0 < p.f1 ∧ p.f1 < n) (hq : 0 ≤ q.f0 ∧ q.f0 < q.f1 ∧ q.f1 < n) (mp : matB land x p = true) (mq : matB land x q = true) : p = q := by
  obtain ⟨p0, p1⟩ := p
  obtain ⟨q0, q1⟩ := q
  unfold matB at mp mq
  simp only [Bool.or_eq_true, decide_eq_true_eq] at *
  have h1 : p0 = q0 := by omega
  have h2 : p1 = q1 := by omega
  rw [h1, h2]
theorem filter_one {n : Int} (land x : Int) : ∀ ys : List S58, ys.Nodup → (∀ p ∈ ys, 0 ≤ p.f0 ∧ p.f0 < p.f1 ∧ p.f1 < n) → (ys.filter (matB land x)).map (fun _ => x) = if ys.any (matB land x) = true then [x] else []
  | [], _, _ => rfl
  | p :: r, hn, ho => by
    have ih := filter_one land x r (List.nodup_cons.1 hn).2 (fun q hq => ho q (List.mem_cons_of_mem _ hq))
    rw [List.any_cons]
    by_cases hm : matB land x p = true
    · have h0 : r.any (matB land x) = false := by
        rw [List.any_eq_false]
        intro q hq mq
        have := mat_one (ho p List.mem_cons_self) (ho q (List.mem_cons_of_mem _ hq)) hm mq
        subst this
        exact (List.nodup_cons.1 hn).1 hq
      rw [h0] at ih
      rw [List.filter_cons_of_pos hm, List.map_cons, ih, hm, Bool.true_or]
      rfl
    · rw [List.filter_cons_of_neg hm, ih, Bool.eq_false_iff.2 hm, Bool.false_or]
theorem nbs_length (xs : List S58) (land : Int) : ∀ m, (nbs xs land m).length ≤ m
  | 0 => Nat.le_refl _
  | m + 1 => by
    have ih := nbs_length xs land m
    have e : nbs xs land (m + 1) = nbs xs land m ++ (if xs.any (matB land (m : Int)) = true then [(m : Int)] else []) := rfl
    rw [e, List.length_append]
    split
    · simp; omega
    · simp; omega
/-- The other ends, as they come. -/
def oth (land : Int) (p : S58) : List Int := if land = p.f0 then [p.f1] else if land = p.f1 then [p.f0] else []
theorem implN_loop (xs : List S58) (land : Int) (hl : xs.length ≤ 1000000) : ∀ (d k i : Nat) (acc : List Int), xs.length - i = d → i ≤ xs.length → d < k → acc.length + d ≤ 1000000 →
    impl_neighboursOf.l0 k land acc xs (xs.length : Int) (i : Int) = some (g_asc (acc ++ (xs.drop i).flatMap (oth land))) := by
  intro d
  induction d with
  | zero =>
    intro k i acc hd hi hk ha
    obtain ⟨k, rfl⟩ : ∃ m, k = m + 1 := ⟨k - 1, by omega⟩
    simp only [impl_neighboursOf.l0, impl_ascending.f]
    unfold slices_Clone_int64_int64.f
    rw [if_neg (by omega), List.drop_eq_nil_of_le (by omega), Option.bind_some, if_pos (by simp; omega), Option.bind_some, if_pos (by simp; omega)]
    simp
  | succ d ih =>
    intro k i acc hd hi hk ha
    obtain ⟨k, rfl⟩ : ∃ m, k = m + 1 := ⟨k - 1, by omega⟩
    have h : i < xs.length := by omega
    have q1 : (i : Int) < (xs.length : Int) := by omega
    have q2 : (0 : Int) ≤ (i : Int) := by omega
    simp only [impl_neighboursOf.l0]
    rw [if_pos q1, if_pos q2, if_pos q1, rdB h, nxt h (by omega), if_pos (show acc.length < 17592186044416 by omega), if_pos (show acc.length < 17592186044416 by omega), List.drop_eq_getElem_cons h, List.flatMap_cons]
    unfold oth
    by_cases h1 : land = xs[i].f0
    · rw [if_pos h1, if_pos h1, ih k (i + 1) _ (by omega) (by omega) (by omega) (by simp; omega), List.append_assoc]
      rfl
    · rw [if_neg h1, if_neg h1]
      by_cases h2 : land = xs[i].f1
      · rw [if_pos h2, if_pos h2, ih k (i + 1) _ (by omega) (by omega) (by omega) (by simp; omega), List.append_assoc]
        rfl
      · rw [if_neg h2, if_neg h2, ih k (i + 1) _ (by omega) (by omega) (by omega) (by omega), List.nil_append]
        rfl
theorem implN_some {n : Int} {xs : List S58} (O : OkBs n xs) (land : Int) (k : Nat) (hk : 40 < k) : impl_neighboursOf.f k xs land = some (nbs xs land n.toNat) := by
  unfold impl_neighboursOf.f
  have hm := O.many
  have hn := O.lands
  have e := implN_loop xs land (by omega) xs.length k 0 [] (by omega) (by omega) (by omega) (by simp; omega)
  rw [Int.natCast_zero, List.drop_zero, List.nil_append] at e
  rw [e]
  congr 1
  refine asc_eq (nbs_lt xs land n.toNat).1 fun x => ?_
  rw [nbs_mem, List.mem_flatMap, List.any_eq_true]
  constructor
  · rintro ⟨p, hp, hx⟩
    have o := O.at_ p hp
    unfold oth at hx
    have hn2 : ((n.toNat : Nat) : Int) = n := by omega
    rw [hn2]
    split at hx
    · rename_i h1
      rw [List.mem_singleton.1 hx]
      exact ⟨by omega, by omega, p, hp, by unfold matB; rw [decide_eq_true ⟨h1.symm, rfl⟩]; rfl⟩
    · split at hx
      · rename_i h1 h2
        rw [List.mem_singleton.1 hx]
        exact ⟨by omega, by omega, p, hp, by unfold matB; rw [decide_eq_true (p := p.f1 = land ∧ p.f0 = p.f0) ⟨h2.symm, rfl⟩, Bool.or_true]⟩
      · simp at hx
  · rintro ⟨h1, h2, p, hp, hx⟩
    have o := O.at_ p hp
    refine ⟨p, hp, ?_⟩
    unfold matB at hx
    rw [Bool.or_eq_true, decide_eq_true_eq, decide_eq_true_eq] at hx
    unfold oth
    rcases hx with ⟨e1, e2⟩ | ⟨e1, e2⟩
    · rw [if_pos e1.symm, ← e2]; simp
    · rw [if_neg (by omega), if_pos e1.symm, ← e2]; simp
end Go.Proofs.Ytcjkklkmlooinaa.Pure
