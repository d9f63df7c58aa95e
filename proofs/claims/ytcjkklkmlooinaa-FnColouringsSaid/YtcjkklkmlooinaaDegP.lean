/- Each border has two neighbours: the numbers of neighbours add up to twice the borders. -/
import Derived.Test.YtcjkklkmlooinaaPrint0
import Derived.Test.YtcjkklkmlooinaaNum
import Derived.Test.YtcjkklkmlooinaaMgA
import Derived.Test.YtcjkklkmlooinaaBoVI
import Derived.Test.YtcjkklkmlooinaaAscP
import Derived.Test.YtcjkklkmlooinaaBoNI
import Derived.Test.YtcjkklkmlooinaaCntA
namespace Go.Proofs.Ytcjkklkmlooinaa.Pure
open Go.RowKit Go.Proofs.Ytcjkklkmlooinaa.Print Go.Proofs.YtcjkklkmlooinaaW.PrintWords Go.Proofs.YtcjkklkmlooinaaW.PrintLast Go.Proofs.YtcjkklkmlooinaaW.PrintMore
set_option linter.unusedVariables false
set_option linter.unusedSimpArgs false
def one_ (b : Bool) : Int := if b = true then 1 else 0
theorem filter_len (xs : List S58) (f : S58 → Bool) : ((xs.filter f).length : Int) = sumL (fun p => one_ (f p)) xs := by
  induction xs with
  | nil => rfl
  | cons p r ih =>
    rw [sumL_cons, ← ih]
    unfold one_
    cases hf : f p with
    | true => rw [List.filter_cons_of_pos hf, List.length_cons, if_pos rfl]; omega
    | false => rw [List.filter_cons_of_neg (by simp [hf]), if_neg (by simp)]; omega
theorem nbs_len {n : Int} {xs : List S58} (O : OkBs n xs) (land : Int) : ∀ m : Nat, ((nbs xs land m).length : Int) = sumL (fun x : Nat => sumL (fun p => one_ (matB land (x : Int) p)) xs) (List.range m)
  | 0 => rfl
  | m + 1 => by
    have ih := nbs_len O land m
    have e : nbs xs land (m + 1) = nbs xs land m ++ (if xs.any (matB land (m : Int)) = true then [(m : Int)] else []) := rfl
    have f := congrArg List.length (filter_one land (m : Int) xs O.dist O.at_)
    rw [List.length_map] at f
    rw [e, List.length_append, List.range_succ, sumL_append, sumL_cons, sumL_nil, ← filter_len xs (matB land (m : Int)), f, ← ih]
    omega
theorem sum_hit (a : Nat) (v : Int) : ∀ n : Nat, sumL (fun x : Nat => if x = a then v else 0) (List.range n) = if a < n then v else 0
  | 0 => by rw [if_neg (by omega)]; rfl
  | n + 1 => by
    rw [List.range_succ, sumL_append, sumL_cons, sumL_nil, sum_hit a v n]
    by_cases h1 : a < n
    · rw [if_pos h1, if_neg (by omega), if_pos (by omega)]; omega
    · by_cases h2 : n = a
      · rw [if_neg h1, if_pos h2, if_pos (by omega)]; omega
      · rw [if_neg h1, if_neg h2, if_neg (by omega)]; omega
theorem one_border {n : Nat} {p : S58} (h : 0 ≤ p.f0 ∧ p.f0 < p.f1 ∧ p.f1 < (n : Int)) : sumL (fun y : Nat => sumL (fun x : Nat => one_ (matB (y : Int) (x : Int) p)) (List.range n)) (List.range n) = 2 := by
  obtain ⟨a, ha⟩ : ∃ a : Nat, p.f0 = (a : Int) := ⟨p.f0.toNat, by omega⟩
  obtain ⟨b, hb⟩ : ∃ b : Nat, p.f1 = (b : Int) := ⟨p.f1.toNat, by omega⟩
  have hab : a < b ∧ b < n := by omega
  have e : ∀ y x : Nat, one_ (matB (y : Int) (x : Int) p) = (if x = b then (if y = a then (1 : Int) else 0) else 0) + (if x = a then (if y = b then (1 : Int) else 0) else 0) := by
    intro y x
    unfold one_ matB
    rw [ha, hb]
    by_cases h1 : y = a
    · by_cases h2 : x = b
      · rw [if_pos h2, if_pos h1, if_neg (show ¬ x = a by omega), if_pos (by simp; omega)]; rfl
      · rw [if_neg h2, if_neg (show ¬ y = b by omega)]
        rw [if_neg (by simp; omega)]
        split <;> rfl
    · by_cases h2 : y = b
      · by_cases h3 : x = a
        · rw [if_neg (show ¬ x = b by omega), if_pos h3, if_pos h2, if_pos (by simp; omega)]; rfl
        · rw [if_neg h3, if_neg h1, if_neg (by simp; omega)]
          split <;> rfl
      · rw [if_neg h1, if_neg h2, if_neg (by simp; omega)]
        split <;> split <;> rfl
  have e2 : ∀ y : Nat, sumL (fun x : Nat => one_ (matB (y : Int) (x : Int) p)) (List.range n) = (if y = a then (1 : Int) else 0) + (if y = b then (1 : Int) else 0) := by
    intro y
    rw [sumL_congr (List.range n) (fun x _ => e y x), sumL_add, sum_hit, sum_hit, if_pos hab.2, if_pos (show a < n by omega)]
  rw [sumL_congr (List.range n) (fun y _ => e2 y), sumL_add, sum_hit, sum_hit, if_pos (show a < n by omega), if_pos hab.2]
  rfl
theorem deg_sum {n : Int} {xs : List S58} (O : OkBs n xs) : sumL (fun y : Nat => ((nbs xs (y : Int) n.toNat).length : Int)) (List.range n.toNat) = 2 * (xs.length : Int) := by
  have hn := O.lands
  rw [sumL_congr (List.range n.toNat) (fun y _ => nbs_len O (y : Int) n.toNat)]
  have e1 : ∀ y : Nat, sumL (fun x : Nat => sumL (fun p => one_ (matB (y : Int) (x : Int) p)) xs) (List.range n.toNat) = sumL (fun p => sumL (fun x : Nat => one_ (matB (y : Int) (x : Int) p)) (List.range n.toNat)) xs := fun y => sumL_swap (fun (x : Nat) p => one_ (matB (y : Int) (x : Int) p)) xs (List.range n.toNat)
  rw [sumL_congr (List.range n.toNat) (fun y _ => e1 y), sumL_swap (fun (y : Nat) p => sumL (fun x : Nat => one_ (matB (y : Int) (x : Int) p)) (List.range n.toNat)) xs (List.range n.toNat)]
  have key : ∀ p ∈ xs, sumL (fun y : Nat => sumL (fun x : Nat => one_ (matB (y : Int) (x : Int) p)) (List.range n.toNat)) (List.range n.toNat) = (2 : Int) := fun p hp => by
    have ho := O.at_ p hp
    exact one_border (n := n.toNat) (p := p) (by omega)
  rw [sumL_congr xs key, sumL_const]
  omega
theorem okFrom_mk {n : Int} {xs : List S58} (h : ∀ p ∈ xs, 0 ≤ p.f0 ∧ p.f0 < p.f1 ∧ p.f1 < n) (hd : xs.Nodup) : ∀ (r : List S58) (i : Nat), xs.drop i = r → okFrom n xs i r = true
  | [], _, _ => rfl
  | p :: r, i, e => by
    have hi : i < xs.length := by
      apply Nat.lt_of_not_le
      intro hle
      rw [List.drop_eq_nil_of_le hle] at e
      cases e
    rw [List.drop_eq_getElem_cons hi] at e
    injection e with e1 e2
    subst e1
    have hp := h _ (List.getElem_mem hi)
    rw [okFrom_cons, okFrom_mk h hd r (i + 1) e2]
    have h1 : okB n xs[i] = true := okB_iff.2 hp
    have h2 : ((xs.take i).any fun q => sameB xs[i] q) = false := by
      rw [List.any_eq_false]
      intro q hq hs
      unfold sameB at hs
      rw [Bool.and_eq_true, beq_iff_eq, beq_iff_eq] at hs
      obtain ⟨j, hj, rfl⟩ := List.getElem_of_mem hq
      rw [List.length_take] at hj
      rw [List.getElem_take] at hs
      have hne := List.pairwise_iff_getElem.1 hd j i (by omega) hi (by omega)
      apply hne
      obtain ⟨h3, h4⟩ := hs
      generalize xs[j] = u at *
      generalize xs[i] = v at *
      obtain ⟨u0, u1⟩ := u
      obtain ⟨v0, v1⟩ := v
      simp only at h3 h4
      rw [h3, h4]
    rw [h1, h2]
    rfl
theorem okBs_mk {n : Int} {xs : List S58} (O : OkBs n xs) : okBs n xs = true := by
  unfold okBs
  rw [decide_eq_true O.lands, decide_eq_true O.many, okFrom_mk O.at_ O.dist xs 0 rfl]
  rfl
end Go.Proofs.Ytcjkklkmlooinaa.Pure
