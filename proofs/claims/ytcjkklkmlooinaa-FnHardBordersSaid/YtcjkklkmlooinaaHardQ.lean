/- Without a border no more colours are wanted, and no fewer than all but one. -/
import Derived.Test.YtcjkklkmlooinaaPrint0
import Derived.Test.YtcjkklkmlooinaaNum
import Derived.Test.YtcjkklkmlooinaaInW
import Derived.Test.YtcjkklkmlooinaaIntsR
import Derived.Test.YtcjkklkmlooinaaBoR
import Derived.Test.YtcjkklkmlooinaaBoVI
import Derived.Test.YtcjkklkmlooinaaAscP
import Derived.Test.YtcjkklkmlooinaaBoNI
import Derived.Test.YtcjkklkmlooinaaAdjP
import Derived.Test.YtcjkklkmlooinaaCntA
import Derived.Test.YtcjkklkmlooinaaMayP
import Derived.Test.YtcjkklkmlooinaaFstI
import Derived.Test.YtcjkklkmlooinaaFewI
import Derived.Test.YtcjkklkmlooinaaHardI
namespace Go.Proofs.Ytcjkklkmlooinaa.Pure
open Go.RowKit Go.Proofs.Ytcjkklkmlooinaa.Print Go.Proofs.YtcjkklkmlooinaaW.PrintWords Go.Proofs.YtcjkklkmlooinaaW.PrintLast Go.Proofs.YtcjkklkmlooinaaW.PrintMore
set_option linter.unusedVariables false
set_option linter.unusedSimpArgs false
/-- Right colours of all lands, with m colours. -/
structure OkC (A : Nat → Nat → Bool) (m : Nat) (zs : List Nat) : Prop where
  lt : ∀ x ∈ zs, x < m
  ok : ∀ (i j : Nat) (hi : i < zs.length) (hj : j < zs.length), i < j → zs[i] = zs[j] → A i j = false
theorem mayH_iff (A : Nat → Nat → Bool) (cs : List Nat) (c : Nat) : mayH A cs c = true ↔ ∀ (j : Nat) (h : j < cs.length), cs[j] = c → A j cs.length = false := by
  unfold mayH
  rw [List.all_eq_true]
  constructor
  · intro h j hj e
    have := h (j, cs[j]) ((prs_iff cs 0 _).2 ⟨j, hj, by rw [Nat.zero_add]⟩)
    rw [e, beq_self_eq_true, Bool.true_and] at this
    simpa using this
  · intro h q hq
    obtain ⟨j, hj, rfl⟩ := (prs_iff cs 0 q).1 hq
    rw [Nat.zero_add]
    cases hb : (cs[j] == c) with
    | false => rfl
    | true =>
      have := h j hj (beq_iff_eq.1 hb)
      rw [this]
      rfl
theorem OkC.snoc {A : Nat → Nat → Bool} {m : Nat} {cs : List Nat} (h : OkC A m cs) {c : Nat} (hc : c < m) (hm : mayH A cs c = true) : OkC A m (cs ++ [c]) where
  lt := fun x hx => by
    rcases List.mem_append.1 hx with hx | hx
    · exact h.lt x hx
    · rw [List.mem_singleton.1 hx]; exact hc
  ok := fun i j hi hj hij e => by
    rw [List.length_append, List.length_singleton] at hi hj
    by_cases hjl : j < cs.length
    · rw [List.getElem_append_left (by omega), List.getElem_append_left hjl] at e
      exact h.ok i j (by omega) hjl hij e
    · obtain rfl : j = cs.length := by omega
      rw [List.getElem_append_left (by omega), List.getElem_append_right (Nat.le_refl _)] at e
      simp only [Nat.sub_self, List.getElem_cons_zero] at e
      exact (mayH_iff A cs c).1 hm i (by omega) e
theorem fst_okC (A : Nat → Nat → Bool) (m : Nat) : ∀ (d : Nat) (cs zs : List Nat), OkC A m cs → fst A m d cs = some zs → OkC A m zs
  | 0, cs, zs, ho, h => by cases h; exact ho
  | d + 1, cs, zs, ho, h => by
    rw [fst_succ] at h
    obtain ⟨c, hcm, hc⟩ := List.exists_of_findSome?_eq_some h
    unfold fstG at hc
    split at hc
    · rename_i hy
      rw [List.mem_range'] at hcm
      obtain ⟨i, hi, rfl⟩ := hcm
      exact fst_okC A m d _ zs (ho.snoc (by omega) hy) hc
    · cases hc
theorem okC_fst (A : Nat → Nat → Bool) (m : Nat) : ∀ (r cs : List Nat), OkC A m (cs ++ r) → (fst A m r.length cs).isSome = true
  | [], cs, _ => rfl
  | c :: r, cs, h => by
    show (fst A m (r.length + 1) cs).isSome = true
    rw [fst_succ, List.findSome?_isSome_iff]
    have hc : c < m := h.lt c (by simp)
    refine ⟨c, by rw [List.mem_range']; exact ⟨c, by omega, by omega⟩, ?_⟩
    have hm : mayH A cs c = true := by
      rw [mayH_iff]
      intro j hj e
      refine h.ok j cs.length (by simp; omega) (by simp) hj ?_
      rw [List.getElem_append_left hj, List.getElem_append_right (Nat.le_refl _)]
      simp only [Nat.sub_self, List.getElem_cons_zero]
      exact e
    unfold fstG
    rw [if_pos hm]
    exact okC_fst A m r (cs ++ [c]) (by rw [List.append_assoc]; exact h)
theorem fst_iff (A : Nat → Nat → Bool) (m n : Nat) : (fst A m n []).isSome = true ↔ ∃ zs : List Nat, zs.length = n ∧ OkC A m zs := by
  constructor
  · intro h
    cases hf : fst A m n [] with
    | none => rw [hf] at h; cases h
    | some zs =>
      have hl := fst_length _ _ _ _ _ hf
      exact ⟨zs, by simpa using hl, fst_okC A m n [] zs ⟨fun x hx => (by cases hx), fun i j hi => (by simp at hi)⟩ hf⟩
  · rintro ⟨zs, rfl, ho⟩
    exact okC_fst A m zs [] ho
theorem fewL_spec (A : Nat → Nat → Bool) (n : Nat) : ∀ (e c : Nat), n - c = e → c ≤ n → (c ≤ fewL A n e c ∧ fewL A n e c ≤ n) ∧ (fst A (fewL A n e c) n []).isSome = true ∧ ∀ m, c ≤ m → (fst A m n []).isSome = true → fewL A n e c ≤ m
  | 0, c, he, hc => by
    obtain rfl : c = n := by omega
    rw [fewL_zero]
    exact ⟨⟨Nat.le_refl _, Nat.le_refl _⟩, fst_enough A c c [] (fun x hx => by cases hx) (by simp), fun m hm _ => hm⟩
  | e + 1, c, he, hc => by
    rw [fewL_succ]
    by_cases h : (fst A c n []).isSome = true
    · rw [if_pos h]
      exact ⟨⟨Nat.le_refl _, hc⟩, h, fun m hm _ => hm⟩
    · rw [if_neg h]
      obtain ⟨⟨h1, h2⟩, h3, h4⟩ := fewL_spec A n e (c + 1) (by omega) (by omega)
      refine ⟨⟨by omega, h2⟩, h3, fun m hm hs => h4 m ?_ hs⟩
      rcases Nat.eq_or_lt_of_le hm with rfl | hlt
      · exact absurd hs h
      · exact hlt
theorem fewN_spec {n : Int} {xs : List S58} (O : OkBs n xs) : (1 ≤ fewN n xs ∧ fewN n xs ≤ n.toNat) ∧ (∃ zs : List Nat, zs.length = n.toNat ∧ OkC (adjB xs) (fewN n xs) zs) ∧ ∀ (m : Nat) (zs : List Nat), 1 ≤ m → zs.length = n.toNat → OkC (adjB xs) m zs → fewN n xs ≤ m := by
  have hn := O.lands
  obtain ⟨h1, h2, h3⟩ := fewL_spec (adjB xs) n.toNat (n.toNat - 1) 1 rfl (by omega)
  exact ⟨h1, (fst_iff _ _ _).1 h2, fun m zs hm hl ho => h3 m hm ((fst_iff _ _ _).2 ⟨zs, hl, ho⟩)⟩
theorem rest_le {n : Int} {xs : List S58} (O : OkBs n xs) (i : Nat) : fewN n (restB xs i) ≤ fewN n xs := by
  obtain ⟨⟨h1, _⟩, ⟨zs, hl, ho⟩, _⟩ := fewN_spec O
  obtain ⟨_, _, h3⟩ := fewN_spec (rest_ok O i)
  refine h3 _ zs h1 hl ⟨ho.lt, fun a b ha hb hab e => ?_⟩
  have := ho.ok a b ha hb hab e
  unfold adjB at this ⊢
  rw [List.any_eq_false] at this ⊢
  exact fun p hp => this p ((restB_sub xs i).subset hp)
theorem rest_mem {xs : List S58} {i : Nat} (h : i < xs.length) {p : S58} (hp : p ∈ xs) : p = xs[i] ∨ p ∈ restB xs i := by
  rw [← List.take_append_drop i xs, List.drop_eq_getElem_cons h] at hp
  unfold restB
  rcases List.mem_append.1 hp with hp | hp
  · exact .inr (List.mem_append_left _ hp)
  · rcases List.mem_cons.1 hp with hp | hp
    · exact .inl hp
    · exact .inr (List.mem_append_right _ hp)
theorem rest_ge {n : Int} {xs : List S58} (O : OkBs n xs) {i : Nat} (h : i < xs.length) : fewN n xs ≤ fewN n (restB xs i) + 1 := by
  have hn := O.lands
  obtain ⟨⟨h1, _⟩, ⟨zs, hl, ho⟩, _⟩ := fewN_spec (rest_ok O i)
  obtain ⟨_, _, h3⟩ := fewN_spec O
  have hp := O.at_ _ (List.getElem_mem h)
  generalize fewN n (restB xs i) = m at *
  refine h3 (m + 1) (zs.set xs[i].f1.toNat m) (by omega) (by rw [List.length_set]; exact hl) ⟨fun x hx => ?_, fun a b ha hb hab e => ?_⟩
  · rcases List.mem_or_eq_of_mem_set hx with hx | rfl
    · have := ho.lt x hx; omega
    · omega
  · rw [List.length_set] at ha hb
    rw [List.getElem_set, List.getElem_set] at e
    have la := ho.lt _ (List.getElem_mem ha)
    have lb := ho.lt _ (List.getElem_mem hb)
    by_cases ea : xs[i].f1.toNat = a
    · rw [if_pos ea, if_neg (by omega)] at e
      omega
    · by_cases eb : xs[i].f1.toNat = b
      · rw [if_neg ea, if_pos eb] at e
        omega
      · rw [if_neg ea, if_neg eb] at e
        have := ho.ok a b ha hb hab e
        unfold adjB at this ⊢
        rw [List.any_eq_false] at this ⊢
        intro p hp2
        rcases rest_mem h hp2 with rfl | hr
        · unfold matB
          rw [Bool.or_eq_true, decide_eq_true_eq, decide_eq_true_eq]
          omega
        · exact this p hr
theorem hardF_mem (n : Int) (xs : List S58) : ∀ (d i : Nat) (x : Int), x ∈ hardF n xs d i ↔ ∃ j : Nat, i ≤ j ∧ j < i + d ∧ x = (j : Int) ∧ fewN n (restB xs j) < fewN n xs
  | 0, i, x => ⟨fun h => (by cases h), fun ⟨j, h1, h2, _⟩ => (by omega)⟩
  | d + 1, i, x => by
    have ih := hardF_mem n xs d (i + 1) x
    rw [hardF_succ]
    by_cases h : fewN n (restB xs i) < fewN n xs
    · rw [if_pos h, List.mem_cons, ih]
      constructor
      · rintro (rfl | ⟨j, h1, h2, h3⟩)
        · exact ⟨i, Nat.le_refl _, by omega, rfl, h⟩
        · exact ⟨j, by omega, by omega, h3⟩
      · rintro ⟨j, h1, h2, h3, h4⟩
        rcases Nat.eq_or_lt_of_le h1 with rfl | hlt
        · exact .inl h3
        · exact .inr ⟨j, by omega, by omega, h3, h4⟩
    · rw [if_neg h, ih]
      constructor
      · rintro ⟨j, h1, h2, h3⟩
        exact ⟨j, by omega, by omega, h3⟩
      · rintro ⟨j, h1, h2, h3, h4⟩
        rcases Nat.eq_or_lt_of_le h1 with rfl | hlt
        · exact absurd h4 h
        · exact ⟨j, by omega, by omega, h3, h4⟩
theorem hardF_rises (n : Int) (xs : List S58) : ∀ (d i : Nat), (hardF n xs d i).Pairwise (· < ·)
  | 0, _ => List.Pairwise.nil
  | d + 1, i => by
    have ih := hardF_rises n xs d (i + 1)
    rw [hardF_succ]
    split
    · refine List.Pairwise.cons (fun x hx => ?_) ih
      obtain ⟨j, h1, _, rfl, _⟩ := (hardF_mem n xs d (i + 1) x).1 hx
      omega
    · exact ih
end Go.Proofs.Ytcjkklkmlooinaa.Pure
