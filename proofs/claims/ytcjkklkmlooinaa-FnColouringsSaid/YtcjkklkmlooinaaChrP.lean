/- Right colours of all lands, and the least number of them. -/
import Derived.Test.YtcjkklkmlooinaaPrint0
import Derived.Test.YtcjkklkmlooinaaNum
import Derived.Test.YtcjkklkmlooinaaMgA
import Derived.Test.YtcjkklkmlooinaaBoVI
import Derived.Test.YtcjkklkmlooinaaAscP
import Derived.Test.YtcjkklkmlooinaaBoNI
import Derived.Test.YtcjkklkmlooinaaAdjP
import Derived.Test.YtcjkklkmlooinaaCntA
import Derived.Test.YtcjkklkmlooinaaMayP
import Derived.Test.YtcjkklkmlooinaaFstI
import Derived.Test.YtcjkklkmlooinaaFewI
namespace Go.Proofs.Ytcjkklkmlooinaa.Pure
open Go.RowKit Go.Proofs.Ytcjkklkmlooinaa.Print Go.Proofs.YtcjkklkmlooinaaW.PrintWords Go.Proofs.YtcjkklkmlooinaaW.PrintLast Go.Proofs.YtcjkklkmlooinaaW.PrintMore
set_option linter.unusedVariables false
set_option linter.unusedSimpArgs false
def fewN (n : Int) (xs : List S58) : Nat := fewL (adjB xs) n.toNat (n.toNat - 1) 1
/-- Right colours of all lands, with m colours. -/
structure OkC (A : Nat → Nat → Bool) (m : Nat) (zs : List Nat) : Prop where
  lt : ∀ x ∈ zs, x < m
  ok : ∀ (i j : Nat) (hi : i < zs.length) (hj : j < zs.length), i < j → zs[i] = zs[j] → A i j = false
theorem mayH_iff (A : Nat → Nat → Bool) (cs : List Nat) (c : Nat) : mayH A cs c = true ↔ ∀ (j : Nat) (h : j < cs.length), cs[j] = c → A j cs.length = false := by
  unfold mayH
  rw [List.all_eq_true]
  constructor
  · intro h j hj e
    have := h (j, cs[j]) ((prs_iff cs 0 _).2 ⟨j, hj, by rw [Nat.zero_add]⟩)
    rw [e, beq_self_eq_true, Bool.true_and] at this
    simpa using this
  · intro h q hq
    obtain ⟨j, hj, rfl⟩ := (prs_iff cs 0 q).1 hq
    rw [Nat.zero_add]
    cases hb : (cs[j] == c) with
    | false => rfl
    | true =>
      have := h j hj (beq_iff_eq.1 hb)
      rw [this]
      rfl
theorem OkC.snoc {A : Nat → Nat → Bool} {m : Nat} {cs : List Nat} (h : OkC A m cs) {c : Nat} (hc : c < m) (hm : mayH A cs c = true) : OkC A m (cs ++ [c]) where
  lt := fun x hx => by
    rcases List.mem_append.1 hx with hx | hx
    · exact h.lt x hx
    · rw [List.mem_singleton.1 hx]; exact hc
  ok := fun i j hi hj hij e => by
    rw [List.length_append, List.length_singleton] at hi hj
    by_cases hjl : j < cs.length
    · rw [List.getElem_append_left (by omega), List.getElem_append_left hjl] at e
      exact h.ok i j (by omega) hjl hij e
    · obtain rfl : j = cs.length := by omega
      rw [List.getElem_append_left (by omega), List.getElem_append_right (Nat.le_refl _)] at e
      simp only [Nat.sub_self, List.getElem_cons_zero] at e
      exact (mayH_iff A cs c).1 hm i (by omega) e
theorem fst_okC (A : Nat → Nat → Bool) (m : Nat) : ∀ (d : Nat) (cs zs : List Nat), OkC A m cs → fst A m d cs = some zs → OkC A m zs
  | 0, cs, zs, ho, h => by cases h; exact ho
  | d + 1, cs, zs, ho, h => by
    rw [fst_succ] at h
    obtain ⟨c, hcm, hc⟩ := List.exists_of_findSome?_eq_some h
    unfold fstG at hc
    split at hc
    · rename_i hy
      rw [List.mem_range'] at hcm
      obtain ⟨i, hi, rfl⟩ := hcm
      exact fst_okC A m d _ zs (ho.snoc (by omega) hy) hc
    · cases hc
theorem okC_fst (A : Nat → Nat → Bool) (m : Nat) : ∀ (r cs : List Nat), OkC A m (cs ++ r) → (fst A m r.length cs).isSome = true
  | [], cs, _ => rfl
  | c :: r, cs, h => by
    show (fst A m (r.length + 1) cs).isSome = true
    rw [fst_succ, List.findSome?_isSome_iff]
    have hc : c < m := h.lt c (by simp)
    refine ⟨c, by rw [List.mem_range']; exact ⟨c, by omega, by omega⟩, ?_⟩
    have hm : mayH A cs c = true := by
      rw [mayH_iff]
      intro j hj e
      refine h.ok j cs.length (by simp; omega) (by simp) hj ?_
      rw [List.getElem_append_left hj, List.getElem_append_right (Nat.le_refl _)]
      simp only [Nat.sub_self, List.getElem_cons_zero]
      exact e
    unfold fstG
    rw [if_pos hm]
    exact okC_fst A m r (cs ++ [c]) (by rw [List.append_assoc]; exact h)
theorem fst_iff (A : Nat → Nat → Bool) (m n : Nat) : (fst A m n []).isSome = true ↔ ∃ zs : List Nat, zs.length = n ∧ OkC A m zs := by
  constructor
  · intro h
    cases hf : fst A m n [] with
    | none => rw [hf] at h; cases h
    | some zs =>
      have hl := fst_length _ _ _ _ _ hf
      exact ⟨zs, by simpa using hl, fst_okC A m n [] zs ⟨fun x hx => (by cases hx), fun i j hi => (by simp at hi)⟩ hf⟩
  · rintro ⟨zs, rfl, ho⟩
    exact okC_fst A m zs [] ho
theorem fewL_spec (A : Nat → Nat → Bool) (n : Nat) : ∀ (e c : Nat), n - c = e → c ≤ n → (c ≤ fewL A n e c ∧ fewL A n e c ≤ n) ∧ (fst A (fewL A n e c) n []).isSome = true ∧ ∀ m, c ≤ m → (fst A m n []).isSome = true → fewL A n e c ≤ m
  | 0, c, he, hc => by
    obtain rfl : c = n := by omega
    rw [fewL_zero]
    exact ⟨⟨Nat.le_refl _, Nat.le_refl _⟩, fst_enough A c c [] (fun x hx => by cases hx) (by simp), fun m hm _ => hm⟩
  | e + 1, c, he, hc => by
    rw [fewL_succ]
    by_cases h : (fst A c n []).isSome = true
    · rw [if_pos h]
      exact ⟨⟨Nat.le_refl _, hc⟩, h, fun m hm _ => hm⟩
    · rw [if_neg h]
      obtain ⟨⟨h1, h2⟩, h3, h4⟩ := fewL_spec A n e (c + 1) (by omega) (by omega)
      refine ⟨⟨by omega, h2⟩, h3, fun m hm hs => h4 m ?_ hs⟩
      rcases Nat.eq_or_lt_of_le hm with rfl | hlt
      · exact absurd hs h
      · exact hlt
theorem fewN_spec {n : Int} {xs : List S58} (O : OkBs n xs) : (1 ≤ fewN n xs ∧ fewN n xs ≤ n.toNat) ∧ (∃ zs : List Nat, zs.length = n.toNat ∧ OkC (adjB xs) (fewN n xs) zs) ∧ ∀ (m : Nat) (zs : List Nat), 1 ≤ m → zs.length = n.toNat → OkC (adjB xs) m zs → fewN n xs ≤ m := by
  have hn := O.lands
  obtain ⟨h1, h2, h3⟩ := fewL_spec (adjB xs) n.toNat (n.toNat - 1) 1 rfl (by omega)
  exact ⟨h1, (fst_iff _ _ _).1 h2, fun m zs hm hl ho => h3 m hm ((fst_iff _ _ _).2 ⟨zs, hl, ho⟩)⟩
end Go.Proofs.Ytcjkklkmlooinaa.Pure
