/- The order of the greedy places: the library's stable sort and the reference's insertion give the same order. -/
import Derived.Test.YtjfkjmfdckbecaaPrint0
import Derived.Test.YtjfkjmfdckbecaaPrint5
import Derived.Test.YtjfkjmfdckbecaaPrint12
import Derived.Test.YtjfkjmfdckbecaaNum
import Derived.Test.YtjfkjmfdckbecaaIntsR
import Derived.Shelf.SlSortCmp.Insertion
namespace Go.Proofs.Ytjfkjmfdckbecaa.Pure
open Go.RowKit Go.Proofs.Ytjfkjmfdckbecaa.Print Go.Proofs.YtjfkjmfdckbecaaW.PrintWords Go.Proofs.YtjfkjmfdckbecaaW.PrintLast Go.Proofs.YtjfkjmfdckbecaaW.PrintMore
set_option linter.unusedVariables false
set_option linter.unusedSimpArgs false
theorem clamp_id {n : Nat} {x : Int} (h : 0 ≤ x ∧ x < (n : Int)) : g_clamp n x = x := by unfold g_clamp; rw [if_pos h]
theorem up_succ (n : Nat) : g_up (n + 1) = g_up n ++ [(n : Int)] := by unfold g_up; rw [List.range_succ, List.map_append]; rfl
theorem up_len (n : Nat) : (g_up n).length = n := by unfold g_up; simp
theorem find_le (l0 : List S36) (xo : List Int) (wi : Int) : ∀ k, g_find l0 xo wi k ≤ k
  | 0 => Nat.le_refl _
  | k + 1 => by
    unfold g_find
    split
    · have := find_le l0 xo wi k; omega
    · exact Nat.le_refl _
theorem ord_len (l0 : List S36) : ∀ i, (g_ord l0 i).length = i
  | 0 => rfl
  | i + 1 => by
    have h := ord_len l0 i
    have h2 := find_le l0 (g_ord l0 i) (g_wt l0 (i : Int)) (g_ord l0 i).length
    unfold g_ord
    simp only [List.length_append, List.length_take, List.length_drop, List.length_singleton]
    omega
theorem ord_in (l0 : List S36) : ∀ i, ∀ x ∈ g_ord l0 i, 0 ≤ x ∧ x < (i : Int)
  | 0 => fun x hx => by simp [g_ord] at hx
  | i + 1 => fun x hx => by
    have h := ord_in l0 i
    unfold g_ord at hx
    rcases List.mem_append.1 hx with hx | hx
    · rcases List.mem_append.1 hx with hx | hx
      · have := h x (List.mem_of_mem_take hx); omega
      · rw [List.mem_singleton] at hx; omega
    · have := h x (List.mem_of_mem_drop hx); omega
def kf (p : Int → Bool) (A : List Int) : Nat → Nat
  | 0 => 0
  | k + 1 => if p (rd A (k : Int)) = true then kf p A k else k + 1
theorem kf_le (p : Int → Bool) (A : List Int) : ∀ k, kf p A k ≤ k
  | 0 => Nat.le_refl _
  | k + 1 => by
    unfold kf
    split
    · have := kf_le p A k; omega
    · exact Nat.le_refl _
theorem rd_left (A B : List Int) {k : Nat} (h : k < A.length) : rd (A ++ B) (k : Int) = rd A (k : Int) := by
  simp [rd, List.getD, List.getElem?_append_left h]
theorem rd_last (A : List Int) (y : Int) : rd (A ++ [y]) (A.length : Int) = y := by simp [rd]
theorem kf_left (p : Int → Bool) (A B : List Int) : ∀ k, k ≤ A.length → kf p (A ++ B) k = kf p A k := by
  intro k
  induction k with
  | zero => intro _; rfl
  | succ k ih =>
    intro h
    unfold kf
    rw [rd_left A B (by omega), ih (by omega)]
theorem at_mid (A : List Int) (x : Int) (B : List Int) : (A ++ x :: B).toArray[A.length]! = x := by
  rw [getElem!_pos _ _ (by simp)]
  simp
theorem swp_mid (A : List Int) (y x : Int) (B : List Int) : Go.Sort.swp (A ++ y :: x :: B).toArray (A.length + 1) A.length = (A ++ x :: y :: B).toArray := by
  have e1 : (A ++ y :: x :: B).toArray[A.length]! = y := at_mid A y (x :: B)
  have e2 : (A ++ y :: x :: B).toArray[A.length + 1]! = x := by
    have := at_mid (A ++ [y]) x B
    rw [List.length_append, List.length_singleton, List.append_assoc] at this
    exact this
  unfold Go.Sort.swp
  rw [e1, e2]
  simp [List.set_append_right]
theorem ins_inner (lt : Int → Int → Bool) (x : Int) : ∀ (m : Nat) (A B : List Int), A.length = m → Go.Sort.insInner lt 0 m (A ++ x :: B).toArray = ((A.take (kf (lt x) A m) ++ [x]) ++ (A.drop (kf (lt x) A m) ++ B)).toArray := by
  intro m
  induction m with
  | zero =>
    intro A B hA
    obtain rfl : A = [] := List.eq_nil_of_length_eq_zero hA
    rfl
  | succ m ih =>
    intro A B hA
    obtain ⟨A', y, rfl⟩ : ∃ A' y, A = A' ++ [y] := ⟨A.dropLast, A.getLast (by intro e; rw [e] at hA; cases hA), (List.dropLast_concat_getLast _).symm⟩
    have hA' : A'.length = m := by rw [List.length_append, List.length_singleton] at hA; omega
    subst hA'
    have e1 : (A' ++ [y] ++ x :: B).toArray[A'.length + 1]! = x := by
      have := at_mid (A' ++ [y]) x B
      rw [List.length_append, List.length_singleton] at this
      exact this
    have e0 : A' ++ [y] ++ x :: B = A' ++ y :: x :: B := by simp
    have e2 : (A' ++ [y] ++ x :: B).toArray[A'.length]! = y := by rw [e0]; exact at_mid A' y (x :: B)
    unfold Go.Sort.insInner kf
    rw [e1, e2, rd_last]
    by_cases h : lt x y = true
    · have hk := kf_le (lt x) A' A'.length
      rw [h, if_pos rfl, if_pos (by simp), e0, swp_mid, ih A' (y :: B) rfl, kf_left _ _ _ _ (Nat.le_refl _), List.take_append_of_le_length hk, List.drop_append_of_le_length hk]
      simp
    · rw [Bool.eq_false_iff.2 h, if_neg (by simp), if_neg (by simp)]
      rw [List.take_of_length_le (by simp), List.drop_eq_nil_of_le (by simp)]
      simp
theorem find_kf (l0 : List S36) (A : List Int) (wi : Int) (p : Int → Bool) (hp : ∀ y ∈ A, p y = decide (g_wt l0 y < wi)) : ∀ k, k ≤ A.length → g_find l0 A wi k = kf p A k := by
  intro k
  induction k with
  | zero => intro _; rfl
  | succ k ih =>
    intro h
    unfold g_find kf
    have hm : rd A (k : Int) ∈ A := by
      have h2 : k < A.length := by omega
      have : rd A (k : Int) = A[k] := by simp [rd, h2]
      rw [this]; exact List.getElem_mem h2
    rw [hp _ hm, ih (by omega)]
    by_cases h3 : g_wt l0 (rd A (k : Int)) < wi
    · rw [if_pos h3, decide_eq_true h3, if_pos rfl]
    · rw [if_neg h3, decide_eq_false h3, if_neg (by simp)]
def upFrom (i : Nat) : Nat → List Int
  | 0 => []
  | d + 1 => (i : Int) :: upFrom (i + 1) d
theorem up_split : ∀ (d i : Nat), g_up i ++ upFrom i d = g_up (i + d) := by
  intro d
  induction d with
  | zero => intro i; simp [upFrom]
  | succ d ih =>
    intro i
    rw [show i + (d + 1) = (i + 1) + d by omega, ← ih (i + 1), up_succ]
    simp [upFrom]
/-- The weights are small numbers. -/
def SmallW (l0 : List S36) : Prop := ∀ i : Int, 0 ≤ i → i < (l0.length : Int) → 0 ≤ g_wt l0 i ∧ g_wt l0 i ≤ 1000
theorem lt_wt {l0 : List S36} (H : SmallW l0) {x y : Int} (hx : 0 ≤ x ∧ x < (l0.length : Int)) (hy : 0 ≤ y ∧ y < (l0.length : Int)) : ltOf (g_cmpW l0) x y = decide (g_wt l0 y < g_wt l0 x) := by
  obtain ⟨a0, a1⟩ := H x hx.1 hx.2
  obtain ⟨b0, b1⟩ := H y hy.1 hy.2
  unfold ltOf g_cmpW
  rw [clamp_id hx, clamp_id hy]
  show decide (wrap64 (g_wt l0 y - g_wt l0 x) < 0) = _
  rw [w64 (by omega) (by omega)]
  rw [Bool.eq_iff_iff, decide_eq_true_eq, decide_eq_true_eq]
  omega
theorem ins_outer {l0 : List S36} (H : SmallW l0) : ∀ (d i : Nat), i + d = l0.length → Go.Sort.insOuter (ltOf (g_cmpW l0)) 0 l0.length i (g_ord l0 i ++ upFrom i d).toArray = (g_ord l0 l0.length).toArray := by
  intro d
  induction d with
  | zero =>
    intro i hi
    unfold Go.Sort.insOuter
    rw [if_neg (by omega), show i = l0.length by omega]
    simp [upFrom]
  | succ d ih =>
    intro i hi
    have hl := ord_len l0 i
    have hin := ord_in l0 i
    have hf := find_kf l0 (g_ord l0 i) (g_wt l0 (i : Int)) (ltOf (g_cmpW l0) (i : Int)) (fun y hy => lt_wt H (by omega) (by have := hin y hy; omega)) (g_ord l0 i).length (Nat.le_refl _)
    have e := ins_inner (ltOf (g_cmpW l0)) (i : Int) i (g_ord l0 i) (upFrom (i + 1) d) hl
    unfold Go.Sort.insOuter
    rw [if_pos (by omega), show upFrom i (d + 1) = (i : Int) :: upFrom (i + 1) d from rfl, e, ← ih (i + 1) (by omega)]
    congr 2
    rw [hl] at hf
    rw [← hf, ← List.append_assoc]
    congr 1
    show _ = ((g_ord l0 i).take (g_find l0 (g_ord l0 i) (g_wt l0 (i : Int)) (g_ord l0 i).length) ++ [(i : Int)]) ++ (g_ord l0 i).drop (g_find l0 (g_ord l0 i) (g_wt l0 (i : Int)) (g_ord l0 i).length)
    rw [hl]
theorem sort_ord {l0 : List S36} (H : SmallW l0) : g_sortW l0 (g_up l0.length) = g_ord l0 l0.length := by
  have hc : (g_ord l0 l0.length).map (g_clamp l0.length) = g_ord l0 l0.length := by
    have : (g_ord l0 l0.length).map (g_clamp l0.length) = (g_ord l0 l0.length).map id := List.map_congr_left fun x hx => clamp_id (ord_in l0 _ x hx)
    rw [this, List.map_id]
  unfold g_sortW Go.Sort.insertionSort
  rw [up_len]
  by_cases h0 : l0.length = 0
  · rw [h0]
    unfold Go.Sort.insOuter
    rw [if_neg (by omega)]
    rfl
  · have e := ins_outer H (l0.length - 1) 1 (by omega)
    have e1 : g_ord l0 1 ++ upFrom 1 (l0.length - 1) = g_up l0.length := by
      have := up_split (l0.length - 1) 1
      rw [show 1 + (l0.length - 1) = l0.length by omega] at this
      rw [← this]
      rfl
    rw [e1] at e
    rw [show (0 : Nat) + 1 = 1 from rfl, e]
    exact hc
end Go.Proofs.Ytjfkjmfdckbecaa.Pure
