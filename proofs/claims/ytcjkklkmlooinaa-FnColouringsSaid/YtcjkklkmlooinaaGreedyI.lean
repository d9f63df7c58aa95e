/- Colours by an order, as the program gives them. -/
import Derived.Test.YtcjkklkmlooinaaPrint0
import Derived.Test.YtcjkklkmlooinaaPrint6
import Derived.Test.YtcjkklkmlooinaaPrint10
import Derived.Test.YtcjkklkmlooinaaNum
import Derived.Test.YtcjkklkmlooinaaMgA
import Derived.Test.YtcjkklkmlooinaaLabI
import Derived.Test.YtcjkklkmlooinaaBoVI
import Derived.Test.YtcjkklkmlooinaaAscP
import Derived.Test.YtcjkklkmlooinaaBoNI
import Derived.Test.YtcjkklkmlooinaaGreedyR
namespace Go.Proofs.Ytcjkklkmlooinaa.Pure
open Go.RowKit Go.Proofs.Ytcjkklkmlooinaa.Print Go.Proofs.YtcjkklkmlooinaaW.PrintWords Go.Proofs.YtcjkklkmlooinaaW.PrintLast Go.Proofs.YtcjkklkmlooinaaW.PrintMore
set_option linter.unusedVariables false
set_option linter.unusedSimpArgs false
theorem nodup_sub : ∀ (l l2 : List Int), l.Nodup → (∀ x ∈ l, x ∈ l2) → l.length ≤ l2.length
  | [], _, _, _ => Nat.zero_le _
  | x :: l, l2, hn, h => by
    have hx := h x List.mem_cons_self
    rw [List.nodup_cons] at hn
    have ih := nodup_sub l (l2.erase x) hn.2 (fun y hy => by
      have hne : y ≠ x := fun e => hn.1 (e ▸ hy)
      exact (List.mem_erase_of_ne hne).2 (h y (List.mem_cons_of_mem _ hy)))
    rw [List.length_erase_of_mem hx] at ih
    have hp := List.length_pos_of_mem hx
    rw [List.length_cons]
    omega
theorem compact_sub (zs : List Int) : (Lib.compact zs).Sublist zs := by
  unfold Lib.compact Lib.compactUpTo
  have h : ((List.range zs.length).map (zs.toArray[·]!)) = zs := by simpa using Lib.range_map_get zs.toArray
  have h2 := (List.filter_sublist (p := Lib.keeps zs.toArray) (l := List.range zs.length)).map (zs.toArray[·]!)
  rw [h] at h2
  exact h2
theorem asc_len (os : List Int) : (g_asc os).length = os.length ↔ os.Nodup := by
  have hp : (g_sorted os).Perm os := List.mergeSort_perm _ _
  have hl : (g_sorted os).length = os.length := hp.length_eq
  constructor
  · intro h
    have e : g_asc os = g_sorted os := (compact_sub (g_sorted os)).eq_of_length (by rw [hl]; exact h)
    have hlt := asc_lt os
    rw [e] at hlt
    have hn : (g_sorted os).Nodup := hlt.imp (fun h => by omega)
    exact hp.nodup_iff.1 hn
  · intro h
    have h1 := nodup_sub os (g_asc os) h (fun x hx => (asc_mem os x).2 hx)
    have h2 := (compact_sub (g_sorted os)).length_le
    rw [hl] at h2
    exact Nat.le_antisymm h2 h1
theorem asc_all (os : List Int) (p : Int → Bool) : (g_asc os).all p = os.all p := by
  rw [Bool.eq_iff_iff, List.all_eq_true, List.all_eq_true]
  constructor
  · intro h x hx; exact h x ((asc_mem os x).2 hx)
  · intro h x hx; exact h x ((asc_mem os x).1 hx)
def lfr (taken : List Int) : Nat → Int → Int
  | 0, c => c
  | d + 1, c => if taken.contains c = true then lfr taken d (c + 1) else c
theorem taken_full {taken : List Int} {m : Nat} (h : ∀ x : Int, 0 ≤ x → x < (m : Int) → x ∈ taken) : m ≤ taken.length := by
  have hn : ((List.range m).map (fun (i : Nat) => (i : Int))).Nodup := by
    rw [List.Nodup, List.pairwise_map]
    exact (List.pairwise_lt_range (n := m)).imp (fun h => by omega)
  have := nodup_sub _ taken hn (fun x hx => by
    obtain ⟨i, hi, rfl⟩ := List.mem_map.1 hx
    have := List.mem_range.1 hi
    exact h _ (by omega) (by omega))
  simpa using this
theorem taken_next {taken : List Int} {m : Nat} (h : ∀ x : Int, 0 ≤ x → x < (m : Int) → x ∈ taken) (hc : taken.contains (m : Int) = true) : ∀ x : Int, 0 ≤ x → x < ((m + 1 : Nat) : Int) → x ∈ taken := by
  intro x h0 h1
  by_cases e : x = (m : Int)
  · rw [e]; simpa using hc
  · exact h x h0 (by omega)
theorem lfr_lt {taken : List Int} : ∀ (d m : Nat), taken.length - m = d → (∀ x : Int, 0 ≤ x → x < (m : Int) → x ∈ taken) → 0 ≤ lfr taken d (m : Int) ∧ lfr taken d (m : Int) ≤ (taken.length : Int) := by
  intro d
  induction d with
  | zero =>
    intro m hd h
    have := taken_full h
    show (0 : Int) ≤ (m : Int) ∧ (m : Int) ≤ _
    omega
  | succ d ih =>
    intro m hd h
    have := taken_full h
    show 0 ≤ (if taken.contains (m : Int) = true then lfr taken d ((m : Int) + 1) else (m : Int)) ∧ _ ≤ _
    have e : lfr taken (d + 1) (m : Int) = if taken.contains (m : Int) = true then lfr taken d ((m : Int) + 1) else (m : Int) := rfl
    rw [e]
    by_cases c : taken.contains (m : Int) = true
    · rw [if_pos c]
      have := ih (m + 1) (by omega) (taken_next h c)
      rw [show ((m + 1 : Nat) : Int) = (m : Int) + 1 by omega] at this
      exact this
    · rw [if_neg c]; omega
theorem implG_free (xs : List S58) (out taken os : List Int) (land i : Int) (hland : 0 ≤ land ∧ land < (out.length : Int)) (ht : taken.length ≤ 1000) : ∀ (d k m : Nat), taken.length - m = d → (∀ x : Int, 0 ≤ x → x < (m : Int) → x ∈ taken) → d + 1010 < k →
    ∃ k', k ≤ k' + d + 1 ∧ impl_GreedyColours.l2 k xs out land taken (m : Int) os (os.length : Int) i = impl_GreedyColours.l0 k' xs (out.set land.toNat (lfr taken d (m : Int))) os (os.length : Int) (wrap64 (i + 1)) := by
  intro d
  induction d with
  | zero =>
    intro k m hd h hk
    obtain ⟨k, rfl⟩ : ∃ n, k = n + 1 := ⟨k - 1, by omega⟩
    have hf := taken_full h
    have hc : taken.contains (m : Int) = false := by
      cases hc : taken.contains (m : Int) with
      | false => rfl
      | true => have := taken_full (taken_next h hc); omega
    have ec := cont_some taken (by omega) (m : Int) k (by omega)
    refine ⟨k, by omega, ?_⟩
    simp only [impl_GreedyColours.l2]
    rw [ec, Option.bind_some, hc, if_neg (by simp), if_pos hland.1, if_pos hland.2]
    rfl
  | succ d ih =>
    intro k m hd h hk
    obtain ⟨k, rfl⟩ : ∃ n, k = n + 1 := ⟨k - 1, by omega⟩
    have hf := taken_full h
    have ec := cont_some taken (by omega) (m : Int) k (by omega)
    have e : lfr taken (d + 1) (m : Int) = if taken.contains (m : Int) = true then lfr taken d ((m : Int) + 1) else (m : Int) := rfl
    rw [e]
    by_cases c : taken.contains (m : Int) = true
    · obtain ⟨k', h1, h2⟩ := ih k (m + 1) (by omega) (taken_next h c) (by omega)
      have ew : wrap64 ((m : Int) + 1) = (m : Int) + 1 := w64 (by omega) (by omega)
      rw [show ((m + 1 : Nat) : Int) = (m : Int) + 1 by omega] at h2
      refine ⟨k', by clear ew; omega, ?_⟩
      simp only [impl_GreedyColours.l2]
      rw [ec, Option.bind_some, if_pos c, if_pos c, ew]
      exact h2
    · refine ⟨k, by omega, ?_⟩
      simp only [impl_GreedyColours.l2]
      rw [ec, Option.bind_some, if_neg c, if_neg c, if_pos hland.1, if_pos hland.2]
theorem implG_take (xs : List S58) (out os nb : List Int) (land i : Int) (hnb : ∀ x ∈ nb, 0 ≤ x ∧ x < (out.length : Int)) (hnl : nb.length ≤ 1000) : ∀ (d k j : Nat) (acc : List Int), nb.length - j = d → j ≤ nb.length → d < k → acc.length + d ≤ 1000 →
    impl_GreedyColours.l1 k xs out land acc os (os.length : Int) i nb (nb.length : Int) (j : Int) = impl_GreedyColours.l2 (k - d - 1) xs out land (acc ++ (nb.drop j).map (rd out)) 0 os (os.length : Int) i := by
  intro d
  induction d with
  | zero =>
    intro k j acc hd hj hk ha
    obtain ⟨k, rfl⟩ : ∃ n, k = n + 1 := ⟨k - 1, by omega⟩
    simp only [impl_GreedyColours.l1]
    rw [if_neg (by omega), List.drop_eq_nil_of_le (by omega), List.map_nil, List.append_nil]
    rfl
  | succ d ih =>
    intro k j acc hd hj hk ha
    obtain ⟨k, rfl⟩ : ∃ n, k = n + 1 := ⟨k - 1, by omega⟩
    have h : j < nb.length := by omega
    have q1 : (j : Int) < (nb.length : Int) := by omega
    have q2 : (0 : Int) ≤ (j : Int) := by omega
    have q3 : acc.length < 17592186044416 := by omega
    have ek : k + 1 - (d + 1) - 1 = k - d - 1 := by omega
    have e := ih k (j + 1) (acc ++ [rd out nb[j]]) (by omega) (by omega) (by omega) (by rw [List.length_append, List.length_singleton]; omega)
    have en := nxt h (by omega)
    have hx := hnb _ (List.getElem_mem h)
    simp only [impl_GreedyColours.l1]
    rw [if_pos q1, if_pos q2, if_pos q1, rdI h, if_pos hx.1, if_pos hx.2, if_pos q3, en, e, ek, List.drop_eq_getElem_cons h, List.map_cons, List.append_assoc]
    rfl
/-- The land x gets the least colour that none of its neighbours has. -/
def gset (n : Int) (xs : List S58) (out : List Int) (x : Int) : List Int := out.set x.toNat (lfr ((nbs xs x n.toNat).map (rd out)) ((nbs xs x n.toNat).map (rd out)).length 0)
def gcol (n : Int) (xs : List S58) : List Int → List Int → List Int
  | [], out => out
  | x :: r, out => gcol n xs r (gset n xs out x)
theorem gset_length (n : Int) (xs : List S58) (out : List Int) (x : Int) : (gset n xs out x).length = out.length := by unfold gset; rw [List.length_set]
theorem gcol_length (n : Int) (xs : List S58) : ∀ (r out : List Int), (gcol n xs r out).length = out.length
  | [], _ => rfl
  | x :: r, out => (gcol_length n xs r (gset n xs out x)).trans (gset_length n xs out x)
theorem nbG_in {n : Int} {xs : List S58} (hn : 1 ≤ n ∧ n ≤ 10) (land : Int) : ∀ x ∈ nbs xs land n.toNat, 0 ≤ x ∧ x < n := by
  intro x hx
  have := (nbs_mem xs land x n.toNat).1 hx
  omega
theorem implG_out {n : Int} {xs : List S58} (O : OkBs n xs) (os : List Int) (hos : ∀ x ∈ os, 0 ≤ x ∧ x < n) (hol : os.length ≤ 10) : ∀ (d k i : Nat) (out : List Int), os.length - i = d → i ≤ os.length → 50 * d + 2000 < k → (out.length : Int) = n →
    impl_GreedyColours.l0 k xs out os (os.length : Int) (i : Int) = some (gcol n xs (os.drop i) out, 0) := by
  intro d
  have hn := O.lands
  induction d with
  | zero =>
    intro k i out hd hi hk ho
    obtain ⟨k, rfl⟩ : ∃ n, k = n + 1 := ⟨k - 1, by omega⟩
    simp only [impl_GreedyColours.l0]
    rw [if_neg (by omega), List.drop_eq_nil_of_le (by omega)]
    rfl
  | succ d ih =>
    intro k i out hd hi hk ho
    obtain ⟨k, rfl⟩ : ∃ n, k = n + 1 := ⟨k - 1, by omega⟩
    have h : i < os.length := by omega
    have q1 : (i : Int) < (os.length : Int) := by omega
    have q2 : (0 : Int) ≤ (i : Int) := by omega
    have k2 : 40 < k := by omega
    have hz : n.toNat ≤ 10 := by omega
    have z1 : os.length - (i + 1) = d := by omega
    have z2 : i + 1 ≤ os.length := by omega
    have z3 : ∀ a b k', a ≤ 10 → b ≤ 10 → k - a - 1 ≤ k' + b + 1 → 50 * d + 2000 < k' := fun a b k' _ _ _ => by omega
    have z4 : ∀ a, a ≤ 10 → a < k ∧ a + 1010 < k - a - 1 := fun a _ => by omega
    have en := nxt h (by omega)
    have hx := hos _ (List.getElem_mem h)
    have nl2 : (nbs xs os[i] n.toNat).length ≤ 10 := Nat.le_trans (nbs_length xs os[i] n.toNat) hz
    have a1 := implN_some O os[i] k k2
    have hnb : ∀ x ∈ nbs xs os[i] n.toNat, 0 ≤ x ∧ x < (out.length : Int) := fun x hx2 => by rw [ho]; exact nbG_in (xs := xs) hn os[i] x hx2
    have b1 := implG_take xs out os (nbs xs os[i] n.toNat) os[i] (i : Int) hnb (Nat.le_trans nl2 (by decide)) (nbs xs os[i] n.toNat).length k 0 [] rfl (Nat.zero_le _) (z4 _ nl2).1 (by rw [List.length_nil, Nat.zero_add]; exact Nat.le_trans nl2 (by decide))
    rw [Int.natCast_zero, List.drop_zero, List.nil_append] at b1
    have hml : ((nbs xs os[i] n.toNat).map (rd out)).length = (nbs xs os[i] n.toNat).length := List.length_map _
    obtain ⟨k', c1, c2⟩ := implG_free xs out ((nbs xs os[i] n.toNat).map (rd out)) os os[i] (i : Int) (by rw [ho]; exact hx) (by rw [hml]; exact Nat.le_trans nl2 (by decide)) ((nbs xs os[i] n.toNat).map (rd out)).length (k - (nbs xs os[i] n.toNat).length - 1) 0 rfl (fun x h0 h1 => absurd h1 (Int.not_lt.mpr h0)) (by rw [hml]; exact (z4 _ nl2).2)
    rw [Int.natCast_zero, en] at c2
    have e := ih k' (i + 1) (gset n xs out os[i]) z1 z2 (z3 _ _ k' nl2 (by rw [← hml] at nl2; exact nl2) (by rw [hml] at *; exact c1)) (by rw [gset_length]; exact ho)
    simp only [impl_GreedyColours.l0]
    rw [if_pos q1, if_pos q2, if_pos q1, rdI h, a1, Option.bind_some, b1, c2, List.drop_eq_getElem_cons h]
    exact e
end Go.Proofs.Ytcjkklkmlooinaa.Pure
