/- Colours by an order are right. -/
import Derived.Test.YtcjkklkmlooinaaPrint0
import Derived.Test.YtcjkklkmlooinaaPrint6
import Derived.Test.YtcjkklkmlooinaaPrint9
import Derived.Test.YtcjkklkmlooinaaPrint10
import Derived.Test.YtcjkklkmlooinaaNum
import Derived.Test.YtcjkklkmlooinaaMgA
import Derived.Test.YtcjkklkmlooinaaLabI
import Derived.Test.YtcjkklkmlooinaaBoVI
import Derived.Test.YtcjkklkmlooinaaBoV
import Derived.Test.YtcjkklkmlooinaaClashP
import Derived.Test.YtcjkklkmlooinaaAscP
import Derived.Test.YtcjkklkmlooinaaBoNI
import Derived.Test.YtcjkklkmlooinaaCntA
import Derived.Test.YtcjkklkmlooinaaDegP
import Derived.Test.YtcjkklkmlooinaaClrP
import Derived.Test.YtcjkklkmlooinaaGreedyR
import Derived.Test.YtcjkklkmlooinaaGreedyI
namespace Go.Proofs.Ytcjkklkmlooinaa.Pure
open Go.RowKit Go.Proofs.Ytcjkklkmlooinaa.Print Go.Proofs.YtcjkklkmlooinaaW.PrintWords Go.Proofs.YtcjkklkmlooinaaW.PrintLast Go.Proofs.YtcjkklkmlooinaaW.PrintMore
set_option linter.unusedVariables false
set_option linter.unusedSimpArgs false
theorem lfr_new {taken : List Int} : ∀ (d m : Nat), taken.length - m = d → (∀ x : Int, 0 ≤ x → x < (m : Int) → x ∈ taken) → lfr taken d (m : Int) ∉ taken := by
  intro d
  induction d with
  | zero =>
    intro m hd h hm
    have hm' : (m : Int) ∈ taken := hm
    have := taken_full (m := m + 1) (fun x h0 h1 => by
      by_cases e : x = (m : Int)
      · rw [e]; exact hm'
      · exact h x h0 (by omega))
    omega
  | succ d ih =>
    intro m hd h
    have e : lfr taken (d + 1) (m : Int) = if taken.contains (m : Int) = true then lfr taken d ((m : Int) + 1) else (m : Int) := rfl
    rw [e]
    by_cases c : taken.contains (m : Int) = true
    · rw [if_pos c]
      have := ih (m + 1) (by omega) (taken_next h c)
      rw [show ((m + 1 : Nat) : Int) = (m : Int) + 1 by omega] at this
      exact this
    · rw [if_neg c]
      intro hm
      exact c (by simpa using hm)
structure Good (n : Int) (xs : List S58) (out : List Int) (dn : List Int) : Prop where
  len : (out.length : Int) = n
  col : ∀ x, 0 ≤ x → x < n → x ∈ dn → 0 ≤ rd out x ∧ rd out x ≤ n
  ok : ∀ p ∈ xs, p.f0 ∈ dn → p.f1 ∈ dn → rd out p.f0 ≠ rd out p.f1
theorem rd_hit (out : List Int) (x v : Int) (h0 : 0 ≤ x) (h1 : x < (out.length : Int)) : rd (out.set x.toNat v) x = v := by
  unfold rd
  rw [List.getD_eq_getElem?_getD, List.getElem?_set_self (by omega)]
  rfl
theorem rd_miss (out : List Int) (r q v : Int) (hr : 0 ≤ r) (hq : 0 ≤ q) (h : q ≠ r) : rd (out.set r.toNat v) q = rd out q := by
  unfold rd
  rw [List.getD_eq_getElem?_getD, List.getD_eq_getElem?_getD, List.getElem?_set_ne (by omega)]
theorem good_step {n : Int} {xs : List S58} (O : OkBs n xs) {out dn : List Int} (G : Good n xs out dn) (x : Int) (h0 : 0 ≤ x) (h1 : x < n) (hx : x ∉ dn) : Good n xs (gset n xs out x) (x :: dn) := by
  have hn := O.lands
  have hlen := G.len
  have hv := lfr_lt (taken := (nbs xs x n.toNat).map (rd out)) ((nbs xs x n.toNat).map (rd out)).length 0 (Nat.sub_zero _) (fun y h0 h1 => by omega)
  have hnew := lfr_new (taken := (nbs xs x n.toNat).map (rd out)) ((nbs xs x n.toNat).map (rd out)).length 0 (Nat.sub_zero _) (fun y h0 h1 => by omega)
  have hnl := nbs_length xs x n.toNat
  have hml : ((nbs xs x n.toNat).map (rd out)).length = (nbs xs x n.toNat).length := List.length_map _
  rw [Int.natCast_zero] at hv hnew
  have key : ∀ y, 0 ≤ y → y < n → xs.any (matB x y) = true → lfr ((nbs xs x n.toNat).map (rd out)) ((nbs xs x n.toNat).map (rd out)).length 0 ≠ rd out y := by
    intro y y0 y1 ya e
    apply hnew
    rw [e]
    exact List.mem_map.2 ⟨y, (nbs_mem xs x y n.toNat).2 ⟨y0, by omega, ya⟩, rfl⟩
  have eg : gset n xs out x = out.set x.toNat (lfr ((nbs xs x n.toNat).map (rd out)) ((nbs xs x n.toNat).map (rd out)).length 0) := rfl
  have hb : lfr ((nbs xs x n.toNat).map (rd out)) ((nbs xs x n.toNat).map (rd out)).length 0 ≤ n := by omega
  generalize lfr ((nbs xs x n.toNat).map (rd out)) ((nbs xs x n.toNat).map (rd out)).length 0 = v at *
  refine ⟨by rw [eg, List.length_set]; exact hlen, fun y y0 y1 hy => ?_, fun p hp d0 d1 => ?_⟩
  · rw [eg]
    by_cases e : y = x
    · rw [e, rd_hit out x v h0 (by omega)]; exact ⟨hv.1, hb⟩
    · rw [rd_miss out x y v h0 y0 e]
      rcases List.mem_cons.1 hy with hy | hy
      · exact absurd hy e
      · exact G.col y y0 y1 hy
  · have ho := O.at_ p hp
    rw [eg]
    by_cases e0 : p.f0 = x
    · have e1 : p.f1 ≠ x := by omega
      rw [e0, rd_hit out x v h0 (by omega), rd_miss out x p.f1 v h0 (by omega) e1]
      refine key p.f1 (by omega) (by omega) (List.any_eq_true.2 ⟨p, hp, ?_⟩)
      unfold matB
      rw [Bool.or_eq_true, decide_eq_true_eq, decide_eq_true_eq]
      exact .inl ⟨e0, rfl⟩
    · by_cases e1 : p.f1 = x
      · rw [e1, rd_hit out x v h0 (by omega), rd_miss out x p.f0 v h0 (by omega) e0]
        refine (key p.f0 (by omega) (by omega) (List.any_eq_true.2 ⟨p, hp, ?_⟩)).symm
        unfold matB
        rw [Bool.or_eq_true, decide_eq_true_eq, decide_eq_true_eq]
        exact .inr ⟨e1, rfl⟩
      · rw [rd_miss out x p.f0 v h0 (by omega) e0, rd_miss out x p.f1 v h0 (by omega) e1]
        refine G.ok p hp ?_ ?_
        · rcases List.mem_cons.1 d0 with h | h
          · exact absurd h e0
          · exact h
        · rcases List.mem_cons.1 d1 with h | h
          · exact absurd h e1
          · exact h
theorem gcol_good {n : Int} {xs : List S58} (O : OkBs n xs) : ∀ (r out dn : List Int), Good n xs out dn → r.Nodup → (∀ x ∈ r, (0 ≤ x ∧ x < n) ∧ x ∉ dn) → ∃ dn', (∀ x ∈ r, x ∈ dn') ∧ (∀ x ∈ dn, x ∈ dn') ∧ Good n xs (gcol n xs r out) dn'
  | [], out, dn, G, _, _ => ⟨dn, fun x hx => (by cases hx), fun x hx => hx, G⟩
  | x :: r, out, dn, G, hnd, h => by
    obtain ⟨h1, h2⟩ := h x List.mem_cons_self
    obtain ⟨hx, hr⟩ := List.nodup_cons.1 hnd
    obtain ⟨dn', a, b, c⟩ := gcol_good O r (gset n xs out x) (x :: dn) (good_step O G x h1.1 h1.2 h2) hr (fun y hy => ⟨(h y (List.mem_cons_of_mem _ hy)).1, fun hm => by
      rcases List.mem_cons.1 hm with e | hm
      · exact hx (e ▸ hy)
      · exact (h y (List.mem_cons_of_mem _ hy)).2 hm⟩)
    refine ⟨dn', fun y hy => ?_, fun y hy => b y (List.mem_cons_of_mem _ hy), c⟩
    rcases List.mem_cons.1 hy with e | hy
    · rw [e]; exact b x List.mem_cons_self
    · exact a y hy
/-- An order of n lands. -/
structure Ordr (n : Int) (os : List Int) : Prop where
  len : (os.length : Int) = n
  nod : os.Nodup
  at_ : ∀ x ∈ os, 0 ≤ x ∧ x < n
theorem Ordr.all {n : Int} {os : List Int} (R : Ordr n os) {y : Int} (h0 : 0 ≤ y) (h1 : y < n) : y ∈ os := by
  have hl := R.len
  apply Decidable.byContradiction
  intro hm
  have := nodup_len n.toNat (y :: os) (List.nodup_cons.2 ⟨hm, R.nod⟩) (fun x hx => by
    rcases List.mem_cons.1 hx with e | hx
    · omega
    · have := R.at_ x hx; omega)
  rw [List.length_cons] at this
  omega
theorem greedy_right {n : Int} {xs : List S58} (O : OkBs n xs) (hn9 : n ≤ 9) {os : List Int} (R : Ordr n os) : okCs n (gcol n xs os (List.replicate n.toNat (-1))) = true ∧ Proper xs (gcol n xs os (List.replicate n.toNat (-1))) := by
  have hn := O.lands
  obtain ⟨dn, h1, _, G⟩ := gcol_good O os (List.replicate n.toNat (-1)) [] ⟨by rw [List.length_replicate]; omega, fun x _ _ hx => (by cases hx), fun p _ hx => (by cases hx)⟩ R.nod (fun x hx => ⟨R.at_ x hx, fun hm => (by cases hm)⟩)
  have hlen := G.len
  refine ⟨okCs_iff.2 ⟨hlen, fun c hc => ?_⟩, fun p hp => ?_⟩
  · obtain ⟨i, hi, rfl⟩ := List.getElem_of_mem hc
    have := G.col (i : Int) (by omega) (by omega) (h1 _ (R.all (by omega) (by omega)))
    rw [rdI hi] at this
    omega
  · have := O.at_ p hp
    exact G.ok p hp (h1 _ (R.all (by omega) (by omega))) (h1 _ (R.all (by omega) (by omega)))
theorem greedyI_fn {n : Int} {xs : List S58} (O : OkBs n xs) {os : List Int} (R : Ordr n os) (k : Nat) (hk : 6000 < k) : impl_GreedyColours.f k n xs os = some (gcol n xs os (List.replicate n.toNat (-1)), 0) := by
  have hn := O.lands
  have hm := O.many
  have hl := R.len
  obtain ⟨k0, rfl⟩ : ∃ m, k = m + 1 := ⟨k - 1, by omega⟩
  have ea : impl_ascending.f os = some (g_asc os) := by
    unfold impl_ascending.f slices_Clone_int64_int64.f
    rw [Option.bind_some, if_pos (by simp; omega), Option.bind_some, if_pos (by simp; omega)]
    rfl
  have h2 : (g_asc os).length = os.length := (asc_len os).2 R.nod
  have hc : (g_asc os).all (fun x => decide (0 ≤ x ∧ x ≤ (os.length : Int) - 1)) = true := by
    rw [asc_all, List.all_eq_true]
    intro x hx
    have := R.at_ x hx
    exact decide_eq_true (by omega)
  have q5 : ((List.replicate n.toNat (-1 : Int)).length : Int) = n := by rw [List.length_replicate]; omega
  have f3 := implG_out O os R.at_ (by omega) os.length k0 0 (List.replicate n.toNat (-1)) (Nat.sub_zero _) (Nat.zero_le _) (by omega) q5
  rw [Int.natCast_zero, List.drop_zero] at f3
  unfold impl_GreedyColours.f
  rw [impl_ok n xs (by omega) _ (by omega), okBs_mk O, Option.bind_some, if_pos rfl, ea, Option.bind_some, if_pos hl, if_pos (by rw [h2]), rising_some (g_asc os) (os.length : Int) (by omega) (by omega) (asc_lt os) _ (by omega), Option.bind_some, hc]
  simp only [impl_GreedyColours.j0, Bool.not_true]
  rw [if_neg (by simp)]
  unfold slices_Repeat_int64_int64.f
  rw [if_pos ⟨rfl, by omega⟩, Option.bind_some]
  exact f3
end Go.Proofs.Ytcjkklkmlooinaa.Pure
