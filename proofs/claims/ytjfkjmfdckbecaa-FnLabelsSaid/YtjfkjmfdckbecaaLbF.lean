/- What is left out, what it weighs, and how rows are filled. -/
import Derived.Test.YtjfkjmfdckbecaaPrint0
import Derived.Test.YtjfkjmfdckbecaaPrint2
import Derived.Test.YtjfkjmfdckbecaaPrint10
import Derived.Test.YtjfkjmfdckbecaaPrint11
import Derived.Test.YtjfkjmfdckbecaaPrint12
import Derived.Test.YtjfkjmfdckbecaaPrint13
import Derived.Test.YtjfkjmfdckbecaaNum
import Derived.Test.YtjfkjmfdckbecaaInW
import Derived.Test.YtjfkjmfdckbecaaIntsR
import Derived.Test.YtjfkjmfdckbecaaSrc
import Derived.Test.YtjfkjmfdckbecaaLabI
import Derived.Test.YtjfkjmfdckbecaaLabDr
import Derived.Test.YtjfkjmfdckbecaaLabMt
import Derived.Test.YtjfkjmfdckbecaaLabVd
import Derived.Test.YtjfkjmfdckbecaaLabFm
import Derived.Test.YtjfkjmfdckbecaaLbS
import Derived.Test.YtjfkjmfdckbecaaLbG
namespace Go.Proofs.Ytjfkjmfdckbecaa.Pure
open Go.RowKit Go.Proofs.Ytjfkjmfdckbecaa.Print Go.Proofs.YtjfkjmfdckbecaaW.PrintWords Go.Proofs.YtjfkjmfdckbecaaW.PrintLast Go.Proofs.YtjfkjmfdckbecaaW.PrintMore
set_option linter.unusedVariables false
set_option linter.unusedSimpArgs false
theorem ctx_of {ls : List S36} (L : Ls ls) {ps : List Int} (P : PreL ls ps) (hp : ps.length = ls.length) : Ctx ls ps :=
  ⟨L.hl, L.ho, hp, fun j hj => by have := P.at_ j (by omega); rwa [rdLd hj] at this⟩
theorem any_none (ls : List S36) (ps : List Int) (t : Nat) : ∀ (d j : Nat), (∀ q, j ≤ q → q < j + d → badAt ls ps t q = false) → anyF ls ps t d j = false := by
  intro d
  induction d with
  | zero => intro j _; rfl
  | succ d ih =>
    intro j h
    have e : anyF ls ps t (d + 1) j = (badAt ls ps t j || anyF ls ps t d (j + 1)) := rfl
    rw [e, h j (by omega) (by omega), ih (j + 1) (fun q h1 h2 => h q (by omega) (by omega))]
    rfl
theorem nb_none (ls : List S36) (ps : List Int) : ∀ (d i : Nat), (∀ t, i ≤ t → t < i + d → ∀ j, j < t → badAt ls ps t j = false) → nbF ls ps d i = -1 := by
  intro d
  induction d with
  | zero => intro i _; rfl
  | succ d ih =>
    intro i h
    have e : nbF ls ps (d + 1) i = if anyF ls ps i i 0 = true then (i : Int) else nbF ls ps d (i + 1) := rfl
    rw [e, any_none ls ps i i 0 (fun q _ h2 => h i (by omega) (by omega) q (by omega)), if_neg (by simp)]
    exact ih (i + 1) (fun t h1 h2 => h t (by omega) (by omega))
theorem nb_good {ls : List S36} {ps : List Int} (hp : ps.length = ls.length) (G : GoodL ls ps) : nbF ls ps ls.length 0 = -1 :=
  nb_none ls ps ls.length 0 (fun t _ h2 j hj => G t (by omega) j hj)
theorem wpl_some {ls : List S36} (L : Ls ls) {ps : List Int} (C : Ctx ls ps) (k : Nat) (hk : 300 < k) : impl_WeightPlaced.f k ls ps = some (wAll ls ps, 0) := by
  have hl := L.hl
  have hp := C.hp
  unfold impl_WeightPlaced.f
  rw [pc_some ls ps C.hl C.ho C.hp C.at_ k (by omega), Option.bind_some, if_pos rfl, wp_some L ps (by omega) k (by omega), Option.bind_some]
/-- The labels that are left out, of the first i. -/
def outL (ps : List Int) : Nat → List Int
  | 0 => []
  | i + 1 => outL ps i ++ (if rd ps (i : Int) < 0 then [(i : Int)] else [])
theorem outL_len (ps : List Int) : ∀ i, (outL ps i).length ≤ i
  | 0 => by simp [outL]
  | i + 1 => by
    have := outL_len ps i
    unfold outL
    rw [List.length_append]
    split
    · rw [List.length_singleton]; omega
    · rw [List.length_nil]; omega
theorem outL_in (ps : List Int) : ∀ i, ∀ x ∈ outL ps i, 0 ≤ x ∧ x < (i : Int)
  | 0 => fun x hx => by simp [outL] at hx
  | i + 1 => fun x hx => by
    unfold outL at hx
    rcases List.mem_append.1 hx with hx | hx
    · have := outL_in ps i x hx; omega
    · split at hx
      · rw [List.mem_singleton] at hx; omega
      · simp at hx
theorem outL_has (ps : List Int) : ∀ i (t : Nat), t < i → ((outL ps i).contains (t : Int) = decide (rd ps (t : Int) < 0)) := by
  intro i
  induction i with
  | zero => intro t h; omega
  | succ i ih =>
    intro t h
    have e : outL ps (i + 1) = outL ps i ++ (if rd ps (i : Int) < 0 then [(i : Int)] else []) := rfl
    rw [e, Bool.eq_iff_iff, List.contains_iff_mem, List.mem_append]
    by_cases hti : t = i
    · subst hti
      have hn : ¬ (t : Int) ∈ outL ps t := fun hm => by have := outL_in ps t _ hm; omega
      by_cases hr : rd ps (t : Int) < 0
      · rw [if_pos hr, decide_eq_true hr]; simp
      · rw [if_neg hr, decide_eq_false hr]; simp [hn]
    · have h2 := ih t (by omega)
      rw [Bool.eq_iff_iff, List.contains_iff_mem] at h2
      have hn : ¬ (t : Int) ∈ (if rd ps (i : Int) < 0 then [(i : Int)] else []) := by
        split
        · rw [List.mem_singleton]; omega
        · simp
      rw [← h2]
      exact ⟨fun h => h.resolve_right hn, .inl⟩
theorem outL_rise (ps : List Int) : ∀ i, (outL ps i).Pairwise (· < ·)
  | 0 => List.Pairwise.nil
  | i + 1 => by
    unfold outL
    rw [List.pairwise_append]
    refine ⟨outL_rise ps i, ?_, fun x hx y hy => ?_⟩
    · split
      · exact List.pairwise_singleton _ _
      · exact List.Pairwise.nil
    · have := outL_in ps i x hx
      split at hy
      · rw [List.mem_singleton] at hy; omega
      · simp at hy
theorem lo_loop (ps : List Int) (hl : ps.length ≤ 1000) : ∀ (d k i : Nat), i + d = ps.length → d < k → impl_LeftOut.l0 k (outL ps i) ps (ps.length : Int) (i : Int) = some (outL ps ps.length, 0) := by
  intro d
  induction d with
  | zero =>
    intro k i hi hk
    obtain ⟨k, rfl⟩ : ∃ m, k = m + 1 := ⟨k - 1, by omega⟩
    have c1 : ¬ (i : Int) < (ps.length : Int) := by omega
    unfold impl_LeftOut.l0
    rw [if_neg c1, show i = ps.length by omega]
  | succ d ih =>
    intro k i hi hk
    obtain ⟨k, rfl⟩ : ∃ m, k = m + 1 := ⟨k - 1, by omega⟩
    have c1 : (i : Int) < (ps.length : Int) := by omega
    have c2 : (0 : Int) ≤ (i : Int) := by omega
    have hn : wrap64 ((i : Int) + 1) = ((i + 1 : Nat) : Int) := nxt (show i < ps.length by omega) (by omega)
    have hlen := outL_len ps i
    have i1 := ih k (i + 1) (by omega) (by omega)
    have e : outL ps (i + 1) = outL ps i ++ (if rd ps (i : Int) < 0 then [(i : Int)] else []) := rfl
    rw [e] at i1
    unfold impl_LeftOut.l0
    rw [if_pos c1, if_pos c2, if_pos c1, hn]
    by_cases hr : rd ps (i : Int) < 0
    · rw [if_pos hr] at i1
      rw [if_pos hr, if_pos (by omega)]
      exact i1
    · rw [if_neg hr, List.append_nil] at i1
      rw [if_neg hr]
      exact i1
theorem lo_some {ls : List S36} {ps : List Int} (C : Ctx ls ps) (k : Nat) (hk : 300 < k) : impl_LeftOut.f k ls ps = some (outL ps ls.length, 0) := by
  have hl := C.hl
  have hp := C.hp
  have := lo_loop ps (by omega) ps.length k 0 (by omega) (by omega)
  unfold impl_LeftOut.f
  rw [pc_some ls ps C.hl C.ho C.hp C.at_ k (by omega), Option.bind_some, if_pos rfl, ← hp]
  exact this
theorem rise_loop (out : List Int) (n : Int) (hl : out.length ≤ 1000) (hin : ∀ x ∈ out, 0 ≤ x ∧ x < n) (hp : out.Pairwise (· < ·)) : ∀ (d k i : Nat), i + d = out.length → d < k → laws_a2Rises.l0 k out n (i : Int) = some true := by
  intro d
  induction d with
  | zero =>
    intro k i hi hk
    obtain ⟨k, rfl⟩ : ∃ m, k = m + 1 := ⟨k - 1, by omega⟩
    have c1 : ¬ (i : Int) < (out.length : Int) := by omega
    unfold laws_a2Rises.l0
    rw [if_neg c1]
  | succ d ih =>
    intro k i hi hk
    obtain ⟨k, rfl⟩ : ∃ m, k = m + 1 := ⟨k - 1, by omega⟩
    have h : i < out.length := by omega
    have c1 : (i : Int) < (out.length : Int) := by omega
    have c2 : (0 : Int) ≤ (i : Int) := by omega
    have hn : wrap64 ((i : Int) + 1) = ((i + 1 : Nat) : Int) := nxt h (by omega)
    have i1 := ih k (i + 1) (by omega) (by omega)
    have hx := hin _ (List.getElem_mem h)
    have c3 : ¬ out[i] < 0 := by omega
    have c4 : ¬ out[i] ≥ n := by omega
    unfold laws_a2Rises.l0
    rw [if_pos c1, if_pos c2, rdI h, if_neg c3, if_neg c4, hn]
    by_cases h0 : i = 0
    · have c5 : ¬ (i : Int) > 0 := by omega
      rw [if_neg c5]
      exact i1
    · have c5 : (i : Int) > 0 := by omega
      have hm : wrap64 ((i : Int) - 1) = ((i - 1 : Nat) : Int) := by rw [w64 (by omega) (by omega)]; omega
      have c6 : (0 : Int) ≤ ((i - 1 : Nat) : Int) := by omega
      have c7 : ((i - 1 : Nat) : Int) < (out.length : Int) := by omega
      have c8 : ¬ out[i - 1] ≥ out[i] := by
        have := List.pairwise_iff_getElem.1 hp (i - 1) i (by omega) h (by omega)
        omega
      rw [if_pos c5, hm, if_pos c6, if_pos c7, rdI (show i - 1 < out.length by omega), if_neg c8]
      exact i1
theorem has_lp (out : List Int) (v : Int) (hl : out.length ≤ 1000) : ∀ (d k i : Nat), i + d = out.length → d < k → laws_a2Has.l0 k out v (i : Int) = some ((out.drop i).contains v) := by
  intro d
  induction d with
  | zero =>
    intro k i hi hk
    obtain ⟨k, rfl⟩ : ∃ m, k = m + 1 := ⟨k - 1, by omega⟩
    have c1 : ¬ (i : Int) < (out.length : Int) := by omega
    unfold laws_a2Has.l0
    rw [if_neg c1, List.drop_of_length_le (by omega)]
    rfl
  | succ d ih =>
    intro k i hi hk
    obtain ⟨k, rfl⟩ : ∃ m, k = m + 1 := ⟨k - 1, by omega⟩
    have h : i < out.length := by omega
    have c1 : (i : Int) < (out.length : Int) := by omega
    have c2 : (0 : Int) ≤ (i : Int) := by omega
    have hn : wrap64 ((i : Int) + 1) = ((i + 1 : Nat) : Int) := nxt h (by omega)
    have i1 := ih k (i + 1) (by omega) (by omega)
    unfold laws_a2Has.l0
    rw [if_pos c1, if_pos c2, rdI h, hn, i1, List.drop_eq_getElem_cons h, List.contains_cons]
    by_cases hs : out[i] = v
    · rw [if_pos hs, beq_iff_eq.2 hs.symm, Bool.true_or]
    · rw [if_neg hs, beq_eq_false_iff_ne.2 (fun e => hs e.symm), Bool.false_or]
theorem has_out {ls : List S36} (L : Ls ls) (ps : List Int) (t : Nat) (ht : t < ls.length) (k : Nat) (hk : 100 < k) : laws_a2Has.f k (outL ps ls.length) (t : Int) = some (decide (rd ps (t : Int) < 0)) := by
  have hl := L.hl
  have hlen := outL_len ps ls.length
  have := has_lp (outL ps ls.length) (t : Int) (by omega) (outL ps ls.length).length k 0 (by omega) (by omega)
  rw [List.drop_zero, outL_has ps ls.length t ht] at this
  unfold laws_a2Has.f
  exact this
/-- What the first i labels weigh, and what those of them weigh that are left out. -/
def aS (ls : List S36) : Nat → Int
  | 0 => 0
  | i + 1 => aS ls i + (rd_T36 ls (i : Int)).f3
def rS (ls : List S36) (ps : List Int) : Nat → Int
  | 0 => 0
  | i + 1 => rS ls ps i + (if rd ps (i : Int) < 0 then (rd_T36 ls (i : Int)).f3 else 0)
theorem aS_in {ls : List S36} (L : Ls ls) : ∀ i, i ≤ ls.length → 0 ≤ aS ls i ∧ aS ls i ≤ 9 * (i : Int) := by
  intro i
  induction i with
  | zero => intro _; exact ⟨by unfold aS; omega, by unfold aS; omega⟩
  | succ i ih =>
    intro h
    have h1 := ih (by omega)
    have h2 := (L.at_ (t := i) (by omega)).weight
    have e : aS ls (i + 1) = aS ls i + (rd_T36 ls (i : Int)).f3 := rfl
    rw [e]
    generalize aS ls i = x at *
    generalize (rd_T36 ls (i : Int)).f3 = y at *
    omega
theorem rest_in {ls : List S36} (L : Ls ls) (ps : List Int) : ∀ i, i ≤ ls.length → rS ls ps i = aS ls i - wSum ls ps i := by
  intro i
  induction i with
  | zero => intro _; rfl
  | succ i ih =>
    intro h
    have h1 := ih (by omega)
    have e1 : aS ls (i + 1) = aS ls i + (rd_T36 ls (i : Int)).f3 := rfl
    have e2 : rS ls ps (i + 1) = rS ls ps i + (if rd ps (i : Int) < 0 then (rd_T36 ls (i : Int)).f3 else 0) := rfl
    have e3 : wSum ls ps (i + 1) = wSum ls ps i + wAt ls ps i := rfl
    rw [e1, e2, e3, h1]
    unfold wAt
    generalize (rd_T36 ls (i : Int)).f3 = y
    generalize aS ls i = x
    generalize wSum ls ps i = z
    by_cases hr : rd ps (i : Int) < 0
    · rw [if_pos hr, if_neg (by omega)]; omega
    · rw [if_neg hr, if_pos (by omega)]; omega
/-- How far a row is filled by the first i labels. -/
def fS (ls : List S36) (ps : List Int) (row : Int) : Nat → Int
  | 0 => 0
  | i + 1 => fS ls ps row i + (if rd ps (i : Int) ≥ 0 ∧ (rd_T36 ls (i : Int)).f0 = row then (rd_T36 ls (i : Int)).f1 else 0)
theorem fS_in {ls : List S36} (L : Ls ls) (ps : List Int) (row : Int) : ∀ i, i ≤ ls.length → 0 ≤ fS ls ps row i ∧ fS ls ps row i ≤ 14 * (i : Int) := by
  intro i
  induction i with
  | zero => intro _; exact ⟨by unfold fS; omega, by unfold fS; omega⟩
  | succ i ih =>
    intro h
    have h1 := ih (by omega)
    have h2 := (L.at_ (t := i) (by omega)).width
    have e : fS ls ps row (i + 1) = fS ls ps row i + (if rd ps (i : Int) ≥ 0 ∧ (rd_T36 ls (i : Int)).f0 = row then (rd_T36 ls (i : Int)).f1 else 0) := rfl
    rw [e]
    generalize fS ls ps row i = x at *
    generalize (rd_T36 ls (i : Int)).f1 = y at *
    split <;> omega
theorem fS_step {ls : List S36} (L : Ls ls) (ps : List Int) (row : Int) (i : Nat) (h : i < ls.length) : wrap64 (fS ls ps row i + (rd_T36 ls (i : Int)).f1) = fS ls ps row i + (rd_T36 ls (i : Int)).f1 := by
  have h1 := fS_in L ps row i (by omega)
  have h2 := (L.at_ h).width
  have h3 := L.hl
  generalize fS ls ps row i = x at *
  generalize (rd_T36 ls (i : Int)).f1 = y at *
  exact w64 (by omega) (by omega)
theorem rf_loop {ls : List S36} (L : Ls ls) (ps : List Int) (row : Int) (hp : ps.length = ls.length) : ∀ (d k i : Nat), i + d = ps.length → d < k → impl_RowFill.l0 k ls row (fS ls ps row i) ps (ps.length : Int) (i : Int) = some (fS ls ps row ls.length, 0) := by
  have hl := L.hl
  intro d
  induction d with
  | zero =>
    intro k i hi hk
    obtain ⟨k, rfl⟩ : ∃ m, k = m + 1 := ⟨k - 1, by omega⟩
    have c1 : ¬ (i : Int) < (ps.length : Int) := by omega
    unfold impl_RowFill.l0
    rw [if_neg c1, show i = ls.length by omega]
  | succ d ih =>
    intro k i hi hk
    obtain ⟨k, rfl⟩ : ∃ m, k = m + 1 := ⟨k - 1, by omega⟩
    have c1 : (i : Int) < (ps.length : Int) := by omega
    have c2 : (0 : Int) ≤ (i : Int) := by omega
    have c3 : (i : Int) < (ls.length : Int) := by omega
    have hn : wrap64 ((i : Int) + 1) = ((i + 1 : Nat) : Int) := nxt (show i < ps.length by omega) (by omega)
    have i1 := ih k (i + 1) (by omega) (by omega)
    have hs := fS_step L ps row i (by omega)
    have e : fS ls ps row (i + 1) = fS ls ps row i + (if rd ps (i : Int) ≥ 0 ∧ (rd_T36 ls (i : Int)).f0 = row then (rd_T36 ls (i : Int)).f1 else 0) := rfl
    rw [e] at i1
    unfold impl_RowFill.l0
    rw [if_pos c1, if_pos c2, if_pos c1, hn]
    by_cases hr : rd ps (i : Int) ≥ 0
    · by_cases hrow : (rd_T36 ls (i : Int)).f0 = row
      · rw [if_pos ⟨hr, hrow⟩] at i1
        rw [if_pos hr, if_pos c3, if_pos hrow, hs]
        exact i1
      · rw [if_neg (fun h => hrow h.2), Int.add_zero] at i1
        rw [if_pos hr, if_pos c3, if_neg hrow]
        exact i1
    · rw [if_neg (fun h => hr h.1), Int.add_zero] at i1
      rw [if_neg hr]
      exact i1
theorem rf_some {ls : List S36} (L : Ls ls) {ps : List Int} (C : Ctx ls ps) (G : GoodL ls ps) (row : Int) (h0 : 0 ≤ row) (h1 : row ≤ 11) (k : Nat) (hk : 300 < k) : impl_RowFill.f k ls ps row = some (fS ls ps row ls.length, 0) := by
  have hl := L.hl
  have hp := C.hp
  have e := pf_loop C ls.length k 0 (by omega) (by omega) (by omega)
  rw [Int.natCast_zero, nb_good hp G] at e
  have e2 := rf_loop L ps row hp ps.length k 0 (by omega) (by omega)
  have hw : impl_within.f row 0 11 = some true := by unfold impl_within.f; rw [if_pos h0, decide_eq_true h1]
  unfold impl_RowFill.f impl_placesFault.f
  rw [pc_some ls ps C.hl C.ho C.hp C.at_ k (by omega), Option.bind_some, if_pos rfl, hw, Option.bind_some, if_pos rfl, e, Option.bind_some, if_neg (by omega)]
  exact e2
end Go.Proofs.Ytjfkjmfdckbecaa.Pure
