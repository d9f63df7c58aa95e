/- All chains joined: the program's steps and the reference's steps are the same. -/
import Derived.Test.YtmedijjjhabpbaaPrint0
import Derived.Test.YtmedijjjhabpbaaPrint2
import Derived.Test.YtmedijjjhabpbaaPrint4
import Derived.Test.YtmedijjjhabpbaaPrint5
import Derived.Test.YtmedijjjhabpbaaPrint6
import Derived.Test.YtmedijjjhabpbaaPrint12
import Derived.Test.YtmedijjjhabpbaaPrint13
import Derived.Test.YtmedijjjhabpbaaPrint14
import Derived.Test.YtmedijjjhabpbaaNum
import Derived.Test.YtmedijjjhabpbaaInS
import Derived.Test.YtmedijjjhabpbaaInW
import Derived.Test.YtmedijjjhabpbaaChA
import Derived.Test.YtmedijjjhabpbaaChV
import Derived.Test.YtmedijjjhabpbaaChC
import Derived.Test.YtmedijjjhabpbaaChR
import Derived.Test.YtmedijjjhabpbaaChB
import Derived.Test.YtmedijjjhabpbaaRdP
import Derived.Test.YtmedijjjhabpbaaJoinI
namespace Go.Proofs.Ytmedijjjhabpbaa.Pure
open Go.RowKit Go.Proofs.Ytmedijjjhabpbaa.Print Go.Proofs.YtmedijjjhabpbaaW.PrintWords Go.Proofs.YtmedijjjhabpbaaW.PrintLast Go.Proofs.YtmedijjjhabpbaaW.PrintMore
set_option linter.unusedVariables false
set_option linter.unusedSimpArgs false
theorem rowG {xs : List (List S49)} {i : Nat} (h : i < xs.length) : g_row xs (i : Int) = xs[i] := by
  unfold g_row
  rw [Int.toNat_natCast, List.getD_eq_getElem?_getD, List.getElem?_eq_getElem h]
  rfl
theorem bld_take (xs : List (List S49)) (i c : Nat) (hic : i < c) (x : List S49) : ∀ j, j ≤ xs.length → g_bld xs (i : Int) (c : Int) x j = ((xs.set i x).take j).eraseIdx c := by
  intro j
  induction j with
  | zero => intro _; simp [g_bld]
  | succ j ih =>
    intro h
    have hS : j < (xs.set i x).length := by rw [List.length_set]; omega
    have hl : ((xs.set i x).take j).length = j := by rw [List.length_take]; omega
    have e : g_bld xs (i : Int) (c : Int) x (j + 1) = if (j : Int) = (i : Int) then g_bld xs i c x j ++ [x] else if (j : Int) = (c : Int) then g_bld xs i c x j else g_bld xs i c x j ++ [g_row xs (j : Int)] := rfl
    rw [e, ih (by omega), List.take_succ_eq_append_getElem hS]
    by_cases h1 : j = i
    · subst h1
      rw [if_pos rfl, List.getElem_set_self, List.eraseIdx_of_length_le (by omega), List.eraseIdx_of_length_le (by rw [List.length_append, List.length_singleton]; omega)]
    · rw [if_neg (by omega), List.getElem_set_ne (by omega), rowG (show j < xs.length by omega)]
      by_cases h2 : j = c
      · subst h2
        rw [if_pos rfl, List.eraseIdx_of_length_le (by omega), List.eraseIdx_append_of_length_le (by omega), hl, Nat.sub_self]
        simp
      · rw [if_neg (by omega)]
        by_cases h3 : j < c
        · rw [List.eraseIdx_of_length_le (by omega), List.eraseIdx_of_length_le (by rw [List.length_append, List.length_singleton]; omega)]
        · rw [List.eraseIdx_append_of_lt_length (by omega)]
theorem bld_all (xs : List (List S49)) (i c : Nat) (hic : i < c) (x : List S49) : g_bld xs (i : Int) (c : Int) x xs.length = (xs.set i x).eraseIdx c := by
  rw [bld_take xs i c hic x _ (Nat.le_refl _), List.take_of_length_le (by rw [List.length_set]; exact Nat.le_refl _)]
/-- Some valid chains. -/
structure Chs (xs : List (List S49)) : Prop where
  len : xs.length ≤ 8
  ok : ∀ c ∈ xs, okCh c = true
theorem Chs.at_ {xs : List (List S49)} (C : Chs xs) {i : Nat} (h : i < xs.length) : okCh (g_row xs (i : Int)) = true ∧ 2 ≤ (g_row xs (i : Int)).length ∧ (g_row xs (i : Int)).length ≤ 24 := by
  rw [rowG h]
  have := C.ok _ (List.getElem_mem h)
  exact ⟨this, (okCh_iff.1 this).2⟩
theorem Chs.short {xs : List (List S49)} (C : Chs xs) : g_short xs = true := by
  unfold g_short
  refine List.all_eq_true.2 fun x hx => ?_
  have := (okCh_iff.1 (C.ok x hx)).2
  exact decide_eq_true (by omega)
def pts (xs : List (List S49)) : Nat := (xs.map List.length).sum
theorem pts_set : ∀ (xs : List (List S49)) (i : Nat) (x : List S49) (h : i < xs.length), pts (xs.set i x) + xs[i].length = pts xs + x.length
  | [], _, _, h => absurd h (by simp)
  | y :: ys, 0, x, _ => by simp [pts]; omega
  | y :: ys, i + 1, x, h => by
    have := pts_set ys i x (by simpa using h)
    simp only [pts, List.set_cons_succ, List.map_cons, List.sum_cons, List.getElem_cons_succ] at this ⊢
    omega
theorem pts_erase : ∀ (xs : List (List S49)) (i : Nat) (h : i < xs.length), pts (xs.eraseIdx i) + xs[i].length = pts xs
  | [], _, h => absurd h (by simp)
  | y :: ys, 0, _ => by simp [pts]; omega
  | y :: ys, i + 1, h => by
    have := pts_erase ys i (by simpa using h)
    simp only [pts, List.eraseIdx_cons_succ, List.map_cons, List.sum_cons, List.getElem_cons_succ] at this ⊢
    omega
/-- The chains i and c can be joined. -/
def meets (xs : List (List S49)) (i c : Nat) : Bool := decide ((JoinTwoM (g_row xs (i : Int)) (g_row xs (c : Int))).2 = 0)
/-- One step: the joined chains, as many points as told. -/
structure Step (xs ys : List (List S49)) : Prop where
  chs : Chs ys
  len : ys.length + 1 = xs.length
  pts : pts ys + 1 = pts xs
theorem joinTwo_ok {a b x : List S49} (h : JoinTwoM a b = (x, 0)) : (okCl a = false ∧ okCl b = false) ∧ joinM a b = some x ∧ okCh x = true := by
  unfold JoinTwoM at h
  split at h
  · split at h
    · cases h
    · rename_i hc
      split at h
      · cases h
      · rename_i y hj
        split at h
        · rename_i hk
          cases h
          simp only [not_or, Bool.not_eq_true] at hc
          exact ⟨hc, hj, hk⟩
        · cases h
  · cases h
theorem jt_closed {a b : List S49} (o1 : okCh a = true) (o2 : okCh b = true) (h : okCl a = true ∨ okCl b = true) : JoinTwoM a b = ([], 6) := by
  unfold JoinTwoM
  rw [if_pos ⟨o1, o2⟩, if_pos h]
theorem jt_none {a b : List S49} (o1 : okCh a = true) (o2 : okCh b = true) (h : ¬ (okCl a = true ∨ okCl b = true)) (hj : joinM a b = none) : JoinTwoM a b = ([], 10) := by
  unfold JoinTwoM
  rw [if_pos ⟨o1, o2⟩, if_neg h, hj]
theorem jt_some {a b x : List S49} (o1 : okCh a = true) (o2 : okCh b = true) (h : ¬ (okCl a = true ∨ okCl b = true)) (hj : joinM a b = some x) : JoinTwoM a b = if okCh x = true then (x, 0) else ([], 5) := by
  unfold JoinTwoM
  rw [if_pos ⟨o1, o2⟩, if_neg h, hj]
theorem step_of {xs : List (List S49)} (C : Chs xs) {i c : Nat} (hic : i < c) (hc : c < xs.length) {x : List S49} (h : JoinTwoM (g_row xs (i : Int)) (g_row xs (c : Int)) = (x, 0)) : Step xs ((xs.set i x).eraseIdx c) := by
  obtain ⟨_, hj, hk⟩ := joinTwo_ok h
  have hi : i < xs.length := by omega
  have a1 := C.at_ hi
  have a2 := C.at_ hc
  have hl := joinM_len (by omega) (by omega) hj
  have hC := C.len
  have hcs : c < (xs.set i x).length := by rw [List.length_set]; exact hc
  have e1 : ((xs.set i x).eraseIdx c).length + 1 = xs.length := by rw [List.length_eraseIdx_of_lt hcs, List.length_set]; omega
  refine ⟨⟨by omega, fun z hz => ?_⟩, e1, ?_⟩
  · have hz := List.mem_of_mem_eraseIdx hz
    rcases List.mem_or_eq_of_mem_set hz with hz | hz
    · exact C.ok z hz
    · rw [hz]; exact hk
  · have p1 := pts_set xs i x hi
    have p2 := pts_erase (xs.set i x) c hcs
    have e2 : (xs.set i x)[c].length = (g_row xs (c : Int)).length := by rw [List.getElem_set_ne (by omega), rowG hc]
    have e3 : xs[i].length = (g_row xs (i : Int)).length := by rw [rowG hi]
    rw [e2] at p2
    rw [e3] at p1
    omega
/-- What a search from (i, c) on finds. -/
def Found (xs : List (List S49)) (P : Nat → Nat → Prop) (o : Option (List (List S49))) : Prop := match o with
  | some ys => Step xs ys
  | none => ∀ i c, P i c → i < c → c < xs.length → meets xs i c = false
def resI (xs : List (List S49)) : Option (List (List S49)) → List (List S49) × Bool
  | some ys => (ys, true)
  | none => (xs, false)
def resS : Option (List (List S49)) → List (List S49) × Bool
  | some ys => (ys, true)
  | none => ([], false)
theorem round_both {xs : List (List S49)} (C : Chs xs) (i : Nat) (hi : i < xs.length) (K : Nat) (hK : 200 ≤ K) (o : Option (List (List S49)))
    (Ho : ∀ k, K ≤ k → impl_joinFirst.l0 k xs ((i + 1 : Nat) : Int) = some (resI xs o) ∧ spec_l10Next.l0 k xs ((i + 1 : Nat) : Int) = some (resS o)) : ∀ (d c : Nat), c + d = xs.length → i < c → ∃ p : Option (List (List S49)), (∀ k, K + d < k → impl_joinFirst.l1 k xs (i : Int) (c : Int) = some (resI xs p) ∧ spec_l10Next.l1 k xs (i : Int) (c : Int) = some (resS p)) ∧
      ((∃ ys, p = some ys ∧ Step xs ys) ∨ (p = o ∧ ∀ c', c ≤ c' → c' < xs.length → meets xs i c' = false)) := by
  have hl := C.len
  have hsh := C.short
  have hn1 : wrap64 ((i : Int) + 1) = ((i + 1 : Nat) : Int) := nxt hi (by omega)
  intro d
  induction d with
  | zero =>
    intro c hc hic
    refine ⟨o, fun k hk => ?_, .inr ⟨rfl, fun c' h1 h2 => absurd h2 (by omega)⟩⟩
    obtain ⟨k, rfl⟩ : ∃ m, k = m + 1 := ⟨k - 1, by omega⟩
    have q : ¬ (c : Int) < (xs.length : Int) := by omega
    obtain ⟨g1, g2⟩ := Ho k (by omega)
    unfold impl_joinFirst.l1 spec_l10Next.l1
    rw [if_neg q, if_neg q, hn1]
    exact ⟨g1, g2⟩
  | succ d ih =>
    intro c hc hic
    have hcl : c < xs.length := by omega
    have q : (c : Int) < (xs.length : Int) := by omega
    have q1 : (0 : Int) ≤ (i : Int) := by omega
    have q2 : (i : Int) < (xs.length : Int) := by omega
    have q3 : (0 : Int) ≤ (c : Int) := by omega
    have q4 : (i : Int) < (c : Int) := by omega
    have q5 : xs.length < 1000 := by omega
    have hn2 : wrap64 ((c : Int) + 1) = ((c + 1 : Nat) : Int) := nxt hcl (by omega)
    obtain ⟨o1, n1, m1⟩ := C.at_ hi
    obtain ⟨o2, n2, m2⟩ := C.at_ hcl
    have ji : ∀ k, 150 ≤ k → impl_JoinTwo.f k (g_row xs (i : Int)) (g_row xs (c : Int)) = some (JoinTwoM (g_row xs (i : Int)) (g_row xs (c : Int))) := fun k hk => implJoinTwo_some _ _ (by omega) (by omega) k (by omega)
    have js : ∀ k, 150 ≤ k → spec_l10Join.f k (g_row xs (i : Int)) (g_row xs (c : Int)) = some ((joinM (g_row xs (i : Int)) (g_row xs (c : Int))).getD [], (joinM (g_row xs (i : Int)) (g_row xs (c : Int))).isSome) := fun k hk => specJoin_some (by omega) (by omega) (by omega) (by omega) k (by omega)
    have c1 := (closed_some (g_row xs (i : Int)) (by omega)).2
    have c2 := (closed_some (g_row xs (c : Int)) (by omega)).2
    have goOn : (JoinTwoM (g_row xs (i : Int)) (g_row xs (c : Int))).2 ≠ 0 → (∀ k, K + (d + 1) < k + 1 → spec_l10Next.l1 (k + 1) xs (i : Int) (c : Int) = spec_l10Next.l1 k xs (i : Int) ((c + 1 : Nat) : Int)) → ∃ p : Option (List (List S49)), (∀ k, K + (d + 1) < k → impl_joinFirst.l1 k xs (i : Int) (c : Int) = some (resI xs p) ∧ spec_l10Next.l1 k xs (i : Int) (c : Int) = some (resS p)) ∧
        ((∃ ys, p = some ys ∧ Step xs ys) ∨ (p = o ∧ ∀ c', c ≤ c' → c' < xs.length → meets xs i c' = false)) := by
      intro hne hs
      obtain ⟨p, H, D⟩ := ih (c + 1) (by omega) (by omega)
      refine ⟨p, fun k hk => ?_, ?_⟩
      · obtain ⟨k, rfl⟩ : ∃ m, k = m + 1 := ⟨k - 1, by omega⟩
        obtain ⟨g1, g2⟩ := H k (by omega)
        constructor
        · unfold impl_joinFirst.l1
          rw [if_pos q, if_pos ⟨⟨q1, q2⟩, q3⟩, ji k (by omega), Option.bind_some, if_neg hne, hn2]
          exact g1
        · rw [hs k (by omega)]
          exact g2
      · rcases D with D | ⟨e, D⟩
        · exact .inl D
        · refine .inr ⟨e, fun c' h1 h2 => ?_⟩
          by_cases he : c' = c
          · subst he
            exact decide_eq_false hne
          · exact D c' (by omega) h2
    have open_ : ∀ k, spec_l10Next.l1 (k + 1) xs (i : Int) (c : Int) = if okCl (g_row xs (i : Int)) = true then spec_l10Next.l1 k xs (i : Int) ((c + 1 : Nat) : Int) else if okCl (g_row xs (c : Int)) = true then spec_l10Next.l1 k xs (i : Int) ((c + 1 : Nat) : Int) else ((spec_l10Join.f k (g_row xs (i : Int)) (g_row xs (c : Int))).bind fun j => (if j.2 = true then ((spec_l07Ok.f k j.1).bind fun t3 => (if t3 = true then some (g_bld xs (i : Int) (c : Int) j.1 xs.length, true) else spec_l10Next.l1 k xs (i : Int) ((c + 1 : Nat) : Int))) else spec_l10Next.l1 k xs (i : Int) ((c + 1 : Nat) : Int))) := fun k => by
      have e : spec_l10Next.l1 (k + 1) xs (i : Int) (c : Int) = if (c : Int) < (xs.length : Int) then (if (0 ≤ (i : Int) ∧ (i : Int) < (c : Int)) ∧ (xs.length < 1000 ∧ g_short xs = true) then ((spec_l10Closed.f (g_row xs (i : Int))).bind fun t1 => (if t1 = true then spec_l10Next.l1 k xs (i : Int) (wrap64 ((c : Int) + 1)) else ((spec_l10Closed.f (g_row xs (c : Int))).bind fun t2 => (if t2 = true then spec_l10Next.l1 k xs (i : Int) (wrap64 ((c : Int) + 1)) else ((spec_l10Join.f k (g_row xs (i : Int)) (g_row xs (c : Int))).bind fun j => (if j.2 = true then ((spec_l07Ok.f k j.1).bind fun t3 => (if t3 = true then some (g_bld xs (i : Int) (c : Int) j.1 xs.length, true) else spec_l10Next.l1 k xs (i : Int) (wrap64 ((c : Int) + 1)))) else spec_l10Next.l1 k xs (i : Int) (wrap64 ((c : Int) + 1)))))))) else none) else spec_l10Next.l0 k xs (wrap64 ((i : Int) + 1)) := rfl
      rw [e, if_pos q, if_pos ⟨⟨q1, q4⟩, q5, hsh⟩, c1, Option.bind_some, hn2, c2, Option.bind_some]
    by_cases z1 : okCl (g_row xs (i : Int)) = true
    · exact goOn (by rw [jt_closed o1 o2 (.inl z1)]; decide) (fun k _ => by rw [open_ k, if_pos z1])
    · by_cases z2 : okCl (g_row xs (c : Int)) = true
      · exact goOn (by rw [jt_closed o1 o2 (.inr z2)]; decide) (fun k _ => by rw [open_ k, if_neg z1, if_pos z2])
      · have z3 : ¬ (okCl (g_row xs (i : Int)) = true ∨ okCl (g_row xs (c : Int)) = true) := fun h => h.elim z1 z2
        cases hj : joinM (g_row xs (i : Int)) (g_row xs (c : Int)) with
        | none =>
          have hJ := jt_none o1 o2 z3 hj
          refine goOn (by rw [hJ]; decide) (fun k hk => ?_)
          rw [open_ k, if_neg z1, if_neg z2, js k (by omega), hj, Option.bind_some]
          exact if_neg (by simp)
        | some x =>
          have hJ := jt_some o1 o2 z3 hj
          have lx := joinM_len (by omega) (by omega) hj
          have hv : ∀ k, 150 ≤ k → spec_l07Ok.f k x = some (okCh x) := fun k hk => l07Ok_some x (by omega) k (by omega)
          cases hx : okCh x with
          | false =>
            simp only [hx, Bool.false_eq_true, if_false] at hJ
            refine goOn (by rw [hJ]; decide) (fun k hk => ?_)
            rw [open_ k, if_neg z1, if_neg z2, js k (by omega), hj, Option.bind_some]
            dsimp only [Option.getD_some, Option.isSome_some]
            rw [if_pos rfl, hv k (by omega), Option.bind_some, hx, if_neg (by simp)]
          | true =>
            simp only [hx, if_true] at hJ
            have S := step_of C hic hcl hJ
            refine ⟨some ((xs.set i x).eraseIdx c), fun k hk => ?_, .inl ⟨_, rfl, S⟩⟩
            obtain ⟨k, rfl⟩ : ∃ m, k = m + 1 := ⟨k - 1, by omega⟩
            constructor
            · unfold impl_joinFirst.l1
              rw [if_pos q, if_pos ⟨⟨q1, q2⟩, q3⟩, ji k (by omega), Option.bind_some, hJ, if_pos rfl, Int.toNat_natCast, Int.toNat_natCast]
              rfl
            · rw [open_ k, if_neg z1, if_neg z2, js k (by omega), hj, Option.bind_some]
              dsimp only [Option.getD_some, Option.isSome_some]
              rw [if_pos rfl, hv k (by omega), Option.bind_some, hx, if_pos rfl, bld_all xs i c hic x]
              rfl
theorem first_both {xs : List (List S49)} (C : Chs xs) : ∀ (d i : Nat), i + d = xs.length → ∃ p : Option (List (List S49)), (∀ k, 200 + 20 * d ≤ k → impl_joinFirst.l0 k xs (i : Int) = some (resI xs p) ∧ spec_l10Next.l0 k xs (i : Int) = some (resS p)) ∧
    ((∃ ys, p = some ys ∧ Step xs ys) ∨ (p = none ∧ ∀ i' c', i ≤ i' → i' < c' → c' < xs.length → meets xs i' c' = false)) := by
  have hl := C.len
  intro d
  induction d with
  | zero =>
    intro i hi
    refine ⟨none, fun k hk => ?_, .inr ⟨rfl, fun i' c' h1 h2 h3 => absurd h3 (by omega)⟩⟩
    obtain ⟨k, rfl⟩ : ∃ m, k = m + 1 := ⟨k - 1, by omega⟩
    have q : ¬ (i : Int) < (xs.length : Int) := by omega
    unfold impl_joinFirst.l0 spec_l10Next.l0
    rw [if_neg q, if_neg q]
    exact ⟨rfl, rfl⟩
  | succ d ih =>
    intro i hi
    have hil : i < xs.length := by omega
    have q : (i : Int) < (xs.length : Int) := by omega
    have hn1 : wrap64 ((i : Int) + 1) = ((i + 1 : Nat) : Int) := nxt hil (by omega)
    obtain ⟨o, Ho, Do⟩ := ih (i + 1) (by omega)
    obtain ⟨p, H, D⟩ := round_both C i hil (200 + 20 * d) (by omega) o Ho d (i + 1) (by omega) (by omega)
    refine ⟨p, fun k hk => ?_, ?_⟩
    · obtain ⟨k, rfl⟩ : ∃ m, k = m + 1 := ⟨k - 1, by omega⟩
      obtain ⟨g1, g2⟩ := H k (by omega)
      unfold impl_joinFirst.l0 spec_l10Next.l0
      rw [if_pos q, if_pos q, hn1]
      exact ⟨g1, g2⟩
    · rcases D with D | ⟨e, D⟩
      · exact .inl D
      · rcases Do with Do | ⟨e2, Do⟩
        · obtain ⟨ys, ey, S⟩ := Do
          exact .inl ⟨ys, e.trans ey, S⟩
        · refine .inr ⟨e.trans e2, fun i' c' h1 h2 h3 => ?_⟩
          by_cases he : i' = i
          · subst he
            exact D c' (by omega) h3
          · exact Do i' c' (by omega) h2 h3
/-- All chains joined: no two can be joined any more. -/
structure Done (xs ys : List (List S49)) : Prop where
  chs : Chs ys
  len : ys.length ≤ xs.length
  pts : pts ys + (xs.length - ys.length) = pts xs
  end_ : ∀ i c, i < c → c < ys.length → meets ys i c = false
theorem all_both : ∀ (n : Nat) (xs : List (List S49)), Chs xs → xs.length ≤ n → ∃ ys, Done xs ys ∧ ∀ k, 400 + n < k → impl_JoinAll.l0 k xs = some ys ∧ spec_JoinAll.l1 k xs = some (ys, 0) := by
  intro n
  induction n with
  | zero =>
    intro xs C hn
    obtain ⟨p, H, D⟩ := first_both C xs.length 0 (by omega)
    have hl := C.len
    rcases D with ⟨ys, e, S⟩ | ⟨e, D⟩
    · have := S.len; omega
    · refine ⟨xs, ⟨C, Nat.le_refl _, by omega, fun i c h1 h2 => D i c (by omega) h1 h2⟩, fun k hk => ?_⟩
      obtain ⟨k, rfl⟩ : ∃ m, k = m + 1 := ⟨k - 1, by omega⟩
      obtain ⟨g1, g2⟩ := H k (by omega)
      rw [e] at g1 g2
      have g1' : impl_joinFirst.f k xs = some (xs, false) := g1
      have g2' : spec_l10Next.f k xs = some ([], false) := g2
      unfold impl_JoinAll.l0 spec_JoinAll.l1
      rw [g1', g2', Option.bind_some, Option.bind_some, if_neg (by simp), if_neg (by simp)]
      exact ⟨rfl, rfl⟩
  | succ n ih =>
    intro xs C hn
    obtain ⟨p, H, D⟩ := first_both C xs.length 0 (by omega)
    have hl := C.len
    rcases D with ⟨ys, e, S⟩ | ⟨e, D⟩
    · have sl := S.len
      have sp := S.pts
      obtain ⟨zs, Z, G⟩ := ih ys S.chs (by omega)
      have zl := Z.len
      have zp := Z.pts
      refine ⟨zs, ⟨Z.chs, by omega, by omega, Z.end_⟩, fun k hk => ?_⟩
      obtain ⟨k, rfl⟩ : ∃ m, k = m + 1 := ⟨k - 1, by omega⟩
      obtain ⟨g1, g2⟩ := H k (by omega)
      rw [e] at g1 g2
      have g1' : impl_joinFirst.f k xs = some (ys, true) := g1
      have g2' : spec_l10Next.f k xs = some (ys, true) := g2
      obtain ⟨f1, f2⟩ := G k (by omega)
      unfold impl_JoinAll.l0 spec_JoinAll.l1
      rw [g1', g2', Option.bind_some, Option.bind_some, if_pos rfl, if_pos rfl]
      exact ⟨f1, f2⟩
    · refine ⟨xs, ⟨C, Nat.le_refl _, by omega, fun i c h1 h2 => D i c (by omega) h1 h2⟩, fun k hk => ?_⟩
      obtain ⟨k, rfl⟩ : ∃ m, k = m + 1 := ⟨k - 1, by omega⟩
      obtain ⟨g1, g2⟩ := H k (by omega)
      rw [e] at g1 g2
      have g1' : impl_joinFirst.f k xs = some (xs, false) := g1
      have g2' : spec_l10Next.f k xs = some ([], false) := g2
      unfold impl_JoinAll.l0 spec_JoinAll.l1
      rw [g1', g2', Option.bind_some, Option.bind_some, if_neg (by simp), if_neg (by simp)]
      exact ⟨rfl, rfl⟩
theorem copies {xs : List (List S49)} (C : Chs xs) (r : List (List S49) × Int) (K : Nat) (hr : ∀ k, K ≤ k → spec_JoinAll.l1 k xs = some r) : ∀ (d k i : Nat), i + d = xs.length → K + d < k → spec_JoinAll.l0 k xs (xs.take i) (i : Int) = some r := by
  have hl := C.len
  intro d
  induction d with
  | zero =>
    intro k i hi hk
    obtain ⟨k, rfl⟩ : ∃ m, k = m + 1 := ⟨k - 1, by omega⟩
    have q : ¬ (i : Int) < (xs.length : Int) := by omega
    unfold spec_JoinAll.l0
    rw [if_neg q, List.take_of_length_le (by omega)]
    exact hr k (by omega)
  | succ d ih =>
    intro k i hi hk
    obtain ⟨k, rfl⟩ : ∃ m, k = m + 1 := ⟨k - 1, by omega⟩
    have h : i < xs.length := by omega
    have q : (i : Int) < (xs.length : Int) := by omega
    have q1 : (0 : Int) ≤ (i : Int) := by omega
    have a := C.at_ h
    rw [rowG h] at a
    have z1 : ([] : List S49).length + xs[i].length < 8796093022208 := by have := a.2.2; simp; omega
    have z2 : (xs.take i).length < 5864062014805 := by rw [List.length_take]; omega
    have e := ih k (i + 1) (by omega) (by omega)
    rw [List.take_succ_eq_append_getElem h] at e
    unfold spec_JoinAll.l0
    rw [if_pos q, Option.bind_some, if_pos q1, rdPP h, if_pos z1, if_pos z2, List.nil_append, nxt h (by omega)]
    exact e
end Go.Proofs.Ytmedijjjhabpbaa.Pure
