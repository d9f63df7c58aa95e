/- The greedy places: what the program puts where, and what the reference puts where. -/
import Derived.Test.YtjfkjmfdckbecaaPrint0
import Derived.Test.YtjfkjmfdckbecaaPrint4
import Derived.Test.YtjfkjmfdckbecaaPrint5
import Derived.Test.YtjfkjmfdckbecaaPrint10
import Derived.Test.YtjfkjmfdckbecaaPrint11
import Derived.Test.YtjfkjmfdckbecaaPrint12
import Derived.Test.YtjfkjmfdckbecaaNum
import Derived.Test.YtjfkjmfdckbecaaIntsR
import Derived.Test.YtjfkjmfdckbecaaInts
import Derived.Test.YtjfkjmfdckbecaaIntsQ
import Derived.Test.YtjfkjmfdckbecaaIntsE
import Derived.Test.YtjfkjmfdckbecaaLabA
import Derived.Test.YtjfkjmfdckbecaaLabI
import Derived.Test.YtjfkjmfdckbecaaLabV
import Derived.Test.YtjfkjmfdckbecaaLabMeetS
import Derived.Test.YtjfkjmfdckbecaaGdS
import Derived.Shelf.SlSortCmp.Insertion
namespace Go.Proofs.Ytjfkjmfdckbecaa.Pure
open Go.RowKit Go.Proofs.Ytjfkjmfdckbecaa.Print Go.Proofs.YtjfkjmfdckbecaaW.PrintWords Go.Proofs.YtjfkjmfdckbecaaW.PrintLast Go.Proofs.YtjfkjmfdckbecaaW.PrintMore
set_option linter.unusedVariables false
set_option linter.unusedSimpArgs false
def hit (ls : List S36) (qs : List Int) (i : Nat) (p : Int) (t : Nat) : Bool := !decide (t = i) && (decide (rd qs (t : Int) ≥ 0) && g_mtG (rd_T36 ls (i : Int)) (rd_T36 ls (t : Int)) (rd (rd_T36 ls (i : Int)).f2 p) (rd (rd_T36 ls (t : Int)).f2 (rd qs (t : Int))))
theorem over_all (ls : List S36) (qs : List Int) (hl : ls.length ≤ 1048576) (hq : qs.length ≤ ls.length) (HQ : ∀ t : Nat, t < qs.length → rd qs (t : Int) < ((rd_T36 ls (t : Int)).f2.length : Int)) (i : Nat) (hi : i < ls.length) (p : Int) (hp0 : 0 ≤ p) (hp : p < ((rd_T36 ls (i : Int)).f2.length : Int)) : ∀ (d k j : Nat), qs.length - j = d → j ≤ qs.length → d < k → (∀ t, t < j → hit ls qs i p t = false) →
    impl_overlaps.l0 k ls (i : Int) p qs (qs.length : Int) (j : Int) = some ((List.range qs.length).any (hit ls qs i p)) := by
  intro d
  have HP := Aside0.mk hp
  have HQA := Aside0.mk HQ
  clear hp HQ
  induction d with
  | zero =>
    intro k j hd hj hk hf
    obtain ⟨k, rfl⟩ : ∃ m, k = m + 1 := ⟨k - 1, by omega⟩
    have c1 : ¬ (j : Int) < (qs.length : Int) := by omega
    simp only [impl_overlaps.l0]
    rw [if_neg c1, List.any_eq_false.2 fun t ht => by rw [hf t (by have := List.mem_range.1 ht; omega)]; simp]
  | succ d ih =>
    intro k j hd hj hk hf
    obtain ⟨k, rfl⟩ : ∃ m, k = m + 1 := ⟨k - 1, by omega⟩
    have h : j < qs.length := by omega
    have hnx : wrap64 ((j : Int) + 1) = ((j + 1 : Nat) : Int) := nxt h (by omega)
    have c1 : (j : Int) < (qs.length : Int) := by omega
    have c2 : (0 : Int) ≤ (j : Int) := by omega
    have c3 : (i : Int) < (ls.length : Int) := by omega
    have c4 : (0 : Int) ≤ (i : Int) := by omega
    have c5 : (j : Int) < (ls.length : Int) := by omega
    simp only [impl_overlaps.l0]
    rw [if_pos c1, if_pos c2, if_pos c1, hnx]
    by_cases hji : j = i
    · subst hji
      rw [if_pos rfl]
      refine ih k (j + 1) (by omega) (by omega) (by omega) fun t ht => ?_
      by_cases htj : t = j
      · subst htj; unfold hit; rw [decide_eq_true rfl]; rfl
      · exact hf t (Nat.lt_of_le_of_ne (Nat.le_of_lt_succ ht) htj)
    · have c6 : ¬ (j : Int) = (i : Int) := by omega
      have i1 := ih k (j + 1) (by omega) (by omega) (by omega)
      have hb := HQA.out j h
      have hp := HP.out
      rw [if_neg c6, if_pos hp0]
      have hfa : hit ls qs i p j = (decide (rd qs (j : Int) ≥ 0) && g_mtG (rd_T36 ls (i : Int)) (rd_T36 ls (j : Int)) (rd (rd_T36 ls (i : Int)).f2 p) (rd (rd_T36 ls (j : Int)).f2 (rd qs (j : Int)))) := by
        unfold hit; rw [decide_eq_false hji]; rfl
      by_cases hr : rd qs (j : Int) ≥ 0
      · rw [if_pos hr, if_pos c4, if_pos c3, if_pos c5, if_pos hp0, if_pos hp, if_pos hr, if_pos hb, meet_some, Option.bind_some]
        rw [decide_eq_true hr, Bool.true_and] at hfa
        cases e : g_meet (rd_T36 ls (i : Int)).f0 (rd_T36 ls (i : Int)).f1 (rd_T36 ls (j : Int)).f0 (rd_T36 ls (j : Int)).f1 (rd (rd_T36 ls (i : Int)).f2 p) (rd (rd_T36 ls (j : Int)).f2 (rd qs (j : Int))) with
        | true => rw [if_pos rfl, List.any_eq_true.2 ⟨j, List.mem_range.2 h, by rw [hfa]; exact e⟩]
        | false =>
          rw [if_neg (by simp)]
          refine i1 fun t ht => ?_
          by_cases htj : t = j
          · subst htj; rw [hfa]; exact e
          · exact hf t (Nat.lt_of_le_of_ne (Nat.le_of_lt_succ ht) htj)
      · rw [if_neg hr]
        refine i1 fun t ht => ?_
        by_cases htj : t = j
        · subst htj; rw [hfa, decide_eq_false hr, Bool.false_and]
        · exact hf t (Nat.lt_of_le_of_ne (Nat.le_of_lt_succ ht) htj)
theorem ord_perm (l0 : List S36) : ∀ i, (g_ord l0 (i + 1)).Perm ((i : Int) :: g_ord l0 i) := by
  intro i
  have e : g_ord l0 (i + 1) = ((g_ord l0 i).take (g_find l0 (g_ord l0 i) (g_wt l0 (i : Int)) (g_ord l0 i).length) ++ [(i : Int)]) ++ (g_ord l0 i).drop (g_find l0 (g_ord l0 i) (g_wt l0 (i : Int)) (g_ord l0 i).length) := rfl
  rw [e, List.append_assoc, List.singleton_append]
  refine List.perm_middle.trans ?_
  rw [List.take_append_drop]
theorem ord_nodup (l0 : List S36) : ∀ i, (g_ord l0 i).Nodup := by
  intro i
  induction i with
  | zero => exact List.nodup_nil
  | succ i ih =>
    refine (ord_perm l0 i).nodup_iff.2 (List.nodup_cons.2 ⟨fun h => ?_, ih⟩)
    have := ord_in l0 i _ h
    omega
theorem ord_mem (l0 : List S36) : ∀ i t : Nat, t < i → (t : Int) ∈ g_ord l0 i := by
  intro i
  induction i with
  | zero => intro t h; omega
  | succ i ih =>
    intro t h
    refine (ord_perm l0 i).mem_iff.2 ?_
    by_cases e : t = i
    · subst e; exact List.mem_cons_self ..
    · exact List.mem_cons_of_mem _ (ih t (by omega))
theorem rd_set_at (xp : List Int) (m : Nat) (c : Int) (hm : m < xp.length) : rd (xp.set m c) (m : Int) = c := by
  rw [rdI (by simpa using hm)]; simp
theorem rd_set_ne (xp : List Int) (m t : Nat) (c : Int) (h : m ≠ t) : rd (xp.set m c) (t : Int) = rd xp (t : Int) := by
  simp [rd, List.getD_eq_getElem?_getD, List.getElem?_set_ne h]
/-- An order of the labels. -/
structure Ord (ls : List S36) (y : List Int) : Prop where
  len : y.length = ls.length
  in_ : ∀ j : Nat, j < ls.length → 0 ≤ rd y (j : Int) ∧ rd y (j : Int) < (ls.length : Int)
  inj : ∀ i j : Nat, i < ls.length → j < ls.length → rd y (i : Int) = rd y (j : Int) → i = j
theorem ord_ord (ls : List S36) : Ord ls (g_ord ls ls.length) := by
  have hl := ord_len ls ls.length
  refine ⟨hl, fun j hj => ?_, fun i j hi hj e => ?_⟩
  · rw [rdI (by omega)]
    exact ord_in ls _ _ (List.getElem_mem _)
  · rw [rdI (by omega), rdI (by omega)] at e
    have hp := List.pairwise_iff_getElem.1 (ord_nodup ls ls.length)
    rcases Nat.lt_trichotomy i j with h | h | h
    · exact absurd e (hp i j (by omega) (by omega) h)
    · exact h
    · exact absurd e.symm (hp j i (by omega) (by omega) h)
/-- The places behind the first i rounds. -/
structure Inv (ls : List S36) (y xp : List Int) (i : Nat) : Prop where
  len : xp.length = ls.length
  at_ : ∀ t : Nat, t < ls.length → -1 ≤ rd xp (t : Int) ∧ rd xp (t : Int) < ((rd_T36 ls (t : Int)).f2.length : Int)
  seen : ∀ t : Nat, t < ls.length → 0 ≤ rd xp (t : Int) → ∃ j, j < i ∧ rd y (j : Int) = (t : Int)
theorem inv_up {ls : List S36} {y xp : List Int} {i : Nat} (v : Inv ls y xp i) : Inv ls y xp (i + 1) :=
  ⟨v.len, v.at_, fun t ht h => by obtain ⟨j, hj, e⟩ := v.seen t ht h; exact ⟨j, by omega, e⟩⟩
theorem inv_put {ls : List S36} {y xp : List Int} {i I : Nat} (v : Inv ls y xp i) (hI : I < ls.length) (e : rd y (i : Int) = (I : Int)) (c : Int) (h0 : 0 ≤ c) (h1 : c < ((rd_T36 ls (I : Int)).f2.length : Int)) : Inv ls y (xp.set I c) (i + 1) := by
  have hl := v.len
  refine ⟨by rw [List.length_set]; exact hl, fun t ht => ?_, fun t ht h => ?_⟩
  · by_cases htI : I = t
    · subst htI
      rw [rd_set_at _ _ _ (by omega)]
      exact ⟨by omega, h1⟩
    · rw [rd_set_ne _ _ _ _ htI]
      exact v.at_ t ht
  · by_cases htI : I = t
    · subst htI
      exact ⟨i, by omega, e⟩
    · rw [rd_set_ne _ _ _ _ htI] at h
      obtain ⟨j, hj, e⟩ := v.seen t ht h
      exact ⟨j, by omega, e⟩
theorem inv_try {ls : List S36} {y xp : List Int} {i I : Nat} (v : Inv ls y xp i) (hI : I < ls.length) (e : rd y (i : Int) = (I : Int)) : ∀ (d c : Nat), c + d = (rd_T36 ls (I : Int)).f2.length → Inv ls y (g_try ls y xp i d c) (i + 1) := by
  intro d
  induction d with
  | zero => intro c hc; exact inv_up v
  | succ d ih =>
    intro c hc
    unfold g_try
    split
    · rw [e, Int.toNat_natCast]
      exact inv_put v hI e _ (by omega) (by omega)
    · exact ih (c + 1) (by omega)
theorem ord_at {ls : List S36} {y : List Int} (O : Ord ls y) {i : Nat} (hi : i < ls.length) : ∃ I : Nat, I < ls.length ∧ rd y (i : Int) = (I : Int) := by
  obtain ⟨h0, h1⟩ := O.in_ i hi
  exact ⟨(rd y (i : Int)).toNat, by omega, by omega⟩
theorem inv_zero (ls : List S36) (y : List Int) : Inv ls y (g_outs ls y 0) 0 := by
  have e : g_outs ls y 0 = List.replicate ls.length (-1) := rfl
  rw [e]
  have hr : ∀ t : Nat, t < ls.length → rd (List.replicate ls.length (-1)) (t : Int) = -1 := fun t ht => by rw [rdI (by simpa using ht)]; simp
  refine ⟨by simp, fun t ht => ?_, fun t ht h => ?_⟩
  · rw [hr t ht]; omega
  · rw [hr t ht] at h; omega
theorem inv_outs {ls : List S36} {y : List Int} (O : Ord ls y) : ∀ i, i ≤ ls.length → Inv ls y (g_outs ls y i) i := by
  intro i
  induction i with
  | zero => intro _; exact inv_zero ls y
  | succ i ih =>
    intro hi
    obtain ⟨I, hI, e⟩ := ord_at O (i := i) (by omega)
    have := inv_try (ih (by omega)) hI e (rd_T36 ls (I : Int)).f2.length 0 (by omega)
    unfold g_outs
    rw [e]
    exact this
theorem okG {ls : List S36} {y : List Int} (O : Ord ls y) : g_okG ls y = true := by
  unfold g_okG
  rw [O.len]
  refine List.all_eq_true.2 fun i hi => List.all_eq_true.2 fun j hj => ?_
  have hi := List.mem_range.1 hi
  obtain ⟨J, hJ, e⟩ := ord_at O (List.mem_range.1 hj)
  rw [e]
  exact decide_eq_true ((inv_outs O i (by omega)).at_ J hJ).2
theorem fr_hit {ls : List S36} {y xp : List Int} {i I : Nat} (O : Ord ls y) (v : Inv ls y xp i) (hi : i < ls.length) (e : rd y (i : Int) = (I : Int)) (p : Int) : (List.range xp.length).any (hit ls xp I p) = !g_fr ls y xp i p := by
  have hl := v.len
  have key : ∀ j : Nat, j < i → hit ls xp I p (rd y (j : Int)).toNat = !g_frP ls y xp i p j := by
    intro j hj
    obtain ⟨J, hJ, eJ⟩ := ord_at O (i := j) (by omega)
    have hne : ¬ J = I := fun h => by
      have := O.inj j i (by omega) hi (by rw [eJ, e, h])
      omega
    unfold hit g_frP
    rw [eJ, e, Int.toNat_natCast, decide_eq_false hne, Bool.not_false, Bool.true_and, Bool.not_or, Bool.not_not]
    congr 1
    by_cases h : rd xp (J : Int) < 0
    · rw [decide_eq_true h, decide_eq_false (by omega)]; rfl
    · rw [decide_eq_false h, decide_eq_true (by omega)]; rfl
  rw [Bool.eq_iff_iff]
  constructor
  · intro h
    obtain ⟨t, ht, h⟩ := List.any_eq_true.1 h
    have ht := List.mem_range.1 ht
    have h0 : 0 ≤ rd xp (t : Int) := by
      unfold hit at h
      simp only [Bool.and_eq_true, decide_eq_true_eq] at h
      exact h.2.1
    obtain ⟨j, hj, ej⟩ := v.seen t (by omega) h0
    have := key j hj
    rw [ej, Int.toNat_natCast, h] at this
    have hg : g_frP ls y xp i p j = false := by
      cases hh : g_frP ls y xp i p j with
      | true => rw [hh] at this; cases this
      | false => rfl
    have hf : g_fr ls y xp i p = false := by
      unfold g_fr
      exact List.all_eq_false.2 ⟨j, List.mem_range.2 hj, by rw [hg]; simp⟩
    rw [hf]; rfl
  · intro h
    have hf : g_fr ls y xp i p = false := by cases hh : g_fr ls y xp i p with | true => rw [hh] at h; cases h | false => rfl
    unfold g_fr at hf
    obtain ⟨j, hj, hp⟩ := List.all_eq_false.1 hf
    have hj := List.mem_range.1 hj
    obtain ⟨J, hJ, eJ⟩ := ord_at O (i := j) (by omega)
    refine List.any_eq_true.2 ⟨J, List.mem_range.2 (by omega), ?_⟩
    have := key j hj
    rw [eJ, Int.toNat_natCast] at this
    rw [this, Bool.eq_false_iff.2 hp]
    rfl
theorem l3_try {ls : List S36} {y xp : List Int} {i I : Nat} (O : Ord ls y) (v : Inv ls y xp i) (hl : ls.length ≤ 8) (hi : i < ls.length) (hI : I < ls.length) (e : rd y (i : Int) = (I : Int)) (hs : (rd_T36 ls (I : Int)).f2.length ≤ 3) (r : List Int) (K : Nat) (hK : 9 ≤ K) : ∀ (d c k : Nat), c + d = (rd_T36 ls (I : Int)).f2.length → K + d < k →
    (∀ k', K ≤ k' → impl_GreedyPlaces.l2 k' ls y (g_try ls y xp i d c) ((i + 1 : Nat) : Int) = some r) → impl_GreedyPlaces.l3 k ls y xp (i : Int) (c : Int) = some r := by
  have hlen := v.len
  have hn1 : wrap64 ((i : Int) + 1) = ((i + 1 : Nat) : Int) := nxt hi (by omega)
  intro d
  induction d with
  | zero =>
    intro c k hc hk H
    obtain ⟨k, rfl⟩ : ∃ m, k = m + 1 := ⟨k - 1, by omega⟩
    unfold impl_GreedyPlaces.l3
    rw [e, if_neg (by omega), hn1]
    exact H k (by omega)
  | succ d ih =>
    intro c k hc hk H
    obtain ⟨k, rfl⟩ : ∃ m, k = m + 1 := ⟨k - 1, by omega⟩
    have ho := over_all ls xp (by omega) (by omega) (fun t ht => (v.at_ t (by omega)).2) I hI (c : Int) (by omega) (by omega) xp.length k 0 (by omega) (by omega) (by omega) (fun t ht => by omega)
    rw [Int.natCast_zero, fr_hit O v hi e] at ho
    have hn2 : wrap64 ((c : Int) + 1) = ((c + 1 : Nat) : Int) := nxt (show c < (rd_T36 ls (I : Int)).f2.length by omega) (by omega)
    unfold impl_GreedyPlaces.l3 impl_overlaps.f
    rw [e, if_pos (by omega), ho, Option.bind_some, hn1, hn2]
    have hg : g_try ls y xp i (d + 1) c = if g_fr ls y xp i (c : Int) = true then xp.set (rd y (i : Int)).toNat (c : Int) else g_try ls y xp i d (c + 1) := rfl
    rw [hg, e] at H
    cases hf : g_fr ls y xp i (c : Int) with
    | true =>
      simp only [hf, if_true] at H
      rw [if_neg (by simp), if_pos (by omega), if_pos (by omega)]
      exact H k (by omega)
    | false =>
      simp only [hf, Bool.false_eq_true, if_false] at H
      rw [if_pos (by simp)]
      exact ih (c + 1) k (by omega) (by omega) H
theorem l2_all {ls : List S36} {y : List Int} (O : Ord ls y) (hl : ls.length ≤ 8) (hs : ∀ I : Nat, I < ls.length → (rd_T36 ls (I : Int)).f2.length ≤ 3) : ∀ (d i k : Nat), i + d = ls.length → 10 * d + 10 ≤ k → impl_GreedyPlaces.l2 k ls y (g_outs ls y i) (i : Int) = some (g_outs ls y ls.length) := by
  have hyl := O.len
  intro d
  induction d with
  | zero =>
    intro i k hi hk
    obtain ⟨k, rfl⟩ : ∃ m, k = m + 1 := ⟨k - 1, by omega⟩
    unfold impl_GreedyPlaces.l2
    rw [if_neg (by omega), show i = ls.length by omega]
  | succ d ih =>
    intro i k hi hk
    obtain ⟨k, rfl⟩ : ∃ m, k = m + 1 := ⟨k - 1, by omega⟩
    obtain ⟨I, hI, e⟩ := ord_at O (i := i) (by omega)
    have h3 := hs I hI
    have hg : g_outs ls y (i + 1) = g_try ls y (g_outs ls y i) i (rd_T36 ls (rd y (i : Int))).f2.length 0 := rfl
    rw [e] at hg
    have := l3_try O (inv_outs O i (by omega)) hl (by omega) hI e h3 (g_outs ls y ls.length) (10 * d + 10) (by omega) (rd_T36 ls (I : Int)).f2.length 0 k (by omega) (by omega) (fun k' hk' => by rw [← hg]; exact ih (i + 1) k' (by omega) hk')
    rw [Int.natCast_zero] at this
    unfold impl_GreedyPlaces.l2
    rw [if_pos (by omega), if_pos (by omega), e, if_pos (by omega), if_pos (by omega)]
    exact this
theorem lab_at {ls : List S36} (h : g_labs ls = true) {i : Nat} (hi : i < ls.length) : g_lab (rd_T36 ls (i : Int)) = true := by
  unfold g_labs at h
  rw [Bool.and_eq_true] at h
  rw [rdLb hi]
  exact List.all_eq_true.1 h.1 _ (List.getElem_mem hi)
theorem one_out {a0 a1 a3 : Int} {l : List Int} (h : g_one a0 a1 l a3 = true) : l.length ≤ 3 ∧ 1 ≤ a3 ∧ a3 ≤ 1000 := by
  unfold g_one g_in at h
  simp only [Bool.and_eq_true, decide_eq_true_eq] at h
  omega
theorem labs_len {ls : List S36} (h : g_labs ls = true) : ls.length ≤ 8 := by
  unfold g_labs at h
  rw [Bool.and_eq_true, decide_eq_true_eq] at h
  exact h.2
theorem small_w {ls : List S36} (h : g_labs ls = true) : SmallW ls := by
  intro i h0 h1
  obtain ⟨i, rfl⟩ : ∃ m : Nat, i = m := ⟨i.toNat, by omega⟩
  have := one_out (lab_at h (i := i) (by omega))
  unfold g_wt
  omega
theorem bothGreedy (ls : List S36) (hl : ls.length ≤ 1048576) (hw : ∀ c ∈ ls, c.f2.length ≤ 1048576) (k : Nat) (hk : 4000000 < k) : ∃ (r : List Int) (c : Int), r.length ≤ 1048576 ∧ spec_GreedyPlaces.f ls = some (r, c) ∧ impl_GreedyPlaces.f k ls = some (r, c) := by
  unfold spec_GreedyPlaces.f impl_GreedyPlaces.f spec_l11Ok.f
  rw [valid_labs ls (by omega) hw k (by omega), Option.bind_some, Option.bind_some]
  cases h : g_labs ls with
  | false => exact ⟨[], 1, by simp, by simp, by simp⟩
  | true =>
    have h8 := labs_len h
    have O := ord_ord ls
    have e := l2_all O h8 (fun I hI => (one_out (lab_at h hI)).1) ls.length 0 k (by omega) (by omega)
    rw [Int.natCast_zero] at e
    refine ⟨g_outs ls (g_ord ls ls.length) ls.length, 0, by have := (inv_outs O ls.length (Nat.le_refl _)).len; omega, ?_, ?_⟩
    · rw [if_pos rfl, if_pos (by omega), if_pos (okG O)]
    · rw [if_pos rfl, if_pos (by omega), sort_ord (small_w h)]
      have e0 : (List.replicate ls.length (-1) : List Int) = g_outs ls (g_ord ls ls.length) 0 := rfl
      rw [e0, e]
      rfl
end Go.Proofs.Ytjfkjmfdckbecaa.Pure
