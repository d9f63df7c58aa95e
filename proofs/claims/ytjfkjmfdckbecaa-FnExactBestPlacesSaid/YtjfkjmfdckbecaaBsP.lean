/- The best places: the program's search and the reference's search find the same. -/
import Derived.Test.YtjfkjmfdckbecaaPrint0
import Derived.Test.YtjfkjmfdckbecaaPrint3
import Derived.Test.YtjfkjmfdckbecaaPrint5
import Derived.Test.YtjfkjmfdckbecaaPrint6
import Derived.Test.YtjfkjmfdckbecaaPrint8
import Derived.Test.YtjfkjmfdckbecaaPrint9
import Derived.Test.YtjfkjmfdckbecaaPrint10
import Derived.Test.YtjfkjmfdckbecaaPrint11
import Derived.Test.YtjfkjmfdckbecaaNum
import Derived.Test.YtjfkjmfdckbecaaIntsR
import Derived.Test.YtjfkjmfdckbecaaInts
import Derived.Test.YtjfkjmfdckbecaaIntsQ
import Derived.Test.YtjfkjmfdckbecaaIntsE
import Derived.Test.YtjfkjmfdckbecaaLabA
import Derived.Test.YtjfkjmfdckbecaaLabI
import Derived.Test.YtjfkjmfdckbecaaLabV
import Derived.Test.YtjfkjmfdckbecaaLabMeetS
import Derived.Test.YtjfkjmfdckbecaaGdH
namespace Go.Proofs.Ytjfkjmfdckbecaa.Pure
open Go.RowKit Go.Proofs.Ytjfkjmfdckbecaa.Print Go.Proofs.YtjfkjmfdckbecaaW.PrintWords Go.Proofs.YtjfkjmfdckbecaaW.PrintLast Go.Proofs.YtjfkjmfdckbecaaW.PrintMore
set_option linter.unusedVariables false
set_option linter.unusedSimpArgs false
theorem rd_app (A B : List Int) {k : Nat} (h : k < A.length) : rd (A ++ B) (k : Int) = rd A (k : Int) := by
  simp [rd, List.getD, List.getElem?_append_left h]
theorem rd_end (A : List Int) (y : Int) : rd (A ++ [y]) (A.length : Int) = y := by simp [rd]
theorem meet_com (a0 a1 b0 b1 x y : Int) : g_meet a0 a1 b0 b1 x y = g_meet b0 b1 a0 a1 y x := by
  unfold g_meet
  rw [Bool.eq_iff_iff]
  simp only [Bool.and_eq_true, beq_iff_eq, decide_eq_true_eq]
  constructor <;> rintro ⟨h1, h2, h3⟩ <;> exact ⟨h1.symm, h3, h2⟩
/-- Places of the first labels. -/
structure Pre (ls : List S36) (qs : List Int) : Prop where
  len : qs.length ≤ ls.length
  at_ : ∀ t : Nat, t < qs.length → -1 ≤ rd qs (t : Int) ∧ rd qs (t : Int) < ((rd_T36 ls (t : Int)).f2.length : Int)
theorem Pre.nil (ls : List S36) : Pre ls [] := ⟨by simp, fun t ht => absurd ht (by simp)⟩
theorem Pre.push {ls : List S36} {qs : List Int} (P : Pre ls qs) (h : qs.length < ls.length) {c : Int} (h0 : -1 ≤ c) (h1 : c < ((rd_T36 ls (qs.length : Int)).f2.length : Int)) : Pre ls (qs ++ [c]) := by
  refine ⟨by rw [List.length_append, List.length_singleton]; omega, fun t ht => ?_⟩
  rw [List.length_append, List.length_singleton] at ht
  by_cases e : t = qs.length
  · subst e
    rw [rd_end]
    exact ⟨h0, h1⟩
  · rw [rd_app _ _ (by omega)]
    exact P.at_ t (by omega)
/-- What a label weighs where it is placed. -/
def wAt (ls : List S36) (qs : List Int) (t : Nat) : Int := if rd qs (t : Int) ≥ 0 then (rd_T36 ls (t : Int)).f3 else 0
def wSum (ls : List S36) (qs : List Int) : Nat → Int
  | 0 => 0
  | t + 1 => wSum ls qs t + wAt ls qs t
/-- The labels are valid. -/
structure OkLs (ls : List S36) : Prop where
  len : ls.length ≤ 8
  st : ∀ t : Nat, t < ls.length → (rd_T36 ls (t : Int)).f2.length ≤ 3
  w : ∀ t : Nat, t < ls.length → 1 ≤ (rd_T36 ls (t : Int)).f3 ∧ (rd_T36 ls (t : Int)).f3 ≤ 1000
theorem okls {ls : List S36} (h : g_labs ls = true) : OkLs ls :=
  ⟨labs_len h, fun _ ht => (one_out (lab_at h ht)).1, fun _ ht => (one_out (lab_at h ht)).2⟩
theorem wAt_in {ls : List S36} (K : OkLs ls) (qs : List Int) {t : Nat} (ht : t < ls.length) : 0 ≤ wAt ls qs t ∧ wAt ls qs t ≤ 1000 := by
  have h := K.w t ht
  unfold wAt
  split
  · exact ⟨by omega, h.2⟩
  · exact ⟨by omega, by omega⟩
theorem wSum_in {ls : List S36} (K : OkLs ls) (qs : List Int) : ∀ t, t ≤ ls.length → 0 ≤ wSum ls qs t ∧ wSum ls qs t ≤ 1000 * (t : Int) := by
  intro t
  induction t with
  | zero => intro _; exact ⟨by unfold wSum; omega, by unfold wSum; omega⟩
  | succ t ih =>
    intro h
    have h1 := ih (by omega)
    have h2 := wAt_in K qs (t := t) (by omega)
    have e : wSum ls qs (t + 1) = wSum ls qs t + wAt ls qs t := rfl
    rw [e]
    generalize wSum ls qs t = x at *
    generalize wAt ls qs t = y at *
    omega
theorem wSum_small {ls : List S36} (K : OkLs ls) (qs : List Int) (t : Nat) (h : t ≤ ls.length) : 0 ≤ wSum ls qs t ∧ wSum ls qs t ≤ 8000 := by
  have h1 := wSum_in K qs t h
  have h2 := K.len
  generalize wSum ls qs t = x at *
  omega
theorem wSum_app (ls : List S36) (qs : List Int) (c : Int) : ∀ t, t ≤ qs.length → wSum ls (qs ++ [c]) t = wSum ls qs t := by
  intro t
  induction t with
  | zero => intro _; rfl
  | succ t ih =>
    intro h
    have e1 : wSum ls (qs ++ [c]) (t + 1) = wSum ls (qs ++ [c]) t + wAt ls (qs ++ [c]) t := rfl
    have e2 : wSum ls qs (t + 1) = wSum ls qs t + wAt ls qs t := rfl
    rw [e1, e2, ih (by omega)]
    unfold wAt
    rw [rd_app _ _ (by omega)]
/-- What the places weigh. -/
def wAll (ls : List S36) (qs : List Int) : Int := wSum ls qs qs.length
theorem wAll_push (ls : List S36) (qs : List Int) (c : Int) : wAll ls (qs ++ [c]) = wAll ls qs + (if c ≥ 0 then (rd_T36 ls (qs.length : Int)).f3 else 0) := by
  unfold wAll
  rw [List.length_append, List.length_singleton]
  have e1 : wSum ls (qs ++ [c]) (qs.length + 1) = wSum ls (qs ++ [c]) qs.length + wAt ls (qs ++ [c]) qs.length := rfl
  rw [e1, wSum_app ls qs c _ (Nat.le_refl _)]
  unfold wAt
  rw [rd_end]
theorem wp_loop {ls : List S36} (K : OkLs ls) (qs : List Int) (hq : qs.length ≤ ls.length) : ∀ (d k i : Nat), i + d = qs.length → d < k → impl_weightPlaced.l0 k ls (wSum ls qs i) qs (qs.length : Int) (i : Int) = some (wAll ls qs) := by
  have hl := K.len
  intro d
  induction d with
  | zero =>
    intro k i hd hk
    obtain ⟨k, rfl⟩ : ∃ m, k = m + 1 := ⟨k - 1, by omega⟩
    have c1 : ¬ (i : Int) < (qs.length : Int) := by omega
    unfold impl_weightPlaced.l0
    rw [if_neg c1, show i = qs.length by omega]
    rfl
  | succ d ih =>
    intro k i hd hk
    obtain ⟨k, rfl⟩ : ∃ m, k = m + 1 := ⟨k - 1, by omega⟩
    have c1 : (i : Int) < (qs.length : Int) := by omega
    have c2 : (0 : Int) ≤ (i : Int) := by omega
    have c3 : (i : Int) < (ls.length : Int) := by omega
    have hn : wrap64 ((i : Int) + 1) = ((i + 1 : Nat) : Int) := nxt (show i < qs.length by omega) (by omega)
    have i1 := ih k (i + 1) (by omega) (by omega)
    have e2 : wSum ls qs (i + 1) = wSum ls qs i + wAt ls qs i := rfl
    have h1 := wSum_small K qs i (by omega)
    have h2 := wAt_in K qs (t := i) (by omega)
    have hw : wrap64 (wSum ls qs i + wAt ls qs i) = wSum ls qs i + wAt ls qs i := by
      generalize wSum ls qs i = x at *
      generalize wAt ls qs i = y at *
      exact w64 (by omega) (by omega)
    unfold impl_weightPlaced.l0
    rw [if_pos c1, if_pos c2, if_pos c1, hn]
    rw [e2] at i1
    by_cases hr : rd qs (i : Int) ≥ 0
    · have e3 : wAt ls qs i = (rd_T36 ls (i : Int)).f3 := by unfold wAt; rw [if_pos hr]
      rw [e3] at hw i1
      rw [if_pos hr, if_pos c3, hw]
      exact i1
    · have e3 : wAt ls qs i = 0 := by unfold wAt; rw [if_neg hr]
      rw [e3, Int.add_zero] at i1
      rw [if_neg hr]
      exact i1
theorem wp_some {ls : List S36} (K : OkLs ls) (qs : List Int) (hq : qs.length ≤ ls.length) (k : Nat) (hk : qs.length < k) : impl_weightPlaced.f k ls qs = some (wAll ls qs) := by
  have := wp_loop K qs hq qs.length k 0 (by omega) hk
  unfold impl_weightPlaced.f
  exact this
/-- Whether the next label at its start c hits none of those in front of it. -/
def hitsP (ls : List S36) (qs : List Int) (c : Int) : Bool := (List.range qs.length).any (hit ls qs qs.length c)
theorem ov_pos {ls : List S36} (K : OkLs ls) {qs : List Int} (P : Pre ls qs) (h : qs.length < ls.length) {c : Int} (h0 : 0 ≤ c) (h1 : c < ((rd_T36 ls (qs.length : Int)).f2.length : Int)) (k : Nat) (hk : qs.length < k) : impl_overlaps.f k ls qs (qs.length : Int) c = some (hitsP ls qs c) := by
  have hl := K.len
  have := over_all ls qs (by omega) P.len (fun t ht => (P.at_ t ht).2) qs.length h c h0 h1 qs.length k 0 (by omega) (by omega) hk (fun t ht => absurd ht (by omega))
  unfold impl_overlaps.f
  exact this
theorem ov_neg_loop (ls : List S36) (qs : List Int) (hl : qs.length ≤ 1048576) (i : Int) (p : Int) (hp0 : ¬ p ≥ 0) : ∀ (d k j : Nat), qs.length - j = d → j ≤ qs.length → d < k → impl_overlaps.l0 k ls i p qs (qs.length : Int) (j : Int) = some false := by
  intro d
  induction d with
  | zero =>
    intro k j hd hj hk
    obtain ⟨k, rfl⟩ : ∃ m, k = m + 1 := ⟨k - 1, by omega⟩
    have c1 : ¬ (j : Int) < (qs.length : Int) := by omega
    simp only [impl_overlaps.l0]
    rw [if_neg c1]
  | succ d ih =>
    intro k j hd hj hk
    obtain ⟨k, rfl⟩ : ∃ m, k = m + 1 := ⟨k - 1, by omega⟩
    have h : j < qs.length := by omega
    have c1 : (j : Int) < (qs.length : Int) := by omega
    have c2 : (0 : Int) ≤ (j : Int) := by omega
    have i1 := ih k (j + 1) (by omega) (by omega) (by omega)
    have hn : wrap64 ((j : Int) + 1) = ((j + 1 : Nat) : Int) := nxt h (by omega)
    simp only [impl_overlaps.l0]
    rw [if_pos c1, if_pos c2, if_pos c1, hn, i1, if_neg hp0]
    split <;> rfl
theorem ov_neg {ls : List S36} (K : OkLs ls) {qs : List Int} (P : Pre ls qs) (k : Nat) (hk : qs.length < k) : impl_overlaps.f k ls qs (qs.length : Int) (-1) = some false := by
  have hl := K.len
  have hp := P.len
  have := ov_neg_loop ls qs (by omega) (qs.length : Int) (-1) (by omega) qs.length k 0 (by omega) (by omega) hk
  unfold impl_overlaps.f
  exact this
theorem free_pos {ls : List S36} {qs : List Int} (P : Pre ls qs) (h : qs.length < ls.length) (c : Int) : spec_l11Free.f ls qs (qs.length : Int) (rd (rd_T36 ls (qs.length : Int)).f2 c) = some (!hitsP ls qs c) := by
  have hpre : g_freePre ls qs (qs.length : Int) = true := by
    unfold g_freePre
    have q1 : (0 : Int) ≤ (qs.length : Int) := by omega
    have q2 : (qs.length : Int) < (ls.length : Int) := by omega
    have q3 : (qs.length : Int) ≤ (qs.length : Int) := by omega
    rw [decide_eq_true q1, decide_eq_true q2, decide_eq_true q3, Bool.true_and, Bool.true_and, Bool.true_and, Int.toNat_natCast]
    exact List.all_eq_true.2 fun t ht => decide_eq_true (P.at_ t (List.mem_range.1 ht)).2
  unfold spec_l11Free.f
  rw [if_pos hpre, Int.toNat_natCast]
  congr 2
  unfold hitsP
  rw [Bool.eq_iff_iff]
  have key : ∀ t ∈ List.range qs.length, g_freeAt ls qs (qs.length : Int) (rd (rd_T36 ls (qs.length : Int)).f2 c) t = hit ls qs qs.length c t := by
    intro t ht
    have ht := List.mem_range.1 ht
    unfold g_freeAt g_meetL hit
    rw [decide_eq_false (show ¬ t = qs.length by omega), Bool.not_false, Bool.true_and, meet_com]
  constructor
  · intro hh
    obtain ⟨t, ht, e⟩ := List.any_eq_true.1 hh
    exact List.any_eq_true.2 ⟨t, ht, by rw [← key t ht]; exact e⟩
  · intro hh
    obtain ⟨t, ht, e⟩ := List.any_eq_true.1 hh
    exact List.any_eq_true.2 ⟨t, ht, by rw [key t ht]; exact e⟩
/-- What both searches find: of the right length. -/
def Fnd (ls : List S36) (b : List Int) (r : List Int × Int) : Prop := r.1 = b ∨ r.1.length = ls.length
theorem Fnd.then_ {ls : List S36} {b : List Int} {r r2 : List Int × Int} (h : Fnd ls b r) (h2 : Fnd ls r.1 r2) : Fnd ls b r2 := by
  rcases h2 with e | e
  · rcases h with e1 | e1
    · exact .inl (e.trans e1)
    · exact .inr (by rw [e]; exact e1)
  · exact .inr e
theorem bs_both {ls : List S36} (K : OkLs ls) : ∀ (d : Nat) (qs : List Int), Pre ls qs → qs.length + d = ls.length → ∀ (b : List Int) (m : Int), ∃ r, Fnd ls b r ∧ ∀ k, 20 * d + 20 ≤ k → impl_BestPlaces.l1 k ls qs b m = some r ∧ spec_l11W_walk.f k ls qs (wAll ls qs) b m = some r := by
  have hl := K.len
  intro d
  induction d with
  | zero =>
    intro qs P hd b m
    have hpl := P.len
    have e0 : (qs.length : Int) = (ls.length : Int) := by omega
    by_cases hm : wAll ls qs > m
    · refine ⟨(qs, wAll ls qs), .inr (by show qs.length = ls.length; omega), fun k hk => ?_⟩
      obtain ⟨k, rfl⟩ : ∃ n, k = n + 1 := ⟨k - 1, by omega⟩
      have hw := wp_some K qs hpl k (by omega)
      unfold impl_BestPlaces.l1 spec_l11W_walk.f
      rw [if_pos e0, hw, Option.bind_some, if_pos hm, if_pos (by omega), if_pos e0, if_pos hm]
      exact ⟨rfl, rfl⟩
    · refine ⟨(b, m), .inl rfl, fun k hk => ?_⟩
      obtain ⟨k, rfl⟩ : ∃ n, k = n + 1 := ⟨k - 1, by omega⟩
      have hw := wp_some K qs hpl k (by omega)
      unfold impl_BestPlaces.l1 spec_l11W_walk.f
      rw [if_pos e0, hw, Option.bind_some, if_neg hm, if_pos e0, if_neg hm]
      exact ⟨rfl, rfl⟩
  | succ d ih =>
    intro qs P hd b m
    have h : qs.length < ls.length := by omega
    have hst := K.st qs.length h
    have hwt := K.w qs.length h
    have hws := wSum_small K qs qs.length P.len
    have loop : ∀ (e c : Nat), c + e = (rd_T36 ls (qs.length : Int)).f2.length → ∀ (b : List Int) (m : Int), ∃ r, Fnd ls b r ∧ ∀ k, 20 * d + 20 + e + 1 ≤ k → impl_BestPlaces.l0 k ls qs (c : Int) b m = some r ∧ spec_l11W_walk.l0 k ls qs (wAll ls qs) (c : Int) b m = some r := by
      intro e
      induction e with
      | zero =>
        intro c hc b m
        refine ⟨(b, m), .inl rfl, fun k hk => ?_⟩
        obtain ⟨k, rfl⟩ : ∃ n, k = n + 1 := ⟨k - 1, by omega⟩
        have c1 : ¬ (c : Int) < ((rd_T36 ls (qs.length : Int)).f2.length : Int) := by omega
        unfold impl_BestPlaces.l0 spec_l11W_walk.l0
        rw [if_neg c1, if_neg c1]
        exact ⟨rfl, rfl⟩
      | succ e ihe =>
        intro c hc b m
        have c1 : (c : Int) < ((rd_T36 ls (qs.length : Int)).f2.length : Int) := by omega
        have c0 : (0 : Int) ≤ (c : Int) := by omega
        have cm : (-1 : Int) ≤ (c : Int) := by omega
        have hn : wrap64 ((c : Int) + 1) = ((c + 1 : Nat) : Int) := nxt (show c < (rd_T36 ls (qs.length : Int)).f2.length by omega) (by omega)
        have hf := free_pos P h (c : Int)
        cases hh : hitsP ls qs (c : Int) with
        | true =>
          obtain ⟨r, F, H⟩ := ihe (c + 1) (by omega) b m
          refine ⟨r, F, fun k hk => ?_⟩
          obtain ⟨k, rfl⟩ : ∃ n, k = n + 1 := ⟨k - 1, by omega⟩
          have ho := ov_pos K P h c0 c1 k (by omega)
          rw [hh] at ho hf
          obtain ⟨g1, g2⟩ := H k (by omega)
          unfold impl_BestPlaces.l0 spec_l11W_walk.l0
          rw [if_pos c1, if_pos c1, ho, hf, Option.bind_some, Option.bind_some, if_pos rfl, if_neg (by simp), hn]
          exact ⟨g1, g2⟩
        | false =>
          have P2 := P.push h cm c1
          have hw2 : wAll ls (qs ++ [(c : Int)]) = wAll ls qs + (rd_T36 ls (qs.length : Int)).f3 := by rw [wAll_push, if_pos c0]
          have hwr : wrap64 (wAll ls qs + (rd_T36 ls (qs.length : Int)).f3) = wAll ls qs + (rd_T36 ls (qs.length : Int)).f3 := by
            have h1 : 0 ≤ wAll ls qs ∧ wAll ls qs ≤ 8000 := hws
            generalize wAll ls qs = x at *
            generalize (rd_T36 ls (qs.length : Int)).f3 = y at *
            exact w64 (by omega) (by omega)
          obtain ⟨r1, F1, H1⟩ := ih (qs ++ [(c : Int)]) P2 (by rw [List.length_append, List.length_singleton]; omega) b m
          obtain ⟨r, F, H⟩ := ihe (c + 1) (by omega) r1.1 r1.2
          refine ⟨r, F1.then_ F, fun k hk => ?_⟩
          obtain ⟨k, rfl⟩ : ∃ n, k = n + 1 := ⟨k - 1, by omega⟩
          have ho := ov_pos K P h c0 c1 k (by omega)
          rw [hh] at ho hf
          obtain ⟨f1, f2⟩ := H1 k (by omega)
          obtain ⟨g1, g2⟩ := H k (by omega)
          rw [hw2, ← hwr] at f2
          unfold impl_BestPlaces.l0 spec_l11W_walk.l0
          rw [if_pos c1, if_pos c1, ho, hf, Option.bind_some, Option.bind_some, if_neg (by simp), if_pos (by simp), hn, f1, f2, Option.bind_some, Option.bind_some]
          exact ⟨g1, g2⟩
    have c1 : (-1 : Int) < ((rd_T36 ls (qs.length : Int)).f2.length : Int) := by omega
    have P2 := P.push h (Int.le_refl (-1)) c1
    have hw2 : wAll ls (qs ++ [(-1 : Int)]) = wAll ls qs := by rw [wAll_push, if_neg (by omega), Int.add_zero]
    obtain ⟨r1, F1, H1⟩ := ih (qs ++ [-1]) P2 (by rw [List.length_append, List.length_singleton]; omega) b m
    obtain ⟨r, F, H⟩ := loop (rd_T36 ls (qs.length : Int)).f2.length 0 (by omega) r1.1 r1.2
    refine ⟨r, F1.then_ F, fun k hk => ?_⟩
    obtain ⟨k, rfl⟩ : ∃ n, k = n + 2 := ⟨k - 2, by omega⟩
    have e0 : ¬ (qs.length : Int) = (ls.length : Int) := by omega
    have e1 : (qs.length : Int) < (ls.length : Int) := by omega
    have e2 : qs.length < 1000 := by omega
    have ho := ov_neg K P k (by omega)
    have hn : wrap64 ((-1 : Int) + 1) = ((0 : Nat) : Int) := w64 (by omega) (by omega)
    obtain ⟨f1, _⟩ := H1 k (by omega)
    obtain ⟨_, f2⟩ := H1 (k + 1) (by omega)
    obtain ⟨g1, _⟩ := H k (by omega)
    obtain ⟨_, g2⟩ := H (k + 1) (by omega)
    rw [hw2] at f2
    constructor
    · unfold impl_BestPlaces.l1
      rw [if_neg e0, if_pos e2, if_pos e1]
      unfold impl_BestPlaces.l0
      rw [if_pos c1, ho, Option.bind_some, if_neg (by simp), f1, Option.bind_some, hn]
      exact g1
    · unfold spec_l11W_walk.f
      rw [if_neg e0, if_pos e2, if_pos e1, f2, Option.bind_some]
      exact g2
theorem bothBest (ls : List S36) (hl : ls.length ≤ 1048576) (hw : ∀ c ∈ ls, c.f2.length ≤ 1048576) (k : Nat) (hk : 4000000 < k) : ∃ (r : List Int) (m c : Int), r.length ≤ 1048576 ∧ spec_BestPlaces.f k ls = some (r, m, c) ∧ impl_BestPlaces.f k ls = some (r, m, c) := by
  unfold spec_BestPlaces.f impl_BestPlaces.f spec_l11Ok.f
  rw [valid_labs ls (by omega) hw k (by omega), Option.bind_some, Option.bind_some]
  cases h : g_labs ls with
  | false => exact ⟨[], 0, 1, by simp, by simp, by simp⟩
  | true =>
    have K := okls h
    have h8 := K.len
    obtain ⟨r, F, H⟩ := bs_both K ls.length [] (Pre.nil ls) (by simp) [] (-1)
    obtain ⟨f1, f2⟩ := H k (by omega)
    have e : wAll ls [] = 0 := rfl
    rw [e] at f2
    refine ⟨r.1, r.2, 0, ?_, ?_, ?_⟩
    · rcases F with F | F
      · rw [F]; simp
      · omega
    · rw [if_pos rfl, f2, Option.bind_some]
    · rw [if_pos rfl, f1, Option.bind_some]
end Go.Proofs.Ytjfkjmfdckbecaa.Pure
