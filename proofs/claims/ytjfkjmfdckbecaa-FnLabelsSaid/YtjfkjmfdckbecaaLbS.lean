/- The best places of drawn labels: none of the right places weighs more. -/
import Derived.Test.YtjfkjmfdckbecaaPrint0
import Derived.Test.YtjfkjmfdckbecaaPrint5
import Derived.Test.YtjfkjmfdckbecaaPrint7
import Derived.Test.YtjfkjmfdckbecaaPrint8
import Derived.Test.YtjfkjmfdckbecaaNum
import Derived.Test.YtjfkjmfdckbecaaInW
import Derived.Test.YtjfkjmfdckbecaaIntsR
import Derived.Test.YtjfkjmfdckbecaaSrc
import Derived.Test.YtjfkjmfdckbecaaLabI
import Derived.Test.YtjfkjmfdckbecaaLabDr
import Derived.Test.YtjfkjmfdckbecaaLabMt
import Derived.Test.YtjfkjmfdckbecaaLabVd
import Derived.Test.YtjfkjmfdckbecaaLabFm
namespace Go.Proofs.Ytjfkjmfdckbecaa.Pure
open Go.RowKit Go.Proofs.Ytjfkjmfdckbecaa.Print Go.Proofs.YtjfkjmfdckbecaaW.PrintWords Go.Proofs.YtjfkjmfdckbecaaW.PrintLast Go.Proofs.YtjfkjmfdckbecaaW.PrintMore
set_option linter.unusedVariables false
set_option linter.unusedSimpArgs false
theorem rd_app (A B : List Int) {k : Nat} (h : k < A.length) : rd (A ++ B) (k : Int) = rd A (k : Int) := by
  simp [rd, List.getD, List.getElem?_append_left h]
theorem rd_end (A : List Int) (y : Int) : rd (A ++ [y]) (A.length : Int) = y := by simp [rd]
theorem len_push (qs : List Int) (c : Int) : (qs ++ [c]).length = qs.length + 1 := by simp
/-- Drawn labels. -/
structure Ls (ls : List S36) : Prop where
  hl : ls.length ≤ 6
  ho : ∀ x ∈ ls, OkL x
theorem Ls.at_ {ls : List S36} (L : Ls ls) {t : Nat} (h : t < ls.length) : OkL (rd_T36 ls (t : Int)) := by
  rw [rdLd h]
  exact L.ho _ (List.getElem_mem h)
/-- Places of the first labels. -/
structure PreL (ls : List S36) (qs : List Int) : Prop where
  len : qs.length ≤ ls.length
  at_ : ∀ t : Nat, t < qs.length → -1 ≤ rd qs (t : Int) ∧ rd qs (t : Int) < ((rd_T36 ls (t : Int)).f2.length : Int)
theorem PreL.nil (ls : List S36) : PreL ls [] := ⟨by simp, fun t ht => absurd ht (by simp)⟩
theorem PreL.push {ls : List S36} {qs : List Int} (P : PreL ls qs) (h : qs.length < ls.length) {c : Int} (h0 : -1 ≤ c) (h1 : c < ((rd_T36 ls (qs.length : Int)).f2.length : Int)) : PreL ls (qs ++ [c]) := by
  refine ⟨by rw [len_push]; omega, fun t ht => ?_⟩
  rw [len_push] at ht
  by_cases e : t = qs.length
  · subst e
    rw [rd_end]
    exact ⟨h0, h1⟩
  · rw [rd_app _ _ (by omega)]
    exact P.at_ t (by omega)
def hitL (ls : List S36) (qs : List Int) (i : Nat) (p : Int) (j : Nat) : Bool := !decide (j = i) && (decide (0 ≤ rd qs (j : Int)) && mtL (rd_T36 ls (i : Int)) (rd_T36 ls (j : Int)) (rd (rd_T36 ls (i : Int)).f2 p) (rd (rd_T36 ls (j : Int)).f2 (rd qs (j : Int))))
theorem over_allL {ls : List S36} (L : Ls ls) {qs : List Int} (P : PreL ls qs) (i : Nat) (hi : i < ls.length) (p : Int) (hp0 : 0 ≤ p) (hp : p < ((rd_T36 ls (i : Int)).f2.length : Int)) : ∀ (d k j : Nat), qs.length - j = d → j ≤ qs.length → d < k → (∀ t, t < j → hitL ls qs i p t = false) →
    impl_overlaps.l0 k ls (i : Int) p qs (qs.length : Int) (j : Int) = some ((List.range qs.length).any (hitL ls qs i p)) := by
  intro d
  have hl := L.hl
  have hq := P.len
  have HP := Aside0.mk hp
  have oi := L.at_ hi
  have HX := Aside0.mk (st_in oi hp0 hp)
  clear hp
  induction d with
  | zero =>
    intro k j hd hj hk hf
    obtain ⟨k, rfl⟩ : ∃ m, k = m + 1 := ⟨k - 1, by omega⟩
    have c1 : ¬ (j : Int) < (qs.length : Int) := by omega
    simp only [impl_overlaps.l0]
    rw [if_neg c1, List.any_eq_false.2 fun t ht => by rw [hf t (by have := List.mem_range.1 ht; omega)]; simp]
  | succ d ih =>
    intro k j hd hj hk hf
    obtain ⟨k, rfl⟩ : ∃ m, k = m + 1 := ⟨k - 1, by omega⟩
    have h : j < qs.length := by omega
    have hnx : wrap64 ((j : Int) + 1) = ((j + 1 : Nat) : Int) := nxt h (by omega)
    have c1 : (j : Int) < (qs.length : Int) := by omega
    have c2 : (0 : Int) ≤ (j : Int) := by omega
    have c3 : (i : Int) < (ls.length : Int) := by omega
    have c4 : (0 : Int) ≤ (i : Int) := by omega
    have c5 : (j : Int) < (ls.length : Int) := by omega
    have i1 := ih k (j + 1) (by omega) (by omega) (by omega)
    have oj := L.at_ (t := j) (by omega)
    simp only [impl_overlaps.l0]
    rw [if_pos c1, if_pos c2, if_pos c1, hnx]
    by_cases hji : j = i
    · have c6 : (j : Int) = (i : Int) := by omega
      rw [if_pos c6]
      refine i1 fun t ht => ?_
      by_cases htj : t = j
      · rw [htj]; unfold hitL; rw [decide_eq_true hji]; rfl
      · exact hf t (Nat.lt_of_le_of_ne (Nat.le_of_lt_succ ht) htj)
    · have c6 : ¬ (j : Int) = (i : Int) := by omega
      have hb := (P.at_ j h).2
      have hp := HP.out
      rw [if_neg c6, if_pos hp0]
      have hfa : hitL ls qs i p j = (decide (0 ≤ rd qs (j : Int)) && mtL (rd_T36 ls (i : Int)) (rd_T36 ls (j : Int)) (rd (rd_T36 ls (i : Int)).f2 p) (rd (rd_T36 ls (j : Int)).f2 (rd qs (j : Int)))) := by
        unfold hitL; rw [decide_eq_false hji]; rfl
      by_cases hr : rd qs (j : Int) ≥ 0
      · have hm := mt_some oi oj HX.out (st_in oj hr hb)
        rw [if_pos hr, if_pos c4, if_pos c3, if_pos c5, if_pos hp0, if_pos hp, if_pos hr, if_pos hb, hm, Option.bind_some]
        rw [decide_eq_true (show 0 ≤ rd qs (j : Int) from hr), Bool.true_and] at hfa
        cases e : mtL (rd_T36 ls (i : Int)) (rd_T36 ls (j : Int)) (rd (rd_T36 ls (i : Int)).f2 p) (rd (rd_T36 ls (j : Int)).f2 (rd qs (j : Int))) with
        | true => rw [if_pos rfl, List.any_eq_true.2 ⟨j, List.mem_range.2 h, by rw [hfa]; exact e⟩]
        | false =>
          rw [if_neg (by simp)]
          refine i1 fun t ht => ?_
          by_cases htj : t = j
          · rw [htj, hfa]; exact e
          · exact hf t (Nat.lt_of_le_of_ne (Nat.le_of_lt_succ ht) htj)
      · rw [if_neg hr]
        refine i1 fun t ht => ?_
        by_cases htj : t = j
        · rw [htj, hfa, decide_eq_false (show ¬ 0 ≤ rd qs (j : Int) from hr), Bool.false_and]
        · exact hf t (Nat.lt_of_le_of_ne (Nat.le_of_lt_succ ht) htj)
theorem ov_neg_loop (ls : List S36) (qs : List Int) (hl : qs.length ≤ 1048576) (i : Int) (p : Int) (hp0 : ¬ p ≥ 0) : ∀ (d k j : Nat), qs.length - j = d → j ≤ qs.length → d < k → impl_overlaps.l0 k ls i p qs (qs.length : Int) (j : Int) = some false := by
  intro d
  induction d with
  | zero =>
    intro k j hd hj hk
    obtain ⟨k, rfl⟩ : ∃ m, k = m + 1 := ⟨k - 1, by omega⟩
    have c1 : ¬ (j : Int) < (qs.length : Int) := by omega
    simp only [impl_overlaps.l0]
    rw [if_neg c1]
  | succ d ih =>
    intro k j hd hj hk
    obtain ⟨k, rfl⟩ : ∃ m, k = m + 1 := ⟨k - 1, by omega⟩
    have h : j < qs.length := by omega
    have c1 : (j : Int) < (qs.length : Int) := by omega
    have c2 : (0 : Int) ≤ (j : Int) := by omega
    have i1 := ih k (j + 1) (by omega) (by omega) (by omega)
    have hn : wrap64 ((j : Int) + 1) = ((j + 1 : Nat) : Int) := nxt h (by omega)
    simp only [impl_overlaps.l0]
    rw [if_pos c1, if_pos c2, if_pos c1, hn, i1, if_neg hp0]
    split <;> rfl
/-- What a label weighs where it is placed. -/
def wAt (ls : List S36) (qs : List Int) (t : Nat) : Int := if rd qs (t : Int) ≥ 0 then (rd_T36 ls (t : Int)).f3 else 0
def wSum (ls : List S36) (qs : List Int) : Nat → Int
  | 0 => 0
  | t + 1 => wSum ls qs t + wAt ls qs t
theorem wAt_in {ls : List S36} (L : Ls ls) (qs : List Int) {t : Nat} (ht : t < ls.length) : 0 ≤ wAt ls qs t ∧ wAt ls qs t ≤ 9 := by
  have h := (L.at_ ht).weight
  unfold wAt
  split
  · exact ⟨by omega, h.2⟩
  · exact ⟨by omega, by omega⟩
theorem wSum_in {ls : List S36} (L : Ls ls) (qs : List Int) : ∀ t, t ≤ ls.length → 0 ≤ wSum ls qs t ∧ wSum ls qs t ≤ 9 * (t : Int) := by
  intro t
  induction t with
  | zero => intro _; exact ⟨by unfold wSum; omega, by unfold wSum; omega⟩
  | succ t ih =>
    intro h
    have h1 := ih (by omega)
    have h2 := wAt_in L qs (t := t) (by omega)
    have e : wSum ls qs (t + 1) = wSum ls qs t + wAt ls qs t := rfl
    rw [e]
    generalize wSum ls qs t = x at *
    generalize wAt ls qs t = y at *
    omega
theorem wSum_small {ls : List S36} (L : Ls ls) (qs : List Int) (t : Nat) (h : t ≤ ls.length) : 0 ≤ wSum ls qs t ∧ wSum ls qs t ≤ 54 := by
  have h1 := wSum_in L qs t h
  have h2 := L.hl
  generalize wSum ls qs t = x at *
  omega
theorem wSum_same (ls : List S36) (ps qs : List Int) : ∀ t, (∀ j : Nat, j < t → rd ps (j : Int) = rd qs (j : Int)) → wSum ls ps t = wSum ls qs t := by
  intro t
  induction t with
  | zero => intro _; rfl
  | succ t ih =>
    intro h
    have e1 : wSum ls ps (t + 1) = wSum ls ps t + wAt ls ps t := rfl
    have e2 : wSum ls qs (t + 1) = wSum ls qs t + wAt ls qs t := rfl
    rw [e1, e2, ih (fun j hj => h j (by omega))]
    unfold wAt
    rw [h t (by omega)]
/-- What the places weigh. -/
def wAll (ls : List S36) (qs : List Int) : Int := wSum ls qs qs.length
theorem wp_loop {ls : List S36} (L : Ls ls) (qs : List Int) (hq : qs.length ≤ ls.length) : ∀ (d k i : Nat), i + d = qs.length → d < k → impl_weightPlaced.l0 k ls (wSum ls qs i) qs (qs.length : Int) (i : Int) = some (wAll ls qs) := by
  have hl := L.hl
  intro d
  induction d with
  | zero =>
    intro k i hd hk
    obtain ⟨k, rfl⟩ : ∃ m, k = m + 1 := ⟨k - 1, by omega⟩
    have c1 : ¬ (i : Int) < (qs.length : Int) := by omega
    unfold impl_weightPlaced.l0
    rw [if_neg c1, show i = qs.length by omega]
    rfl
  | succ d ih =>
    intro k i hd hk
    obtain ⟨k, rfl⟩ : ∃ m, k = m + 1 := ⟨k - 1, by omega⟩
    have c1 : (i : Int) < (qs.length : Int) := by omega
    have c2 : (0 : Int) ≤ (i : Int) := by omega
    have c3 : (i : Int) < (ls.length : Int) := by omega
    have hn : wrap64 ((i : Int) + 1) = ((i + 1 : Nat) : Int) := nxt (show i < qs.length by omega) (by omega)
    have i1 := ih k (i + 1) (by omega) (by omega)
    have e2 : wSum ls qs (i + 1) = wSum ls qs i + wAt ls qs i := rfl
    have h1 := wSum_small L qs i (by omega)
    have h2 := wAt_in L qs (t := i) (by omega)
    have hw : wrap64 (wSum ls qs i + wAt ls qs i) = wSum ls qs i + wAt ls qs i := by
      generalize wSum ls qs i = x at *
      generalize wAt ls qs i = y at *
      exact w64 (by omega) (by omega)
    unfold impl_weightPlaced.l0
    rw [if_pos c1, if_pos c2, if_pos c1, hn]
    rw [e2] at i1
    by_cases hr : rd qs (i : Int) ≥ 0
    · have e3 : wAt ls qs i = (rd_T36 ls (i : Int)).f3 := by unfold wAt; rw [if_pos hr]
      rw [e3] at hw i1
      rw [if_pos hr, if_pos c3, hw]
      exact i1
    · have e3 : wAt ls qs i = 0 := by unfold wAt; rw [if_neg hr]
      rw [e3, Int.add_zero] at i1
      rw [if_neg hr]
      exact i1
theorem wp_some {ls : List S36} (L : Ls ls) (qs : List Int) (hq : qs.length ≤ ls.length) (k : Nat) (hk : qs.length < k) : impl_weightPlaced.f k ls qs = some (wAll ls qs) := by
  have := wp_loop L qs hq qs.length k 0 (by omega) hk
  unfold impl_weightPlaced.f
  exact this
/-- No label meets one in front of it. -/
def GoodL (ls : List S36) (qs : List Int) : Prop := ∀ t : Nat, t < qs.length → ∀ j : Nat, j < t → badAt ls qs t j = false
/-- Whether the next label at its start c hits none of those in front of it. -/
def hitsP (ls : List S36) (qs : List Int) (c : Int) : Bool := (List.range qs.length).any (hitL ls qs qs.length c)
theorem badAt_same (ls : List S36) {ps qs : List Int} {t j : Nat} (ht : rd ps (t : Int) = rd qs (t : Int)) (hj : rd ps (j : Int) = rd qs (j : Int)) : badAt ls ps t j = badAt ls qs t j := by
  unfold badAt
  rw [ht, hj]
theorem bad_hit (ls : List S36) {ps qs : List Int} {t j : Nat} (h0 : 0 ≤ rd ps (t : Int)) (hne : ¬ j = t) (hj : rd ps (j : Int) = rd qs (j : Int)) : badAt ls ps t j = hitL ls qs t (rd ps (t : Int)) j := by
  unfold badAt hitL
  rw [decide_eq_true h0, decide_eq_false hne, hj]
  rfl
theorem good_push {ls : List S36} {qs : List Int} (G : GoodL ls qs) {c : Int} (h : c < 0 ∨ hitsP ls qs c = false) : GoodL ls (qs ++ [c]) := by
  intro t ht j hj
  rw [len_push] at ht
  by_cases e : t = qs.length
  · subst e
    rcases h with h | h
    · have h2 : ¬ 0 ≤ rd (qs ++ [c]) (qs.length : Int) := by rw [rd_end]; omega
      unfold badAt
      rw [decide_eq_false h2]
      rfl
    · by_cases h0 : 0 ≤ c
      · rw [bad_hit ls (qs := qs) (by rw [rd_end]; exact h0) (by omega) (rd_app _ _ hj), rd_end]
        have := List.any_eq_false.1 h j (List.mem_range.2 hj)
        simpa using this
      · have h2 : ¬ 0 ≤ rd (qs ++ [c]) (qs.length : Int) := by rw [rd_end]; exact h0
        unfold badAt
        rw [decide_eq_false h2]
        rfl
  · rw [badAt_same ls (rd_app _ _ (by omega)) (rd_app _ _ (by omega))]
    exact G t (by omega) j hj
/-- The places go on as qs begins. -/
def Ext (qs ps : List Int) : Prop := ∀ j : Nat, j < qs.length → rd ps (j : Int) = rd qs (j : Int)
theorem ext_push {qs ps : List Int} (E : Ext qs ps) {c : Int} (h : rd ps (qs.length : Int) = c) : Ext (qs ++ [c]) ps := by
  intro j hj
  rw [len_push] at hj
  by_cases e : j = qs.length
  · subst e
    rw [rd_end, h]
  · rw [rd_app _ _ (by omega)]
    exact E j (by omega)
theorem ext_free {ls : List S36} {qs ps : List Int} (G : GoodL ls ps) (E : Ext qs ps) (hl : qs.length < ps.length) (h0 : 0 ≤ rd ps (qs.length : Int)) : hitsP ls qs (rd ps (qs.length : Int)) = false := by
  unfold hitsP
  refine List.any_eq_false.2 fun j hj => ?_
  have hj := List.mem_range.1 hj
  have := G qs.length hl j hj
  rw [bad_hit ls (qs := qs) h0 (by omega) (E j hj)] at this
  rw [this]
  simp
/-- All labels have right places, and the weight is theirs. -/
structure FullG (ls : List S36) (r : List Int × Int) : Prop where
  len : r.1.length = ls.length
  pre : PreL ls r.1
  good : GoodL ls r.1
  w : r.2 = wAll ls r.1
/-- All places that go on as qs begins, with the next place at least c, weigh no more than m. -/
def NoMore (ls : List S36) (qs : List Int) (c m : Int) : Prop := ∀ ps, PreL ls ps → ps.length = ls.length → GoodL ls ps → Ext qs ps → c ≤ rd ps (qs.length : Int) → wAll ls ps ≤ m
def Fnd (ls : List S36) (b : List Int) (m : Int) (r : List Int × Int) : Prop := r = (b, m) ∨ FullG ls r
theorem Fnd.then_ {ls : List S36} {b : List Int} {m : Int} {r r2 : List Int × Int} (h : Fnd ls b m r) (h2 : Fnd ls r.1 r.2 r2) : Fnd ls b m r2 := by
  rcases h2 with e | e
  · rw [e]; exact h
  · exact .inr e
theorem bs_opt {ls : List S36} (L : Ls ls) : ∀ (d : Nat) (qs : List Int), PreL ls qs → GoodL ls qs → qs.length + d = ls.length → ∀ (b : List Int) (m : Int), ∃ r, (∀ k, 20 * d + 20 ≤ k → impl_BestPlaces.l1 k ls qs b m = some r) ∧ m ≤ r.2 ∧ Fnd ls b m r ∧
    ∀ ps, PreL ls ps → ps.length = ls.length → GoodL ls ps → Ext qs ps → wAll ls ps ≤ r.2 := by
  have hl := L.hl
  intro d
  induction d with
  | zero =>
    intro qs P G hd b m
    have hpl := P.len
    have e0 : (qs.length : Int) = (ls.length : Int) := by omega
    have hsame : ∀ ps : List Int, ps.length = ls.length → Ext qs ps → wAll ls ps = wAll ls qs := fun ps h E => by
      unfold wAll
      rw [show ps.length = qs.length by omega]
      exact wSum_same ls ps qs _ E
    by_cases hm : wAll ls qs > m
    · refine ⟨(qs, wAll ls qs), fun k hk => ?_, Int.le_of_lt hm, .inr ⟨by show qs.length = ls.length; omega, P, G, rfl⟩, fun ps _ h _ E => by rw [hsame ps h E]; exact Int.le_refl _⟩
      obtain ⟨k, rfl⟩ : ∃ n, k = n + 1 := ⟨k - 1, by omega⟩
      have hw := wp_some L qs hpl k (by omega)
      unfold impl_BestPlaces.l1
      rw [if_pos e0, hw, Option.bind_some, if_pos hm, if_pos (by omega)]
    · refine ⟨(b, m), fun k hk => ?_, Int.le_refl _, .inl rfl, fun ps _ h _ E => by rw [hsame ps h E]; exact Int.not_lt.1 hm⟩
      obtain ⟨k, rfl⟩ : ∃ n, k = n + 1 := ⟨k - 1, by omega⟩
      have hw := wp_some L qs hpl k (by omega)
      unfold impl_BestPlaces.l1
      rw [if_pos e0, hw, Option.bind_some, if_neg hm]
  | succ d ih =>
    intro qs P G hd b m
    have h : qs.length < ls.length := by omega
    have hst := (L.at_ h).many
    have loop : ∀ (e c : Nat), c + e = (rd_T36 ls (qs.length : Int)).f2.length → ∀ (b : List Int) (m : Int), ∃ r, (∀ k, 20 * d + 20 + e + 1 ≤ k → impl_BestPlaces.l0 k ls qs (c : Int) b m = some r) ∧ m ≤ r.2 ∧ Fnd ls b m r ∧ NoMore ls qs (c : Int) r.2 := by
      intro e
      induction e with
      | zero =>
        intro c hc b m
        have c1 : ¬ (c : Int) < ((rd_T36 ls (qs.length : Int)).f2.length : Int) := by omega
        refine ⟨(b, m), fun k hk => ?_, Int.le_refl _, .inl rfl, fun ps Pp hp _ _ hh => ?_⟩
        · obtain ⟨k, rfl⟩ : ∃ n, k = n + 1 := ⟨k - 1, by omega⟩
          unfold impl_BestPlaces.l0
          rw [if_neg c1]
        · have h2 := (Pp.at_ qs.length (by omega)).2
          exact absurd (Int.lt_of_le_of_lt hh h2) c1
      | succ e ihe =>
        intro c hc b m
        have c1 : (c : Int) < ((rd_T36 ls (qs.length : Int)).f2.length : Int) := by omega
        have c0 : (0 : Int) ≤ (c : Int) := by omega
        have cm : (-1 : Int) ≤ (c : Int) := by omega
        have hn : wrap64 ((c : Int) + 1) = ((c + 1 : Nat) : Int) := nxt (show c < (rd_T36 ls (qs.length : Int)).f2.length by omega) (by omega)
        have ho : ∀ k, qs.length < k → impl_overlaps.f k ls qs (qs.length : Int) (c : Int) = some (hitsP ls qs (c : Int)) := fun k hk => by
          have := over_allL L P qs.length h (c : Int) c0 c1 qs.length k 0 (by omega) (by omega) hk (fun t ht => absurd ht (by omega))
          unfold impl_overlaps.f
          exact this
        cases hh : hitsP ls qs (c : Int) with
        | true =>
          obtain ⟨r, H, hm, F, O⟩ := ihe (c + 1) (by omega) b m
          refine ⟨r, fun k hk => ?_, hm, F, fun ps Pp hp Gp E hge => ?_⟩
          · obtain ⟨k, rfl⟩ : ∃ n, k = n + 1 := ⟨k - 1, by omega⟩
            have o := ho k (by omega)
            have g1 := H k (by omega)
            rw [hh] at o
            unfold impl_BestPlaces.l0
            rw [if_pos c1, o, Option.bind_some, if_pos rfl, hn]
            exact g1
          · by_cases eq : rd ps (qs.length : Int) = (c : Int)
            · have := ext_free Gp E (by omega) (by rw [eq]; exact c0)
              rw [eq, hh] at this
              cases this
            · refine O ps Pp hp Gp E ?_
              generalize rd ps (qs.length : Int) = z at *
              omega
        | false =>
          have P2 := P.push h cm c1
          have G2 := good_push G (c := (c : Int)) (.inr hh)
          obtain ⟨r1, H1, hm1, F1, O1⟩ := ih (qs ++ [(c : Int)]) P2 G2 (by rw [len_push]; omega) b m
          obtain ⟨r, H, hm, F, O⟩ := ihe (c + 1) (by omega) r1.1 r1.2
          refine ⟨r, fun k hk => ?_, Int.le_trans hm1 hm, F1.then_ F, fun ps Pp hp Gp E hge => ?_⟩
          · obtain ⟨k, rfl⟩ : ∃ n, k = n + 1 := ⟨k - 1, by omega⟩
            have o := ho k (by omega)
            have f1 := H1 k (by omega)
            have g1 := H k (by omega)
            rw [hh] at o
            unfold impl_BestPlaces.l0
            rw [if_pos c1, o, Option.bind_some, if_neg (by simp), hn, f1, Option.bind_some]
            exact g1
          · by_cases eq : rd ps (qs.length : Int) = (c : Int)
            · exact Int.le_trans (O1 ps Pp hp Gp (ext_push E eq)) hm
            · refine O ps Pp hp Gp E ?_
              generalize rd ps (qs.length : Int) = z at *
              omega
    have c1 : (-1 : Int) < ((rd_T36 ls (qs.length : Int)).f2.length : Int) := by omega
    have P2 := P.push h (Int.le_refl (-1)) c1
    have G2 := good_push G (c := -1) (.inl (by omega))
    obtain ⟨r1, H1, hm1, F1, O1⟩ := ih (qs ++ [-1]) P2 G2 (by rw [len_push]; omega) b m
    obtain ⟨r, H, hm, F, O⟩ := loop (rd_T36 ls (qs.length : Int)).f2.length 0 (by omega) r1.1 r1.2
    refine ⟨r, fun k hk => ?_, Int.le_trans hm1 hm, F1.then_ F, fun ps Pp hp Gp E => ?_⟩
    · obtain ⟨k, rfl⟩ : ∃ n, k = n + 2 := ⟨k - 2, by omega⟩
      have e0 : ¬ (qs.length : Int) = (ls.length : Int) := by omega
      have e1 : (qs.length : Int) < (ls.length : Int) := by omega
      have e2 : qs.length < 1000 := by omega
      have o := ov_neg_loop ls qs (by omega) (qs.length : Int) (-1) (by omega) qs.length k 0 (by omega) (by omega) (by omega)
      rw [Int.natCast_zero] at o
      have hn : wrap64 ((-1 : Int) + 1) = ((0 : Nat) : Int) := w64 (by omega) (by omega)
      have f1 := H1 k (by omega)
      have g1 := H k (by omega)
      unfold impl_BestPlaces.l1
      rw [if_neg e0, if_pos e2, if_pos e1]
      unfold impl_BestPlaces.l0 impl_overlaps.f
      rw [if_pos c1, o, Option.bind_some, if_neg (by simp), f1, Option.bind_some, hn]
      exact g1
    · have hlow := (Pp.at_ qs.length (by omega)).1
      by_cases eq : rd ps (qs.length : Int) = -1
      · exact Int.le_trans (O1 ps Pp hp Gp (ext_push E eq)) hm
      · refine O ps Pp hp Gp E ?_
        generalize rd ps (qs.length : Int) = z at *
        omega
theorem none_rd (n t : Nat) (h : t < n) : rd (List.replicate n (-1)) (t : Int) = -1 := by rw [show rd (List.replicate n (-1)) (t : Int) = (List.replicate n (-1 : Int))[t]'(by simpa using h) by simp [rd, List.getD, h]]; simp
theorem none_pre (ls : List S36) : PreL ls (List.replicate ls.length (-1)) := by
  refine ⟨by simp, fun t ht => ?_⟩
  rw [List.length_replicate] at ht
  rw [none_rd _ _ ht]
  omega
theorem none_bad (ls : List S36) (t j : Nat) (ht : t < ls.length) : badAt ls (List.replicate ls.length (-1)) t j = false := by
  have h2 : ¬ 0 ≤ rd (List.replicate ls.length (-1)) (t : Int) := by rw [none_rd _ _ ht]; omega
  unfold badAt
  rw [decide_eq_false h2]
  rfl
theorem best_some {ls : List S36} (L : Ls ls) : ∃ r : List Int × Int, FullG ls r ∧ (∀ ps, PreL ls ps → ps.length = ls.length → GoodL ls ps → wAll ls ps ≤ r.2) ∧ ∀ k, 300 ≤ k → impl_BestPlaces.f k ls = some (r.1, r.2, 0) := by
  have hl := L.hl
  obtain ⟨r, H, hm, F, O⟩ := bs_opt L ls.length [] (PreL.nil ls) (fun t ht => absurd ht (by simp)) (by simp) [] (-1)
  have E : ∀ ps : List Int, Ext [] ps := fun ps j hj => absurd hj (by simp)
  refine ⟨r, ?_, fun ps Pp hp Gp => O ps Pp hp Gp (E ps), fun k hk => ?_⟩
  · rcases F with e | F
    · have h1 := O _ (none_pre ls) (by simp) (fun t ht j _ => none_bad ls t j (by simpa using ht)) (E _)
      have h2 := wSum_small L (List.replicate ls.length (-1)) ls.length (Nat.le_refl _)
      have h3 : wAll ls (List.replicate ls.length (-1)) = wSum ls (List.replicate ls.length (-1)) ls.length := by unfold wAll; rw [List.length_replicate]
      rw [h3] at h1
      have h4 := Int.le_trans h2.1 h1
      rw [e] at h4
      exact absurd h4 (by decide)
    · exact F
  · unfold impl_BestPlaces.f
    rw [vd_some ls L.hl L.ho k (by omega), Option.bind_some, if_pos rfl, H k (by omega), Option.bind_some]
end Go.Proofs.Ytjfkjmfdckbecaa.Pure
