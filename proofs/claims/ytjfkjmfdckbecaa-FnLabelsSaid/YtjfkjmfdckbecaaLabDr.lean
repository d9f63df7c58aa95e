/- The labels that are drawn are valid ones. -/
import Derived.Test.YtjfkjmfdckbecaaPrint0
import Derived.Test.YtjfkjmfdckbecaaPrint1
import Derived.Test.YtjfkjmfdckbecaaPrint2
import Derived.Test.YtjfkjmfdckbecaaNum
import Derived.Test.YtjfkjmfdckbecaaIntsR
import Derived.Test.YtjfkjmfdckbecaaSrc
namespace Go.Proofs.Ytjfkjmfdckbecaa.Pure
open Go.RowKit Go.Proofs.Ytjfkjmfdckbecaa.Print Go.Proofs.YtjfkjmfdckbecaaW.PrintWords Go.Proofs.YtjfkjmfdckbecaaW.PrintLast Go.Proofs.YtjfkjmfdckbecaaW.PrintMore
set_option linter.unusedVariables false
set_option linter.unusedSimpArgs false
structure OkL (x : S36) : Prop where
  row : 0 ≤ x.f0 ∧ x.f0 ≤ 1
  width : 1 ≤ x.f1 ∧ x.f1 ≤ 14
  many : 1 ≤ x.f2.length ∧ x.f2.length ≤ 3
  dist : x.f2.Nodup
  at_ : ∀ s ∈ x.f2, 0 ≤ s ∧ s ≤ 29
  weight : 1 ≤ x.f3 ∧ x.f3 ≤ 9
theorem has_loop (ys : List Int) (v : Int) (hl : ys.length ≤ 1000000) : ∀ (d k i : Nat), ys.length - i = d → i ≤ ys.length → d < k → spec_l00Has.l0 k ys v i = some ((ys.drop i).contains v) := by
  intro d
  induction d with
  | zero =>
    intro k i hd hi hk
    obtain ⟨k, rfl⟩ : ∃ m, k = m + 1 := ⟨k - 1, by omega⟩
    simp only [spec_l00Has.l0]
    rw [if_neg (by omega), List.drop_eq_nil_of_le (by omega)]
    rfl
  | succ d ih =>
    intro k i hd hi hk
    obtain ⟨k, rfl⟩ : ∃ m, k = m + 1 := ⟨k - 1, by omega⟩
    have h : i < ys.length := by omega
    simp only [spec_l00Has.l0]
    rw [if_pos (by omega), if_pos (by omega), rdI h, nxt h (by omega), ih k (i + 1) (by omega) (by omega) (by omega), List.drop_eq_getElem_cons h, List.contains_cons]
    by_cases c : ys[i] = v
    · rw [if_pos c, c]; simp
    · have cb : (v == ys[i]) = false := by rw [beq_eq_false_iff_ne]; exact fun h => c h.symm
      rw [if_neg c, cb, Bool.false_or]
theorem has_some (ys : List Int) (v : Int) (hl : ys.length ≤ 1000000) (k : Nat) (hk : ys.length < k) : spec_l00Has.f k ys v = some (ys.contains v) := by
  unfold spec_l00Has.f
  exact has_loop ys v hl ys.length k 0 (by omega) (by omega) hk
theorem new_loop {c : List Int} (h : Code c) (row width : Int) : ∀ (d k : Nat) (acc : List Int) (a sd : Int), 0 ≤ a → a + 10 * (d : Int) ≤ 1000000000000 → d + 4 < k → acc.length + d ≤ 3 → (acc ≠ [] ∨ 1 ≤ d) → acc.Nodup → (∀ s ∈ acc, 0 ≤ s ∧ s ≤ 29) →
    ∃ (ys : List Int) (wt a' sd' : Int), spec_l11New.l0 k (d : Int) c a sd row width acc 0 = some (row, width, ys, wt, a', sd') ∧ 1 ≤ ys.length ∧ ys.length ≤ 3 ∧ ys.Nodup ∧ (∀ s ∈ ys, 0 ≤ s ∧ s ≤ 29) ∧ 1 ≤ wt ∧ wt ≤ 9 ∧ 0 ≤ a' ∧ a' ≤ a + 10 * (d : Int) + 10 := by
  intro d
  induction d with
  | zero =>
    intro k acc a sd h0 h1 hk hl hne hn hb
    obtain ⟨k, rfl⟩ : ∃ m, k = m + 1 := ⟨k - 1, by omega⟩
    obtain ⟨v, a', s', e, p1, p2, p3, p4⟩ := pick_some h a sd 9 h0 (by omega)
    simp only [spec_l11New.l0]
    rw [if_neg (by omega), e, Option.bind_some]
    have hlen : 1 ≤ acc.length := by
      rcases hne with hne | hne
      · exact List.length_pos_iff.2 hne
      · omega
    exact ⟨acc, _, _, _, rfl, hlen, by omega, hn, hb, by rw [w64 (by omega) (by omega)]; omega, by rw [w64 (by omega) (by omega)]; omega, by show 0 ≤ a'; omega, by show a' ≤ _; omega⟩
  | succ d ih =>
    intro k acc a sd h0 h1 hk hl hne hn hb
    obtain ⟨k, rfl⟩ : ∃ m, k = m + 1 := ⟨k - 1, by omega⟩
    obtain ⟨v, a', s', e, p1, p2, p3, p4⟩ := pick_some h a sd 30 h0 (by omega)
    have hw : wrap64 (((d + 1 : Nat) : Int) - 1) = (d : Int) := by rw [w64 (by omega) (by omega)]; omega
    simp only [spec_l11New.l0]
    rw [if_pos (by omega), e, Option.bind_some, has_some acc v (by omega) k (by omega), Option.bind_some, hw]
    by_cases hc : acc.contains v = true
    · rw [if_pos hc]
      have hne2 : acc ≠ [] := by rintro rfl; simp at hc
      obtain ⟨ys, wt, a2, s2, e2, q⟩ := ih k acc a' s' (by omega) (by omega) (by omega) (by omega) (.inl hne2) hn hb
      exact ⟨ys, wt, a2, s2, e2, q.1, q.2.1, q.2.2.1, q.2.2.2.1, q.2.2.2.2.1, q.2.2.2.2.2.1, q.2.2.2.2.2.2.1, by have := q.2.2.2.2.2.2.2; omega⟩
    · rw [if_neg hc, if_pos (by omega)]
      have hm : v ∉ acc := fun hm => hc (by simp [hm])
      obtain ⟨ys, wt, a2, s2, e2, q⟩ := ih k (acc ++ [v]) a' s' (by omega) (by omega) (by omega) (by simp; omega) (.inl (by simp)) (List.nodup_append.2 ⟨hn, by simp, by intro x hx y hy; simp at hy; subst hy; rintro rfl; exact hm hx⟩) (fun s hs => by
        rcases List.mem_append.1 hs with hs | hs
        · exact hb s hs
        · simp at hs; subst hs; omega)
      exact ⟨ys, wt, a2, s2, e2, q.1, q.2.1, q.2.2.1, q.2.2.2.1, q.2.2.2.2.1, q.2.2.2.2.2.1, q.2.2.2.2.2.2.1, by have := q.2.2.2.2.2.2.2; omega⟩
theorem new_some {c : List Int} (h : Code c) (a sd : Int) (h0 : 0 ≤ a) (h1 : a ≤ 900000000000) (k : Nat) (hk : 20 < k) : ∃ (x : S36) (a' sd' : Int), spec_l11New.f k c a sd = some (x.f0, x.f1, x.f2, x.f3, a', sd') ∧ OkL x ∧ 0 ≤ a' ∧ a' ≤ a + 100 := by
  unfold spec_l11New.f
  obtain ⟨v1, a1, s1, e1, p1, q1, r1, t1⟩ := pick_some h a sd 2 h0 (by omega)
  obtain ⟨v2, a2, s2, e2, p2, q2, r2, t2⟩ := pick_some h a1 s1 14 (by omega) (by omega)
  obtain ⟨v3, a3, s3, e3, p3, q3, r3, t3⟩ := pick_some h a2 s2 3 (by omega) (by omega)
  have w2 : wrap64 (1 + v2) = 1 + v2 := w64 (by omega) (by omega)
  have w3 : wrap64 (1 + v3) = (((1 + v3).toNat : Nat) : Int) := by rw [w64 (by omega) (by omega)]; omega
  obtain ⟨ys, wt, a', s', e, g1, g2, g3, g4, g5, g6, g7, g8⟩ := new_loop h v1 (1 + v2) (1 + v3).toNat k [] a3 s3 (by omega) (by omega) (by omega) (by simp; omega) (.inr (by omega)) (by simp) (by simp)
  refine ⟨⟨v1, 1 + v2, ys, wt⟩, a', s', ?_, ⟨by show 0 ≤ v1 ∧ v1 ≤ 1; omega, by show 1 ≤ 1 + v2 ∧ 1 + v2 ≤ 14; omega, ⟨g1, g2⟩, g3, g4, ⟨g5, g6⟩⟩, g7, by omega⟩
  rw [e1, Option.bind_some, e2, Option.bind_some, e3, Option.bind_some, w2, w3, e]
theorem labs_draw {c : List Int} (h : Code c) : ∀ (d k : Nat) (xs : List S36) (a sd : Int), 0 ≤ a → a + 100 * (d : Int) ≤ 900000000000 → d + 21 < k → xs.length + d ≤ 6 → (∀ x ∈ xs, OkL x) →
    ∃ (ys : List S36) (a' sd' : Int), spec_l11Draw.l0 k xs (d : Int) c a sd = some (ys, a', sd') ∧ ys.length ≤ 6 ∧ ∀ x ∈ ys, OkL x := by
  intro d
  induction d with
  | zero =>
    intro k xs a sd h0 h1 hk hl ho
    obtain ⟨k, rfl⟩ : ∃ m, k = m + 1 := ⟨k - 1, by omega⟩
    simp only [spec_l11Draw.l0]
    rw [if_neg (by omega)]
    exact ⟨_, _, _, rfl, by omega, ho⟩
  | succ d ih =>
    intro k xs a sd h0 h1 hk hl ho
    obtain ⟨k, rfl⟩ : ∃ m, k = m + 1 := ⟨k - 1, by omega⟩
    obtain ⟨x, a', s', e, ox, p1, p2⟩ := new_some h a sd h0 (by omega) k (by omega)
    have hw : wrap64 (((d + 1 : Nat) : Int) - 1) = (d : Int) := by rw [w64 (by omega) (by omega)]; omega
    simp only [spec_l11Draw.l0]
    rw [if_pos (by omega), e, Option.bind_some, if_pos (by omega), hw]
    exact ih k (xs ++ [x]) a' s' p1 (by omega) (by omega) (by simp; omega) (fun y hy => by
      rcases List.mem_append.1 hy with hy | hy
      · exact ho y hy
      · simp at hy; subst hy; exact ox)
theorem labels_some {c : List Int} (h : Code c) (k : Nat) (hk : 100 < k) : ∃ ls : List S36, spec_A2Labels.f k c = some ls ∧ ls.length ≤ 6 ∧ ∀ x ∈ ls, OkL x := by
  unfold spec_A2Labels.f spec_l11Draw.f
  have hf : spec_l00From.f c = some (c, 0, 0) := rfl
  obtain ⟨v, a, s, e, p1, p2, p3, p4⟩ := pick_some h 0 0 7 (by decide) (by decide)
  obtain ⟨n, rfl⟩ : ∃ n : Nat, v = (n : Int) := ⟨v.toNat, by omega⟩
  obtain ⟨ys, a', s', e2, l, o⟩ := labs_draw h n k [] a s (by omega) (by omega) (by omega) (by simp; omega) (by simp)
  rw [hf, Option.bind_some, e, Option.bind_some, e2]
  exact ⟨ys, rfl, l, o⟩
end Go.Proofs.Ytjfkjmfdckbecaa.Pure
