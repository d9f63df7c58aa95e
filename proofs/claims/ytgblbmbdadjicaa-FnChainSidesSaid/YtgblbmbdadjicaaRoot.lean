/- The length of a step is bounded alike by the program and the reference. -/
import Derived.Test.YtgblbmbdadjicaaPrint0
import Derived.Test.YtgblbmbdadjicaaPrint3
import Derived.Test.YtgblbmbdadjicaaPrint4
import Derived.Test.YtgblbmbdadjicaaPrint5
import Derived.Test.YtgblbmbdadjicaaPrint6
import Derived.Test.YtgblbmbdadjicaaPrint7
import Derived.Test.YtgblbmbdadjicaaNum
import Derived.Test.YtgblbmbdadjicaaChA
import Derived.Test.YtgblbmbdadjicaaChV
import Derived.Test.YtgblbmbdadjicaaChP
namespace Go.Proofs.Ytgblbmbdadjicaa.Pure
open Go.RowKit Go.Proofs.Ytgblbmbdadjicaa.Print Go.Proofs.YtgblbmbdadjicaaW.PrintWords Go.Proofs.YtgblbmbdadjicaaW.PrintLast Go.Proofs.YtgblbmbdadjicaaW.PrintMore
set_option linter.unusedVariables false
set_option linter.unusedSimpArgs false
def far (a b : S44) : Int := (a.f0 - b.f0) * (a.f0 - b.f0) + (a.f1 - b.f1) * (a.f1 - b.f1)
def rt (n : Int) : Int := ((g_root n.toNat : Nat) : Int)
theorem rt_spec {n : Int} (h : 0 ≤ n) : 0 ≤ rt n ∧ rt n * rt n ≤ n ∧ n < (rt n + 1) * (rt n + 1) := by
  obtain ⟨m, rfl⟩ : ∃ m : Nat, n = (m : Int) := ⟨n.toNat, by omega⟩
  obtain ⟨h1, h2⟩ := g_root_spec m
  unfold rt
  rw [Int.toNat_natCast]
  refine ⟨by omega, by exact_mod_cast h1, by exact_mod_cast h2⟩
theorem rt_le {n : Int} (h : 0 ≤ n) (h2 : n ≤ 8000000) : rt n ≤ 3000 := by
  obtain ⟨a, b, _⟩ := rt_spec h
  rcases Int.lt_or_le 3000 (rt n) with c | c
  · have := Int.mul_le_mul (show (3001 : Int) ≤ rt n by omega) (show (3001 : Int) ≤ rt n by omega) (by decide) a
    omega
  · exact c
theorem rt_eq {n x : Int} (h0 : 0 ≤ x) (h1 : x * x ≤ n) (h2 : n < (x + 1) * (x + 1)) : rt n = x := by
  have hn : 0 ≤ n := Int.le_trans (sq0 x) h1
  obtain ⟨m, rfl⟩ : ∃ m : Nat, n = (m : Int) := ⟨n.toNat, by omega⟩
  obtain ⟨y, rfl⟩ : ∃ y : Nat, x = (y : Int) := ⟨x.toNat, by omega⟩
  unfold rt
  rw [Int.toNat_natCast, g_root_eq m y (by exact_mod_cast h1) (by exact_mod_cast h2)]
theorem far_in {a b : S44} (ha : okP a = true) (hb : okP b = true) : 0 ≤ far a b ∧ far a b ≤ 8000000 := by
  rw [okP_iff] at ha hb
  obtain ⟨s1, t1⟩ := sub_in ha.1 hb.1
  obtain ⟨s2, t2⟩ := sub_in ha.2 hb.2
  have p1 := prod_in t1 t1
  have p2 := prod_in t2 t2
  have q1 := sq0 (a.f0 - b.f0)
  have q2 := sq0 (a.f1 - b.f1)
  unfold far
  generalize (a.f0 - b.f0) * (a.f0 - b.f0) = u at p1 q1 ⊢
  generalize (a.f1 - b.f1) * (a.f1 - b.f1) = v at p2 q2 ⊢
  omega
theorem far_swap (a b : S44) : far b a = far a b := by unfold far; grind
theorem farval {x y : Int} (t1 : -2000 ≤ x ∧ x ≤ 2000) (t2 : -2000 ≤ y ∧ y ≤ 2000) : wrap64 (wrap64 (x * x) + wrap64 (y * y)) = x * x + y * y := by
  have p1 := prod_in t1 t1
  have p2 := prod_in t2 t2
  generalize x * x = u at p1 ⊢
  generalize y * y = v at p2 ⊢
  rw [w64 (x := u) (by omega) (by omega), w64 (x := v) (by omega) (by omega), w64 (by omega) (by omega)]
theorem far_impl {a b : S44} (ha : okP a = true) (hb : okP b = true) : impl_square.f a.f0 a.f1 b.f0 b.f1 = some (far a b) := by
  rw [okP_iff] at ha hb
  obtain ⟨s1, t1⟩ := sub_in ha.1 hb.1
  obtain ⟨s2, t2⟩ := sub_in ha.2 hb.2
  unfold impl_square.f far
  rw [s1, s2, farval t1 t2]
theorem far_spec {a b : S44} (ha : okP a = true) (hb : okP b = true) : spec_l07Far.f a.f0 a.f1 b.f0 b.f1 = some (far a b) := by
  rw [← far_swap]
  rw [okP_iff] at ha hb
  obtain ⟨s1, t1⟩ := sub_in hb.1 ha.1
  obtain ⟨s2, t2⟩ := sub_in hb.2 ha.2
  unfold spec_l07Far.f far
  rw [s1, s2, farval t1 t2]
theorem root_impl {n : Int} (h : 0 ≤ n) (h2 : n ≤ 8000000) : impl_root.f n = some (rt n) := by
  unfold impl_root.f rt
  rw [if_pos ⟨h, by omega⟩]
theorem root_loop {n : Int} : ∀ (d k : Nat) (lo hi : Int), (hi - lo).toNat ≤ d → d < k → 0 ≤ lo → lo < hi → hi ≤ 4000 → lo * lo ≤ n → n < hi * hi → spec_l07Root.l0 k n lo hi = some (rt n) := by
  intro d
  induction d with
  | zero => intro k lo hi hd _ _ h; omega
  | succ d ih =>
    intro k lo hi hd hk h0 h1 h2 h3 h4
    obtain ⟨k, rfl⟩ : ∃ m, k = m + 1 := ⟨k - 1, by omega⟩
    simp only [spec_l07Root.l0]
    rw [w64 (x := hi - lo) (by omega) (by omega), w64 (x := lo + hi) (by omega) (by omega)]
    by_cases hc : hi - lo > 1
    · rw [if_pos hc]
      have hm : Int.tdiv (lo + hi) 2 = (lo + hi) / 2 := Int.tdiv_eq_ediv_of_nonneg (by omega)
      rw [hm]
      generalize hmm : (lo + hi) / 2 = m
      have m1 : lo < m := by omega
      have m2 : m < hi := by omega
      clear hmm hm
      have b := prod_in (a := m) (b := m)
      have hb : 0 ≤ m * m ∧ m * m ≤ 16000000 := ⟨sq0 m, by have := Int.mul_le_mul (show m ≤ 4000 by omega) (show m ≤ 4000 by omega) (by omega) (by decide); omega⟩
      clear b
      rw [w64 (x := m) (by omega) (by omega), w64 (x := m * m) (by omega) (by omega)]
      by_cases hq : m * m ≤ n
      · rw [if_pos hq]
        exact ih k m hi (by omega) (by omega) (by omega) m2 h2 hq h4
      · rw [if_neg hq]
        exact ih k lo m (by omega) (by omega) h0 m1 (by omega) h3 (by omega)
    · rw [if_neg hc]
      have e : hi = lo + 1 := by omega
      subst e
      rw [rt_eq h0 h3 h4]
theorem root_spec {n : Int} (h : 0 ≤ n) (h2 : n ≤ 8000000) (k : Nat) (hk : 4000 < k) : spec_l07Root.f k n = some (rt n) := by
  unfold spec_l07Root.f
  exact root_loop 4000 k 0 4000 (by decide) hk (by decide) (by decide) (by decide) (by omega) (by omega)
def lowS (a b : S44) : Int := rt (far a b)
def highS (a b : S44) : Int := if rt (far a b) * rt (far a b) < far a b then rt (far a b) + 1 else rt (far a b)
def path (f : S44 → S44 → Int) : List S44 → Int
 | a :: b :: r => f a b + path f (b :: r)
 | _ => 0
theorem lows_in {a b : S44} (ha : okP a = true) (hb : okP b = true) : 0 ≤ lowS a b ∧ lowS a b ≤ highS a b ∧ highS a b ≤ lowS a b + 1 ∧ highS a b ≤ 3001 := by
  obtain ⟨f1, f2⟩ := far_in ha hb
  have r1 := rt_le f1 f2
  have r2 := (rt_spec f1).1
  unfold lowS highS
  split <;> omega
theorem drop2 {xs : List S44} {i : Nat} (h : i + 1 < xs.length) (f : S44 → S44 → Int) : path f (xs.drop i) = f (xs[i]'(by omega)) xs[i + 1] + path f (xs.drop (i + 1)) := by
  rw [List.drop_eq_getElem_cons (show i < xs.length by omega), List.drop_eq_getElem_cons h]
  rfl
theorem bounds_loop (xs : List S44) (ho : ∀ p ∈ xs, okP p = true) (hl : xs.length ≤ 24) : ∀ (d k i : Nat) (lo hi : Int), xs.length - (i + 1) = d → i + 1 ≤ xs.length → d + 4001 < k → 0 ≤ lo → lo + 3001 * (d : Int) ≤ 100000 → 0 ≤ hi → hi + 3001 * (d : Int) ≤ 100000 →
    impl_LengthBounds.l0 k xs lo hi ((i + 1 : Nat) : Int) = some (lo + path lowS (xs.drop i), hi + path highS (xs.drop i), 0) ∧ spec_LengthBounds.l0 k xs lo hi ((i + 1 : Nat) : Int) = some (lo + path lowS (xs.drop i), hi + path highS (xs.drop i), 0) := by
  intro d
  induction d with
  | zero =>
    intro k i lo hi hd hi1 hk h0 h1 h2 h3
    obtain ⟨k, rfl⟩ : ∃ m, k = m + 1 := ⟨k - 1, by omega⟩
    have q1 : ¬ ((i + 1 : Nat) : Int) < (xs.length : Int) := by omega
    have e : ∀ f, path f (xs.drop i) = 0 := by
      intro f
      rw [List.drop_eq_getElem_cons (show i < xs.length by omega), List.drop_eq_nil_of_le (by omega)]
      rfl
    simp only [impl_LengthBounds.l0, spec_LengthBounds.l0]
    rw [if_neg q1, if_neg q1, e, e, Int.add_zero, Int.add_zero]
    exact ⟨rfl, rfl⟩
  | succ d ih =>
    intro k i lo hi hd hi1 hk h0 h1 h2 h3
    obtain ⟨k, rfl⟩ : ∃ m, k = m + 1 := ⟨k - 1, by omega⟩
    have h : i + 1 < xs.length := by omega
    have q1 : ((i + 1 : Nat) : Int) < (xs.length : Int) := by omega
    have q2 : wrap64 (((i + 1 : Nat) : Int) - 1) = (i : Int) := by rw [w64 (by omega) (by omega)]; omega
    have q3 : (0 : Int) ≤ (i : Int) := by omega
    have q4 : (i : Int) < (xs.length : Int) := by omega
    have q5 : (0 : Int) ≤ ((i + 1 : Nat) : Int) := by omega
    have q6 := nxt h (by omega)
    have q7 : 4000 < k := by omega
    have a1 : xs.length - (i + 1 + 1) = d := by omega
    have a2 : i + 1 + 1 ≤ xs.length := by omega
    have a3 : d + 4001 < k := by omega
    have oa := ho _ (List.getElem_mem (show i < xs.length by omega))
    have ob := ho _ (List.getElem_mem h)
    obtain ⟨f1, f2⟩ := far_in oa ob
    obtain ⟨l1, l2, l3, l4⟩ := lows_in oa ob
    have c1 := far_impl oa ob
    have c2 := far_spec oa ob
    have ea := rdP (xs := xs) (show i < xs.length by omega)
    have eb := rdP (xs := xs) h
    simp only [impl_LengthBounds.l0, spec_LengthBounds.l0]
    rw [if_pos q1, if_pos q1, q2, if_pos q3, if_pos q3, if_pos q4, if_pos q4, if_pos q5, if_pos q5, ea, eb, c1, c2, Option.bind_some, Option.bind_some, root_impl f1 f2, root_spec f1 f2 k q7, Option.bind_some, Option.bind_some, q6, drop2 h lowS, drop2 h highS]
    have hw : wrap64 (rt (far xs[i] xs[i + 1]) * rt (far xs[i] xs[i + 1])) = rt (far xs[i] xs[i + 1]) * rt (far xs[i] xs[i + 1]) := by
      obtain ⟨z1, z2, _⟩ := rt_spec f1
      have z3 := sq0 (rt (far xs[i] xs[i + 1]))
      generalize rt (far xs[i] xs[i + 1]) * rt (far xs[i] xs[i + 1]) = u at z2 z3 ⊢
      exact w64 (by omega) (by omega)
    rw [hw]
    have hlow : lowS xs[i] xs[i + 1] = rt (far xs[i] xs[i + 1]) := rfl
    have hhigh : highS xs[i] xs[i + 1] = if rt (far xs[i] xs[i + 1]) * rt (far xs[i] xs[i + 1]) < far xs[i] xs[i + 1] then rt (far xs[i] xs[i + 1]) + 1 else rt (far xs[i] xs[i + 1]) := rfl
    rw [← Int.add_assoc, ← Int.add_assoc]
    by_cases hc : rt (far xs[i] xs[i + 1]) * rt (far xs[i] xs[i + 1]) < far xs[i] xs[i + 1]
    · rw [if_pos hc] at hhigh
      rw [if_pos hc, if_pos hc, hlow, hhigh]
      rw [hlow, hhigh] at l2 l3
      rw [hlow] at l1
      rw [hhigh] at l4
      clear hc hlow hhigh hw c1 c2 f1 f2
      generalize rt (far xs[i] xs[i + 1]) = u at l1 l2 l3 l4 ⊢
      rw [w64 (x := lo + u) (by omega) (by omega), w64 (x := hi + u) (by omega) (by omega), w64 (x := hi + u + 1) (by omega) (by omega), Int.add_assoc hi u 1]
      exact ih k (i + 1) _ _ a1 a2 a3 (by omega) (by omega) (by omega) (by omega)
    · rw [if_neg hc] at hhigh
      rw [if_neg hc, if_neg hc, hlow, hhigh]
      rw [hlow, hhigh] at l2 l3
      rw [hlow] at l1
      rw [hhigh] at l4
      clear hc hlow hhigh hw c1 c2 f1 f2
      generalize rt (far xs[i] xs[i + 1]) = u at l1 l2 l3 l4 ⊢
      rw [w64 (x := lo + u) (by omega) (by omega), w64 (x := hi + u) (by omega) (by omega)]
      exact ih k (i + 1) _ _ a1 a2 a3 (by omega) (by omega) (by omega) (by omega)
theorem bounds_both (xs : List S44) (hv : okCh xs = true) (k : Nat) (hk : 4100 < k) : impl_LengthBounds.l0 k xs 0 0 1 = some (path lowS xs, path highS xs, 0) ∧ spec_LengthBounds.l0 k xs 0 0 1 = some (path lowS xs, path highS xs, 0) := by
  obtain ⟨ho, h1, h2⟩ := okCh_iff.1 hv
  have e := bounds_loop xs ho h2 (xs.length - 1) k 0 0 0 (by omega) (by omega) (by omega) (by decide) (by omega) (by decide) (by omega)
  rw [List.drop_zero, Int.zero_add, Int.zero_add] at e
  exact e
end Go.Proofs.Ytgblbmbdadjicaa.Pure
