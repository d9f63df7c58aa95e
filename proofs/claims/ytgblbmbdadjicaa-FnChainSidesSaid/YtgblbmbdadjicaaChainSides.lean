/- The law FnChainSides: a chain and its reverse have the same bounds of length and exchanged sides. -/
import Derived.Test.YtgblbmbdadjicaaPrint0
import Derived.Test.YtgblbmbdadjicaaPrint5
import Derived.Test.YtgblbmbdadjicaaPrint8
import Derived.Test.YtgblbmbdadjicaaPrint11
import Derived.Test.YtgblbmbdadjicaaPrint12
import Derived.Test.YtgblbmbdadjicaaPrint13
import Derived.Test.YtgblbmbdadjicaaNum
import Derived.Test.YtgblbmbdadjicaaInS
import Derived.Test.YtgblbmbdadjicaaInW
import Derived.Test.YtgblbmbdadjicaaSrc
import Derived.Test.YtgblbmbdadjicaaChA
import Derived.Test.YtgblbmbdadjicaaChV
import Derived.Test.YtgblbmbdadjicaaChP
import Derived.Test.YtgblbmbdadjicaaDrawC
import Derived.Test.YtgblbmbdadjicaaRoot
namespace Go.Proofs.Ytgblbmbdadjicaa.Pure
open Go.RowKit Go.Proofs.Ytgblbmbdadjicaa.Print Go.Proofs.YtgblbmbdadjicaaW.PrintWords Go.Proofs.YtgblbmbdadjicaaW.PrintLast Go.Proofs.YtgblbmbdadjicaaW.PrintMore
set_option linter.unusedVariables false
set_option linter.unusedSimpArgs false
theorem sqle {u v : Int} (h0 : 0 ≤ u) (h1 : 0 ≤ v) (h : u * u ≤ v * v) : u ≤ v := by
  rcases Int.lt_or_le v u with c | c
  · have := Int.mul_le_mul (show v + 1 ≤ u by omega) (show v + 1 ≤ u by omega) (by omega) h0
    have e : (v + 1) * (v + 1) = v * v + 2 * v + 1 := by grind
    omega
  · exact c
def dxS (a b : S44) : Int := mx (b.f0 - a.f0) (a.f0 - b.f0)
theorem dx_high {a b : S44} (ha : okP a = true) (hb : okP b = true) : 0 ≤ dxS a b ∧ dxS a b ≤ 2000 ∧ dxS a b ≤ highS a b := by
  obtain ⟨f1, f2⟩ := far_in ha hb
  obtain ⟨z1, z2, z3⟩ := rt_spec f1
  obtain ⟨l1, l2, l3, l4⟩ := lows_in ha hb
  rw [okP_iff] at ha hb
  have hd : 0 ≤ dxS a b ∧ dxS a b ≤ 2000 ∧ dxS a b * dxS a b = (a.f0 - b.f0) * (a.f0 - b.f0) := by
    unfold dxS mx
    split
    · exact ⟨by omega, by omega, rfl⟩
    · exact ⟨by omega, by omega, by grind⟩
  obtain ⟨d1, d2, d3⟩ := hd
  have q2 := sq0 (a.f1 - b.f1)
  have hf : dxS a b * dxS a b ≤ far a b := by rw [d3]; unfold far; omega
  refine ⟨d1, d2, ?_⟩
  have hh : 0 ≤ highS a b := by omega
  unfold highS
  split
  · exact sqle d1 (by omega) (by omega)
  · exact sqle d1 z1 (by omega)
theorem low_swap (a b : S44) : lowS b a = lowS a b := by unfold lowS; rw [far_swap]
theorem high_swap (a b : S44) : highS b a = highS a b := by unfold highS; rw [far_swap]
theorem path_snoc (f : S44 → S44 → Int) (a b : S44) : ∀ xs : List S44, path f (xs ++ [a, b]) = path f (xs ++ [a]) + f a b
  | [] => by show f a b + 0 = 0 + f a b; omega
  | [x] => by show f x a + (f a b + 0) = f x a + 0 + f a b; omega
  | x :: y :: r => by
    have := path_snoc f a b (y :: r)
    show f x y + path f ((y :: r) ++ [a, b]) = f x y + path f ((y :: r) ++ [a]) + f a b
    omega
theorem path_rev (f : S44 → S44 → Int) (hf : ∀ a b, f b a = f a b) : ∀ xs : List S44, path f xs.reverse = path f xs
  | [] => rfl
  | [x] => rfl
  | x :: y :: r => by
    have ih := path_rev f hf (y :: r)
    rw [List.reverse_cons] at ih
    rw [List.reverse_cons, List.reverse_cons, List.append_assoc]
    show path f (r.reverse ++ [y, x]) = f x y + path f (y :: r)
    rw [path_snoc, ih, hf]
    omega
theorem path_in : ∀ xs : List S44, (∀ p ∈ xs, okP p = true) → 0 ≤ path dxS xs ∧ path dxS xs ≤ path highS xs ∧ 0 ≤ path lowS xs ∧ path lowS xs ≤ path highS xs ∧ path highS xs ≤ path lowS xs + ((xs.length - 1 : Nat) : Int) ∧ path highS xs ≤ 3001 * (xs.length : Int)
  | [], _ => by decide
  | [x], _ => by
    show (0 : Int) ≤ 0 ∧ (0 : Int) ≤ 0 ∧ (0 : Int) ≤ 0 ∧ (0 : Int) ≤ 0 ∧ (0 : Int) ≤ 0 + ((0 : Nat) : Int) ∧ (0 : Int) ≤ 3001 * ((1 : Nat) : Int)
    omega
  | x :: y :: r, ho => by
    have ih := path_in (y :: r) (fun p hp => ho p (List.mem_cons_of_mem _ hp))
    have ox := ho x List.mem_cons_self
    have oy := ho y (List.mem_cons_of_mem _ List.mem_cons_self)
    obtain ⟨d1, d2, d3⟩ := dx_high ox oy
    obtain ⟨l1, l2, l3, l4⟩ := lows_in ox oy
    have e1 : path dxS (x :: y :: r) = dxS x y + path dxS (y :: r) := rfl
    have e2 : path lowS (x :: y :: r) = lowS x y + path lowS (y :: r) := rfl
    have e3 : path highS (x :: y :: r) = highS x y + path highS (y :: r) := rfl
    rw [e1, e2, e3]
    simp only [List.length_cons] at ih ⊢
    generalize path dxS (y :: r) = u1 at ih ⊢
    generalize path lowS (y :: r) = u2 at ih ⊢
    generalize path highS (y :: r) = u3 at ih ⊢
    generalize dxS x y = v1 at d1 d2 d3 ⊢
    generalize lowS x y = v2 at l1 l2 l3 ⊢
    generalize highS x y = v3 at d3 l2 l3 l4 ⊢
    omega
theorem side_loop (xs : List S44) (ho : ∀ p ∈ xs, okP p = true) (hl : xs.length ≤ 24) (hi : Int) : ∀ (d k i : Nat) (acc : Int), xs.length - (i + 1) = d → i + 1 ≤ xs.length → d < k → 0 ≤ acc → acc + 2000 * (d : Int) ≤ 100000 →
    laws_FnChainSides.l0 k xs hi acc ((i + 1 : Nat) : Int) = some (decide (hi ≥ acc + path dxS (xs.drop i))) := by
  intro d
  induction d with
  | zero =>
    intro k i acc hd hi1 hk h0 h1
    obtain ⟨k, rfl⟩ : ∃ m, k = m + 1 := ⟨k - 1, by omega⟩
    have q1 : ¬ ((i + 1 : Nat) : Int) < (xs.length : Int) := by omega
    have e : path dxS (xs.drop i) = 0 := by
      rw [List.drop_eq_getElem_cons (show i < xs.length by omega), List.drop_eq_nil_of_le (by omega)]
      rfl
    simp only [laws_FnChainSides.l0]
    rw [if_neg q1, e, Int.add_zero]
  | succ d ih =>
    intro k i acc hd hi1 hk h0 h1
    obtain ⟨k, rfl⟩ : ∃ m, k = m + 1 := ⟨k - 1, by omega⟩
    have h : i + 1 < xs.length := by omega
    have q1 : ((i + 1 : Nat) : Int) < (xs.length : Int) := by omega
    have q2 : wrap64 (((i + 1 : Nat) : Int) - 1) = (i : Int) := by rw [w64 (by omega) (by omega)]; omega
    have q3 : (0 : Int) ≤ (i : Int) := by omega
    have q4 : (i : Int) < (xs.length : Int) := by omega
    have q5 : (0 : Int) ≤ ((i + 1 : Nat) : Int) := by omega
    have q6 := nxt h (by omega)
    have a1 : xs.length - (i + 1 + 1) = d := by omega
    have a2 : i + 1 + 1 ≤ xs.length := by omega
    have a3 : d < k := by omega
    have oa := ho _ (List.getElem_mem (show i < xs.length by omega))
    have ob := ho _ (List.getElem_mem h)
    obtain ⟨d1, d2, _⟩ := dx_high oa ob
    have ea := rdP (xs := xs) (show i < xs.length by omega)
    have eb := rdP (xs := xs) h
    have pa := (okP_iff.1 oa).1
    have pb := (okP_iff.1 ob).1
    simp only [laws_FnChainSides.l0]
    rw [if_pos q1, q2, if_pos q5, if_pos q3, if_pos q4, ea, eb, q6, (sub_in pb pa).1, (sub_in pa pb).1, drop2 h dxS]
    have hx : mx (xs[i + 1].f0 - xs[i].f0) (xs[i].f0 - xs[i + 1].f0) = dxS xs[i] xs[i + 1] := rfl
    rw [hx]
    generalize dxS xs[i] xs[i + 1] = u at d1 d2 ⊢
    rw [w64 (x := acc + u) (by omega) (by omega), ← Int.add_assoc]
    exact ih k (i + 1) _ a1 a2 a3 (by omega) (by omega)
def crs (a b p : S44) : Int := (b.f0 - a.f0) * (p.f1 - a.f1) - (b.f1 - a.f1) * (p.f0 - a.f0)
theorem crs_swap (a b p : S44) : crs b a p = -(crs a b p) := by unfold crs; grind
theorem crs_a (a b : S44) : crs a b a = 0 := by unfold crs; grind
theorem crs_b (a b : S44) : crs a b b = 0 := by unfold crs; grind
theorem beside_some {a b p : S44} (ha : okP a = true) (hb : okP b = true) (hp : okP p = true) : impl_beside.f a.f0 a.f1 b.f0 b.f1 p.f0 p.f1 = some (crs a b p) := by
  rw [okP_iff] at ha hb hp
  obtain ⟨s1, t1⟩ := sub_in hb.1 ha.1
  obtain ⟨s2, t2⟩ := sub_in hp.2 ha.2
  obtain ⟨s3, t3⟩ := sub_in hb.2 ha.2
  obtain ⟨s4, t4⟩ := sub_in hp.1 ha.1
  have p1 := prod_in t1 t2
  have p2 := prod_in t3 t4
  unfold impl_beside.f crs
  rw [s1, s2, s3, s4]
  generalize (b.f0 - a.f0) * (p.f1 - a.f1) = u at p1 ⊢
  generalize (b.f1 - a.f1) * (p.f0 - a.f0) = v at p2 ⊢
  rw [w64 (x := u) (by omega) (by omega), w64 (x := v) (by omega) (by omega), w64 (by omega) (by omega)]
def lefts (a b : S44) (xs : List S44) : Nat := xs.countP fun p => decide (0 < crs a b p)
def rights (a b : S44) (xs : List S44) : Nat := xs.countP fun p => decide (crs a b p < 0)
theorem turn_loop (xs : List S44) (ho : ∀ p ∈ xs, okP p = true) (h1 : 1 ≤ xs.length) (hl : xs.length ≤ 24) : ∀ (d k i : Nat) (l r : Int), xs.length - i = d → i ≤ xs.length → d < k → 0 ≤ l → l + (d : Int) ≤ 1000 → 0 ≤ r → r + (d : Int) ≤ 1000 →
    impl_TurnsAside.l0 k xs l r xs (xs.length : Int) i = some (l + (lefts (xs[0]'(by omega)) (xs[xs.length - 1]'(by omega)) (xs.drop i) : Int), r + (rights (xs[0]'(by omega)) (xs[xs.length - 1]'(by omega)) (xs.drop i) : Int), 0) := by
  intro d
  induction d with
  | zero =>
    intro k i l r hd hi hk _ _ _ _
    obtain ⟨k, rfl⟩ : ∃ m, k = m + 1 := ⟨k - 1, by omega⟩
    have q1 : ¬ (i : Int) < (xs.length : Int) := by omega
    simp only [impl_TurnsAside.l0]
    rw [if_neg q1, List.drop_eq_nil_of_le (by omega)]
    show _ = some (l + 0, r + 0, 0)
    rw [Int.add_zero, Int.add_zero]
  | succ d ih =>
    intro k i l r hd hi hk g0 g1 g2 g3
    obtain ⟨k, rfl⟩ : ∃ m, k = m + 1 := ⟨k - 1, by omega⟩
    have h : i < xs.length := by omega
    have p0 : (0 : Int) ≤ (i : Int) := by omega
    have p1 : (i : Int) < (xs.length : Int) := by omega
    have p2 : (0 : Int) < (xs.length : Int) := by omega
    have w : wrap64 ((xs.length : Int) - 1) = ((xs.length - 1 : Nat) : Int) := by rw [w64 (by omega) (by omega)]; omega
    have p3 : (0 : Int) ≤ ((xs.length - 1 : Nat) : Int) := by omega
    have p4 : ((xs.length - 1 : Nat) : Int) < (xs.length : Int) := by omega
    have n := nxt h (by omega)
    have a1 : xs.length - (i + 1) = d := by omega
    have a2 : i + 1 ≤ xs.length := by omega
    have a3 : d < k := by omega
    have e0 := rdP (xs := xs) (i := 0) (by omega)
    rw [Int.natCast_zero] at e0
    have e1 := rdP (xs := xs) (i := xs.length - 1) (by omega)
    have e2 := rdP (xs := xs) h
    have hb := beside_some (ho _ (List.getElem_mem (show 0 < xs.length by omega))) (ho _ (List.getElem_mem (show xs.length - 1 < xs.length by omega))) (ho _ (List.getElem_mem h))
    have hw1 : wrap64 (l + 1) = l + 1 := w64 (by omega) (by omega)
    have hw2 : wrap64 (r + 1) = r + 1 := w64 (by omega) (by omega)
    have b1 : 0 ≤ l + 1 := by omega
    have b2 : l + 1 + (d : Int) ≤ 1000 := by omega
    have b3 : 0 ≤ r + 1 := by omega
    have b4 : r + 1 + (d : Int) ≤ 1000 := by omega
    have b5 : l + (d : Int) ≤ 1000 := by omega
    have b6 : r + (d : Int) ≤ 1000 := by omega
    simp only [impl_TurnsAside.l0]
    rw [if_pos p1, if_pos p0, if_pos p1, if_pos p2, w, if_pos p3, if_pos p4, e0, e1, e2, hb, Option.bind_some, n, List.drop_eq_getElem_cons h]
    unfold lefts rights at ih ⊢
    rw [List.countP_cons, List.countP_cons]
    generalize crs xs[0] xs[xs.length - 1] xs[i] = c
    by_cases h2 : c > 0
    · rw [if_pos h2, hw1, ih k (i + 1) _ _ a1 a2 a3 b1 b2 g2 b6, decide_eq_true (show 0 < c from h2), decide_eq_false (show ¬ c < 0 by omega)]
      congr 2
      simp
      omega
    · rw [if_neg h2]
      by_cases h3 : c < 0
      · rw [if_pos h3, hw2, ih k (i + 1) _ _ a1 a2 a3 g0 b5 b3 b4, decide_eq_false (show ¬ 0 < c by omega), decide_eq_true h3]
        congr 2
        simp
        omega
      · rw [if_neg h3, ih k (i + 1) _ _ a1 a2 a3 g0 b5 g2 b6, decide_eq_false (show ¬ 0 < c by omega), decide_eq_false h3]
        simp
theorem count_two (a b : S44) : ∀ ms : List S44, lefts a b ms + rights a b ms ≤ ms.length
  | [] => by unfold lefts rights; simp
  | m :: ms => by
    have ih := count_two a b ms
    unfold lefts rights at ih ⊢
    rw [List.countP_cons, List.countP_cons, List.length_cons]
    generalize crs a b m = c
    by_cases h2 : 0 < c
    · rw [decide_eq_true h2, decide_eq_false (show ¬ c < 0 by omega)]; simp; omega
    · by_cases h3 : c < 0
      · rw [decide_eq_false h2, decide_eq_true h3]; simp; omega
      · rw [decide_eq_false h2, decide_eq_false h3]; simp; omega
theorem count_ends (a b : S44) (ms : List S44) : lefts a b (a :: (ms ++ [b])) + rights a b (a :: (ms ++ [b])) ≤ ms.length := by
  have h := count_two a b ms
  unfold lefts rights at h ⊢
  rw [List.countP_cons, List.countP_cons, List.countP_append, List.countP_append, List.countP_cons, List.countP_cons, crs_a, crs_b]
  simp
  exact h
theorem ends_of {xs : List S44} (h : 2 ≤ xs.length) : ∃ ms : List S44, xs = (xs[0]'(by omega)) :: (ms ++ [xs[xs.length - 1]'(by omega)]) ∧ xs.length = ms.length + 2 := by
  match xs, h with
  | a :: b :: r, h =>
    refine ⟨(b :: r).dropLast, ?_, by simp⟩
    have e := List.dropLast_concat_getLast (show b :: r ≠ [] by simp)
    rw [List.getLast_eq_getElem] at e
    simp only [List.getElem_cons_zero, List.length_cons, Nat.add_sub_cancel] at e ⊢
    rw [List.getElem_cons_succ]
    rw [e]
theorem count_rev (a b : S44) (xs : List S44) : lefts b a xs.reverse = rights a b xs ∧ rights b a xs.reverse = lefts a b xs := by
  unfold lefts rights
  rw [List.countP_reverse, List.countP_reverse]
  constructor
  · congr 1; funext p; rw [crs_swap]; exact decide_eq_decide.2 (by omega)
  · congr 1; funext p; rw [crs_swap]; exact decide_eq_decide.2 (by omega)
theorem turns_some (xs : List S44) (hv : okCh xs = true) (k : Nat) (hk : 200 < k) : ∃ h : 2 ≤ xs.length, impl_TurnsAside.f k xs = some ((lefts (xs[0]'(by omega)) (xs[xs.length - 1]'(by omega)) xs : Int), (rights (xs[0]'(by omega)) (xs[xs.length - 1]'(by omega)) xs : Int), 0) := by
  obtain ⟨ho, h1, h2⟩ := okCh_iff.1 hv
  refine ⟨h1, ?_⟩
  have e := turn_loop xs ho (by omega) h2 xs.length k 0 0 0 (by omega) (by omega) (by omega) (by decide) (by omega) (by decide) (by omega)
  rw [List.drop_zero, Int.zero_add, Int.zero_add, Int.natCast_zero] at e
  unfold impl_TurnsAside.f
  rw [valid_some xs (by omega) k (by omega), Option.bind_some, hv, if_pos rfl, e]
theorem specRv_loop (xs : List S44) (hl : xs.length ≤ 1000000000) : ∀ (m k : Nat) (acc : List S44), m ≤ xs.length → acc.length + m ≤ 1000000000 → m < k → spec_ReverseChain.l0 k xs acc ((m : Int) - 1) = some (acc ++ (xs.take m).reverse, 0) := by
  intro m
  induction m with
  | zero =>
    intro k acc hm ha hk
    obtain ⟨k, rfl⟩ : ∃ m, k = m + 1 := ⟨k - 1, by omega⟩
    simp only [spec_ReverseChain.l0]
    rw [if_neg (by omega)]
    simp
  | succ m ih =>
    intro k acc hm ha hk
    obtain ⟨k, rfl⟩ : ∃ m, k = m + 1 := ⟨k - 1, by omega⟩
    have h : m < xs.length := by omega
    simp only [spec_ReverseChain.l0]
    rw [show ((m + 1 : Nat) : Int) - 1 = (m : Int) by omega, if_pos (by omega), if_pos (by omega), if_pos (by omega), if_pos (by omega), w64 (by omega) (by omega), rdP h, ih k _ (by omega) (by simp; omega) (by omega), List.take_succ_eq_append_getElem h]
    rw [List.reverse_append, List.append_assoc]
    rfl
theorem side_j0 (k : Nat) (xs : List S44) (hi : Int) : laws_FnChainSides.j0 (k + 1) xs hi false = laws_FnChainSides.l0 k xs hi 0 1 := by
  simp [laws_FnChainSides.j0]
theorem side_gen (RC : List S44 → Option (List S44 × Int)) (LB TA : List S44 → Option (Int × Int × Int)) (J : List S44 → Int → Bool → Option Bool) (xs ys : List S44) (lo hi le ri : Int)
    (er : RC xs = some (ys, 0)) (b1 : LB xs = some (lo, hi, 0)) (b2 : LB ys = some (lo, hi, 0)) (t1 : TA xs = some (le, ri, 0)) (t2 : TA ys = some (ri, le, 0))
    (z1 : ¬ lo > hi) (z3 : ¬ wrap64 (hi - lo) ≥ (xs.length : Int)) (z4 : ¬ le < 0) (z5 : ¬ ri < 0) (z8 : ¬ wrap64 (le + ri) > wrap64 ((xs.length : Int) - 2)) (hJ : J xs hi false = some true) :
    ((RC xs).bind fun bt223 => ((LB xs).bind fun bt227 => ((LB bt223.1).bind fun bt230 => ((TA xs).bind fun bt233 => ((TA bt223.1).bind fun bt236 => (if bt223.2 = 0 then (if bt227.2.2 = 0 then (if bt227.1 > bt227.2.1 then (none) else (if (wrap64 (bt227.2.1 - bt227.1)) ≥ (xs.length : Int) then (none) else (if bt230.2.2 = 0 then (if bt230.1 = bt227.1 then (if bt230.2.1 = bt227.2.1 then (if bt233.2.2 = 0 then (if bt236.2.2 = 0 then (if bt233.1 = bt236.2.1 then (if bt233.2.1 = bt236.1 then (if bt233.1 < 0 then (none) else (if bt233.2.1 < 0 then (none) else (J xs bt227.2.1 (decide ((wrap64 (bt233.1 + bt233.2.1)) > (wrap64 ((xs.length : Int) - 2))))))) else (none)) else (none)) else (none)) else (none)) else (none)) else (none)) else (none)))) else (none)) else (none))))))) = some true := by
  rw [er, Option.bind_some, b1, Option.bind_some, b2, Option.bind_some, t1, Option.bind_some, t2, Option.bind_some]
  dsimp only
  rw [decide_eq_false z8, hJ]
  simp [z1, z3, z4, z5]
theorem FnChainSides : laws_FnChainSides.Pure := by
  intro c hc hcl
  suffices H : ∀ k, 10000 ≤ k → laws_FnChainSides.f k c = some true from ⟨_, H _ (Nat.le_refl _)⟩
  intro k hk
  obtain ⟨k, rfl⟩ : ∃ m, k = m + 1 := ⟨k - 1, by omega⟩
  have C := code_of hc hcl
  unfold laws_FnChainSides.f laws_a2Long.f spec_A2Chain.f
  by_cases hlong : (c.length : Int) > 3000
  · rw [if_pos hlong, Option.bind_some, if_pos rfl]
  rw [if_neg hlong, Option.bind_some, if_neg (by simp)]
  obtain ⟨xs, a', sd', ed, hv, hlen, _, _⟩ := draw_some C 0 0 (by decide) (by decide) (k + 1) (by omega)
  obtain ⟨ho, h1, h2⟩ := okCh_iff.1 hv
  have hvr : okCh xs.reverse = true := okCh_iff.2 ⟨fun p hp => ho p (List.mem_reverse.1 hp), by rw [List.length_reverse]; exact h1, by rw [List.length_reverse]; exact h2⟩
  have hfrom : spec_l00From.f c = some (c, 0, 0) := rfl
  rw [hfrom, Option.bind_some, ed, Option.bind_some, Option.bind_some]
  have er : spec_ReverseChain.f (k + 1) xs = some (xs.reverse, 0) := by
    unfold spec_ReverseChain.f
    rw [l07Ok_some xs (by omega) (k + 1) (by omega), Option.bind_some, hv, if_pos rfl, w64 (by omega) (by omega), specRv_loop xs (by omega) xs.length (k + 1) [] (by omega) (by simp; omega) (by omega)]
    simp
  have eb : ∀ ys : List S44, okCh ys = true → impl_LengthBounds.f (k + 1) ys = some (path lowS ys, path highS ys, 0) := by
    intro ys hy
    obtain ⟨_, _, y2⟩ := okCh_iff.1 hy
    unfold impl_LengthBounds.f
    rw [valid_some ys (by omega) (k + 1) (by omega), Option.bind_some, hy, if_pos rfl, (bounds_both ys hy (k + 1) (by omega)).1]
  obtain ⟨_, t1⟩ := turns_some xs hv (k + 1) (by omega)
  obtain ⟨_, t2⟩ := turns_some xs.reverse hvr (k + 1) (by omega)
  have g0 : (xs.reverse)[0]'(by rw [List.length_reverse]; omega) = xs[xs.length - 1]'(by omega) := by rw [List.getElem_reverse]; rfl
  have g1 : (xs.reverse)[xs.reverse.length - 1]'(by rw [List.length_reverse]; omega) = xs[0]'(by omega) := by
    rw [List.getElem_reverse]
    congr 1
    rw [List.length_reverse]
    omega
  rw [g0, g1, (count_rev _ _ xs).1, (count_rev _ _ xs).2] at t2
  have b1 := eb xs hv
  have b2 := eb xs.reverse hvr
  rw [path_rev lowS low_swap, path_rev highS high_swap] at b2
  obtain ⟨ms, em, el⟩ := ends_of h1
  have hc2 : lefts (xs[0]'(by omega)) (xs[xs.length - 1]'(by omega)) xs + rights (xs[0]'(by omega)) (xs[xs.length - 1]'(by omega)) xs ≤ xs.length - 2 := by
    have := count_ends (xs[0]'(by omega)) (xs[xs.length - 1]'(by omega)) ms
    rw [← em] at this
    omega
  have hp := path_in xs ho
  have hs := side_loop xs ho h2 (path highS xs) (xs.length - 1) k 0 0 (by omega) (by omega) (by omega) (by decide) (by omega)
  rw [List.drop_zero, Int.zero_add] at hs
  have hs2 : laws_FnChainSides.l0 k xs (path highS xs) 0 1 = some true := by
    rw [show ((0 + 1 : Nat) : Int) = 1 from rfl] at hs
    rw [hs, decide_eq_true (show path highS xs ≥ path dxS xs from hp.2.1)]
  obtain ⟨p1, p2, p3, p4, p5, p6⟩ := hp
  have z1 : ¬ path lowS xs > path highS xs := by clear hs hs2 t1 t2 b1 b2 eb er em p1 p2 hc2; omega
  have z2 : wrap64 (path highS xs - path lowS xs) = path highS xs - path lowS xs := w64 (by clear hs hs2 t1 t2 b1 b2 eb er em p1 p2 hc2; omega) (by clear hs hs2 t1 t2 b1 b2 eb er em p1 p2 hc2; omega)
  have z3 : ¬ wrap64 (path highS xs - path lowS xs) ≥ (xs.length : Int) := by rw [z2]; clear hs hs2 t1 t2 b1 b2 eb er em p1 p2 hc2 z2; omega
  have fin : ∀ le ri : Nat, le + ri ≤ xs.length - 2 → ¬ (le : Int) < 0 ∧ ¬ (ri : Int) < 0 ∧ ¬ wrap64 ((le : Int) + (ri : Int)) > wrap64 ((xs.length : Int) - 2) := by
    intro le ri h
    clear hs hs2 t1 t2 b1 b2 eb er em p1 p2 p3 p4 p5 p6 hc2 z1 z2 z3
    rw [w64 (x := (le : Int) + (ri : Int)) (by omega) (by omega), w64 (x := (xs.length : Int) - 2) (by omega) (by omega)]
    omega
  obtain ⟨z4, z5, z8⟩ := fin _ _ hc2
  exact side_gen (spec_ReverseChain.f (k + 1)) (impl_LengthBounds.f (k + 1)) (impl_TurnsAside.f (k + 1)) (laws_FnChainSides.j0 (k + 1)) xs xs.reverse _ _ _ _ er b1 b2 t1 t2 z1 z3 z4 z5 z8 ((side_j0 k xs _).trans hs2)
end Go.Proofs.Ytgblbmbdadjicaa.Pure
