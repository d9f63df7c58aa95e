/- The law FnJoined: chains that are joined keep their points, what is left cannot be joined any more, and loose ends are ends of open chains. -/
import Derived.Test.YtmedijjjhabpbaaPrint0
import Derived.Test.YtmedijjjhabpbaaPrint14
import Derived.Test.YtmedijjjhabpbaaPrint19
import Derived.Test.YtmedijjjhabpbaaPrint20
import Derived.Test.YtmedijjjhabpbaaPrint25
import Derived.Test.YtmedijjjhabpbaaNum
import Derived.Test.YtmedijjjhabpbaaInS
import Derived.Test.YtmedijjjhabpbaaInW
import Derived.Test.YtmedijjjhabpbaaSrc
import Derived.Test.YtmedijjjhabpbaaSrcX
import Derived.Test.YtmedijjjhabpbaaChA
import Derived.Test.YtmedijjjhabpbaaChV
import Derived.Test.YtmedijjjhabpbaaChC
import Derived.Test.YtmedijjjhabpbaaChK
import Derived.Test.YtmedijjjhabpbaaChR
import Derived.Test.YtmedijjjhabpbaaChB
import Derived.Test.YtmedijjjhabpbaaRdP
import Derived.Test.YtmedijjjhabpbaaChSC
import Derived.Test.YtmedijjjhabpbaaJoinI
import Derived.Test.YtmedijjjhabpbaaJoinM
import Derived.Test.YtmedijjjhabpbaaJnA
import Derived.Test.YtmedijjjhabpbaaJnB
import Derived.Test.YtmedijjjhabpbaaLoB
import Derived.Test.YtmedijjjhabpbaaDrawC
import Derived.Test.YtmedijjjhabpbaaDrawJ
import Derived.Test.YtmedijjjhabpbaaSameS
namespace Go.Proofs.Ytmedijjjhabpbaa.Pure
open Go.RowKit Go.Proofs.Ytmedijjjhabpbaa.Print Go.Proofs.YtmedijjjhabpbaaW.PrintWords Go.Proofs.YtmedijjjhabpbaaW.PrintLast Go.Proofs.YtmedijjjhabpbaaW.PrintMore
set_option linter.unusedVariables false
set_option linter.unusedSimpArgs false
theorem drawAll {c : List Int} (h : Code c) (k : Nat) (hk : 300 ≤ k) : ∃ xs, spec_DrawJoinAll.f k c = some xs ∧ Few3 xs 31 := by
  obtain ⟨xs, a, s, e, l, _⟩ := list_some h k hk
  unfold spec_DrawJoinAll.f spec_l00From.f
  rw [Option.bind_some]
  dsimp only
  rw [e]
  exact ⟨xs, rfl, l⟩
theorem drawTwo {c : List Int} (h : Code c) (k : Nat) (hk : 300 ≤ k) : ∃ a b, spec_DrawJoinTwo.f k c = some (a, b) ∧ a.length ≤ 10 ∧ b.length ≤ 10 := by
  obtain ⟨xs, a, s, e, l, p, q⟩ := list_some h k hk
  unfold spec_DrawJoinTwo.f spec_l00From.f
  rw [Option.bind_some]
  dsimp only
  rw [e, Option.bind_some]
  dsimp only
  by_cases h2 : (xs.length : Int) < 2
  · obtain ⟨u, a1, s1, e1, l1, p1, q1⟩ := any_some h a s p (by omega) k (by omega)
    obtain ⟨v, a2, s2, e2, _, l2, _⟩ := draw_some h a1 s1 p1 (by omega) k (by omega)
    rw [if_pos h2, e1, Option.bind_some]
    dsimp only
    rw [e2, Option.bind_some]
    exact ⟨u, v, rfl, l1, l2⟩
  · rw [if_neg h2]
    have r0 := rowG (xs := xs) (i := 0) (by omega)
    have r1 := rowG (xs := xs) (i := 1) (by omega)
    refine ⟨_, _, rfl, ?_, ?_⟩
    · rw [show (0 : Int) = ((0 : Nat) : Int) from rfl, r0]; exact l.2 _ (List.getElem_mem _)
    · rw [show (1 : Int) = ((1 : Nat) : Int) from rfl, r1]; exact l.2 _ (List.getElem_mem _)
theorem pts_drop {xs : List (List S49)} {i : Nat} (h : i < xs.length) : pts (xs.drop i) = xs[i].length + pts (xs.drop (i + 1)) := by
  unfold pts
  rw [List.drop_eq_getElem_cons h, List.map_cons, List.sum_cons]
theorem jn_l0 (xs r : List (List S49)) (a b x : List S49) (c one : Int) (hl : r.length ≤ 8) (hc : ∀ z ∈ r, z.length ≤ 24) : ∀ (d k i : Nat), r.length - i = d → i ≤ r.length → 100 ≤ k →
    laws_FnJoined.l0 (k + d + 1) xs r c r a b one x i = if one = 0 then laws_FnJoined.j2 k xs c r ((x.length : Int) != (wrap64 ((wrap64 ((a.length : Int) + (b.length : Int))) - 1))) else laws_FnJoined.j2 k xs c r false := by
  intro d
  induction d with
  | zero =>
    intro k i hd hi hk
    rw [show k + 0 + 1 = k + 1 from rfl, laws_FnJoined.l0, if_neg (by omega)]
  | succ d ih =>
    intro k i hd hi hk
    have h : i < r.length := by omega
    have := hc _ (List.getElem_mem h)
    rw [show k + (d + 1) + 1 = (k + d + 1) + 1 from by omega, laws_FnJoined.l0, if_pos (by omega), if_pos (by omega), if_pos (by omega), rdPP h, sameChain_self r[i] (by omega) (k + d + 1) (by omega), Option.bind_some, if_pos rfl, nxt h (by omega)]
    exact ih k (i + 1) (by omega) (by omega) hk
theorem jn_no {r : List (List S49)} (hc : ∀ z ∈ r, z.length ≤ 24) (hd : ∀ i c, i < c → c < r.length → meets r i c = false) (i c k : Nat) (hi : i < c) (h : c < r.length) (hk : 200 ≤ k) : ∃ p : List S49 × Int, spec_JoinTwo.f k (rd_L2 r (i : Int)) (rd_L2 r (c : Int)) = some p ∧ p.2 ≠ 0 := by
  have hi' : i < r.length := by omega
  have l1 := hc _ (List.getElem_mem hi')
  have l2 := hc _ (List.getElem_mem h)
  refine ⟨_, by rw [rdPP hi', rdPP h]; exact specJoinTwo_some r[i] r[c] (by omega) (by omega) k (by omega), ?_⟩
  have m := hd i c hi h
  unfold meets at m
  rw [rowG hi', rowG h] at m
  exact of_decide_eq_false m
theorem jn_l3 (xs r : List (List S49)) (hl : r.length ≤ 8) (hc : ∀ z ∈ r, z.length ≤ 24) (hm : ∀ i c, i < c → c < r.length → meets r i c = false) (u v : Int) (i : Nat) (hi : i < r.length) : ∀ (d k j : Nat), r.length - j = d → j ≤ r.length → 200 ≤ k →
    laws_FnJoined.l3 (k + d + 1) xs r u v i j = laws_FnJoined.l2 k xs r u v ((i + 1 : Nat) : Int) := by
  intro d
  induction d with
  | zero =>
    intro k j hd hj hk
    rw [show k + 0 + 1 = k + 1 from rfl, laws_FnJoined.l3, if_neg (by omega), nxt hi (by omega)]
  | succ d ih =>
    intro k j hd hj hk
    have h : j < r.length := by omega
    rw [show k + (d + 1) + 1 = (k + d + 1) + 1 from by omega, laws_FnJoined.l3, if_pos (by omega), nxt h (by omega)]
    by_cases e : i = j
    · rw [if_pos (by omega)]
      exact ih k (j + 1) (by omega) (by omega) hk
    · rw [if_neg (by omega)]
      rcases Nat.lt_or_gt_of_ne e with g | g
      · have m1 : mn (i : Int) (j : Int) = (i : Int) := by unfold mn; rw [if_neg (by omega)]
        have m2 : mx (i : Int) (j : Int) = (j : Int) := by unfold mx; rw [if_pos (by omega)]
        obtain ⟨p, e1, e2⟩ := jn_no hc hm i j (k + d + 1) g h (by omega)
        rw [m1, m2, if_pos (by omega), if_pos (by omega), if_pos (by omega), if_pos (by omega), e1, Option.bind_some, if_neg e2]
        exact ih k (j + 1) (by omega) (by omega) hk
      · have m1 : mn (i : Int) (j : Int) = (j : Int) := by unfold mn; rw [if_pos (by omega)]
        have m2 : mx (i : Int) (j : Int) = (i : Int) := by unfold mx; rw [if_neg (by omega)]
        obtain ⟨p, e1, e2⟩ := jn_no hc hm j i (k + d + 1) g hi (by omega)
        rw [m1, m2, if_pos (by omega), if_pos (by omega), if_pos (by omega), if_pos (by omega), e1, Option.bind_some, if_neg e2]
        exact ih k (j + 1) (by omega) (by omega) hk
theorem jn_l2 (xs r : List (List S49)) (hl : r.length ≤ 8) (hc : ∀ z ∈ r, z.length ≤ 24) (hm : ∀ i c, i < c → c < r.length → meets r i c = false) (u : Int) : ∀ (d k i : Nat) (v : Int), r.length - i = d → i ≤ r.length → 0 ≤ v → v + 24 * (d : Int) ≤ 10000 → 300 + 20 * d ≤ k →
    laws_FnJoined.l2 k xs r u v i = some ((v + (pts (r.drop i) : Int)) == (wrap64 (u - (wrap64 ((xs.length : Int) - (r.length : Int)))))) := by
  intro d
  induction d with
  | zero =>
    intro k i v hd hi h0 h1 hk
    obtain ⟨k, rfl⟩ : ∃ m, k = m + 1 := ⟨k - 1, by omega⟩
    rw [laws_FnJoined.l2, if_neg (by omega), show i = r.length by omega, List.drop_length]
    simp [pts]
  | succ d ih =>
    intro k i v hd hi h0 h1 hk
    have h : i < r.length := by omega
    have hz := hc _ (List.getElem_mem h)
    obtain ⟨k, rfl⟩ : ∃ m, k = (m + r.length + 1) + 1 := ⟨k - (r.length + 2), by omega⟩
    rw [laws_FnJoined.l2, if_pos (by omega), if_pos (by omega), rdPP h, w64 (x := v + (r[i].length : Int)) (by omega) (by omega)]
    have e := jn_l3 xs r hl hc hm u (v + (r[i].length : Int)) i h r.length k 0 (by omega) (by omega) (by omega)
    rw [Int.natCast_zero] at e
    rw [e, ih k (i + 1) _ (by omega) (by omega) (by omega) (by omega) (by omega), pts_drop h]
    congr 2
    omega
theorem jn_l1 (xs r : List (List S49)) (hl : xs.length ≤ 31) (hc : ∀ z ∈ xs, z.length ≤ 24) : ∀ (d k i : Nat) (u : Int), xs.length - i = d → i ≤ xs.length → 0 ≤ u → u + 24 * (d : Int) ≤ 10000 →
    laws_FnJoined.l1 (k + d + 1) xs r u i = laws_FnJoined.l2 k xs r (u + (pts (xs.drop i) : Int)) 0 0 := by
  intro d
  induction d with
  | zero =>
    intro k i u hd hi h0 h1
    rw [show k + 0 + 1 = k + 1 from rfl, laws_FnJoined.l1, if_neg (by omega), show i = xs.length by omega, List.drop_length]
    simp [pts]
  | succ d ih =>
    intro k i u hd hi h0 h1
    have h : i < xs.length := by omega
    have hz := hc _ (List.getElem_mem h)
    rw [show k + (d + 1) + 1 = (k + d + 1) + 1 from by omega, laws_FnJoined.l1, if_pos (by omega), if_pos (by omega), rdPP h, nxt h (by omega), w64 (x := u + (xs[i].length : Int)) (by omega) (by omega), ih k (i + 1) _ (by omega) (by omega) (by omega) (by omega), pts_drop h]
    congr 1
    omega
theorem pts_le : ∀ (xs : List (List S49)) (n : Nat), (∀ z ∈ xs, z.length ≤ n) → pts xs ≤ n * xs.length
  | [], n, _ => by simp [pts]
  | y :: ys, n, h => by
    have e := pts_le ys n (fun z hz => h z (by simp [hz]))
    have e1 := h y (by simp)
    have e2 : n * (ys.length + 1) = n * ys.length + n := Nat.mul_succ _ _
    unfold pts at e ⊢
    rw [List.map_cons, List.sum_cons, List.length_cons]
    omega
theorem jn_len {a b x : List S49} (h : JoinTwoM a b = (x, 0)) (ha : a.length ≤ 10) (hb : b.length ≤ 10) : ((x.length : Int) != (wrap64 ((wrap64 ((a.length : Int) + (b.length : Int))) - 1))) = false := by
  obtain ⟨_, e, o⟩ := joinTwo_ok h
  have oo : okCh a = true ∧ okCh b = true := by
    unfold JoinTwoM at h
    by_cases q : okCh a = true ∧ okCh b = true
    · exact q
    · rw [if_neg q] at h; cases h
  have l1 := (okCh_iff.1 oo.1).2
  have l2 := (okCh_iff.1 oo.2).2
  have l3 := joinM_len (by omega) (by omega) e
  rw [w64 (x := (a.length : Int) + (b.length : Int)) (by omega) (by omega), w64 (by omega) (by omega), show (x.length : Int) = (a.length : Int) + (b.length : Int) - 1 by omega]
  exact bne_self_eq_false _
theorem FnJoined : laws_FnJoined.Pure := by
  intro code hc hcl
  suffices H : ∀ k, 2000000 ≤ k → laws_FnJoined.f k code = some true from ⟨_, H _ (Nat.le_refl _)⟩
  intro k hk
  have C := code_of hc hcl
  obtain ⟨xs, ex, fx⟩ := drawAll C k (by omega)
  obtain ⟨a, b, eab, la, lb⟩ := drawTwo C k (by omega)
  have hl := fx.1
  have hx : ∀ z ∈ xs, z.length ≤ 24 := fun z hz => by have := fx.2 z hz; omega
  obtain ⟨r, c, hr, hd, ej⟩ := bothJoinAll xs (by omega) (fun z hz => by have := hx z hz; omega)
  obtain ⟨e1, e2⟩ := ej k (by omega)
  obtain ⟨q, g, lq, eq⟩ := bothLoose xs (by omega) (fun z hz => by have := hx z hz; omega)
  obtain ⟨e3, e4⟩ := eq k (by omega)
  have e5 := implJoinTwo_some a b (by omega) (by omega) k (by omega)
  have e6 := specJoinTwo_some a b (by omega) (by omega) k (by omega)
  have lj := JoinTwoM_len a b
  have R : r.length ≤ 8 ∧ (∀ z ∈ r, z.length ≤ 24) := by
    by_cases h0 : c = 0
    · obtain ⟨_, D⟩ := hd h0
      exact ⟨D.chs.len, fun z hz => (okCh_iff.1 (D.chs.ok z hz)).2.2⟩
    · obtain rfl := hr h0
      exact ⟨by simp, fun c hc => (nomatch hc)⟩
  obtain ⟨r1, r2⟩ := R
  have J2 : ∀ m, 1000 ≤ m → laws_FnJoined.j2 m xs c r false = some true := by
    intro m hm
    obtain ⟨m, rfl⟩ : ∃ n, m = (n + xs.length + 1) + 1 := ⟨m - (xs.length + 2), by omega⟩
    rw [laws_FnJoined.j2, if_neg (by decide)]
    by_cases h0 : c = 0
    · obtain ⟨_, D⟩ := hd h0
      rw [if_pos h0]
      have f1 := jn_l1 xs r hl hx xs.length m 0 0 (by omega) (by omega) (by omega) (by omega)
      have f2 := jn_l2 xs r r1 r2 D.end_ (0 + (pts (xs.drop 0) : Int)) r.length m 0 0 (by omega) (by omega) (by omega) (by omega) (by omega)
      rw [Int.natCast_zero] at f1 f2
      rw [f1, f2, List.drop_zero, List.drop_zero]
      have p1 := D.pts
      have p2 := D.len
      have p3 := pts_le xs 24 hx
      congr 1
      rw [w64 (x := (xs.length : Int) - (r.length : Int)) (by omega) (by omega), w64 (by omega) (by omega)]
      exact beq_iff_eq.2 (by omega)
    · rw [if_neg h0]
  have J0 : laws_FnJoined.j0 k xs r c r a b (JoinTwoM a b).2 (JoinTwoM a b).1 false = some true := by
    obtain ⟨k, rfl⟩ : ∃ n, k = (n + r.length + 1) + 1 := ⟨k - (r.length + 2), by omega⟩
    rw [laws_FnJoined.j0, if_neg (by decide)]
    have f := jn_l0 xs r a b (JoinTwoM a b).1 c (JoinTwoM a b).2 r1 r2 r.length k 0 (by omega) (by omega) (by omega)
    rw [Int.natCast_zero] at f
    rw [f]
    by_cases h0 : (JoinTwoM a b).2 = 0
    · rw [if_pos h0, jn_len (x := (JoinTwoM a b).1) (by rw [← h0]) la lb]
      exact J2 k (by omega)
    · rw [if_neg h0]
      exact J2 k (by omega)
  unfold laws_FnJoined.f laws_f6big.f
  rw [Option.bind_some]
  by_cases hb : (code.length : Int) > 4096
  · rw [if_pos (decide_eq_true hb)]
  have hb' : ¬ decide ((code.length : Int) > 4096) = true := by simpa using hb
  rw [if_neg hb', ex, Option.bind_some, e2, Option.bind_some, e1, Option.bind_some, eab, Option.bind_some]
  dsimp only
  rw [e5, Option.bind_some, e6, Option.bind_some, e4, Option.bind_some, e3, Option.bind_some, if_pos rfl, if_pos rfl, if_pos rfl, sameChain_self (JoinTwoM a b).1 (by omega) k (by omega), Option.bind_some, if_pos rfl, if_pos rfl, sameChain_self q (by omega) k (by omega), Option.bind_some]
  exact J0
end Go.Proofs.Ytmedijjjhabpbaa.Pure
