/- The law FnChains: the told bound is the least one for so many points, a chain from its end needs as many points, and picked points are those of the chain. -/
import Derived.Test.YtbgniogjboebgaaPrint0
import Derived.Test.YtbgniogjboebgaaPrint15
import Derived.Test.YtbgniogjboebgaaPrint16
import Derived.Test.YtbgniogjboebgaaPrint17
import Derived.Test.YtbgniogjboebgaaPrint18
import Derived.Test.YtbgniogjboebgaaPrint21
import Derived.Test.YtbgniogjboebgaaPrint23
import Derived.Test.YtbgniogjboebgaaNum
import Derived.Test.YtbgniogjboebgaaInW
import Derived.Test.YtbgniogjboebgaaSrc
import Derived.Test.YtbgniogjboebgaaChA
import Derived.Test.YtbgniogjboebgaaChV
import Derived.Test.YtbgniogjboebgaaChK
import Derived.Test.YtbgniogjboebgaaChP
import Derived.Test.YtbgniogjboebgaaChR
import Derived.Test.YtbgniogjboebgaaStand
import Derived.Test.YtbgniogjboebgaaFew
import Derived.Test.YtbgniogjboebgaaFewBoth
import Derived.Test.YtbgniogjboebgaaMono
import Derived.Test.YtbgniogjboebgaaLeast
import Derived.Test.YtbgniogjboebgaaTurn
import Derived.Test.YtbgniogjboebgaaDrawC
namespace Go.Proofs.Ytbgniogjboebgaa.Pure
open Go.RowKit Go.Proofs.Ytbgniogjboebgaa.Print Go.Proofs.YtbgniogjboebgaaW.PrintWords Go.Proofs.YtbgniogjboebgaaW.PrintLast Go.Proofs.YtbgniogjboebgaaW.PrintMore
set_option linter.unusedVariables false
set_option linter.unusedSimpArgs false
/-- Rising numbers below n. -/
structure Ris (L : List Int) (N : Nat → Int) (n : Nat) : Prop where
  c : Cells L N L.length
  b : ∀ t : Nat, t < L.length → 0 ≤ N t ∧ N t < (n : Int)
  s : ∀ t : Nat, t + 1 < L.length → N t < N (t + 1)
theorem a2Rises_loop {L : List Int} {N : Nat → Int} {n : Nat} (R : Ris L N n) (hl : L.length ≤ 1000000) : ∀ (d k i : Nat), L.length - i = d → i ≤ L.length → d < k → laws_a2Rises.l0 k L (n : Int) i = some true := by
  intro d
  induction d with
  | zero =>
    intro k i hd hi hk
    obtain ⟨k, rfl⟩ : ∃ m, k = m + 1 := ⟨k - 1, by omega⟩
    simp only [laws_a2Rises.l0]
    rw [if_neg (by omega)]
  | succ d ih =>
    intro k i hd hi hk
    obtain ⟨k, rfl⟩ : ∃ m, k = m + 1 := ⟨k - 1, by omega⟩
    have h : i < L.length := by omega
    obtain ⟨g0, g1⟩ := R.b i h
    have e := ih k (i + 1) (by omega) (by omega) (by omega)
    simp only [laws_a2Rises.l0, nxt h (show L.length ≤ 4611686018427387903 by omega), e, R.c.2 i]
    rw [if_pos (by omega), if_pos (by omega), if_neg (by omega), if_neg (by omega)]
    by_cases hp : i = 0
    · rw [if_neg (by omega)]
    · obtain ⟨j, rfl⟩ : ∃ j, i = j + 1 := ⟨i - 1, by omega⟩
      have q1 : wrap64 (((j + 1 : Nat) : Int) - 1) = (j : Int) := by rw [w64 (by omega) (by omega)]; omega
      have hs := R.s j h
      rw [q1, R.c.2 j, if_pos (by omega), if_pos (by omega), if_pos (by omega), if_neg (by omega)]
theorem rising_loop {L : List Int} {N : Nat → Int} {n : Nat} (R : Ris L N n) (hn : n ≤ 1000000) (hl : L.length ≤ 1000000) : ∀ (d k i : Nat), L.length - i = d → i ≤ L.length → d < k → impl_rising.l0 k L (n : Int) L (L.length : Int) i = some true := by
  intro d
  induction d with
  | zero =>
    intro k i hd hi hk
    obtain ⟨k, rfl⟩ : ∃ m, k = m + 1 := ⟨k - 1, by omega⟩
    simp only [impl_rising.l0]
    rw [if_neg (by omega)]
  | succ d ih =>
    intro k i hd hi hk
    obtain ⟨k, rfl⟩ : ∃ m, k = m + 1 := ⟨k - 1, by omega⟩
    have h : i < L.length := by omega
    obtain ⟨g0, g1⟩ := R.b i h
    have e := ih k (i + 1) (by omega) (by omega) (by omega)
    have q2 : wrap64 ((n : Int) - 1) = (n : Int) - 1 := w64 (by clear g0 g1; omega) (by clear g0 g1; omega)
    have qd : decide (0 ≤ N i ∧ N i ≤ (n : Int) - 1) = true := decide_eq_true ⟨g0, by omega⟩
    simp only [impl_rising.l0, nxt h (show L.length ≤ 4611686018427387903 by omega), e, R.c.2 i, within_some, q2, Option.bind_some, qd]
    rw [if_pos (by omega), if_pos (by omega), if_pos (by omega), if_pos trivial]
    by_cases hp : i = 0
    · rw [if_neg (by omega)]
    · obtain ⟨j, rfl⟩ : ∃ j, i = j + 1 := ⟨i - 1, by omega⟩
      have q1 : wrap64 (((j + 1 : Nat) : Int) - 1) = (j : Int) := by rw [w64 (by omega) (by omega)]; omega
      have hs := R.s j h
      rw [q1, R.c.2 j, if_pos (by omega), if_pos (by omega), if_pos (by omega), if_neg (by omega)]
theorem ris_of {xs : List S48} {st : Nat → Nat → Bool} {r : List Int} (h2 : 1 ≤ xs.length) (hw : Way st (xs.length - 1) 0 r) : Ris (0 :: r) (fun t => rd (0 :: r) (t : Int)) xs.length := by
  obtain ⟨g, e⟩ := way_get r 0 (by omega) hw
  refine ⟨⟨rfl, fun _ => rfl⟩, fun t ht => ?_, fun t ht => ?_⟩
  · by_cases h : t < r.length
    · obtain ⟨p, q, e1, e2, e3, e4, _⟩ := g t h
      have e1' : rd (0 :: r) (t : Int) = (p : Int) := e1
      simp only [e1']
      clear e1 e2 e1' e
      omega
    · have : t = r.length := by simp at ht; omega
      subst this
      have e' : rd (0 :: r) (r.length : Int) = ((xs.length - 1 : Nat) : Int) := e
      simp only [e']
      clear e e'
      omega
  · obtain ⟨p, q, e1, e2, e3, e4, _⟩ := g t (by simpa using ht)
    have e1' : rd (0 :: r) (t : Int) = (p : Int) := e1
    have e2' : rd (0 :: r) ((t + 1 : Nat) : Int) = (q : Int) := e2
    simp only [e1', e2']
    clear e1 e2 e1' e2' e
    omega
theorem stays_true (xs : List S48) (hv : okCh xs = true) (n : Int) (h0 : 0 ≤ n) (h1 : n ≤ 3000) (p q : Nat) (hpq : p < q) (hq : q ≤ xs.length - 1) (hs : standB xs p q n = true) (k : Nat) (hk : 30 ≤ k) : spec_StaysWithin.f k xs (p : Int) (q : Int) n = some (true, 0) := by
  have hv' := okCh_iff.1 hv
  obtain ⟨k, rfl⟩ : ∃ m, k = m + 1 := ⟨k - 1, by omega⟩
  have e1 := within_ok xs (by omega) hv'.1 p q (by omega) (by omega) n k (by omega)
  have w1 : wrap64 ((xs.length : Int) - 1) = (xs.length : Int) - 1 := w64 (by omega) (by omega)
  have w2 : wrap64 ((q : Int) - 1) = (q : Int) - 1 := w64 (by omega) (by omega)
  have d0 : decide (0 ≤ n ∧ n ≤ 3000) = true := decide_eq_true ⟨h0, h1⟩
  have d1 : decide (0 ≤ (q : Int) ∧ (q : Int) ≤ (xs.length : Int) - 1) = true := decide_eq_true ⟨by omega, by omega⟩
  have d2 : decide (0 ≤ (p : Int) ∧ (p : Int) ≤ (q : Int) - 1) = true := decide_eq_true ⟨by omega, by omega⟩
  unfold spec_StaysWithin.f spec_l07Code.f
  rw [l07Ok_some xs (by omega) _ (by omega), l00In_some, l00In_some, w1]
  simp only [hv, d0, d1, Option.bind_some, if_true, w2, l00In_some, d2, spec_StaysWithin.j0, Bool.not_true, e1, hs]
  simp
theorem a2Stand_loop (xs : List S48) (hv : okCh xs = true) (n : Int) (h0 : 0 ≤ n) (h1 : n ≤ 3000) (r : List Int) (hr : r.length ≤ 1000) (g : ∀ t : Nat, t < r.length → ∃ p q : Nat, rd (0 :: r) (t : Int) = (p : Int) ∧ rd (0 :: r) ((t + 1 : Nat) : Int) = (q : Int) ∧ p < q ∧ q ≤ xs.length - 1 ∧ standB xs p q n = true) : ∀ (d k t : Nat), r.length - t = d → t ≤ r.length → d + 30 < k → laws_a2Stand.l0 k xs (0 :: r) n ((t + 1 : Nat) : Int) = some true := by
  intro d
  induction d with
  | zero =>
    intro k t hd ht hk
    obtain ⟨k, rfl⟩ : ∃ m, k = m + 1 := ⟨k - 1, by omega⟩
    simp only [laws_a2Stand.l0, List.length_cons]
    rw [if_neg (by omega)]
  | succ d ih =>
    intro k t hd ht hk
    obtain ⟨k, rfl⟩ : ∃ m, k = m + 1 := ⟨k - 1, by omega⟩
    have e := ih k (t + 1) (by omega) (by omega) (by omega)
    have hk3 : 30 ≤ k := by omega
    have htr : t < r.length := by omega
    have q1 : wrap64 (((t + 1 : Nat) : Int) - 1) = (t : Int) := by rw [w64 (by omega) (by omega)]; omega
    have q2 : wrap64 (((t + 1 : Nat) : Int) + 1) = ((t + 1 + 1 : Nat) : Int) := by rw [w64 (by omega) (by omega)]; omega
    have a1 : ((t + 1 : Nat) : Int) < ((r.length + 1 : Nat) : Int) := by omega
    have a2 : (0 : Int) ≤ (t : Int) := by omega
    have a3 : (t : Int) < ((r.length + 1 : Nat) : Int) := by omega
    have a4 : (0 : Int) ≤ ((t + 1 : Nat) : Int) := by omega
    obtain ⟨p, q, e1, e2, e3, e4, e5⟩ := g t htr
    have es := stays_true xs hv n h0 h1 p q e3 e4 e5 k hk3
    simp only [laws_a2Stand.l0, List.length_cons, q1, q2, e1, e2, es, Option.bind_some, a1, a2, a3, a4, if_true, e]
theorem a2Stand_true (xs : List S48) (hv : okCh xs = true) (n : Int) (h0 : 0 ≤ n) (h1 : n ≤ 3000) {r : List Int} (hw : Way (fun i j => standB xs i j n) (xs.length - 1) 0 r) (k : Nat) (hk : 200 ≤ k) : laws_a2Stand.f k xs (0 :: r) n = some true := by
  have hv' := okCh_iff.1 hv
  obtain ⟨k, rfl⟩ : ∃ m, k = m + 1 := ⟨k - 1, by omega⟩
  have hs := Way.short r 0 hw
  have R := ris_of (xs := xs) (by omega) hw
  have e1 := a2Rises_loop R (by simp; omega) (0 :: r).length (k + 1) 0 (by omega) (by omega) (by simp; omega)
  obtain ⟨g, el⟩ := way_get r 0 (by omega) hw
  have e2 := a2Stand_loop xs hv n h0 h1 r (by omega) g r.length k 0 (by omega) (by omega) (by omega)
  have hr1 : 1 ≤ r.length := by
    cases r with
    | nil => simp only [Way] at hw; omega
    | cons x r => simp
  have w1 : wrap64 (((0 :: r).length : Int) - 1) = (r.length : Int) := by rw [List.length_cons, w64 (by omega) (by omega)]; omega
  have w2 : wrap64 ((xs.length : Int) - 1) = ((xs.length - 1 : Nat) : Int) := by rw [w64 (by omega) (by omega)]; omega
  have el' : rd (0 :: r) (r.length : Int) = ((xs.length - 1 : Nat) : Int) := el
  have c1 : ¬ (((0 :: r).length : Int) < 2) := by rw [List.length_cons]; omega
  have c2 : (0 : Int) < ((0 :: r).length : Int) := by rw [List.length_cons]; omega
  have c3 : (0 : Int) ≤ (r.length : Int) := by omega
  have c4 : (r.length : Int) < ((0 :: r).length : Int) := by rw [List.length_cons]; omega
  unfold laws_a2Stand.f laws_a2Rises.f
  rw [if_neg c1]
  simp only [Int.natCast_zero] at e1
  rw [e1, Option.bind_some, if_pos rfl, if_pos c2, if_pos (rd_cons0 _ _), w1, if_pos c3, if_pos c4, w2, el']
  simp only [laws_a2Stand.j0, bne_self_eq_false, Bool.false_eq_true, if_false]
  exact e2
theorem same_self (xs : List S48) (hl : xs.length ≤ 1000000) : ∀ (d k i : Nat), xs.length - i = d → i ≤ xs.length → d < k → spec_SameChain.l0 k xs xs i = some true := by
  intro d
  induction d with
  | zero =>
    intro k i hd hi hk
    obtain ⟨k, rfl⟩ : ∃ m, k = m + 1 := ⟨k - 1, by omega⟩
    simp only [spec_SameChain.l0]
    rw [if_neg (by omega)]
  | succ d ih =>
    intro k i hd hi hk
    obtain ⟨k, rfl⟩ : ∃ m, k = m + 1 := ⟨k - 1, by omega⟩
    have h : i < xs.length := by omega
    have e := ih k (i + 1) (by omega) (by omega) (by omega)
    simp only [spec_SameChain.l0, nxt h (show xs.length ≤ 4611686018427387903 by omega), e]
    rw [if_pos (by omega), if_pos (by omega), if_pos (by omega)]
    simp
theorem sameChain_self (xs : List S48) (hl : xs.length ≤ 1000000) (k : Nat) (hk : xs.length < k) : spec_SameChain.f k xs xs = some true := by
  unfold spec_SameChain.f
  rw [if_pos rfl]
  exact same_self xs hl xs.length k 0 (by omega) (by omega) hk
end Go.Proofs.Ytbgniogjboebgaa.Pure
