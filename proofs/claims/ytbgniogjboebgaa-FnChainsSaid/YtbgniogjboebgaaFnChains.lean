/- The law FnChains: the told bound is the least one for so many points, a chain from its end needs as many points, and picked points are those of the chain. -/
import Derived.Test.YtbgniogjboebgaaPrint0
import Derived.Test.YtbgniogjboebgaaPrint2
import Derived.Test.YtbgniogjboebgaaPrint5
import Derived.Test.YtbgniogjboebgaaPrint12
import Derived.Test.YtbgniogjboebgaaPrint15
import Derived.Test.YtbgniogjboebgaaPrint21
import Derived.Test.YtbgniogjboebgaaPrint22
import Derived.Test.YtbgniogjboebgaaPrint24
import Derived.Test.YtbgniogjboebgaaNum
import Derived.Test.YtbgniogjboebgaaInW
import Derived.Test.YtbgniogjboebgaaSrc
import Derived.Test.YtbgniogjboebgaaChA
import Derived.Test.YtbgniogjboebgaaChV
import Derived.Test.YtbgniogjboebgaaChK
import Derived.Test.YtbgniogjboebgaaChP
import Derived.Test.YtbgniogjboebgaaChR
import Derived.Test.YtbgniogjboebgaaStand
import Derived.Test.YtbgniogjboebgaaFew
import Derived.Test.YtbgniogjboebgaaFewBoth
import Derived.Test.YtbgniogjboebgaaMono
import Derived.Test.YtbgniogjboebgaaLeast
import Derived.Test.YtbgniogjboebgaaTurn
import Derived.Test.YtbgniogjboebgaaDrawC
import Derived.Test.YtbgniogjboebgaaChains
namespace Go.Proofs.Ytbgniogjboebgaa.Pure
open Go.RowKit Go.Proofs.Ytbgniogjboebgaa.Print Go.Proofs.YtbgniogjboebgaaW.PrintWords Go.Proofs.YtbgniogjboebgaaW.PrintLast Go.Proofs.YtbgniogjboebgaaW.PrintMore
set_option linter.unusedVariables false
set_option linter.unusedSimpArgs false
theorem pickR_loop (xs : List S48) {L : List Int} {N : Nat → Int} (R : Ris L N xs.length) (hl : L.length ≤ 1000000) : ∀ (d k i : Nat) (acc : List S48), L.length - i = d → i ≤ L.length → acc.length = i → d < k → impl_PickPoints.l0 k xs acc L (L.length : Int) i = some (acc ++ (L.drop i).map (rd_T48 xs), 0) := by
  intro d
  induction d with
  | zero =>
    intro k i acc hd hi ha hk
    obtain ⟨k, rfl⟩ : ∃ m, k = m + 1 := ⟨k - 1, by omega⟩
    simp only [impl_PickPoints.l0]
    rw [if_neg (by omega), List.drop_eq_nil_of_le (by omega)]
    simp
  | succ d ih =>
    intro k i acc hd hi ha hk
    obtain ⟨k, rfl⟩ : ∃ m, k = m + 1 := ⟨k - 1, by omega⟩
    have h : i < L.length := by omega
    obtain ⟨g0, g1⟩ := R.b i h
    have e := ih k (i + 1) (acc ++ [(⟨(rd_T48 xs (N i)).f0, (rd_T48 xs (N i)).f1⟩ : S48)]) (by omega) (by omega) (by simp; omega) (by omega)
    have hx : L[i] = N i := (rdJ h).symm.trans (R.c.2 i)
    simp only [impl_PickPoints.l0, nxt h (show L.length ≤ 4611686018427387903 by omega), R.c.2 i]
    rw [if_pos (by omega), if_pos (by omega), if_pos (by omega), if_pos g0, if_pos g1, if_pos (by omega), e, List.drop_eq_getElem_cons h, List.map_cons, hx, List.append_assoc]
    rfl
theorem picked_loop (xs : List S48) {L : List Int} {N : Nat → Int} (R : Ris L N xs.length) (hl : L.length ≤ 1000000) : ∀ (d k i : Nat), L.length - i = d → i ≤ L.length → d < k → laws_FnChains.l0 k xs L (L.map (rd_T48 xs)) i = some true := by
  intro d
  induction d with
  | zero =>
    intro k i hd hi hk
    obtain ⟨k, rfl⟩ : ∃ m, k = m + 1 := ⟨k - 1, by omega⟩
    simp only [laws_FnChains.l0]
    rw [if_neg (by omega)]
  | succ d ih =>
    intro k i hd hi hk
    obtain ⟨k, rfl⟩ : ∃ m, k = m + 1 := ⟨k - 1, by omega⟩
    have h : i < L.length := by omega
    obtain ⟨g0, g1⟩ := R.b i h
    have e := ih k (i + 1) (by omega) (by omega) (by omega)
    have hx : L[i] = N i := (rdJ h).symm.trans (R.c.2 i)
    have hp : rd_T48 (L.map (rd_T48 xs)) (i : Int) = rd_T48 xs (N i) := by
      rw [rdP (by simpa using h), List.getElem_map, hx]
    simp only [laws_FnChains.l0, nxt h (show L.length ≤ 4611686018427387903 by omega), e, R.c.2 i, hp]
    rw [if_pos (by omega), if_pos (by omega), if_pos (by simp; omega), if_pos g0, if_pos g1]
    simp
theorem pickR_some (xs : List S48) (hv : okCh xs = true) {L : List Int} {N : Nat → Int} (R : Ris L N xs.length) (h2 : 2 ≤ L.length) (hl : L.length ≤ 1000) (k : Nat) (hk : 2000 ≤ k) : impl_PickPoints.f k xs L = some (L.map (rd_T48 xs), 0) := by
  have hv' := okCh_iff.1 hv
  obtain ⟨k, rfl⟩ : ∃ m, k = m + 1 := ⟨k - 1, by omega⟩
  have e1 := rising_loop R (by omega) (by omega) L.length (k + 1) 0 (by omega) (by omega) (by omega)
  have e2 := pickR_loop xs R (by omega) L.length k 0 [] (by omega) (by omega) rfl (by omega)
  simp only [Int.natCast_zero, List.drop_zero, List.nil_append] at e1 e2
  unfold impl_PickPoints.f impl_rising.f
  rw [valid_some xs (by omega) _ (by omega), Option.bind_some, if_pos (by omega), e1, Option.bind_some, hv, check_some]
  simp only [Option.bind_some, if_true, impl_PickPoints.j0, e2]
theorem at6 (l : List Int) (h : Code l) : ∃ t, laws_a2At.f l 0 6 = some t ∧ 0 ≤ t ∧ t ≤ 5 := by
  unfold laws_a2At.f
  have hr := code_rd h 0
  by_cases p : (0 : Int) ≥ (l.length : Int)
  · rw [if_pos p]; exact ⟨0, rfl, by omega, by omega⟩
  · rw [if_neg p, if_neg (by omega), if_pos (by omega), if_pos (by omega), if_neg (by omega), w64 (x := rd l 0) (by omega) (by omega)]
    have := tmod_in (x := rd l 0) (n := 6) (by omega) (by omega)
    exact ⟨_, rfl, by omega, by omega⟩
theorem fewest_code (xs : List S48) (hv : okCh xs = true) (n : Int) (h0 : 0 ≤ n) (h1 : n ≤ 3000) : ∃ r, Best (fun i j => standB xs i j n) (xs.length - 1) r ∧ ∀ k, 1100 ≤ k → spec_FewestPoints.f k xs n = some (0 :: r, 0) ∧ impl_FewestPoints.f k xs n = some (0 :: r, 0) := by
  have hv' := okCh_iff.1 hv
  obtain ⟨r, hr, hk⟩ := few_both xs hv'.2.1 hv'.2.2 hv'.1 n
  refine ⟨r, hr, fun k hk' => ?_⟩
  obtain ⟨k1, k2⟩ := hk k (by omega)
  have d0 : decide (0 ≤ n ∧ n ≤ 3000) = true := decide_eq_true ⟨h0, h1⟩
  unfold spec_FewestPoints.f impl_FewestPoints.f spec_l07Code.f impl_isBound.f
  rw [l07Ok_some xs (by omega) _ (by omega), valid_some xs (by omega) _ (by omega), l00In_some, within_some]
  simp only [hv, d0, check_some, Option.bind_some, if_true, k1, k2]
  constructor <;> first | rfl | trivial
theorem least_code (xs : List S48) (hv : okCh xs = true) (m : Int) (h0 : 2 ≤ m) (h1 : m ≤ 24) : ∃ v, Res xs m v ∧ ∀ k, 4200 ≤ k → impl_LeastBound.f k xs m = some (v, 0) := by
  have hv' := okCh_iff.1 hv
  obtain ⟨v, hr, hk⟩ := least_both xs hv'.2.1 hv'.2.2 hv'.1 m
  refine ⟨v, hr, fun k hk' => ?_⟩
  obtain ⟨_, k2⟩ := hk k (by omega)
  have d0 : decide (2 ≤ m ∧ m ≤ 24) = true := decide_eq_true ⟨h0, h1⟩
  unfold impl_LeastBound.f
  rw [valid_some xs (by omega) _ (by omega), within_some]
  simp only [hv, d0, check_some, Option.bind_some, if_true, k2]
theorem okCh_reverse {xs : List S48} (h : okCh xs = true) : okCh xs.reverse = true := by
  rw [okCh_iff] at *
  refine ⟨fun p hp => h.1 p (List.mem_reverse.1 hp), by simpa using h.2⟩
theorem reverse_code (xs : List S48) (hv : okCh xs = true) (k : Nat) (hk : 100 ≤ k) : impl_ReverseChain.f k xs = some (xs.reverse, 0) := by
  have hv' := okCh_iff.1 hv
  unfold impl_ReverseChain.f
  rw [valid_some xs (by omega) _ (by omega), Option.bind_some, hv, if_pos rfl, reversed_some xs (by omega) k (by omega), Option.bind_some]
theorem FnChains : laws_FnChains.Pure := by
  intro code more hc hcl hm hml
  suffices H : ∀ k, 6000 ≤ k → laws_FnChains.f k code more = some true from ⟨_, H _ (Nat.le_refl _)⟩
  intro k hk
  obtain ⟨k, rfl⟩ : ∃ m, k = m + 5 := ⟨k - 5, by omega⟩
  unfold laws_FnChains.f laws_a2Long.f
  by_cases b1 : (code.length : Int) > 3000
  · rw [if_pos b1, Option.bind_some, if_pos rfl]
  rw [if_neg b1, Option.bind_some]
  by_cases b2 : (more.length : Int) > 3000
  · rw [if_pos (decide_eq_true b2)]
  have b2' : ¬ decide ((more.length : Int) > 3000) = true := by simpa using b2
  rw [if_neg b2']
  have C := code_of hc hcl
  obtain ⟨xs, a', sd', ed, hv, hl, _, _⟩ := draw_some C 0 0 (by omega) (by omega) (k + 5) (by omega)
  have hv' := okCh_iff.1 hv
  obtain ⟨t, et, t0, t1⟩ := at6 more (code_of hm hml)
  have wt : wrap64 (2 + t) = 2 + t := w64 (by omega) (by omega)
  obtain ⟨v, hr, hv1⟩ := least_code xs hv (2 + t) (by omega) (by omega)
  obtain ⟨⟨v0, v1⟩, vn, vy⟩ := hr
  have hsh : Short xs (2 + t) v := by
    rcases vy with e | e
    · rw [e]; exact short_wide hv'.2.1 hv'.1 (by omega)
    · exact e
  obtain ⟨r, hb, hf⟩ := fewest_code xs hv v v0 v1
  have hlen := (Best.short (many := 2 + t) hb).1 hsh
  have hrl := Way.short r 0 hb.1
  have hr1 : 1 ≤ r.length := by
    cases r with
    | nil => have hw := hb.1; simp only [Way] at hw; omega
    | cons x r => simp
  have hvr := okCh_reverse hv
  obtain ⟨s, hbs, hfs⟩ := fewest_code xs.reverse hvr v v0 v1
  have hx : xs.length = (xs.length - 1) + 1 := by omega
  have hxr : xs.reverse.length - 1 = xs.length - 1 := by simp
  rw [hxr] at hbs
  have heq : r.length = s.length := Best.turned (fun i j hij hj h => stand_turn xs hv'.1 hx v v0 v1 i j hij hj h) (fun i j hij hj h => by
    have := stand_turn xs.reverse (okCh_iff.1 hvr).1 (last := xs.length - 1) (by simp; omega) v v0 v1 i j hij hj h
    rwa [List.reverse_reverse] at this) hb hbs
  have R := ris_of (xs := xs) (by omega) hb.1
  have s1 := a2Stand_true xs hv v v0 v1 hb.1 (k + 4) (by omega)
  have f1 := (hf (k + 4) (by omega)).2
  have rv1 := reverse_code xs hv (k + 2) (by omega)
  have rv2 := reverse_code xs.reverse hvr (k + 2) (by omega)
  rw [List.reverse_reverse] at rv2
  have f2 := (hfs (k + 2) (by omega)).2
  have p1 := pickR_some xs hv R (by simp; omega) (by simp; omega) (k + 2) (by omega)
  have sm := sameChain_self xs (by omega) (k + 2) (by omega)
  have pl := picked_loop xs R (by simp; omega) (0 :: r).length (k + 1) 0 (by omega) (by omega) (by simp; omega)
  simp only [Int.natCast_zero] at pl
  have c1 : ¬ v < 0 := by omega
  have c2 : decide (v > 3000) = false := decide_eq_false (by omega)
  have c3 : ¬ ((0 :: r).length : Int) > 2 + t := by rw [List.length_cons]; exact Int.not_lt.2 hlen
  have c4 : ((0 :: s).length : Int) = ((0 :: r).length : Int) := by rw [List.length_cons, List.length_cons, heq]
  have c5 : ((((0 :: r).map (rd_T48 xs)).length : Int) != ((0 :: r).length : Int)) = false := by rw [List.length_map]; exact bne_self_eq_false _
  have J2 : laws_FnChains.j2 (k + 3) xs v (0 :: r) = some true := by
    simp only [laws_FnChains.j2, rv1, Option.bind_some, rv2, f2, p1, if_true, sm, c4, c5]
    simp only [laws_FnChains.j3, Bool.false_eq_true, if_false]
    exact pl
  unfold spec_A2Chain.f spec_l00From.f
  rw [Option.bind_some, ed, Option.bind_some, Option.bind_some, et, Option.bind_some, wt, hv1 (k + 5) (by omega), Option.bind_some, if_pos rfl, if_neg c1, c2]
  simp only [laws_FnChains.j0, Bool.false_eq_true, if_false]
  rw [f1, Option.bind_some, if_pos rfl, if_neg c3, s1, Option.bind_some]
  simp only [Bool.not_true, laws_FnChains.j1, Bool.false_eq_true, if_false]
  by_cases hp : v > 0
  · have wv : wrap64 (v - 1) = v - 1 := w64 (by omega) (by omega)
    obtain ⟨u, hbu, hfu⟩ := fewest_code xs hv (v - 1) (by omega) (by omega)
    have hns : ¬ Short xs (2 + t) (v - 1) := vn (v - 1) (by omega) (by omega)
    have hlu : ¬ ((0 :: u).length : Int) ≤ 2 + t := fun h => hns ((Best.short (many := 2 + t) hbu).2 (by rw [List.length_cons] at h; exact h))
    rw [if_pos hp, wv, (hfu (k + 3) (by omega)).1, Option.bind_some, if_pos rfl, if_neg hlu, J2]
  · rw [if_neg hp, J2]
end Go.Proofs.Ytbgniogjboebgaa.Pure
