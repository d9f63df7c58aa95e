/- What areas, turned and moved chains and greatest outlines are, as values. -/
import Derived.Test.YtgblbmbdadjicaaPrint0
import Derived.Test.YtgblbmbdadjicaaPrint6
import Derived.Test.YtgblbmbdadjicaaPrint7
import Derived.Test.YtgblbmbdadjicaaPrint8
import Derived.Test.YtgblbmbdadjicaaPrint9
import Derived.Test.YtgblbmbdadjicaaPrint15
import Derived.Test.YtgblbmbdadjicaaNum
import Derived.Test.YtgblbmbdadjicaaInW
import Derived.Test.YtgblbmbdadjicaaChA
import Derived.Test.YtgblbmbdadjicaaChV
import Derived.Test.YtgblbmbdadjicaaChC
import Derived.Test.YtgblbmbdadjicaaChCC
import Derived.Test.YtgblbmbdadjicaaChArea
import Derived.Test.YtgblbmbdadjicaaAreaB
import Derived.Test.YtgblbmbdadjicaaAreaL
import Derived.Test.YtgblbmbdadjicaaAbs
import Derived.Test.YtgblbmbdadjicaaChK
import Derived.Test.YtgblbmbdadjicaaChM
import Derived.Test.YtgblbmbdadjicaaChR
import Derived.Test.YtgblbmbdadjicaaChB
import Derived.Test.YtgblbmbdadjicaaMoveV
import Derived.Test.YtgblbmbdadjicaaRdP
import Derived.Test.YtgblbmbdadjicaaChSC
namespace Go.Proofs.Ytgblbmbdadjicaa.Pure
open Go.RowKit Go.Proofs.Ytgblbmbdadjicaa.Print Go.Proofs.YtgblbmbdadjicaaW.PrintWords Go.Proofs.YtgblbmbdadjicaaW.PrintLast Go.Proofs.YtgblbmbdadjicaaW.PrintMore
set_option linter.unusedVariables false
set_option linter.unusedSimpArgs false
theorem twice_val (xs : List S44) (hl : xs.length ≤ 4611686018427387903) (k : Nat) (hk : xs.length < k) : spec_TwiceArea.f k xs = some (if clCode xs = 0 then area xs else 0, clCode xs) ∧ impl_TwiceArea.f k xs = some (if clCode xs = 0 then area xs else 0, clCode xs) := by
  unfold spec_TwiceArea.f impl_TwiceArea.f
  rw [(clCode_some xs hl k hk).1, (clCode_some xs hl k hk).2, (area_some xs hl k hk).1, (area_some xs hl k hk).2]
  refine ⟨?_, ?_⟩ <;>
  · rw [Option.bind_some]
    by_cases h : clCode xs = 0
    · rw [if_pos h, if_pos h, h]; rfl
    · rw [if_neg h, if_neg h]
def leftOf (xs : List S44) : List S44 := if clCode xs = 0 then if area xs < 0 then xs.reverse else xs else []
theorem leftOf_length (xs : List S44) : (leftOf xs).length ≤ xs.length := by unfold leftOf; split <;> (try split) <;> simp
theorem left_val (xs : List S44) (hl : xs.length ≤ 10000000) (k : Nat) (hk : xs.length < k) : spec_LeftTurned.f k xs = some (leftOf xs, clCode xs) ∧ impl_LeftTurned.f k xs = some (leftOf xs, clCode xs) := by
  unfold spec_LeftTurned.f impl_LeftTurned.f leftOf
  rw [(clCode_some xs (by omega) k hk).1, (clCode_some xs (by omega) k hk).2, (area_some xs (by omega) k hk).1, (area_some xs (by omega) k hk).2, reversed_some xs (by omega) k (by omega), back_some xs (by omega) k hk, clone_some xs (by omega)]
  by_cases h : clCode xs = 0
  · by_cases ha : area xs < 0
    · simp [h, ha]
    · have hc : ([] : List S44).length + xs.length < 8796093022208 := by simp; omega
      simp only [Option.bind_some, h, ha, if_true, if_false, hc, List.nil_append]
      simp
  · simp [h]
theorem okCl_iff {xs : List S44} (h2 : 2 ≤ xs.length) (hl : xs.length ≤ 1000000) : okCl xs = true ↔ 4 ≤ xs.length ∧ (xs[0]'(by omega)).f0 = (xs[xs.length - 1]'(by omega)).f0 ∧ (xs[0]'(by omega)).f1 = (xs[xs.length - 1]'(by omega)).f1 := by
  have w : wrap64 ((xs.length : Int) - 1) = ((xs.length - 1 : Nat) : Int) := by rw [w64 (by omega) (by omega)]; omega
  have e0 : rd_T44 xs 0 = xs[0]'(by omega) := rdP (xs := xs) (i := 0) (by omega)
  have e1 : rd_T44 xs ((xs.length - 1 : Nat) : Int) = xs[xs.length - 1]'(by omega) := rdP (by omega)
  unfold okCl
  rw [w, e0, e1]
  simp [and_assoc]
theorem clCode_iff {xs : List S44} : clCode xs = 0 ↔ okCh xs = true ∧ okCl xs = true := by
  refine ⟨clCode_ok, fun h => ?_⟩
  unfold clCode
  rw [if_pos h.1, if_pos h.2]
theorem okCh_rev {xs : List S44} (h : okCh xs = true) : okCh xs.reverse = true := by
  rw [okCh_iff] at *
  refine ⟨fun p hp => h.1 p (List.mem_reverse.1 hp), by simpa using h.2⟩
theorem clCode_rev {xs : List S44} (h : clCode xs = 0) : clCode xs.reverse = 0 := by
  rw [clCode_iff] at *
  obtain ⟨h1, h2⟩ := h
  have hv := okCh_iff.1 h1
  refine ⟨okCh_rev h1, ?_⟩
  rw [okCl_iff (by omega) (by omega)] at h2
  rw [okCl_iff (by simp; omega) (by simp; omega)]
  obtain ⟨a, b, c⟩ := h2
  refine ⟨by simpa using a, ?_, ?_⟩
  · simp only [List.getElem_reverse, List.length_reverse, Nat.sub_zero, Nat.sub_self]
    exact b.symm
  · simp only [List.getElem_reverse, List.length_reverse, Nat.sub_zero, Nat.sub_self]
    exact c.symm
theorem area_rev {xs : List S44} (h : okCh xs = true) : area xs.reverse = -area xs := by
  rw [area_sum h, area_sum (okCh_rev h), crossSum_reverse]
theorem left_area {xs : List S44} (h : clCode xs = 0) : clCode (leftOf xs) = 0 ∧ area (leftOf xs) = if area xs < 0 then -area xs else area xs := by
  unfold leftOf
  rw [if_pos h]
  by_cases ha : area xs < 0
  · rw [if_pos ha, if_pos ha]; exact ⟨clCode_rev h, area_rev (clCode_iff.1 h).1⟩
  · rw [if_neg ha, if_neg ha]; exact ⟨h, rfl⟩
theorem moved_shift {xs : List S44} (ho : ∀ p ∈ xs, okP p = true) {x y : Int} (hx : -2000 ≤ x ∧ x ≤ 2000) (hy : -2000 ≤ y ∧ y ≤ 2000) : xs.map (moved x y) = xs.map (shiftP x y) := by
  apply List.map_congr_left
  intro p hp
  have := okP_iff.1 (ho p hp)
  unfold moved shiftP
  rw [w64 (x := p.f0 + x) (by omega) (by omega), w64 (x := p.f1 + y) (by omega) (by omega)]
theorem twice_moved {xs : List S44} {x y : Int} (h1 : okCh xs = true) (h2 : okCh (xs.map (shiftP x y)) = true) : clCode (xs.map (shiftP x y)) = clCode xs ∧ (clCode xs = 0 → area (xs.map (shiftP x y)) = area xs) := by
  have hv := okCh_iff.1 h1
  have hc : okCl (xs.map (shiftP x y)) = okCl xs := by
    rw [Bool.eq_iff_iff, okCl_iff (by simp; omega) (by simp; omega), okCl_iff (by omega) (by omega)]
    simp only [List.getElem_map, List.length_map]
    unfold shiftP
    simp only
    constructor
    · rintro ⟨a, b, c⟩; exact ⟨a, by omega, by omega⟩
    · rintro ⟨a, b, c⟩; exact ⟨a, by omega, by omega⟩
  refine ⟨by unfold clCode; rw [h1, h2, hc], fun h => ?_⟩
  have hcl := (okCl_iff (by omega) (by omega)).1 (clCode_iff.1 h).2
  rw [area_sum h1, area_sum h2]
  obtain ⟨p, r, rfl⟩ : ∃ p r, xs = p :: r := by
    cases xs with
    | nil => simp at hv
    | cons p r => exact ⟨p, r, rfl⟩
  rw [crossSum_shift]
  have e : (p :: r).getLast (List.cons_ne_nil p r) = (p :: r)[(p :: r).length - 1]'(by simp) := List.getLast_eq_getElem _
  rw [e]
  obtain ⟨_, b, c⟩ := hcl
  simp only [List.getElem_cons_zero] at b c
  rw [← b, ← c]
  grind
def Great (xs : List (List S44)) (i : Nat) (best most : Int) : Prop := (best = -1 ∧ most = -1 ∧ ∀ j (hj : j < xs.length), j < i → okCl xs[j] = false) ∨ ∃ b : Nat, ∃ hb : b < xs.length, best = b ∧ most = ((area xs[b]).natAbs : Int) ∧ okCl xs[b] = true ∧ ∀ j (hj : j < xs.length), j < i → okCl xs[j] = true → (area xs[j]).natAbs ≤ (area xs[b]).natAbs
theorem great_loop (xs : List (List S44)) (hl : xs.length ≤ 8) (ho : ∀ c ∈ xs, okCh c = true) : ∀ (d i : Nat) (best most : Int), xs.length - i = d → i ≤ xs.length → Great xs i best most →
    ∃ z, (∀ k, d + 30 < k → impl_GreatestOutline.l0 k best most xs (xs.length : Int) i = some z) ∧ (z.2 = 0 → ∃ m, Great xs xs.length z.1 m ∧ 0 ≤ z.1) := by
  intro d
  induction d with
  | zero =>
    intro i best most hd hi hb
    refine ⟨if best < 0 then (0, 3) else (best, 0), fun k hk => ?_, fun hz => ?_⟩
    · obtain ⟨k, rfl⟩ : ∃ m, k = m + 1 := ⟨k - 1, by omega⟩
      have p : ¬ (i : Int) < (xs.length : Int) := by omega
      simp only [impl_GreatestOutline.l0, p, if_false]
      split <;> rfl
    · obtain rfl : i = xs.length := by omega
      by_cases h : best < 0
      · rw [if_pos h] at hz; cases hz
      · rw [if_neg h]; exact ⟨most, hb, by simp only; omega⟩
  | succ d ih =>
    intro i best most hd hi hb
    have h : i < xs.length := by omega
    have hc := ho _ (List.getElem_mem h)
    have hn := (okCh_iff.1 hc).2
    have ab := area_bound hc
    have p0 : (0 : Int) ≤ (i : Int) := by omega
    have p1 : (i : Int) < (xs.length : Int) := by omega
    have step : ∀ b m, Great xs (i + 1) b m → (okCl xs[i] = true ∧ ((area xs[i]).natAbs : Int) > most ∧ b = (i : Int) ∧ m = ((area xs[i]).natAbs : Int) ∨ ¬ (okCl xs[i] = true ∧ ((area xs[i]).natAbs : Int) > most) ∧ b = best ∧ m = most) → ∃ z, (∀ k, d + 1 + 30 < k → impl_GreatestOutline.l0 k best most xs (xs.length : Int) i = some z) ∧ (z.2 = 0 → ∃ m, Great xs xs.length z.1 m ∧ 0 ≤ z.1) := by
      intro b m hg hcase
      obtain ⟨z, ez, pz⟩ := ih (i + 1) b m (by omega) (by omega) hg
      refine ⟨z, fun k hk => ?_, pz⟩
      obtain ⟨k, rfl⟩ : ∃ m, k = m + 1 := ⟨k - 1, by omega⟩
      have f := ez k (by omega)
      simp only [impl_GreatestOutline.l0, p0, p1, if_true, rdPP h, nxt h (show xs.length ≤ 4611686018427387903 by omega), (closed_some xs[i] (by omega)).1, (area_some xs[i] (by omega) k (by omega)).1, abs_impl (x := area xs[i]) (by omega) (by omega), Option.bind_some]
      rcases hcase with ⟨q1, q2, rfl, rfl⟩ | ⟨q, rfl, rfl⟩
      · rw [if_pos q1, if_pos q2, f]
      · by_cases q1 : okCl xs[i] = true
        · rw [if_pos q1, if_neg (fun q2 => q ⟨q1, q2⟩), f]
        · rw [if_neg q1, f]
    by_cases q : okCl xs[i] = true ∧ ((area xs[i]).natAbs : Int) > most
    · refine step i ((area xs[i]).natAbs : Int) (.inr ⟨i, h, rfl, rfl, q.1, fun j hj hji hcj => ?_⟩) (.inl ⟨q.1, q.2, rfl, rfl⟩)
      by_cases e : j = i
      · subst e; exact Nat.le_refl _
      · rcases hb with ⟨_, _, g⟩ | ⟨b, hb', rfl, rfl, _, g⟩
        · have := g j hj (by omega); rw [this] at hcj; cases hcj
        · have := g j hj (by omega) hcj; have := q.2; omega
    · refine step best most ?_ (.inr ⟨q, rfl, rfl⟩)
      rcases hb with ⟨e1, e2, g⟩ | ⟨b, hb', rfl, rfl, hcb, g⟩
      · refine .inl ⟨e1, e2, fun j hj hji => ?_⟩
        by_cases e : j = i
        · subst e
          cases hcc : okCl xs[j] with
          | false => rfl
          | true => exact absurd ⟨hcc, by omega⟩ q
        · exact g j hj (by omega)
      · refine .inr ⟨b, hb', rfl, rfl, hcb, fun j hj hji hcj => ?_⟩
        by_cases e : j = i
        · subst e
          have : ¬ ((area xs[j]).natAbs : Int) > ((area xs[b]).natAbs : Int) := fun x => q ⟨hcj, x⟩
          omega
        · exact g j hj (by omega) hcj
theorem great_val (xs : List (List S44)) (hl : xs.length ≤ 1048576) (hw : ∀ c ∈ xs, c.length ≤ 1048576) {z : Int × Int} {k : Nat} (hk : xs.length + 1048600 < k) (e : impl_GreatestOutline.f k xs = some z) (hz : z.2 = 0) : (∀ c ∈ xs, okCh c = true) ∧ ∃ b : Nat, ∃ hb : b < xs.length, z.1 = b ∧ okCl xs[b] = true ∧ ∀ j (hj : j < xs.length), okCl xs[j] = true → (area xs[j]).natAbs ≤ (area xs[b]).natAbs := by
  unfold impl_GreatestOutline.f at e
  rw [(chsCode_some xs hl hw k (by omega)).2, Option.bind_some] at e
  by_cases h : chsCode xs = 0
  · obtain ⟨ho, h8⟩ := chsCode_ok h
    obtain ⟨z', e', p⟩ := great_loop xs h8 ho xs.length 0 (-1) (-1) (by omega) (by omega) (.inl ⟨rfl, rfl, fun j hj hj0 => by omega⟩)
    rw [if_pos h] at e
    have e2 := e' k (by omega)
    rw [Int.natCast_zero] at e2
    rw [e2] at e
    obtain rfl := Option.some.inj e
    obtain ⟨m, hg, h0⟩ := p hz
    refine ⟨ho, ?_⟩
    rcases hg with ⟨q, _, _⟩ | ⟨b, hb, q, _, hcb, g⟩
    · omega
    · exact ⟨b, hb, q, hcb, fun j hj hcj => g j hj hj hcj⟩
  · rw [if_neg h] at e
    obtain rfl := Option.some.inj e
    exact absurd hz h
end Go.Proofs.Ytgblbmbdadjicaa.Pure
