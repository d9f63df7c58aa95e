/- Points are picked alike by the program and the reference. -/
import Derived.Test.YtehnlgifedndjaaPrint0
import Derived.Test.YtehnlgifedndjaaPrint44
import Derived.Test.YtehnlgifedndjaaPrint45
import Derived.Test.YtehnlgifedndjaaPrint47
import Derived.Test.YtehnlgifedndjaaPrint48
import Derived.Test.YtehnlgifedndjaaNum
import Derived.Test.YtehnlgifedndjaaInW
import Derived.Test.YtehnlgifedndjaaChA
import Derived.Test.YtehnlgifedndjaaChV
import Derived.Test.YtehnlgifedndjaaChK
import Derived.Test.YtehnlgifedndjaaInts
namespace Go.Proofs.Ytehnlgifedndjaa.Pure
open Go.RowKit Go.Proofs.Ytehnlgifedndjaa.Print Go.Proofs.YtehnlgifedndjaaW.PrintWords Go.Proofs.YtehnlgifedndjaaW.PrintLast Go.Proofs.YtehnlgifedndjaaW.PrintMore
set_option linter.unusedVariables false
set_option linter.unusedSimpArgs false
/-- Are the numbers from place i on rising and below n. -/
def riseFrom (xs : List Int) (n : Nat) : Nat → Nat → Bool
  | 0, _ => true
  | d + 1, i => decide (0 ≤ rd xs (i : Int) ∧ rd xs (i : Int) ≤ (n : Int) - 1) && decide (0 < i → rd xs ((i : Int) - 1) < rd xs (i : Int)) && riseFrom xs n d (i + 1)
def riseB (xs : List Int) (n : Nat) (i : Nat) : Bool := riseFrom xs n (xs.length - i) i
theorem rise_step {xs : List Int} {n i : Nat} (h : i < xs.length) : riseB xs n i = (decide (0 ≤ rd xs (i : Int) ∧ rd xs (i : Int) ≤ (n : Int) - 1) && decide (0 < i → rd xs ((i : Int) - 1) < rd xs (i : Int)) && riseB xs n (i + 1)) := by
  unfold riseB
  rw [show xs.length - i = (xs.length - (i + 1)) + 1 by omega]
  rfl
theorem riseFrom_get {xs : List Int} {n : Nat} : ∀ {d i : Nat}, riseFrom xs n d i = true → ∀ t, i ≤ t → t < i + d → (0 ≤ rd xs (t : Int) ∧ rd xs (t : Int) ≤ (n : Int) - 1) ∧ (0 < t → rd xs ((t : Int) - 1) < rd xs (t : Int)) := by
  intro d
  induction d with
  | zero => intro i _ t h1 h2; omega
  | succ d ih =>
    intro i h t h1 h2
    simp only [riseFrom, Bool.and_eq_true, decide_eq_true_eq] at h
    by_cases e : t = i
    · subst e; exact h.1
    · exact ih h.2 t (by omega) (by omega)
theorem rises_loop (xs : List Int) (hl : xs.length ≤ 1000000000000) (n : Nat) (hn : n ≤ 1000000000000) : ∀ (d k i : Nat), xs.length - i = d → i ≤ xs.length → d < k → spec_l00Rises.l0 k xs 0 ((n : Int) - 1) i = some (riseB xs n i) ∧ impl_rising.l0 k xs (n : Int) xs (xs.length : Int) i = some (riseB xs n i) := by
  intro d
  induction d with
  | zero =>
    intro k i hd hi hk
    obtain ⟨k, rfl⟩ : ∃ m, k = m + 1 := ⟨k - 1, by omega⟩
    have e : riseB xs n i = true := by unfold riseB; rw [hd]; rfl
    simp only [spec_l00Rises.l0, impl_rising.l0]
    rw [if_neg (by omega), if_neg (by omega), e]
    exact ⟨rfl, rfl⟩
  | succ d ih =>
    intro k i hd hi hk
    obtain ⟨k, rfl⟩ : ∃ m, k = m + 1 := ⟨k - 1, by omega⟩
    have h : i < xs.length := by omega
    have p0 : (0 : Int) ≤ (i : Int) := by omega
    have p1 : (i : Int) < (xs.length : Int) := by omega
    obtain ⟨e1, e2⟩ := ih k (i + 1) (by omega) (by omega) (by omega)
    simp only [spec_l00Rises.l0, impl_rising.l0, p0, p1, if_true, nxt h (show xs.length ≤ 4611686018427387903 by omega), within_some, l00In_some, e1, e2, Option.bind_some]
    rw [rise_step h, w64 (x := (n : Int) - 1) (by omega) (by omega)]
    by_cases hr : 0 ≤ rd xs (i : Int) ∧ rd xs (i : Int) ≤ (n : Int) - 1
    · by_cases hi0 : 0 < i
      · have p2 : (i : Int) > 0 := by omega
        have w : wrap64 ((i : Int) - 1) = (i : Int) - 1 := w64 (by omega) (by omega)
        have p3 : (0 : Int) ≤ (i : Int) - 1 := by omega
        have p4 : (i : Int) - 1 < (xs.length : Int) := by omega
        by_cases hlt : rd xs ((i : Int) - 1) < rd xs (i : Int)
        · have hge : ¬ rd xs ((i : Int) - 1) ≥ rd xs (i : Int) := by omega
          simp only [hr, and_self, decide_true, if_true, p2, w, p3, p4, hge, if_false, hlt, implies_true, Bool.true_and]
        · have hge : rd xs ((i : Int) - 1) ≥ rd xs (i : Int) := by omega
          have hq : ¬ (0 < i → rd xs ((i : Int) - 1) < rd xs (i : Int)) := fun H => hlt (H hi0)
          simp only [hr, and_self, decide_true, if_true, p2, w, p3, p4, hge, hq, decide_false, Bool.and_false, Bool.false_and]
      · have p2 : ¬ (i : Int) > 0 := by omega
        simp [hr, p2, hi0]
    · simp [hr]
def picked (xs : List S44) (ps : List Int) : List S44 := ps.map fun p => rd_T44 xs p
theorem pick_loop (xs : List S44) (ps : List Int) (hl : ps.length ≤ 1000000000000) (hin : ∀ p ∈ ps, 0 ≤ p ∧ p < (xs.length : Int)) : ∀ (d k i : Nat) (acc : List S44), ps.length - i = d → i ≤ ps.length → acc.length = i → d < k →
    spec_PickPoints.l0 k xs ps acc i = some (acc ++ picked xs (ps.drop i), 0) ∧ impl_PickPoints.l0 k xs acc ps (ps.length : Int) i = some (acc ++ picked xs (ps.drop i), 0) := by
  intro d
  induction d with
  | zero =>
    intro k i acc hd hi ha hk
    obtain ⟨k, rfl⟩ : ∃ m, k = m + 1 := ⟨k - 1, by omega⟩
    simp only [spec_PickPoints.l0, impl_PickPoints.l0]
    rw [if_neg (by omega), if_neg (by omega), show i = ps.length by omega]
    simp [picked]
  | succ d ih =>
    intro k i acc hd hi ha hk
    obtain ⟨k, rfl⟩ : ∃ m, k = m + 1 := ⟨k - 1, by omega⟩
    have h : i < ps.length := by omega
    have p0 : (0 : Int) ≤ (i : Int) := by omega
    have p1 : (i : Int) < (ps.length : Int) := by omega
    have p2 : acc.length < 8796093022208 := by omega
    obtain ⟨q0, q1⟩ := hin _ (List.getElem_mem h)
    obtain ⟨e1, e2⟩ := ih k (i + 1) (acc ++ [(⟨(rd_T44 xs ps[i]).f0, (rd_T44 xs ps[i]).f1⟩ : S44)]) (by omega) (by omega) (by simp; omega) (by omega)
    simp only [spec_PickPoints.l0, impl_PickPoints.l0, p0, p1, p2, if_true, nxt h (show ps.length ≤ 4611686018427387903 by omega), rdI h, q0, q1, e1, e2]
    have e3 : acc ++ [(⟨(rd_T44 xs ps[i]).f0, (rd_T44 xs ps[i]).f1⟩ : S44)] ++ picked xs (ps.drop (i + 1)) = acc ++ picked xs (ps.drop i) := by
      rw [List.drop_eq_getElem_cons h]
      unfold picked
      rw [List.map_cons, List.append_assoc]; rfl
    rw [e3]
    exact ⟨rfl, rfl⟩
theorem rise_in {ps : List Int} {n : Nat} (h : riseB ps n 0 = true) : ∀ p ∈ ps, 0 ≤ p ∧ p < (n : Int) := by
  intro p hp
  obtain ⟨i, hi, e⟩ := List.mem_iff_getElem.1 hp
  have := (riseFrom_get h i (by omega) (by omega)).1
  rw [rdI hi, e] at this
  omega
/-- What both give back. -/
def PickM (xs : List S44) (ps : List Int) : List S44 × Int := if okCh xs = true then if 2 ≤ ps.length ∧ riseB ps xs.length 0 = true then (picked xs ps, 0) else ([], 2) else ([], 1)
theorem pick_both (xs : List S44) (ps : List Int) (hl : xs.length ≤ 1000000000) (hp : ps.length ≤ 1000000000) (k : Nat) (hk : xs.length + ps.length + 2 < k) : spec_PickPoints.f k xs ps = some (PickM xs ps) ∧ impl_PickPoints.f k xs ps = some (PickM xs ps) := by
  obtain ⟨k, rfl⟩ : ∃ m, k = m + 1 := ⟨k - 1, by omega⟩
  obtain ⟨r1, r2⟩ := rises_loop ps (by omega) xs.length (by omega) ps.length (k + 1) 0 (by omega) (by omega) (by omega)
  simp only [Int.natCast_zero] at r1 r2
  unfold spec_PickPoints.f impl_PickPoints.f spec_l00Rises.f impl_rising.f PickM
  rw [l07Ok_some xs (by omega) _ (by omega), valid_some xs (by omega) _ (by omega), w64 (x := (xs.length : Int) - 1) (by omega) (by omega), r1, r2]
  simp only [Option.bind_some, check_some, spec_PickPoints.j0, impl_PickPoints.j0]
  by_cases hv : okCh xs = true
  · by_cases h2 : 2 ≤ ps.length
    · have n1 : ¬ (ps.length : Int) < 2 := by omega
      have n2 : (ps.length : Int) ≥ 2 := by omega
      by_cases hr : riseB ps xs.length 0 = true
      · obtain ⟨e1, e2⟩ := pick_loop xs ps (by omega) (rise_in hr) ps.length k 0 [] (by omega) (by omega) rfl (by omega)
        simp only [Int.natCast_zero, List.drop_zero, List.nil_append] at e1 e2
        simp [hv, h2, n1, n2, hr, e1, e2]
      · simp [hv, h2, n1, n2, hr]
    · have n1 : (ps.length : Int) < 2 := by omega
      have n2 : ¬ (ps.length : Int) ≥ 2 := by omega
      simp [hv, h2, n1, n2]
  · by_cases h2 : 2 ≤ ps.length
    · have n2 : (ps.length : Int) ≥ 2 := by omega
      simp [hv, n2]
    · have n2 : ¬ (ps.length : Int) ≥ 2 := by omega
      simp [hv, n2]
theorem PickM_length (xs : List S44) (ps : List Int) : (PickM xs ps).1.length ≤ ps.length := by
  unfold PickM
  split
  · split <;> simp [picked]
  · simp
end Go.Proofs.Ytehnlgifedndjaa.Pure
