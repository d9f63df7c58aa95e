/- The best scale: the program and the reference find the same. -/
import Derived.Test.YtbhdbkgpnpgejaaPrint0
import Derived.Test.YtbhdbkgpnpgejaaPrint10
import Derived.Test.YtbhdbkgpnpgejaaPrint11
import Derived.Test.YtbhdbkgpnpgejaaPrint12
import Derived.Test.YtbhdbkgpnpgejaaPrint13
import Derived.Test.YtbhdbkgpnpgejaaPrint14
import Derived.Test.YtbhdbkgpnpgejaaNum
import Derived.Test.YtbhdbkgpnpgejaaSine
import Derived.Test.YtbhdbkgpnpgejaaInLat
import Derived.Test.YtbhdbkgpnpgejaaFlatA
import Derived.Test.YtbhdbkgpnpgejaaChk
import Derived.Test.YtbhdbkgpnpgejaaRead
import Derived.Test.YtbhdbkgpnpgejaaWBack
import Derived.Test.YtbhdbkgpnpgejaaWaves
import Derived.Test.YtbhdbkgpnpgejaaLoss
namespace Go.Proofs.Ytbhdbkgpnpgejaa.Pure
open Go.RowKit Go.Proofs.Ytbhdbkgpnpgejaa.Print Go.Proofs.YtbhdbkgpnpgejaaW.PrintWords Go.Proofs.YtbhdbkgpnpgejaaW.PrintLast Go.Proofs.YtbhdbkgpnpgejaaW.PrintMore
set_option linter.unusedVariables false
set_option linter.unusedSimpArgs false
theorem rd28 {xs : List S28} {i : Nat} (h : i < xs.length) : rd_T28 xs (i : Int) = xs[i] := by simp [rd_T28, h]
def okList (xs : List S28) : Bool := xs.all fun p => okS p.f0 p.f1
theorem l08List_loop (xs : List S28) (hl : xs.length ≤ 4611686018427387903) : ∀ (d k i : Nat), xs.length - i = d → i ≤ xs.length → d < k → spec_l08List.l0 k xs i = some (okList (xs.drop i)) := by
  intro d
  induction d with
  | zero =>
    intro k i hd hi hk
    obtain ⟨k, rfl⟩ : ∃ m, k = m + 1 := ⟨k - 1, by omega⟩
    simp only [spec_l08List.l0]
    rw [if_neg (by omega), show i = xs.length by omega]
    simp [okList]
  | succ d ih =>
    intro k i hd hi hk
    obtain ⟨k, rfl⟩ : ∃ m, k = m + 1 := ⟨k - 1, by omega⟩
    have h : i < xs.length := by omega
    simp only [spec_l08List.l0]
    rw [if_pos (by omega), if_pos (by omega), rd28 h, (spot_some _ _).2, nxt h hl, List.drop_eq_getElem_cons h]
    simp only [Option.bind_some, okList, List.all_cons]
    by_cases ho : okS xs[i].f0 xs[i].f1 = true
    · rw [if_pos ho, ho, ih k (i + 1) (by omega) (by omega) (by omega)]; rfl
    · rw [if_neg ho]; simp [ho]
theorem spots_loop (xs : List S28) (hl : xs.length ≤ 4611686018427387903) : ∀ (d k i : Nat), xs.length - i = d → i ≤ xs.length → d < k → ∃ r : Int, impl_Spot_100.l0 k xs (xs.length : Int) i = some r ∧ decide (r ≥ 0) = !(okList (xs.drop i)) := by
  intro d
  induction d with
  | zero =>
    intro k i hd hi hk
    obtain ⟨k, rfl⟩ : ∃ m, k = m + 1 := ⟨k - 1, by omega⟩
    simp only [impl_Spot_100.l0]
    rw [if_neg (by omega), show i = xs.length by omega]
    exact ⟨-1, rfl, by simp [okList]⟩
  | succ d ih =>
    intro k i hd hi hk
    obtain ⟨k, rfl⟩ : ∃ m, k = m + 1 := ⟨k - 1, by omega⟩
    have h : i < xs.length := by omega
    simp only [impl_Spot_100.l0]
    rw [if_pos (by omega), if_pos (by omega), if_pos (by omega), rd28 h, nxt h hl, List.drop_eq_getElem_cons h]
    simp only [impl_areSpots_1.f, (spot_some _ _).1, Option.bind_some, okList, List.all_cons]
    by_cases ho : okS xs[i].f0 xs[i].f1 = true
    · obtain ⟨r, e, hr⟩ := ih k (i + 1) (by omega) (by omega) (by omega)
      refine ⟨r, ?_, ?_⟩
      · simp only [ho, Bool.not_true, Bool.false_eq_true, if_false]; exact e
      · rw [hr]; simp [ho, okList]
    · exact ⟨i, by simp [ho], by simp [ho]⟩
theorem areSpots_some (xs : List S28) (hl : xs.length ≤ 4611686018427387903) (k : Nat) (hk : xs.length < k) : impl_areSpots.f k xs = some (okList xs) ∧ spec_l08List.f k xs = some (okList xs) := by
  unfold impl_areSpots.f impl_Spot_93.f impl_Spot_100.f spec_l08List.f
  obtain ⟨r, e, hr⟩ := spots_loop xs hl xs.length k 0 (by omega) (by omega) hk
  have e' := l08List_loop xs hl xs.length k 0 (by omega) (by omega) hk
  simp only [Int.natCast_zero, List.drop_zero] at e hr e'
  rw [e', show (0 : Int) = ((0 : Nat) : Int) from rfl]
  rw [Int.natCast_zero, e]
  simp [hr]
theorem loss_small {a b s : Int} {w : Bool} (h : okS a b = true) : -2000000 ≤ (lossM a b s w).1 ∧ (lossM a b s w).1 ≤ 2000000 ∧ -2000000 ≤ (lossM a b s w).2.1 ∧ (lossM a b s w).2.1 ≤ 2000000 := by
  unfold lossM
  dsimp only
  generalize hq : (if w = true then readW (flatX a b s w) (rnd a s) s else readP (flatX a b s w) (rnd a s) s) = q
  by_cases ho : q.2.2 = true
  · have hz := okS_read w (x := flatX a b s w) (y := rnd a s) (s := s) (by rw [hq]; exact ho)
    rw [hq] at hz
    have hz' := okS_iff.1 hz
    have ab := okS_iff.1 h
    rw [if_pos ho]
    dsimp only
    omega
  · rw [if_neg ho]; decide
theorem abs_some {x : Int} (h0 : -2000000000000000000 ≤ x) (h1 : x ≤ 2000000000000000000) : impl_absolute.f x = some (x.natAbs : Int) ∧ spec_l00Size.f x = some (x.natAbs : Int) := by
  unfold impl_absolute.f spec_l00Size.f mx
  rw [w64 (x := -x) (by omega) (by omega)]
  constructor
  · congr 1
    split <;> omega
  · split <;> (congr 1; omega)
def fineB (s m : Int) (w : Bool) (p : S28) : Bool := (lossM p.f0 p.f1 s w).2.2 && decide (((lossM p.f0 p.f1 s w).1.natAbs : Int) ≤ m) && decide (((lossM p.f0 p.f1 s w).2.1.natAbs : Int) ≤ m)
theorem okList_get {xs : List S28} (h : okList xs = true) {i : Nat} (hi : i < xs.length) : okS xs[i].f0 xs[i].f1 = true := by
  unfold okList at h
  rw [List.all_eq_true] at h
  exact h _ (List.getElem_mem hi)
theorem fits_loop (xs : List S28) (hl : xs.length ≤ 4611686018427387903) (ho : okList xs = true) (s m : Int) (w : Bool) (hs : okC s = true) : ∀ (d k i : Nat), xs.length - i = d → i ≤ xs.length → d + 4 < k → spec_l08Fits.l0 k xs s m w i = some ((xs.drop i).all (fineB s m w)) := by
  intro d
  induction d with
  | zero =>
    intro k i hd hi hk
    obtain ⟨k, rfl⟩ : ∃ m, k = m + 1 := ⟨k - 1, by omega⟩
    simp only [spec_l08Fits.l0]
    rw [if_neg (by omega), show i = xs.length by omega]
    simp
  | succ d ih =>
    intro k i hd hi hk
    obtain ⟨k, rfl⟩ : ∃ m, k = m + 1 := ⟨k - 1, by omega⟩
    have h : i < xs.length := by omega
    have hp := okList_get ho h
    simp only [spec_l08Fits.l0]
    rw [if_pos (by omega), if_pos (by omega), rd28 h, nxt h hl, List.drop_eq_getElem_cons h]
    obtain ⟨p, q, c, e, hc, hpq⟩ := specLoss_some k (by omega) w hp hs
    have hb := loss_small (s := s) (w := w) hp
    rw [e, ih k (i + 1) (by omega) (by omega) (by omega)]
    simp only [Option.bind_some, List.all_cons]
    generalize (xs.drop (i + 1)).all (fineB s m w) = rest
    unfold fineB
    rw [← hc]
    cases c
    · simp
    · obtain ⟨rfl, rfl⟩ := hpq rfl
      rw [(abs_some (by omega) (by omega)).2, (abs_some (by omega) (by omega)).2]
      generalize ((lossM xs[i].f0 xs[i].f1 s w).1.natAbs : Int) = A
      generalize ((lossM xs[i].f0 xs[i].f1 s w).2.1.natAbs : Int) = B
      simp only [if_true, Option.bind_some, Bool.true_and]
      by_cases hA : A ≤ m <;> by_cases hB : B ≤ m
      · rw [if_neg (by omega), if_neg (by omega)]; simp [hA, hB]
      · rw [if_neg (by omega), if_pos (by omega)]; simp [hA, hB]
      · rw [if_pos (by omega)]; simp [hA]
      · rw [if_pos (by omega)]; simp [hA]
theorem best1_loop (xs : List S28) (hl : xs.length ≤ 4611686018427387903) (ho : okList xs = true) (s m : Int) (w : Bool) (hs : okC s = true) : ∀ (d k i : Nat) (f : Bool), xs.length - i = d → i ≤ xs.length → d + 4 < k → impl_BestScale.l1 k xs m w s f xs (xs.length : Int) i = if (f && (xs.drop i).all (fineB s m w)) = true then some (s, 0) else impl_BestScale.l0 (k - 1 - d) xs m w (s - 1) := by
  have hs' := okC_iff.1 hs
  intro d
  induction d with
  | zero =>
    intro k i f hd hi hk
    obtain ⟨k, rfl⟩ : ∃ m, k = m + 1 := ⟨k - 1, by omega⟩
    simp only [impl_BestScale.l1]
    rw [if_neg (by omega), show i = xs.length by omega, w64 (by omega) (by omega)]
    simp
  | succ d ih =>
    intro k i f hd hi hk
    obtain ⟨k, rfl⟩ : ∃ m, k = m + 1 := ⟨k - 1, by omega⟩
    have h : i < xs.length := by omega
    have hp := okList_get ho h
    simp only [impl_BestScale.l1]
    rw [if_pos (by omega), if_pos (by omega), if_pos (by omega), rd28 h, nxt h hl, List.drop_eq_getElem_cons h, implLoss_some k (by omega) w hp hs]
    have hb := loss_small (s := s) (w := w) hp
    have r := fun f => ih k (i + 1) f (by omega) (by omega) (by omega)
    rw [show k + 1 - 1 - (d + 1) = k - 1 - d by omega]
    simp only [Option.bind_some, List.all_cons, r]
    rw [(abs_some (by omega) (by omega)).1, (abs_some (by omega) (by omega)).1]
    obtain ⟨rest, hrest⟩ : ∃ rest, (xs.drop (i + 1)).all (fineB s m w) = rest := ⟨_, rfl⟩
    simp only [hrest, fineB]
    cases f
    · simp
    · cases hc : (lossM xs[i].f0 xs[i].f1 s w).2.2
      · simp
      · by_cases hA : ((lossM xs[i].f0 xs[i].f1 s w).1.natAbs : Int) ≤ m <;> by_cases hB : ((lossM xs[i].f0 xs[i].f1 s w).2.1.natAbs : Int) ≤ m <;> simp [hA, hB]
def bestM (xs : List S28) (m : Int) (w : Bool) : Nat → Int × Int
  | 0 => (0, 3)
  | s + 1 => if xs.all (fineB ((s + 1 : Nat) : Int) m w) = true then (((s + 1 : Nat) : Int), 0) else bestM xs m w s
theorem bestS_loop (xs : List S28) (hl : xs.length ≤ 100) (ho : okList xs = true) (m : Int) (w : Bool) : ∀ (s k : Nat), s ≤ 1000 → s + 200 < k → spec_BestScale.l0 k xs m w s = some (bestM xs m w s) := by
  intro s
  induction s with
  | zero =>
    intro k hs hk
    obtain ⟨k, rfl⟩ : ∃ m, k = m + 1 := ⟨k - 1, by omega⟩
    simp only [spec_BestScale.l0]
    rw [if_neg (by omega)]; rfl
  | succ s ih =>
    intro k hs hk
    obtain ⟨k, rfl⟩ : ∃ m, k = m + 1 := ⟨k - 1, by omega⟩
    simp only [spec_BestScale.l0, spec_l08Fits.f]
    have f := fits_loop xs (by omega) ho ((s + 1 : Nat) : Int) m w (by rw [okC_iff]; omega) xs.length k 0 (by omega) (by omega) (by omega)
    rw [Int.natCast_zero] at f
    rw [if_pos (by omega), f, w64 (by omega) (by omega), show ((s + 1 : Nat) : Int) - 1 = (s : Nat) by omega, ih k (by omega) (by omega)]
    simp only [List.drop_zero, Option.bind_some, bestM]
    split <;> rfl
theorem bestI_loop (xs : List S28) (hl : xs.length ≤ 100) (ho : okList xs = true) (m : Int) (w : Bool) : ∀ (s k : Nat), s ≤ 1000 → s * 200 + 200 < k → impl_BestScale.l0 k xs m w s = some (bestM xs m w s) := by
  intro s
  induction s with
  | zero =>
    intro k hs hk
    obtain ⟨k, rfl⟩ : ∃ m, k = m + 1 := ⟨k - 1, by omega⟩
    simp only [impl_BestScale.l0]
    rw [if_neg (by omega)]; rfl
  | succ s ih =>
    intro k hs hk
    obtain ⟨k, rfl⟩ : ∃ m, k = m + 1 := ⟨k - 1, by omega⟩
    simp only [impl_BestScale.l0]
    have f := best1_loop xs (by omega) ho ((s + 1 : Nat) : Int) m w (by rw [okC_iff]; omega) xs.length k 0 true (by omega) (by omega) (by omega)
    rw [Int.natCast_zero] at f
    have g := ih (k - 1 - xs.length) (by omega) (by omega)
    rw [if_pos (by omega), f, show ((s + 1 : Nat) : Int) - 1 = (s : Nat) by omega]
    simp only [List.drop_zero, Bool.true_and, bestM]
    split
    · rfl
    · exact g
def BestM (xs : List S28) (m : Int) (w : Bool) : Int × Int := if okList xs = true then if (0 ≤ m ∧ m ≤ 1000) ∧ xs.length ≤ 20 then bestM xs m w 1000 else (0, 2) else (0, 1)
theorem bestImpl_some (xs : List S28) (hl : xs.length ≤ 4611686018427387903) (m : Int) (w : Bool) (k : Nat) (hk : 300000 < k) (hk2 : xs.length < k) : impl_BestScale.f k xs m w = some (BestM xs m w) := by
  unfold impl_BestScale.f BestM
  obtain ⟨k, rfl⟩ : ∃ m, k = m + 1 := ⟨k - 1, by omega⟩
  rw [(areSpots_some xs hl (k + 1) hk2).1, (in_some _ _ _).1]
  simp only [Option.bind_some, check_some, impl_BestScale.j0]
  by_cases ho : okList xs = true
  · by_cases hm : 0 ≤ m ∧ m ≤ 1000
    · by_cases hx : xs.length ≤ 20
      · have := bestI_loop xs (by omega) ho m w 1000 k (by omega) (by omega)
        have hx' : (xs.length : Int) ≤ 20 := by omega
        simp only [ho, hm, hx, hx', and_self, decide_true, if_true]
        exact this
      · have hx' : ¬ ((xs.length : Int) ≤ 20) := by omega
        simp [ho, hm, hx, hx']
    · simp [ho, hm]
  · by_cases hm : 0 ≤ m ∧ m ≤ 1000 <;> simp [ho, hm]
theorem bestSpec_some (xs : List S28) (hl : xs.length ≤ 4611686018427387903) (m : Int) (w : Bool) (k : Nat) (hk : 300000 < k) (hk2 : xs.length < k) : spec_BestScale.f k xs m w = some (BestM xs m w) := by
  unfold spec_BestScale.f BestM
  obtain ⟨k, rfl⟩ : ∃ m, k = m + 1 := ⟨k - 1, by omega⟩
  rw [(areSpots_some xs hl (k + 1) hk2).2, (in_some _ _ _).2]
  simp only [Option.bind_some, spec_BestScale.j0]
  by_cases ho : okList xs = true
  · by_cases hx : xs.length ≤ 20
    · by_cases hm : 0 ≤ m ∧ m ≤ 1000
      · have := bestS_loop xs (by omega) ho m w 1000 k (by omega) (by omega)
        rw [if_neg (show ¬ (xs.length : Int) > 20 by omega)]
        simp only [ho, hm, hx, and_self, decide_true, if_true]
        simpa using this
      · rw [if_neg (show ¬ (xs.length : Int) > 20 by omega)]
        simp [ho, hm]
    · rw [if_pos (show (xs.length : Int) > 20 by omega)]
      simp [ho, hx]
  · simp [ho]
end Go.Proofs.Ytbhdbkgpnpgejaa.Pure
