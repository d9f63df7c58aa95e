/- The law FnScales: with the best scale no place moves by more than told, and parallels are never shorter on the square map. -/
import Derived.Test.YtbhdbkgpnpgejaaPrint0
import Derived.Test.YtbhdbkgpnpgejaaPrint2
import Derived.Test.YtbhdbkgpnpgejaaPrint3
import Derived.Test.YtbhdbkgpnpgejaaPrint15
import Derived.Test.YtbhdbkgpnpgejaaPrint20
import Derived.Test.YtbhdbkgpnpgejaaPrint21
import Derived.Test.YtbhdbkgpnpgejaaNum
import Derived.Test.YtbhdbkgpnpgejaaSine
import Derived.Test.YtbhdbkgpnpgejaaInLat
import Derived.Test.YtbhdbkgpnpgejaaFlatA
import Derived.Test.YtbhdbkgpnpgejaaChk
import Derived.Test.YtbhdbkgpnpgejaaRead
import Derived.Test.YtbhdbkgpnpgejaaWBack
import Derived.Test.YtbhdbkgpnpgejaaWaves
import Derived.Test.YtbhdbkgpnpgejaaLoss
import Derived.Test.YtbhdbkgpnpgejaaBest
import Derived.Test.YtbhdbkgpnpgejaaSrc
import Derived.Test.YtbhdbkgpnpgejaaDrawB
namespace Go.Proofs.Ytbhdbkgpnpgejaa.Pure
open Go.RowKit Go.Proofs.Ytbhdbkgpnpgejaa.Print Go.Proofs.YtbhdbkgpnpgejaaW.PrintWords Go.Proofs.YtbhdbkgpnpgejaaW.PrintLast Go.Proofs.YtbhdbkgpnpgejaaW.PrintMore
set_option linter.unusedVariables false
set_option linter.unusedSimpArgs false
def StretchM (a : Int) : Int × Int := if -324000 ≤ a ∧ a ≤ 324000 then if cosv a = 0 then (0, 6) else (rnd 1000000000 (cosv a), 0) else (0, 2)
theorem stretch_some (a : Int) (k : Nat) (hk : 4 ≤ k) : spec_StretchAt.f k a = some (StretchM a) ∧ impl_StretchAt.f k a = some (StretchM a) := by
  unfold spec_StretchAt.f impl_StretchAt.f StretchM
  rw [(in_some _ _ _).2, lat_some]
  by_cases h : -324000 ≤ a ∧ a ≤ 324000
  · simp only [decide_eq_true h, Option.bind_some, if_true, if_pos h]
    rw [impl_cos_some a (by omega) (by omega) k (by omega), spec_cos_some a (by omega) (by omega) k (by omega)]
    have hc := cosv_bound a
    have hc0 := cosv_lat h.1 h.2
    by_cases e : cosv a = 0
    · simp [e]
    · obtain ⟨p, q⟩ := near_some (a := 1000000000) (b := cosv a) (by omega) (by omega) (by omega) (by omega) (by omega) (by omega)
      simp [e, p, q, rnd]
  · simp [h]
theorem stretch_big {a : Int} (h : (StretchM a).2 = 0) : 1000 ≤ (StretchM a).1 := by
  unfold StretchM at h ⊢
  by_cases hl : -324000 ≤ a ∧ a ≤ 324000
  · rw [if_pos hl] at h ⊢
    have hc := cosv_bound a
    have hc0 := cosv_lat hl.1 hl.2
    by_cases e : cosv a = 0
    · rw [if_pos e] at h; cases h
    · rw [if_neg e]
      unfold rnd
      show 1000 ≤ (2 * 1000000000 + cosv a) / (2 * cosv a)
      rw [Int.le_ediv_iff_mul_le (by omega)]
      omega
  · rw [if_neg hl] at h; cases h
theorem f6abs_some {x : Int} (h0 : -2000000000000000000 ≤ x) (h1 : x ≤ 2000000000000000000) : laws_f6abs.f x = some (x.natAbs : Int) := by
  unfold laws_f6abs.f
  split
  · rw [w64 (by omega) (by omega)]; congr 1; omega
  · congr 1; omega
theorem bestM_ok {xs : List S28} {m : Int} {w : Bool} : ∀ {s : Nat}, (bestM xs m w s).2 = 0 → 1 ≤ (bestM xs m w s).1 ∧ (bestM xs m w s).1 ≤ s ∧ xs.all (fineB (bestM xs m w s).1 m w) = true := by
  intro s
  induction s with
  | zero => intro h; cases h
  | succ s ih =>
    intro h
    unfold bestM at h ⊢
    split at h <;> rename_i hx
    · rw [if_pos hx]; exact ⟨by show (1 : Int) ≤ ((s + 1 : Nat) : Int); omega, Int.le_refl _, hx⟩
    · rw [if_neg hx]
      obtain ⟨a, b, c⟩ := ih h
      exact ⟨a, by omega, c⟩
theorem scales_loop (xs : List S28) (hl : xs.length ≤ 4611686018427387903) (ho : okList xs = true) (s m : Int) (w : Bool) (hs : okC s = true) (hs1 : s ≤ 1000) (hf : xs.all (fineB s m w) = true) : ∀ (d k i : Nat), xs.length - i = d → i ≤ xs.length → d + 5 < k → laws_FnScales.l0 k xs m w s i = some true := by
  have hs' := okC_iff.1 hs
  intro d
  induction d with
  | zero =>
    intro k i hd hi hk
    obtain ⟨k, rfl⟩ : ∃ m, k = m + 1 := ⟨k - 1, by omega⟩
    simp only [laws_FnScales.l0]
    rw [if_neg (by omega), if_pos (by omega)]
    simp [hs1]
  | succ d ih =>
    intro k i hd hi hk
    obtain ⟨k, rfl⟩ : ∃ m, k = m + 1 := ⟨k - 1, by omega⟩
    have h : i < xs.length := by omega
    have hp := okList_get ho h
    have hb := loss_small (s := s) (w := w) hp
    have hx := List.all_eq_true.1 hf _ (List.getElem_mem h)
    unfold fineB at hx
    simp only [Bool.and_eq_true, decide_eq_true_eq] at hx
    simp only [laws_FnScales.l0]
    rw [if_pos (by omega), if_pos (by omega), rd28 h, nxt h hl, implLossOf_some k (by omega), ih k (i + 1) (by omega) (by omega) (by omega)]
    unfold LossM
    rw [if_pos hp, if_pos hs, if_pos hx.1.1]
    simp only [Option.bind_some, if_true]
    rw [f6abs_some (by omega) (by omega), f6abs_some (by omega) (by omega)]
    simp only [Option.bind_some]
    rw [if_neg (by omega), if_neg (by omega)]
theorem plate_loss {a b s : Int} (h : (LossM a b s false).2.2 = 0) : 2 * ((LossM a b s false).1.natAbs : Int) ≤ s ∧ 2 * ((LossM a b s false).2.1.natAbs : Int) ≤ s ∧ ((LossM a b s false).1.natAbs : Int) ≤ 2000000 ∧ ((LossM a b s false).2.1.natAbs : Int) ≤ 2000000 := by
  unfold LossM at h ⊢
  by_cases hp : okS a b = true
  · by_cases hs : okC s = true
    · have hb := loss_small (s := s) (w := false) hp
      rw [if_pos hp, if_pos hs] at h ⊢
      by_cases ho : (lossM a b s false).2.2 = true
      · rw [if_pos ho] at h ⊢
        have hp' := okS_iff.1 hp
        have hs' := okC_iff.1 hs
        have r1 := rnd_bound (a := a) (b := s) (A := 324000) (by omega) (by omega) (by omega) (by omega)
        have r2 := rnd_bound (a := b) (b := s) (A := 648000) (by omega) (by omega) (by omega) (by omega)
        have e : lossM a b s false = (rnd a s * s - a, rnd b s * s - b, true) := by
          unfold lossM at ho ⊢
          simp only [Bool.false_eq_true, if_false, flatX] at ho ⊢
          by_cases hq : (readP (rnd b s) (rnd a s) s).2.2 = true
          · rw [if_pos hq]
            unfold readP at hq ⊢
            split at hq <;> rename_i hl
            · rw [if_pos hl]
            · cases hq
          · rw [if_neg hq] at ho; cases ho
        rw [e] at hb ⊢
        dsimp only at hb ⊢
        omega
      · rw [if_neg ho] at h; cases h
    · rw [if_pos hp, if_neg hs] at h; cases h
  · rw [if_neg hp] at h; cases h
theorem scales_tail : ∀ k xs m w s l, 5000 < k → List.length xs ≤ 1002 → BestM xs m w = (s, l) → laws_FnScales.j2 k xs m w l s false = some true := by
  intro k xs m w s l hk hx hb
  obtain ⟨k, rfl⟩ : ∃ m, k = m + 1 := ⟨k - 1, by omega⟩
  simp only [laws_FnScales.j2, Bool.false_eq_true, if_false]
  by_cases z : l = 0
  · rw [if_pos z]
    unfold BestM at hb
    by_cases ho : okList xs = true
    · rw [if_pos ho] at hb
      by_cases hm : (0 ≤ m ∧ m ≤ 1000) ∧ xs.length ≤ 20
      · rw [if_pos hm] at hb
        generalize hn : 1000 = n at hb
        have := bestM_ok (xs := xs) (m := m) (w := w) (s := n) (by rw [hb]; exact z)
        rw [hb] at this
        have q := scales_loop xs (by omega) ho s m w (by rw [okC_iff]; omega) (by omega) this.2.2 xs.length k 0 (by omega) (by omega) (by omega)
        exact q
      · rw [if_neg hm] at hb; injection hb with _ hb; omega
    · rw [if_neg ho] at hb; injection hb with _ hb; omega
  · rw [if_neg z]
theorem scales_j1 (k : Nat) (hk : 6000 < k) (xs : List S28) (hx : xs.length ≤ 1002) (m : Int) (w : Bool) (p q s : Int) (v : Bool) : laws_FnScales.j1 k xs m w (BestM xs m w).2 (BestM xs m w).1 s v (LossM p q s v).2.2 (LossM p q s v).1 (LossM p q s v).2.1 false = some true := by
  obtain ⟨k, rfl⟩ : ∃ m, k = m + 1 := ⟨k - 1, by omega⟩
  have ht := scales_tail k xs m w (BestM xs m w).1 (BestM xs m w).2 (by omega) hx (Prod.eta _).symm
  generalize BestM xs m w = b at ht ⊢
  have hpl : v = false → (LossM p q s v).2.2 = 0 → 2 * ((LossM p q s v).1.natAbs : Int) ≤ s ∧ 2 * ((LossM p q s v).2.1.natAbs : Int) ≤ s ∧ ((LossM p q s v).1.natAbs : Int) ≤ 2000000 ∧ ((LossM p q s v).2.1.natAbs : Int) ≤ 2000000 := fun hv => by subst hv; exact plate_loss
  generalize LossM p q s v = L at hpl ⊢
  obtain ⟨x1, x2, x3⟩ := L
  dsimp only at hpl ⊢
  simp only [laws_FnScales.j1, Bool.false_eq_true, if_false]
  by_cases z : x3 = 0
  · rw [if_pos z]
    cases v
    · have hb := hpl rfl z
      have n1 : -2000000000000000000 ≤ x1 ∧ x1 ≤ 2000000000000000000 := by omega
      have n2 : -2000000000000000000 ≤ x2 ∧ x2 ≤ 2000000000000000000 := by omega
      have a1 := f6abs_some n1.1 n1.2
      have a2 := f6abs_some n2.1 n2.2
      have w1 : wrap64 (2 * (x1.natAbs : Int)) = 2 * (x1.natAbs : Int) := w64 (by omega) (by omega)
      have w2 : wrap64 (2 * (x2.natAbs : Int)) = 2 * (x2.natAbs : Int) := w64 (by omega) (by omega)
      have d1 : ¬ 2 * (x1.natAbs : Int) > s := by omega
      have d2 : ¬ 2 * (x2.natAbs : Int) > s := by omega
      rw [if_neg Bool.false_ne_true, a1, Option.bind_some, w1, if_neg d1, a2, Option.bind_some, w2, decide_eq_false d2]
      exact ht
    · simp only [if_true]; exact ht
  · rw [if_neg z]; exact ht
theorem scales_j0 (k : Nat) (hk : 6001 < k) (xs : List S28) (hx : xs.length ≤ 1002) (m : Int) (w : Bool) (p q s : Int) (v : Bool) (lat : Int) : laws_FnScales.j0 k xs m w (BestM xs m w).2 (BestM xs m w).1 s v (LossM p q s v).2.2 (LossM p q s v).1 (LossM p q s v).2.1 (StretchM lat).2 (StretchM lat).1 false = some true := by
  obtain ⟨k, rfl⟩ : ∃ m, k = m + 1 := ⟨k - 1, by omega⟩
  have hj := scales_j1 k (by omega) xs hx m w p q s v
  simp only [laws_FnScales.j0, Bool.false_eq_true, if_false]
  by_cases z : (StretchM lat).2 = 0
  · rw [if_pos z, decide_eq_false (by have := stretch_big z; omega)]
    exact hj
  · rw [if_neg z]
    exact hj
theorem FnScales : laws_FnScales.Pure := by
  intro c hw hl
  have hc := code_of hw hl
  suffices H : ∀ k, 400000 ≤ k → laws_FnScales.f k c = some true from ⟨400000, H _ (Nat.le_refl _)⟩
  intro k hk
  unfold laws_FnScales.f laws_f6big.f
  simp only [Option.bind_some]
  by_cases hbig : decide ((c.length : Int) > 4096) = true
  · rw [if_pos hbig]
  rw [if_neg hbig]
  obtain ⟨xs, m, w, e1, hx⟩ := DrawBest_some hc k (by omega)
  obtain ⟨p, q, s, v, e2, hs1⟩ := DrawLoss_some hc k (by omega)
  obtain ⟨lat, e3, _⟩ := DrawStretch_some hc
  have e4 := bestImpl_some xs (by omega) m w k (by omega) (by omega)
  have e5 := bestSpec_some xs (by omega) m w k (by omega) (by omega)
  have e6 := implLossOf_some k (by omega) p q s v
  have e7 := specLossOf_some k (by omega) p q s v
  have e8 := (stretch_some lat k (by omega)).1
  have e9 := (stretch_some lat k (by omega)).2
  have e10 := scales_j0 k (by omega) xs hx m w p q s v lat
  generalize BestM xs m w = b at *
  generalize LossM p q s v = l at *
  generalize StretchM lat = u at *
  simp only [e1, e2, e3, e4, e5, e6, e7, e8, e9, Option.bind_some, if_true, bne_self_eq_false]
  exact e10
end Go.Proofs.Ytbhdbkgpnpgejaa.Pure
