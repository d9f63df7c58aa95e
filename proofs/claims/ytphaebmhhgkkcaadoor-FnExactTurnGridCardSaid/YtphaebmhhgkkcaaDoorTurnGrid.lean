/- The law FnExactTurnGrid: the program's TurnGrid returns what the reference's returns. -/
import Derived.Test.YtphaebmhhgkkcaaDoorPrint15
import Derived.Test.YtphaebmhhgkkcaaDoorPrint17
import Derived.Test.YtphaebmhhgkkcaaDoorPrint20
import Derived.Test.YtphaebmhhgkkcaaDoorNum
import Derived.Test.YtphaebmhhgkkcaaDoorInW
import Derived.Test.YtphaebmhhgkkcaaDoorGrA
import Derived.Test.YtphaebmhhgkkcaaDoorGrV
import Derived.Test.YtphaebmhhgkkcaaDoorGrC
import Derived.Test.YtphaebmhhgkkcaaDoorChK
import Derived.Test.YtphaebmhhgkkcaaDoorGrT
namespace Go.Proofs.YtphaebmhhgkkcaaDoor.Pure
open Go.RowKit Go.Proofs.YtphaebmhhgkkcaaDoor.Print Go.Proofs.YtphaebmhhgkkcaaDoorW.PrintWords Go.Proofs.YtphaebmhhgkkcaaDoorW.PrintLast Go.Proofs.YtphaebmhhgkkcaaDoorW.PrintMore
set_option linter.unusedVariables false
set_option linter.unusedSimpArgs false
def rot (s : ByteArray) (p : Nat) : ByteArray := s.extract p s.size ++ s.extract 0 p
theorem ba_ext {s t : ByteArray} (h : s.data.toList = t.data.toList) : s = t := by
  cases s; cases t
  congr 1
  exact Array.toList_inj.1 h
theorem rot_list (s : ByteArray) (p : Nat) (hp : p ≤ s.size) : (rot s p).data.toList = s.data.toList.drop p ++ s.data.toList.take p := by
  unfold rot
  rw [ByteArray.data_append, Array.toList_append, ByteArray.data_extract, ByteArray.data_extract, Array.toList_extract, Array.toList_extract]
  rw [List.extract_eq_take_drop, List.extract_eq_take_drop, List.drop_zero, Nat.sub_zero, List.take_of_length_le (by rw [List.length_drop, sz_list]; omega)]
theorem rot_zero (s : ByteArray) : rot s 0 = s := ba_ext (by rw [rot_list s 0 (by omega)]; simp)
theorem rot_full (s : ByteArray) : rot s s.size = s := ba_ext (by
  rw [rot_list s s.size (by omega), List.drop_of_length_le (by rw [sz_list]; omega), List.take_of_length_le (by rw [sz_list]; omega), List.nil_append])
theorem rot_size (s : ByteArray) (p : Nat) (hp : p ≤ s.size) : (s.extract p s.size).size + (s.extract 0 p).size = s.size := by
  simp only [ByteArray.size_extract]
  omega
theorem cut_eq (c : Int) (hc : -1000 ≤ c ∧ c ≤ 1000) {w : Nat} (h1 : 1 ≤ w) (h2 : w ≤ 32) : ∃ p : Nat, Int.tmod (wrap64 ((w : Int) - Int.tmod c (w : Int))) (w : Int) = (p : Int) ∧ p < w ∧ (∃ q : Nat, q ≤ w ∧ (if Int.tmod c (w : Int) < 0 then (w : Int) - wrap64 (Int.tmod c (w : Int) + (w : Int)) else (w : Int) - Int.tmod c (w : Int)) = (q : Int) ∧ (q = p ∨ (q = w ∧ p = 0))) := by
  have b1 := Int.tmod_lt_of_pos c (show (0 : Int) < w by omega)
  have b2 := tmod_lo c (show (0 : Int) < w by omega)
  generalize Int.tmod c (w : Int) = m at *
  rw [w64 (by omega) (by omega)]
  have e : ∀ x : Int, 0 ≤ x → Int.tmod x (w : Int) = x % (w : Int) := fun x hx => Int.tmod_eq_emod_of_nonneg hx
  rw [e _ (by omega)]
  by_cases hn : m < 0
  · rw [if_pos hn, w64 (by omega) (by omega)]
    refine ⟨(-m).toNat, ?_, by omega, (-m).toNat, by omega, by omega, .inl rfl⟩
    have : ((w : Int) - m) % (w : Int) = (-m) % (w : Int) := by rw [show (w : Int) - m = -m + (w : Int) by omega, Int.add_emod_right]
    rw [this, Int.emod_eq_of_lt (by omega) (by omega)]
    omega
  · rw [if_neg hn]
    by_cases hz : m = 0
    · refine ⟨0, ?_, by omega, w, by omega, by omega, .inr ⟨rfl, rfl⟩⟩
      rw [hz, show (w : Int) - 0 = (w : Int) by omega, Int.emod_self]; rfl
    · refine ⟨(w - m).toNat, ?_, by omega, (w - m).toNat, by omega, by omega, .inl rfl⟩
      rw [Int.emod_eq_of_lt (by omega) (by omega)]
      omega
theorem turn_impl (xs : List ByteArray) (hl : xs.length ≤ 16) (w p : Nat) (hw : w ≤ 32) (hp : p ≤ w) (hs : ∀ s ∈ xs, s.size = w) : ∀ (d k i : Nat), xs.length - i = d → i ≤ xs.length → d < k → impl_TurnGrid.l0 k (p : Int) ((xs.take i).map fun s => rot s p) xs (xs.length : Int) i = some (xs.map fun s => rot s p, 0) := by
  intro d
  induction d with
  | zero =>
    intro k i hd hi hk
    obtain ⟨k, rfl⟩ : ∃ m, k = m + 1 := ⟨k - 1, by omega⟩
    simp only [impl_TurnGrid.l0]
    rw [if_neg (by omega), List.take_of_length_le (by omega)]
  | succ d ih =>
    intro k i hd hi hk
    obtain ⟨k, rfl⟩ : ∃ m, k = m + 1 := ⟨k - 1, by omega⟩
    have h : i < xs.length := by omega
    have hz := hs _ (List.getElem_mem h)
    simp only [impl_TurnGrid.l0]
    rw [if_pos (by omega), if_pos (by omega), if_pos (by omega), if_pos (by omega), rdS h, if_pos (by omega), Int.toNat_natCast, rot_size xs[i] p (by omega), if_pos (by omega), if_pos (by simp; omega), nxt h (by omega)]
    have := ih k (i + 1) (by omega) (by omega) (by omega)
    rw [List.take_succ_eq_append_getElem h, List.map_append] at this
    exact this
theorem turn_spec (xs : List ByteArray) (hl : xs.length ≤ 16) (w p : Nat) (t : Int) (hw : w ≤ 32) (hp : p ≤ w) (ht : wrap64 ((w : Int) - t) = (p : Int)) (hs : ∀ s ∈ xs, s.size = w) : ∀ (d k i : Nat), xs.length - i = d → i ≤ xs.length → d < k → spec_TurnGrid.l0 k xs (w : Int) t ((xs.take i).map fun s => rot s p) i = some (xs.map fun s => rot s p, 0) := by
  intro d
  induction d with
  | zero =>
    intro k i hd hi hk
    obtain ⟨k, rfl⟩ : ∃ m, k = m + 1 := ⟨k - 1, by omega⟩
    simp only [spec_TurnGrid.l0]
    rw [if_neg (by omega), List.take_of_length_le (by omega)]
  | succ d ih =>
    intro k i hd hi hk
    obtain ⟨k, rfl⟩ : ∃ m, k = m + 1 := ⟨k - 1, by omega⟩
    have h : i < xs.length := by omega
    have hz := hs _ (List.getElem_mem h)
    simp only [spec_TurnGrid.l0]
    rw [ht, if_pos (by omega), if_pos (by omega), if_pos (by omega), rdS h, if_pos (by omega), Int.toNat_natCast, rot_size xs[i] p (by omega), if_pos (by omega), if_pos (by simp; omega), nxt h (by omega)]
    have := ih k (i + 1) (by omega) (by omega) (by omega)
    rw [List.take_succ_eq_append_getElem h, List.map_append] at this
    exact this
theorem turn_eq (a : List ByteArray) (c : Int) (hl : a.length ≤ 1048576) (h2 : ∀ s ∈ a, s.size ≤ 1048576) (k : Nat) (hk : a.length + 3000 < k) : ∃ v, spec_TurnGrid.f k a c = some v ∧ impl_TurnGrid.f k a c = some v ∧ v.1.length ≤ 16 := by
  obtain ⟨k, rfl⟩ : ∃ m, k = m + 1 := ⟨k - 1, by omega⟩
  unfold spec_TurnGrid.f impl_TurnGrid.f
  rw [grid_spec a (by omega) (fun c hc => by have := h2 c hc; omega) (k + 1) (by omega), grid_impl a (by omega) (fun c hc => by have := h2 c hc; omega) (k + 1) (by omega), Option.bind_some, Option.bind_some, within_some, Option.bind_some, check_some, Option.bind_some]
  cases hg : gridOk a with
  | false => exact ⟨([], 1), by simp, by simp, by simp⟩
  | true =>
    have g := grid_of hg
    have g1 := g.l1
    have g2 := g.l16
    rw [if_pos rfl, l00In_some, Option.bind_some]
    by_cases hc : -1000 ≤ c ∧ c ≤ 1000
    · rw [decide_eq_true hc, if_pos rfl, if_pos (show 0 < (a.length : Int) by omega)]
      have ew : ((rdOf ByteArray.empty a 0).size : Int) = (wide a : Int) := rfl
      have w1 := g.w1
      have w2 := g.w32
      rw [ew, if_neg (show ¬ (wide a : Int) = 0 by omega)]
      obtain ⟨p, ep, hp, q, hq, eq, hpq⟩ := cut_eq c hc w1 w2
      have ei : impl_TurnGrid.l0 (k + 1) (p : Int) [] a (a.length : Int) 0 = some (a.map fun s => rot s p, 0) := turn_impl a g2 (wide a) p w2 (by omega) g.row a.length (k + 1) 0 (by omega) (by omega) (by omega)
      have emap : (a.map fun s => rot s q) = a.map fun s => rot s p := by
        refine List.map_congr_left fun s hs => ?_
        rcases hpq with rfl | ⟨rfl, rfl⟩
        · rfl
        · have := g.row s hs
          rw [rot_zero, ← this, rot_full]
      have b1 := Int.tmod_lt_of_pos c (show (0 : Int) < (wide a : Int) by omega)
      have b2 := tmod_lo c (show (0 : Int) < (wide a : Int) by omega)
      refine ⟨(a.map fun s => rot s p, 0), ?_, ?_, by simpa using g2⟩
      · by_cases hn : Int.tmod c (wide a : Int) < 0
        · rw [if_pos hn] at eq ⊢
          simp only [spec_TurnGrid.j0]
          rw [← emap]
          exact turn_spec a g2 (wide a) q _ w2 hq (by rw [w64 (x := Int.tmod c (wide a : Int) + (wide a : Int)) (by omega) (by omega)] at eq ⊢; rw [w64 (by omega) (by omega)]; exact eq) g.row a.length k 0 (by omega) (by omega) (by omega)
        · rw [if_neg hn] at eq ⊢
          simp only [spec_TurnGrid.j0]
          rw [← emap]
          exact turn_spec a g2 (wide a) q _ w2 hq (by rw [w64 (by omega) (by omega)]; exact eq) g.row a.length k 0 (by omega) (by omega) (by omega)
      · simp only [if_true]
        rw [if_neg (show ¬ (wide a : Int) = 0 by omega), ep, if_pos (show 0 < (a.length : Int) by omega)]
        exact ei
    · rw [decide_eq_false hc]
      exact ⟨([], 2), by simp, by simp, by simp⟩
theorem FnExactTurnGrid : laws_FnExactTurnGrid.Pure := by
  intro a c ha hb _
  suffices H : ∀ k, a.length + 9000000 ≤ k → laws_FnExactTurnGrid.f k a c = some true from ⟨_, H _ (Nat.le_refl _)⟩
  intro k hk
  unfold laws_FnExactTurnGrid.f
  obtain ⟨r, e, hr⟩ := szStr_some a (by omega) ha.2 k (by omega)
  rw [e, Option.bind_some]
  by_cases h : r < 0
  · rw [if_pos h]
  rw [if_neg h]
  obtain ⟨h1, h2⟩ := hr (by omega)
  obtain ⟨k, rfl⟩ : ∃ n, k = n + 4 := ⟨k - 4, by omega⟩
  have ea := toStr_some a h1
  have q := eqStr_some a (by omega)
  obtain ⟨v, s0, i0, hv⟩ := turn_eq a c h1 h2 (k + 2) (by omega)
  have s1 : spec_TurnGrid.f (k + 4) a c = some v := at_rounds (fun k => spec_TurnGrid.mono a c k) (show k + 2 ≤ k + 4 by omega) s0
  have i1 : impl_TurnGrid.f (k + 4) a c = some v := at_rounds (fun k => impl_TurnGrid.mono a c k) (show k + 2 ≤ k + 4 by omega) i0
  have qv := eqStr_some v.1 (by omega)
  rw [ea (k + 4) (by omega), Option.bind_some, s1, Option.bind_some, Option.bind_some, i1, Option.bind_some, qv (k + 4) (by omega), Option.bind_some, if_pos rfl, bne_self_eq_false]
  simp only [laws_FnExactTurnGrid.j0]
  rw [if_neg (by simp), ea (k + 3) (by omega), Option.bind_some, q (k + 3) (by omega), Option.bind_some, if_pos rfl, markS_some a (by omega) (k + 3) (by omega), Option.bind_some]
  dsimp only
  rw [if_neg (by omega), qv (k + 3) (by omega), Option.bind_some, if_pos rfl, bne_self_eq_false]
  simp only [laws_FnExactTurnGrid.j1]
  rw [if_neg (by simp), markS_some v.1 (by omega) (k + 2) (by omega), Option.bind_some]
  dsimp only
  rw [heldS_some v.1.length (by omega) (k + 2) (by omega), Option.bind_some, if_neg (by omega), if_pos rfl, ea (k + 2) (by omega), Option.bind_some, i0, Option.bind_some, qv (k + 2) (by omega), Option.bind_some, if_pos rfl, bne_self_eq_false]
  simp only [laws_FnExactTurnGrid.j2]
  rw [if_neg (by simp), heldS_some v.1.length (by omega) (k + 1) (by omega), Option.bind_some, if_neg (by omega), if_pos rfl]
end Go.Proofs.YtphaebmhhgkkcaaDoor.Pure
