/- Every letter of the lands' text is a small letter that some cell has; one letter cut out of a text. -/
import Derived.Test.YtphaebmhhgkkcaaDoorPrint4
import Derived.Test.YtphaebmhhgkkcaaDoorPrint9
import Derived.Test.YtphaebmhhgkkcaaDoorNum
import Derived.Test.YtphaebmhhgkkcaaDoorInS
import Derived.Test.YtphaebmhhgkkcaaDoorGrA
import Derived.Test.YtphaebmhhgkkcaaDoorGrV
import Derived.Test.YtphaebmhhgkkcaaDoorGrC
namespace Go.Proofs.YtphaebmhhgkkcaaDoor.Pure
open Go.RowKit Go.Proofs.YtphaebmhhgkkcaaDoor.Print Go.Proofs.YtphaebmhhgkkcaaDoorW.PrintWords Go.Proofs.YtphaebmhhgkkcaaDoorW.PrintLast Go.Proofs.YtphaebmhhgkkcaaDoorW.PrintMore
set_option linter.unusedVariables false
set_option linter.unusedSimpArgs false
def landC (xs : List ByteArray) (c : Int) : Prop := 97 ≤ c ∧ c ≤ 122 ∧ 0 < (cellsL xs c).length
theorem cut_one (s : ByteArray) (i : Nat) (h : i < s.size) : s.extract i (i + 1) = strOfNums [bt s (i : Int)] := by
  have h2 : i < s.data.toList.length := by rw [sz_list]; exact h
  apply ByteArray.ext
  apply Array.ext'
  rw [ByteArray.data_extract, Array.toList_extract, List.extract_eq_take_drop, strOfNums_data, bt_at h2]
  rw [show i + 1 - i = 1 by omega, List.drop_eq_getElem_cons h2]
  simp
theorem bt_app (s t : ByteArray) (j : Nat) (h : j < (s ++ t).size) : bt (s ++ t) (j : Int) = if j < s.size then bt s (j : Int) else bt t ((j - s.size : Nat) : Int) := by
  have e : (s ++ t).data.toList = s.data.toList ++ t.data.toList := by rw [ByteArray.data_append, Array.toList_append]
  rw [bt_at (by rw [sz_list]; exact h)]
  by_cases hj : j < s.size
  · rw [if_pos hj, bt_at (by rw [sz_list]; exact hj)]
    simp only [e]
    rw [List.getElem_append_left]
  · have hs : s.data.toList.length = s.size := sz_list s
    have h3 : j - s.size < t.data.toList.length := by rw [sz_list]; rw [ByteArray.size_append] at h; omega
    rw [if_neg hj, bt_at h3]
    simp only [e]
    rw [List.getElem_append_right (by omega)]
    simp only [hs]
theorem one_fin : ∀ n : Fin 26, bt (strOfNums [((97 + n.val : Nat) : Int)]) 0 = ((97 + n.val : Nat) : Int) := by decide +kernel
theorem one_bt {b : Nat} (h0 : 97 ≤ b) (h1 : b ≤ 122) : bt (strOfNums [(b : Int)]) 0 = (b : Int) := by
  have := one_fin ⟨b - 97, by omega⟩
  simpa [show 97 + (b - 97) = b by omega] using this
theorem lands_set {xs : List ByteArray} (g : Grid xs) : ∀ (d k b : Nat) (acc r : ByteArray), 123 - b = d → 97 ≤ b → b ≤ 123 → d + 1001 < k → acc.size + d ≤ 26 → (∀ j : Nat, j < acc.size → landC xs (bt acc (j : Int))) → impl_landsOf.l0 k xs acc b = some r → ∀ j : Nat, j < r.size → landC xs (bt r (j : Int)) := by
  intro d
  induction d with
  | zero =>
    intro k b acc r hd h0 h1 hk hb hP hr
    obtain ⟨k, rfl⟩ : ∃ m, k = m + 1 := ⟨k - 1, by omega⟩
    simp only [impl_landsOf.l0] at hr
    rw [if_neg (by omega)] at hr
    obtain rfl := Option.some.inj hr
    exact hP
  | succ d ih =>
    intro k b acc r hd h0 h1 hk hb hP hr
    obtain ⟨k, rfl⟩ : ∃ m, k = m + 1 := ⟨k - 1, by omega⟩
    obtain ⟨e1, e2⟩ := encode_low h0 (show b ≤ 122 by omega)
    have hm : ((b : Int) + 1) % 256 = ((b + 1 : Nat) : Int) := by omega
    have ea : impl_landsOf.l0 (k + 1) xs acc b = if ((cellsL xs (b : Int)).length : Int) > 0 then impl_landsOf.l0 k xs (acc ++ strOfNums [(b : Int)]) ((b + 1 : Nat) : Int) else impl_landsOf.l0 k xs acc ((b + 1 : Nat) : Int) := by
      simp only [impl_landsOf.l0]
      rw [if_pos (by omega), cells_some (b : Int) g k (by omega), Option.bind_some, w32_low (b := b) (by omega), e1, hm, e2, if_pos (show acc.size + 1 ≤ 9223372036854775807 by omega)]
    rw [ea] at hr
    by_cases hc : ((cellsL xs (b : Int)).length : Int) > 0
    · rw [if_pos hc] at hr
      refine ih k (b + 1) _ r (by omega) (by omega) (by omega) (by omega) (by rw [ByteArray.size_append, e2]; omega) ?_ hr
      intro j hj
      rw [bt_app acc _ j hj]
      by_cases hj2 : j < acc.size
      · rw [if_pos hj2]; exact hP j hj2
      · rw [if_neg hj2]
        have hz : j - acc.size = 0 := by rw [ByteArray.size_append, e2] at hj; omega
        rw [hz, Int.natCast_zero, one_bt h0 (show b ≤ 122 by omega)]
        exact ⟨by omega, by omega, by omega⟩
    · rw [if_neg hc] at hr
      exact ih k (b + 1) _ r (by omega) (by omega) (by omega) (by omega) (by omega) hP hr
theorem lands_all {xs : List ByteArray} (g : Grid xs) : ∃ r, (∀ k, 3000 < k → impl_landsOf.f k xs = some r ∧ spec_l12Lands.f k xs = some r) ∧ r.size ≤ 26 ∧ ∀ j : Nat, j < r.size → landC xs (bt r (j : Int)) := by
  obtain ⟨r, f, hs⟩ := lands_some g
  refine ⟨r, f, hs, ?_⟩
  have e := (f 3001 (by omega)).1
  unfold impl_landsOf.f at e
  exact lands_set g 26 3001 97 (⟨#[]⟩ : ByteArray) r (by omega) (by omega) (by omega) (by omega) (by decide) (fun j hj => absurd hj (by show ¬ j < 0; omega)) e
theorem enc_land {xs : List ByteArray} {c : Int} (h : landC xs c) : Utf8.encode (wrap32 c) = strOfNums [c] ∧ (strOfNums [c]).size = 1 := by
  obtain ⟨h0, h1, _⟩ := h
  obtain ⟨b, rfl⟩ : ∃ b : Nat, c = (b : Int) := ⟨c.toNat, by omega⟩
  have hb1 : b ≤ 122 := by omega
  obtain ⟨e1, e2⟩ := encode_low (b := b) (by omega) hb1
  exact ⟨by rw [w32_low hb1, e1], e2⟩
theorem pos_land {xs : List ByteArray} {c : Int} (h : landC xs c) : ¬ ((cellsL xs c).length : Int) = 0 ∧ ((cellsL xs c).length : Int) > 0 := by
  obtain ⟨_, _, h3⟩ := h
  generalize (cellsL xs c).length = z at h3 ⊢
  omega
end Go.Proofs.YtphaebmhhgkkcaaDoor.Pure
