/- Texts are marked with texts that count on, and are found marked so. -/
import Derived.Test.YtphaebmhhgkkcaaDoorPrint18
import Derived.Test.YtphaebmhhgkkcaaDoorPrint19
import Derived.Test.YtphaebmhhgkkcaaDoorNum
import Derived.Test.YtphaebmhhgkkcaaDoorGrA
namespace Go.Proofs.YtphaebmhhgkkcaaDoor.Pure
open Go.RowKit Go.Proofs.YtphaebmhhgkkcaaDoor.Print Go.Proofs.YtphaebmhhgkkcaaDoorW.PrintWords Go.Proofs.YtphaebmhhgkkcaaDoorW.PrintLast Go.Proofs.YtphaebmhhgkkcaaDoorW.PrintMore
set_option linter.unusedVariables false
set_option linter.unusedSimpArgs false
theorem txt_loop : ∀ (d k : Nat) (n : Int) (acc : ByteArray), 0 ≤ n → n < ((10 ^ d : Nat) : Int) → n ≤ 1000000000000 → d < k → acc.size + d ≤ 1000 → ∃ t, laws_markText.l0 k n acc = some t := by
  intro d
  induction d with
  | zero =>
    intro k n acc h0 h1 _ hk hb
    obtain ⟨k, rfl⟩ : ∃ m, k = m + 1 := ⟨k - 1, by omega⟩
    simp only [laws_markText.l0]
    rw [if_neg (by simp at h1; omega), if_pos (by omega)]
    exact ⟨_, rfl⟩
  | succ d ih =>
    intro k n acc h0 h1 hn hk hb
    obtain ⟨k, rfl⟩ : ∃ m, k = m + 1 := ⟨k - 1, by omega⟩
    simp only [laws_markText.l0]
    by_cases hp : n > 0
    · have hs : ∀ x : Int, (strOfNums [x]).size = 1 := fun x => by simp [strOfNums, ByteArray.size]
      have e : Int.tdiv n 10 = n / 10 := Int.tdiv_eq_ediv_of_nonneg h0
      rw [if_pos hp, Option.bind_some, hs, if_pos (by omega), e, w64 (by omega) (by omega)]
      refine ih k (n / 10) _ (by omega) ?_ (by omega) (by omega) (by rw [ByteArray.size_append, hs]; omega)
      rw [Nat.pow_succ] at h1
      omega
    · rw [if_neg hp, if_pos (by omega)]
      exact ⟨_, rfl⟩
theorem txt_ex (n : Int) (h0 : 0 ≤ n) (h1 : n ≤ 1000000000) : ∃ t, laws_markText.f 100 n = some t := by
  unfold laws_markText.f
  by_cases h : n ≤ 0
  · rw [if_pos h]; exact ⟨_, rfl⟩
  · rw [if_neg h]
    exact txt_loop 12 100 n (⟨#[]⟩ : ByteArray) h0 (by simp; omega) (by omega) (by omega) (by simp [ByteArray.size])
def txt (n : Int) : ByteArray := (laws_markText.f 100 n).getD ByteArray.empty
theorem txt_some (n : Int) (h0 : 0 ≤ n) (h1 : n ≤ 1000000000) (k : Nat) (hk : 100 ≤ k) : laws_markText.f k n = some (txt n) := by
  obtain ⟨t, e⟩ := txt_ex n h0 h1
  have e2 := at_rounds (fun k => laws_markText.mono n k) hk e
  unfold txt
  rw [e2, e]; rfl
def mkS (a : Int) (n : Nat) : List ByteArray := (List.range n).map fun (i : Nat) => txt (a + (i : Int))
theorem mkS_length (a : Int) (n : Nat) : (mkS a n).length = n := by simp [mkS]
theorem mkS_get (a : Int) {n i : Nat} (h : i < (mkS a n).length) : (mkS a n)[i] = txt (a + (i : Int)) := by simp [mkS]
theorem mkS_succ (a : Int) (i : Nat) : mkS a (i + 1) = mkS a i ++ [txt (a + (i : Int))] := by simp [mkS, List.range_succ]
theorem markS_loop (a : Int) (h0 : 0 ≤ a) (h1 : a ≤ 1000) : ∀ (d k i : Nat) (ys : List ByteArray), ys.length = d → i + d ≤ 100000000 → d + 100 < k → laws_markStringS.l0 k (mkS a i ++ ys) (a + (i : Int)) i = some (a + ((i + d : Nat) : Int), mkS a (i + d)) := by
  intro d
  induction d with
  | zero =>
    intro k i ys hy hi hk
    obtain ⟨k, rfl⟩ : ∃ m, k = m + 1 := ⟨k - 1, by omega⟩
    obtain rfl := List.eq_nil_of_length_eq_zero hy
    simp only [laws_markStringS.l0, List.append_nil, mkS_length]
    rw [if_neg (by omega)]
    rfl
  | succ d ih =>
    intro k i ys hy hi hk
    obtain ⟨k, rfl⟩ : ∃ m, k = m + 1 := ⟨k - 1, by omega⟩
    obtain ⟨y, ys, rfl⟩ : ∃ y zs, ys = y :: zs := by
      cases ys with
      | nil => cases hy
      | cons y zs => exact ⟨y, zs, rfl⟩
    have hl : i < (mkS a i ++ y :: ys).length := by simp [mkS_length]
    have hm := mkS_length a i
    have es : (mkS a i ++ y :: ys).set i (txt (a + (i : Int))) = mkS a i ++ txt (a + (i : Int)) :: ys := by
      rw [List.set_append_right _ _ (by omega), hm, Nat.sub_self]
      rfl
    simp only [laws_markStringS.l0]
    rw [if_pos (by omega), txt_some (a + (i : Int)) (by omega) (by omega) k (by omega), Option.bind_some, if_pos (by omega), Int.toNat_natCast, es, w64 (x := a + (i : Int) + 1) (by omega) (by omega), nxt (n := i + 1) (by omega) (by omega)]
    have := ih k (i + 1) ys (by simpa using hy) (by omega) (by omega)
    rw [mkS_succ, List.append_assoc] at this
    rw [show a + (i : Int) + 1 = a + ((i + 1 : Nat) : Int) by omega, show i + (d + 1) = i + 1 + d by omega]
    exact this
theorem heldS_loop (a : Int) (h0 : 0 ≤ a) (h1 : a ≤ 1000) (n : Nat) (hn : n ≤ 100000000) : ∀ (d k i : Nat), n - i = d → i ≤ n → d + 100 < k → laws_heldStringS.l0 k (mkS a n) (a + (i : Int)) i = some (a + (n : Int)) := by
  intro d
  induction d with
  | zero =>
    intro k i hd hi hk
    obtain ⟨k, rfl⟩ : ∃ m, k = m + 1 := ⟨k - 1, by omega⟩
    simp only [laws_heldStringS.l0, mkS_length]
    rw [if_neg (by omega), show i = n by omega]
  | succ d ih =>
    intro k i hd hi hk
    obtain ⟨k, rfl⟩ : ∃ m, k = m + 1 := ⟨k - 1, by omega⟩
    have hl : i < (mkS a n).length := by rw [mkS_length]; omega
    simp only [laws_heldStringS.l0]
    rw [if_pos (by omega), if_pos (by omega), txt_some (a + (i : Int)) (by omega) (by omega) k (by omega), Option.bind_some, rdS hl, mkS_get a hl, if_pos rfl, w64 (x := a + (i : Int) + 1) (by omega) (by omega), nxt (n := i + 1) (by omega) (by omega), show a + (i : Int) + 1 = a + ((i + 1 : Nat) : Int) by omega]
    exact ih k (i + 1) (by omega) (by omega) (by omega)
theorem markS_some (ys : List ByteArray) (hl : ys.length ≤ 10000000) (k : Nat) (hk : ys.length + 100 < k) : laws_markStringS.f k ys 1 = some (1 + (ys.length : Int), mkS 1 ys.length) := by
  unfold laws_markStringS.f
  have := markS_loop 1 (by omega) (by omega) ys.length k 0 ys rfl (by omega) hk
  simpa [mkS] using this
theorem heldS_some (n : Nat) (hn : n ≤ 10000000) (k : Nat) (hk : n + 100 < k) : laws_heldStringS.f k (mkS 1 n) 1 = some (1 + (n : Int)) := by
  unfold laws_heldStringS.f
  have := heldS_loop 1 (by omega) (by omega) n (by omega) n k 0 (by omega) (by omega) hk
  simpa using this
end Go.Proofs.YtphaebmhhgkkcaaDoor.Pure
