/- Rows of texts: handed over, measured and compared. -/
import Derived.Test.YtacbacbmomhjoaaDoorPrint1
import Derived.Test.YtacbacbmomhjoaaDoorPrint4
import Derived.Test.YtacbacbmomhjoaaDoorPrint10
import Derived.Test.YtacbacbmomhjoaaDoorNum
import Derived.Lib.SlTrimSet
namespace Go.Proofs.YtacbacbmomhjoaaDoor.Pure
open Go.RowKit Go.Proofs.YtacbacbmomhjoaaDoor.Print Go.Proofs.YtacbacbmomhjoaaDoorW.PrintWords Go.Proofs.YtacbacbmomhjoaaDoorW.PrintLast Go.Proofs.YtacbacbmomhjoaaDoorW.PrintMore
set_option linter.unusedVariables false
set_option linter.unusedSimpArgs false
theorem rdS {xs : List ByteArray} {i : Nat} (h : i < xs.length) : rdOf ByteArray.empty xs (i : Int) = xs[i] := by simp [rdOf, h]
theorem sz_list (s : ByteArray) : s.data.toList.length = s.size := Array.length_toList
theorem bt_at {s : ByteArray} {i : Nat} (h : i < s.data.toList.length) : bt s (i : Int) = ((s.data.toList[i]).toNat : Int) := by
  have h2 : ((i : Int)).toNat < s.size := by rw [sz_list] at h; rw [Int.toNat_natCast]; exact h
  unfold bt
  rw [dif_pos h2]
  rfl
theorem toStr_loop (xs : List ByteArray) (hl : xs.length ≤ 1000000000000) : ∀ (d k i : Nat), xs.length - i = d → i ≤ xs.length → d < k → laws_toStringS.l0 k xs (xs.take i ++ List.replicate (xs.length - i) (⟨#[]⟩ : ByteArray)) i = some xs := by
  intro d
  induction d with
  | zero =>
    intro k i hd hi hk
    obtain ⟨k, rfl⟩ : ∃ m, k = m + 1 := ⟨k - 1, by omega⟩
    simp only [laws_toStringS.l0]
    rw [if_neg (by omega), hd, show i = xs.length by omega]
    simp
  | succ d ih =>
    intro k i hd hi hk
    obtain ⟨k, rfl⟩ : ∃ m, k = m + 1 := ⟨k - 1, by omega⟩
    have h : i < xs.length := by omega
    simp only [laws_toStringS.l0]
    rw [if_pos (by omega), if_pos (by omega), if_pos (by simp; omega), rdS h, nxt h (by omega)]
    have := ih k (i + 1) (by omega) (by omega) (by omega)
    rw [← this]
    congr 1
    have e := set_step (xs.take i) (⟨#[]⟩ : ByteArray) xs[i] (n := xs.length) (i := i) (by simp; omega) h
    rw [show ((i : Int)).toNat = i by omega, e]
    congr 1
    rw [List.take_succ_eq_append_getElem h]
theorem toStr_some (xs : List ByteArray) (hl : xs.length ≤ 1048576) (k : Nat) (hk : xs.length < k) : laws_toStringS.f k xs = some xs := by
  unfold laws_toStringS.f
  rw [if_pos (by omega), if_pos (by omega), show ((xs.length : Int)).toNat = xs.length by omega]
  have := toStr_loop xs (by omega) xs.length k 0 (by omega) (by omega) hk
  simpa using this
theorem eqStr_loop (xs : List ByteArray) (hl : xs.length ≤ 1000000000000) : ∀ (d k i : Nat), xs.length - i = d → i ≤ xs.length → d < k → laws_eqStringS.l0 k xs xs i = some true := by
  intro d
  induction d with
  | zero =>
    intro k i hd hi hk
    obtain ⟨k, rfl⟩ : ∃ m, k = m + 1 := ⟨k - 1, by omega⟩
    simp only [laws_eqStringS.l0]
    rw [if_neg (by omega)]
  | succ d ih =>
    intro k i hd hi hk
    obtain ⟨k, rfl⟩ : ∃ m, k = m + 1 := ⟨k - 1, by omega⟩
    have h : i < xs.length := by omega
    simp only [laws_eqStringS.l0]
    rw [if_pos (by omega), if_pos (by omega), if_pos (by omega), if_pos trivial, nxt h (by omega)]
    exact ih k (i + 1) (by omega) (by omega) (by omega)
theorem eqStr_some (xs : List ByteArray) (hl : xs.length ≤ 1048576) (k : Nat) (hk : xs.length < k) : laws_eqStringS.f k xs xs = some true := by
  unfold laws_eqStringS.f
  rw [if_pos rfl]
  exact eqStr_loop xs (by omega) xs.length k 0 (by omega) (by omega) hk
theorem szStr_loop (xs : List ByteArray) (hl : xs.length ≤ 4611686018427387903) (hw : ∀ c ∈ xs, c.size ≤ 9223372036854775807) : ∀ (d k i : Nat) (a : Int), xs.length - i = d → i ≤ xs.length → d < k → 0 ≤ a → a ≤ 1048576 →
    ∃ r, laws_szStringS.l0 k xs a i = some r ∧ (0 ≤ r → r ≤ a ∧ ∀ t (h : t < xs.length), i ≤ t → xs[t].size ≤ 1048576) := by
  intro d
  induction d with
  | zero =>
    intro k i a hd hi hk h0 h1
    obtain ⟨k, rfl⟩ : ∃ m, k = m + 1 := ⟨k - 1, by omega⟩
    simp only [laws_szStringS.l0]
    rw [if_neg (by omega)]
    exact ⟨a, rfl, fun _ => ⟨by omega, fun t h ht => by omega⟩⟩
  | succ d ih =>
    intro k i a hd hi hk h0 h1
    obtain ⟨k, rfl⟩ : ∃ m, k = m + 1 := ⟨k - 1, by omega⟩
    have h : i < xs.length := by omega
    have hc := hw _ (List.getElem_mem h)
    simp only [laws_szStringS.l0]
    rw [if_pos (by omega), if_pos (by omega), rdS h, w64 (x := a - (xs[i].size : Int)) (by omega) (by omega), nxt h hl]
    by_cases hb : a - (xs[i].size : Int) < 0
    · rw [if_pos hb]
      exact ⟨-1, rfl, fun h => by omega⟩
    · rw [if_neg hb]
      obtain ⟨r, e, hr⟩ := ih k (i + 1) (a - xs[i].size) (by omega) (by omega) (by omega) (by omega) (by omega)
      refine ⟨r, e, fun h0 => ⟨by have := (hr h0).1; omega, fun t ht hit => ?_⟩⟩
      by_cases e : t = i
      · subst e; omega
      · exact (hr h0).2 t ht (by omega)
theorem szStr_some (xs : List ByteArray) (hl : xs.length ≤ 4611686018427387903) (hw : ∀ c ∈ xs, c.size ≤ 9223372036854775807) (k : Nat) (hk : xs.length < k) : ∃ r, laws_szStringS.f k xs 1048576 = some r ∧ (0 ≤ r → xs.length ≤ 1048576 ∧ ∀ c ∈ xs, c.size ≤ 1048576) := by
  unfold laws_szStringS.f
  rw [w64 (by omega) (by omega)]
  by_cases h : (1048576 : Int) - xs.length < 0
  · rw [if_pos h]; exact ⟨-1, rfl, fun h => by omega⟩
  · rw [if_neg h]
    obtain ⟨r, e, hr⟩ := szStr_loop xs hl hw xs.length k 0 (1048576 - xs.length) (by omega) (by omega) hk (by omega) (by omega)
    refine ⟨r, e, fun h0 => ⟨by omega, fun c hc => ?_⟩⟩
    obtain ⟨t, ht, e⟩ := List.mem_iff_getElem.1 hc
    rw [← e]
    exact (hr h0).2 t ht (by omega)
end Go.Proofs.YtacbacbmomhjoaaDoor.Pure
