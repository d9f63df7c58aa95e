/- The cells with a letter are counted alike by the program and the reference, and the letters of all lands are told alike. -/
import Derived.Test.YtacbacbmomhjoaaDoorPrint0
import Derived.Test.YtacbacbmomhjoaaDoorPrint7
import Derived.Test.YtacbacbmomhjoaaDoorPrint11
import Derived.Test.YtacbacbmomhjoaaDoorNum
import Derived.Test.YtacbacbmomhjoaaDoorInS
import Derived.Test.YtacbacbmomhjoaaDoorGrA
import Derived.Test.YtacbacbmomhjoaaDoorGrV
namespace Go.Proofs.YtacbacbmomhjoaaDoor.Pure
open Go.RowKit Go.Proofs.YtacbacbmomhjoaaDoor.Print Go.Proofs.YtacbacbmomhjoaaDoorW.PrintWords Go.Proofs.YtacbacbmomhjoaaDoorW.PrintLast Go.Proofs.YtacbacbmomhjoaaDoorW.PrintMore
set_option linter.unusedVariables false
set_option linter.unusedSimpArgs false
structure Grid (xs : List ByteArray) : Prop where
  l1 : 1 ≤ xs.length
  l16 : xs.length ≤ 16
  row : ∀ s ∈ xs, s.size = wide xs
  w1 : 1 ≤ wide xs
  w32 : wide xs ≤ 32
  ok : ∀ s ∈ xs, s.data.toList.all okU = true
theorem wide_at {xs : List ByteArray} (h : 0 < xs.length) : wide xs = xs[0].size := by
  have := rdS h
  rw [Int.natCast_zero] at this
  unfold wide; rw [this]
theorem grid_of {xs : List ByteArray} (h : gridOk xs = true) : Grid xs := by
  unfold gridOk at h
  simp only [Bool.and_eq_true, List.all_eq_true, decide_eq_true_eq, rowOk] at h
  obtain ⟨⟨h1, h2⟩, h3⟩ := h
  have h0 : 0 < xs.length := h1
  have z := (h3 _ (List.getElem_mem h0)).1
  have w0 := wide_at h0
  exact ⟨h1, h2, fun s hs => (h3 s hs).1.1, by omega, by omega, fun s hs => List.all_eq_true.2 (h3 s hs).2⟩
def rowFrom (s : ByteArray) (c : Int) (i : Int) : Nat → Nat → List S43
  | 0, _ => []
  | d + 1, j => (if bt s (j : Int) = c then [⟨i, (j : Int)⟩] else []) ++ rowFrom s c i d (j + 1)
def cellsFrom (xs : List ByteArray) (c : Int) : Nat → Nat → List S43
  | 0, _ => []
  | d + 1, i => rowFrom (rdOf ByteArray.empty xs (i : Int)) c (i : Int) (rdOf ByteArray.empty xs (i : Int)).size 0 ++ cellsFrom xs c d (i + 1)
def cellsL (xs : List ByteArray) (c : Int) : List S43 := cellsFrom xs c xs.length 0
theorem rowFrom_length (s : ByteArray) (c i : Int) : ∀ (d j : Nat), (rowFrom s c i d j).length ≤ d
  | 0, _ => by simp [rowFrom]
  | d + 1, j => by
    have := rowFrom_length s c i d (j + 1)
    unfold rowFrom
    rw [List.length_append]
    split <;> simp <;> omega
theorem crow_loop (c : Int) (xs : List ByteArray) (i : Nat) (hi : i + 1 ≤ 1000) (s : ByteArray) (hs : s.size ≤ 1000) (R : List S43) (B : Nat) (hB : B ≤ 1000000) : ∀ (d k j : Nat) (acc : List S43), s.size - j = d → j ≤ s.size → d < k → acc.length + d ≤ B →
    (∀ m acc', k ≤ m + d + 1 → acc'.length ≤ B → impl_cellsWith.l0 m c acc' xs (xs.length : Int) ((i + 1 : Nat) : Int) = some (acc' ++ R)) →
    impl_cellsWith.l1 k c acc i s xs (xs.length : Int) i (s.size : Int) j = some (acc ++ (rowFrom s c i d j ++ R)) := by
  intro d
  induction d with
  | zero =>
    intro k j acc hd hj hk hb hv
    obtain ⟨k, rfl⟩ : ∃ m, k = m + 1 := ⟨k - 1, by omega⟩
    simp only [impl_cellsWith.l1]
    rw [if_neg (by omega), nxt (n := i + 1) (by omega) (by omega), hv k acc (by omega) (by omega)]
    rfl
  | succ d ih =>
    intro k j acc hd hj hk hb hv
    obtain ⟨k, rfl⟩ : ∃ m, k = m + 1 := ⟨k - 1, by omega⟩
    have h : j < s.size := by omega
    simp only [impl_cellsWith.l1]
    rw [if_pos (by omega), if_pos (by omega), if_pos (by omega), nxt h (by omega)]
    have e : rowFrom s c i (d + 1) j = (if bt s (j : Int) = c then [⟨(i : Int), (j : Int)⟩] else []) ++ rowFrom s c i d (j + 1) := rfl
    rw [e]
    by_cases hc : bt s (j : Int) = c
    · rw [if_pos hc, if_pos hc, if_pos (by omega), ih k (j + 1) _ (by omega) (by omega) (by omega) (by rw [List.length_append, List.length_singleton]; omega) (fun m acc' hm hb' => hv m acc' (by omega) hb')]
      simp only [List.append_assoc]
    · rw [if_neg hc, if_neg hc, ih k (j + 1) _ (by omega) (by omega) (by omega) (by omega) (fun m acc' hm hb' => hv m acc' (by omega) hb'), List.nil_append]
theorem cells_lp (c : Int) (xs : List ByteArray) (hl : xs.length ≤ 16) (hs : ∀ s ∈ xs, s.size ≤ 32) : ∀ (d k i : Nat) (acc : List S43), xs.length - i = d → i ≤ xs.length → d * 40 < k → acc.length + d * 32 ≤ 1000000 →
    impl_cellsWith.l0 k c acc xs (xs.length : Int) i = some (acc ++ cellsFrom xs c d i) := by
  intro d
  induction d with
  | zero =>
    intro k i acc hd hi hk hb
    obtain ⟨k, rfl⟩ : ∃ m, k = m + 1 := ⟨k - 1, by omega⟩
    simp only [impl_cellsWith.l0]
    rw [if_neg (by omega)]
    simp [cellsFrom]
  | succ d ih =>
    intro k i acc hd hi hk hb
    obtain ⟨k, rfl⟩ : ∃ m, k = m + 1 := ⟨k - 1, by omega⟩
    have h : i < xs.length := by omega
    have hz := hs _ (List.getElem_mem h)
    simp only [impl_cellsWith.l0, cellsFrom]
    rw [if_pos (by omega), if_pos (by omega), if_pos (by omega), rdS h]
    have := crow_loop c xs i (by omega) xs[i] (by omega) (cellsFrom xs c d (i + 1)) (1000000 - d * 32) (by omega) xs[i].size k 0 acc (by omega) (by omega) (by omega) (by omega) (fun m acc' hm hb' => ih m (i + 1) acc' (by omega) (by omega) (by omega) (by omega))
    rw [Int.natCast_zero] at this
    exact this
theorem cells_some (c : Int) {xs : List ByteArray} (g : Grid xs) (k : Nat) (hk : 1000 < k) : impl_cellsWith.f k xs c = some (cellsL xs c) := by
  unfold impl_cellsWith.f cellsL
  have := g.l16
  have e := cells_lp c xs g.l16 (fun s hs => by have := g.row s hs; have := g.w32; omega) xs.length k 0 [] (by omega) (by omega) (by omega) (by simp; omega)
  rw [Int.natCast_zero, List.nil_append] at e
  exact e
theorem nrow_loop (c : Int) (xs : List ByteArray) (i : Nat) (hi : i < xs.length) (hl : xs.length ≤ 16) (hs : xs[i].size ≤ 32) (R : Int) : ∀ (d k j : Nat) (n : Int), xs[i].size - j = d → j ≤ xs[i].size → d < k → 0 ≤ n → n + d ≤ 1000000 →
    (∀ (m : Nat) (n' : Int), k ≤ m + d + 1 → 0 ≤ n' → n' ≤ n + d → spec_l12Count.l0 m xs c n' ((i + 1 : Nat) : Int) = some (n' + R)) →
    spec_l12Count.l1 k xs c n i j = some (n + ((rowFrom xs[i] c i d j).length + R)) := by
  intro d
  induction d with
  | zero =>
    intro k j n hd hj hk h0 hb hv
    obtain ⟨k, rfl⟩ : ∃ m, k = m + 1 := ⟨k - 1, by omega⟩
    simp only [spec_l12Count.l1]
    rw [if_pos (by omega), if_pos (by omega), rdS hi, if_neg (by omega), nxt hi (by omega), hv k n (by omega) h0 (by omega)]
    simp [rowFrom]
  | succ d ih =>
    intro k j n hd hj hk h0 hb hv
    obtain ⟨k, rfl⟩ : ∃ m, k = m + 1 := ⟨k - 1, by omega⟩
    have h : j < xs[i].size := by omega
    simp only [spec_l12Count.l1]
    rw [if_pos (by omega), if_pos (by omega), rdS hi, if_pos (by omega), if_pos (by omega), nxt h (by omega)]
    have e : rowFrom xs[i] c i (d + 1) j = (if bt xs[i] (j : Int) = c then [⟨(i : Int), (j : Int)⟩] else []) ++ rowFrom xs[i] c i d (j + 1) := rfl
    rw [e]
    by_cases hc : bt xs[i] (j : Int) = c
    · rw [if_pos hc, if_pos hc, w64 (x := n + 1) (by omega) (by omega), ih k (j + 1) (n + 1) (by omega) (by omega) (by omega) (by omega) (by omega) (fun m n' hm h0' hb' => hv m n' (by omega) h0' (by omega)), List.length_append, List.length_singleton]
      congr 1
      omega
    · rw [if_neg hc, if_neg hc, ih k (j + 1) n (by omega) (by omega) (by omega) (by omega) (by omega) (fun m n' hm h0' hb' => hv m n' (by omega) h0' (by omega)), List.nil_append]
theorem count_lp (c : Int) (xs : List ByteArray) (hl : xs.length ≤ 16) (hs : ∀ s ∈ xs, s.size ≤ 32) : ∀ (d k i : Nat) (n : Int), xs.length - i = d → i ≤ xs.length → d * 40 < k → 0 ≤ n → n + d * 32 ≤ 1000000 →
    spec_l12Count.l0 k xs c n i = some (n + ((cellsFrom xs c d i).length : Int)) := by
  intro d
  induction d with
  | zero =>
    intro k i n hd hi hk h0 hb
    obtain ⟨k, rfl⟩ : ∃ m, k = m + 1 := ⟨k - 1, by omega⟩
    simp only [spec_l12Count.l0]
    rw [if_neg (by omega)]
    simp [cellsFrom]
  | succ d ih =>
    intro k i n hd hi hk h0 hb
    obtain ⟨k, rfl⟩ : ∃ m, k = m + 1 := ⟨k - 1, by omega⟩
    have h : i < xs.length := by omega
    have hz := hs _ (List.getElem_mem h)
    simp only [spec_l12Count.l0, cellsFrom]
    rw [if_pos (by omega), rdS h]
    have := nrow_loop c xs i h hl hz ((cellsFrom xs c d (i + 1)).length : Int) xs[i].size k 0 n (by omega) (by omega) (by omega) h0 (by omega) (fun m n' hm h0' hb' => ih m (i + 1) n' (by omega) (by omega) (by omega) h0' (by omega))
    rw [Int.natCast_zero] at this
    rw [this, List.length_append]
    congr 1
    first | done | omega
theorem count_some (c : Int) {xs : List ByteArray} (g : Grid xs) (k : Nat) (hk : 1000 < k) : spec_l12Count.f k xs c = some ((cellsL xs c).length : Int) := by
  unfold spec_l12Count.f cellsL
  have := g.l16
  have e := count_lp c xs g.l16 (fun s hs => by have := g.row s hs; have := g.w32; omega) xs.length k 0 0 (by omega) (by omega) (by omega) (by omega) (by omega)
  rw [Int.natCast_zero, Int.zero_add] at e
  exact e
end Go.Proofs.YtacbacbmomhjoaaDoor.Pure
