/- Which grids are valid is asked alike by the program and the reference. -/
import Derived.Test.YtacbacbmomhjoaaDoorPrint1
import Derived.Test.YtacbacbmomhjoaaDoorPrint2
import Derived.Test.YtacbacbmomhjoaaDoorPrint5
import Derived.Test.YtacbacbmomhjoaaDoorPrint6
import Derived.Test.YtacbacbmomhjoaaDoorNum
import Derived.Test.YtacbacbmomhjoaaDoorInS
import Derived.Test.YtacbacbmomhjoaaDoorGrA
import Derived.Lib.SlTrimSet
namespace Go.Proofs.YtacbacbmomhjoaaDoor.Pure
open Go.RowKit Go.Proofs.YtacbacbmomhjoaaDoor.Print Go.Proofs.YtacbacbmomhjoaaDoorW.PrintWords Go.Proofs.YtacbacbmomhjoaaDoorW.PrintLast Go.Proofs.YtacbacbmomhjoaaDoorW.PrintMore
set_option linter.unusedVariables false
set_option linter.unusedSimpArgs false
def okU (b : UInt8) : Bool := b == 46 || (decide (97 ≤ b.toNat) && decide (b.toNat ≤ 122))
def lettersL : List UInt8 := [46, 97, 98, 99, 100, 101, 102, 103, 104, 105, 106, 107, 108, 109, 110, 111, 112, 113, 114, 115, 116, 117, 118, 119, 120, 121, 122]
theorem okU_fin : ∀ n : Fin 256, lettersL.contains (UInt8.ofNat n.val) = okU (UInt8.ofNat n.val) := by decide +kernel
theorem okU_letters (b : UInt8) : lettersL.contains b = okU b := by
  have h := okU_fin ⟨b.toNat, b.toNat_lt⟩
  simpa using h
theorem dropW_nil {p : UInt8 → Bool} : ∀ {l : List UInt8}, l.dropWhile p = [] ↔ l.all p = true
  | [] => by simp
  | x :: l => by
    rw [List.dropWhile_cons]
    cases h : p x with
    | true => simp [h, dropW_nil (l := l)]
    | false => simp [h]
theorem dropW_head {p : UInt8 → Bool} : ∀ {l : List UInt8}, (l.dropWhile p).all p = true → l.dropWhile p = []
  | [], _ => rfl
  | x :: l, h => by
    rw [List.dropWhile_cons] at h ⊢
    cases hx : p x with
    | true => rw [hx, if_pos rfl] at h; rw [if_pos rfl]; exact dropW_head h
    | false => rw [hx] at h; simp [hx] at h
theorem trim_nil (l cs : List UInt8) : Lib.trimS l cs = [] ↔ l.all (cs.contains ·) = true := by
  unfold Lib.trimS Lib.trimLeftS Lib.trimRightS
  rw [dropW_nil]
  constructor
  · intro h
    have h1 : (l.reverse.dropWhile (cs.contains ·)).all (cs.contains ·) = true := by rwa [List.all_reverse] at h
    have h2 := dropW_nil.1 (dropW_head h1)
    rwa [List.all_reverse] at h2
  · intro h
    have h2 : l.reverse.dropWhile (cs.contains ·) = [] := dropW_nil.2 (by rwa [List.all_reverse])
    rw [h2]; rfl
def rowOk (w : Nat) (s : ByteArray) : Bool := (decide (s.size = w) && decide (1 ≤ s.size ∧ s.size ≤ 32)) && s.data.toList.all okU
def wide (xs : List ByteArray) : Nat := (rdOf ByteArray.empty xs 0).size
def gridOk (xs : List ByteArray) : Bool := decide (1 ≤ xs.length ∧ xs.length ≤ 16) && xs.all (rowOk (wide xs))
theorem small_some (c : Int) : spec_l01Small.f c = some (decide (97 ≤ c ∧ c ≤ 122)) := by
  unfold spec_l01Small.f
  by_cases h : c ≥ 97
  · rw [if_pos h]; simp [show 97 ≤ c from h]
  · rw [if_neg h]; simp [show ¬ 97 ≤ c from h]
theorem u46 (b : UInt8) : ((b.toNat : Int) = 46) ↔ b = 46 := by
  constructor
  · intro h
    have : b.toNat = (46 : UInt8).toNat := by simpa using (by omega : b.toNat = 46)
    exact UInt8.toNat_inj.1 this
  · rintro rfl; rfl
theorem okU_iff (b : UInt8) : okU b = (decide ((b.toNat : Int) = 46) || decide (97 ≤ (b.toNat : Int) ∧ (b.toNat : Int) ≤ 122)) := by
  unfold okU
  have e1 : (b == 46) = decide ((b.toNat : Int) = 46) := by
    rw [Bool.eq_iff_iff, beq_iff_eq, decide_eq_true_eq]
    exact (u46 b).symm
  have e2 : (decide (97 ≤ b.toNat) && decide (b.toNat ≤ 122)) = decide (97 ≤ (b.toNat : Int) ∧ (b.toNat : Int) ≤ 122) := by
    rw [Bool.eq_iff_iff, Bool.and_eq_true, decide_eq_true_eq, decide_eq_true_eq, decide_eq_true_eq]
    omega
  rw [e1, e2]
theorem cells_loop (xs : List ByteArray) (hl : xs.length ≤ 1000000000000) (i : Nat) (hi : i < xs.length) (hs : xs[i].size ≤ 1000000000000) (v : Bool) : ∀ (d k j : Nat), xs[i].size - j = d → j ≤ xs[i].size → d < k → (∀ m, k ≤ m + d + 1 → spec_l12Ok.l0 m xs ((i + 1 : Nat) : Int) = some v) →
    spec_l12Ok.l1 k xs i j = some ((xs[i].data.toList.drop j).all okU && v) := by
  intro d
  induction d with
  | zero =>
    intro k j hd hj hk hv
    obtain ⟨k, rfl⟩ : ∃ m, k = m + 1 := ⟨k - 1, by omega⟩
    simp only [spec_l12Ok.l1]
    rw [if_pos (by omega), if_pos (by omega), rdS hi, if_neg (by omega), nxt hi (by omega), hv k (by omega), List.drop_eq_nil_of_le (by rw [sz_list]; omega)]
    rfl
  | succ d ih =>
    intro k j hd hj hk hv
    obtain ⟨k, rfl⟩ : ∃ m, k = m + 1 := ⟨k - 1, by omega⟩
    have h : j < xs[i].data.toList.length := by rw [sz_list]; omega
    have hjs : j < xs[i].size := by omega
    simp only [spec_l12Ok.l1]
    rw [if_pos (by omega), if_pos (by omega), rdS hi, if_pos (by omega), if_pos (by omega), bt_at h, small_some, Option.bind_some, nxt hjs (by omega), List.drop_eq_getElem_cons h, List.all_cons, okU_iff, ih k (j + 1) (by omega) (by omega) (by omega) (fun m hm => hv m (by omega))]
    by_cases h1 : ((xs[i].data.toList[j]).toNat : Int) = 46
    · rw [if_pos h1, decide_eq_true h1]; rfl
    · rw [if_neg h1, decide_eq_false h1, Bool.false_or]
      by_cases h2 : 97 ≤ ((xs[i].data.toList[j]).toNat : Int) ∧ ((xs[i].data.toList[j]).toNat : Int) ≤ 122
      · rw [decide_eq_true h2, if_pos rfl]; rfl
      · rw [decide_eq_false h2, if_neg (by simp)]; rfl
theorem ok_loop (xs : List ByteArray) (hl : xs.length ≤ 1000000000000) (hs : ∀ c ∈ xs, c.size ≤ 1000000000000) : ∀ (d k i : Nat), xs.length - i = d → i ≤ xs.length → d * 40 < k → spec_l12Ok.l0 k xs i = some ((xs.drop i).all (rowOk (wide xs))) := by
  intro d
  induction d with
  | zero =>
    intro k i hd hi hk
    obtain ⟨k, rfl⟩ : ∃ m, k = m + 1 := ⟨k - 1, by omega⟩
    simp only [spec_l12Ok.l0]
    rw [if_neg (by omega), List.drop_eq_nil_of_le (by omega)]; rfl
  | succ d ih =>
    intro k i hd hi hk
    obtain ⟨k, rfl⟩ : ∃ m, k = m + 2 := ⟨k - 2, by omega⟩
    have h : i < xs.length := by omega
    have hsz := hs _ (List.getElem_mem h)
    simp only [spec_l12Ok.l0]
    rw [if_pos (by omega), if_pos (by omega), if_pos (by omega), rdS h, l00In_some, Option.bind_some, List.drop_eq_getElem_cons h, List.all_cons]
    have ew : (xs[i].size : Int) = ((rdOf ByteArray.empty xs 0).size : Int) ↔ xs[i].size = wide xs := by unfold wide; omega
    unfold rowOk
    by_cases h1 : xs[i].size = wide xs
    · rw [if_pos (ew.2 h1), decide_eq_true h1]
      by_cases h2 : 1 ≤ xs[i].size ∧ xs[i].size ≤ 32
      · have e := cells_loop xs hl i h hsz ((xs.drop (i + 1)).all (rowOk (wide xs))) xs[i].size k 0 (by omega) (by omega) (by omega) (fun m hm => ih m (i + 1) (by omega) (by omega) (by omega))
        rw [Int.natCast_zero, List.drop_zero] at e
        rw [decide_eq_true h2, decide_eq_true (by omega)]
        simp only [spec_l12Ok.j1, Bool.not_true, Bool.false_eq_true, if_false, Bool.true_and]
        exact e
      · rw [decide_eq_false h2, decide_eq_false (by omega)]
        simp only [spec_l12Ok.j1, Bool.not_false, if_true, Bool.and_false, Bool.false_and]
    · rw [if_neg (fun e => h1 (ew.1 e)), decide_eq_false h1]
      simp only [spec_l12Ok.j1, if_true, Bool.false_and]
theorem grid_spec (xs : List ByteArray) (hl : xs.length ≤ 1000000000000) (hs : ∀ c ∈ xs, c.size ≤ 1000000000000) (k : Nat) (hk : 1000 < k) : spec_l12Ok.f k xs = some (gridOk xs) := by
  unfold spec_l12Ok.f gridOk
  rw [l00In_some, Option.bind_some]
  by_cases h : 1 ≤ xs.length ∧ xs.length ≤ 16
  · have e := ok_loop xs hl hs xs.length k 0 (by omega) (by omega) (by omega)
    rw [Int.natCast_zero, List.drop_zero] at e
    rw [decide_eq_true (by omega), decide_eq_true h, if_pos rfl, Bool.true_and]
    exact e
  · rw [decide_eq_false (by omega), decide_eq_false h, if_neg (by simp), Bool.false_and]
theorem trim_row (s : ByteArray) (hs : s.size ≤ 1000000000000) : ∃ t, strings_Trim.f s (⟨#[46, 97, 98, 99, 100, 101, 102, 103, 104, 105, 106, 107, 108, 109, 110, 111, 112, 113, 114, 115, 116, 117, 118, 119, 120, 121, 122]⟩ : ByteArray) = some t ∧ (t.toList = [] ↔ s.data.toList.all okU = true) := by
  unfold strings_Trim.f
  rw [if_pos]
  · refine ⟨_, rfl, ?_⟩
    rw [Lib.toList_data]
    have e : (⟨(Lib.trimS s.data.toList lettersL).toArray⟩ : ByteArray).data.toList = Lib.trimS s.data.toList lettersL := by simp
    refine Iff.trans (Iff.of_eq (congrArg (· = []) e)) ?_
    rw [trim_nil]
    have : (fun b => lettersL.contains b) = okU := funext okU_letters
    rw [this]
  · unfold g_trimOk
    rw [decide_eq_true (by omega), Bool.true_and]
    decide
theorem vg_loop (xs : List ByteArray) (hl : xs.length ≤ 1000000000000) (hs : ∀ c ∈ xs, c.size ≤ 1000000000000) : ∀ (d k i : Nat), xs.length - i = d → i ≤ xs.length → d < k → impl_ValidGrid.l0 k xs xs (xs.length : Int) i = some ((xs.drop i).all (fun s => decide (s.size = wide xs) && s.data.toList.all okU) && (decide (1 ≤ xs.length ∧ xs.length ≤ 16) && decide (1 ≤ wide xs ∧ wide xs ≤ 32))) := by
  intro d
  induction d with
  | zero =>
    intro k i hd hi hk
    obtain ⟨k, rfl⟩ : ∃ m, k = m + 1 := ⟨k - 1, by omega⟩
    simp only [impl_ValidGrid.l0]
    rw [if_neg (by omega), List.drop_eq_nil_of_le (by omega), List.all_nil, Bool.true_and]
    by_cases h1 : (xs.length : Int) ≥ 1
    · rw [if_pos h1]
      by_cases h2 : (xs.length : Int) ≤ 16
      · rw [if_pos h2, if_pos (by omega), decide_eq_true (show 1 ≤ xs.length ∧ xs.length ≤ 16 by omega), Bool.true_and]
        unfold wide
        by_cases h3 : ((rdOf ByteArray.empty xs 0).size : Int) ≥ 1
        · rw [if_pos h3]
          congr 1
          rw [Bool.eq_iff_iff, decide_eq_true_eq, decide_eq_true_eq]
          omega
        · rw [if_neg h3, decide_eq_false (by omega)]
      · rw [if_neg h2, decide_eq_false (show ¬ (1 ≤ xs.length ∧ xs.length ≤ 16) by omega), Bool.false_and]
    · rw [if_neg h1, decide_eq_false (show ¬ (1 ≤ xs.length ∧ xs.length ≤ 16) by omega), Bool.false_and]
  | succ d ih =>
    intro k i hd hi hk
    obtain ⟨k, rfl⟩ : ∃ m, k = m + 1 := ⟨k - 1, by omega⟩
    have h : i < xs.length := by omega
    obtain ⟨t, e, ht⟩ := trim_row xs[i] (hs _ (List.getElem_mem h))
    simp only [impl_ValidGrid.l0]
    rw [if_pos (by omega), if_pos (by omega), if_pos (by omega), if_pos (by omega), rdS h, e, Option.bind_some, List.drop_eq_getElem_cons h, List.all_cons, nxt h (by omega), ih k (i + 1) (by omega) (by omega) (by omega)]
    have ew : (xs[i].size : Int) = ((rdOf ByteArray.empty xs 0).size : Int) ↔ xs[i].size = wide xs := by unfold wide; omega
    by_cases h1 : xs[i].size = wide xs
    · rw [if_pos (ew.2 h1), decide_eq_true h1, Bool.true_and]
      by_cases h2 : xs[i].data.toList.all okU = true
      · rw [if_pos (ht.2 h2), h2, Bool.true_and]
      · rw [if_neg (fun z => h2 (ht.1 z)), Bool.eq_false_iff.2 h2, Bool.false_and, Bool.false_and]
    · rw [if_neg (fun z => h1 (ew.1 z)), decide_eq_false h1, Bool.false_and, Bool.false_and, Bool.false_and]
theorem grid_impl (xs : List ByteArray) (hl : xs.length ≤ 1000000000000) (hs : ∀ c ∈ xs, c.size ≤ 1000000000000) (k : Nat) (hk : xs.length < k) : impl_ValidGrid.f k xs = some (gridOk xs) := by
  unfold impl_ValidGrid.f
  have e := vg_loop xs hl hs xs.length k 0 (by omega) (by omega) hk
  rw [Int.natCast_zero, List.drop_zero] at e
  rw [e]
  congr 1
  unfold gridOk
  by_cases h : 1 ≤ xs.length ∧ xs.length ≤ 16
  · rw [decide_eq_true h, Bool.true_and, Bool.true_and, Bool.eq_iff_iff]
    have h0 : 0 < xs.length := h.1
    have w0 : wide xs = xs[0].size := by
      have := rdS h0
      rw [Int.natCast_zero] at this
      unfold wide; rw [this]
    simp only [Bool.and_eq_true, List.all_eq_true, decide_eq_true_eq, rowOk]
    constructor
    · rintro ⟨h1, h2⟩ s hm
      have := (h1 s hm).1
      exact ⟨⟨this, by omega⟩, (h1 s hm).2⟩
    · intro h1
      have z := (h1 _ (List.getElem_mem h0)).1.2
      exact ⟨fun s hm => ⟨(h1 s hm).1.1, (h1 s hm).2⟩, by omega⟩
  · rw [decide_eq_false h, Bool.false_and, Bool.false_and, Bool.and_false]
end Go.Proofs.YtacbacbmomhjoaaDoor.Pure
