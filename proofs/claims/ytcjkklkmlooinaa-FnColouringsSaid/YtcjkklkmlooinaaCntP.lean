/- There are ways just if there are right colours, and more colours have more ways. -/
import Derived.Test.YtcjkklkmlooinaaPrint0
import Derived.Test.YtcjkklkmlooinaaPrint13
import Derived.Test.YtcjkklkmlooinaaNum
import Derived.Test.YtcjkklkmlooinaaMgA
import Derived.Test.YtcjkklkmlooinaaBoVI
import Derived.Test.YtcjkklkmlooinaaBoV
import Derived.Test.YtcjkklkmlooinaaClashP
import Derived.Test.YtcjkklkmlooinaaAscP
import Derived.Test.YtcjkklkmlooinaaBoNI
import Derived.Test.YtcjkklkmlooinaaAdjP
import Derived.Test.YtcjkklkmlooinaaCntA
import Derived.Test.YtcjkklkmlooinaaMayP
import Derived.Test.YtcjkklkmlooinaaCntI
import Derived.Test.YtcjkklkmlooinaaDegP
import Derived.Test.YtcjkklkmlooinaaClrP
import Derived.Test.YtcjkklkmlooinaaFstI
import Derived.Test.YtcjkklkmlooinaaFewI
import Derived.Test.YtcjkklkmlooinaaChrP
namespace Go.Proofs.Ytcjkklkmlooinaa.Pure
open Go.RowKit Go.Proofs.Ytcjkklkmlooinaa.Print Go.Proofs.YtcjkklkmlooinaaW.PrintWords Go.Proofs.YtcjkklkmlooinaaW.PrintLast Go.Proofs.YtcjkklkmlooinaaW.PrintMore
set_option linter.unusedVariables false
set_option linter.unusedSimpArgs false
theorem cnt_nonneg (A : Nat → Nat → Bool) (m d : Nat) (cs : List Nat) : 0 ≤ cnt A m d cs := (cnt_bound A m d cs).1
theorem sumL_nonneg {α : Type} {f : α → Int} : ∀ xs : List α, (∀ x ∈ xs, 0 ≤ f x) → 0 ≤ sumL f xs
  | [], _ => Int.le_refl _
  | x :: xs, h => by
    have h1 := h x List.mem_cons_self
    have h2 := sumL_nonneg xs (fun y hy => h y (List.mem_cons_of_mem _ hy))
    rw [sumL_cons]
    omega
theorem sumL_pos {α : Type} {f : α → Int} : ∀ xs : List α, (∀ x ∈ xs, 0 ≤ f x) → (0 < sumL f xs ↔ ∃ x ∈ xs, 0 < f x)
  | [], _ => ⟨fun h => (by cases h), fun ⟨x, hx, _⟩ => (by cases hx)⟩
  | x :: xs, h => by
    have h1 := h x List.mem_cons_self
    have h2 := sumL_nonneg xs (fun y hy => h y (List.mem_cons_of_mem _ hy))
    have ih := sumL_pos xs (fun y hy => h y (List.mem_cons_of_mem _ hy))
    rw [sumL_cons]
    constructor
    · intro hs
      by_cases hx : 0 < f x
      · exact ⟨x, List.mem_cons_self, hx⟩
      · obtain ⟨y, hy, hy2⟩ := ih.1 (by omega)
        exact ⟨y, List.mem_cons_of_mem _ hy, hy2⟩
    · rintro ⟨y, hy, hy2⟩
      rcases List.mem_cons.1 hy with rfl | hy
      · omega
      · have := ih.2 ⟨y, hy, hy2⟩
        omega
theorem sumL_le {α : Type} {f g : α → Int} : ∀ xs : List α, (∀ x ∈ xs, f x ≤ g x) → sumL f xs ≤ sumL g xs
  | [], _ => Int.le_refl _
  | x :: xs, h => by
    have h1 := h x List.mem_cons_self
    have h2 := sumL_le xs (fun y hy => h y (List.mem_cons_of_mem _ hy))
    rw [sumL_cons, sumL_cons]
    omega
theorem cnt_pos (A : Nat → Nat → Bool) (m : Nat) : ∀ (d : Nat) (cs : List Nat), 0 < cnt A m d cs ↔ (fst A m d cs).isSome = true
  | 0, cs => ⟨fun _ => rfl, fun _ => (by show (0 : Int) < 1; omega)⟩
  | d + 1, cs => by
    have hnn : ∀ c ∈ List.range m, (0 : Int) ≤ (if mayH A cs c = true then cnt A m d (cs ++ [c]) else 0) := fun c _ => by
      split
      · exact cnt_nonneg A m d _
      · exact Int.le_refl _
    rw [cnt_succ, sumL_pos _ hnn, fst_succ, List.findSome?_isSome_iff]
    constructor
    · rintro ⟨c, hc, hp⟩
      refine ⟨c, by rw [List.mem_range']; exact ⟨c, List.mem_range.1 hc, by omega⟩, ?_⟩
      unfold fstG
      by_cases hy : mayH A cs c = true
      · rw [if_pos hy] at hp ⊢
        exact (cnt_pos A m d _).1 hp
      · rw [if_neg hy] at hp
        omega
    · rintro ⟨c, hc, hp⟩
      obtain ⟨i, hi, rfl⟩ := List.mem_range'.1 hc
      refine ⟨0 + 1 * i, List.mem_range.2 (by omega), ?_⟩
      unfold fstG at hp
      by_cases hy : mayH A cs (0 + 1 * i) = true
      · rw [if_pos hy] at hp ⊢
        exact (cnt_pos A m d _).2 hp
      · rw [if_neg hy] at hp
        cases hp
theorem cnt_mono (A : Nat → Nat → Bool) (m : Nat) : ∀ (d : Nat) (cs : List Nat), cnt A m d cs ≤ cnt A (m + 1) d cs
  | 0, _ => Int.le_refl _
  | d + 1, cs => by
    rw [cnt_succ, cnt_succ, List.range_succ, sumL_append, sumL_cons, sumL_nil]
    have h1 := sumL_le (f := fun c => if mayH A cs c = true then cnt A m d (cs ++ [c]) else 0) (g := fun c => if mayH A cs c = true then cnt A (m + 1) d (cs ++ [c]) else 0) (List.range m) (fun c _ => by
      split
      · exact cnt_mono A m d _
      · exact Int.le_refl _)
    have h2 : (0 : Int) ≤ (if mayH A cs m = true then cnt A (m + 1) d (cs ++ [m]) else 0) := by
      split
      · exact cnt_nonneg A (m + 1) d _
      · exact Int.le_refl _
    omega
theorem OkC.more {A : Nat → Nat → Bool} {m m' : Nat} {zs : List Nat} (h : OkC A m zs) (hm : m ≤ m') : OkC A m' zs := ⟨fun x hx => Nat.lt_of_lt_of_le (h.lt x hx) hm, h.ok⟩
theorem ways_iff {n : Int} {xs : List S58} (O : OkBs n xs) (m : Nat) (hm : 1 ≤ m) : 0 < cnt (adjB xs) m n.toNat [] ↔ fewN n xs ≤ m := by
  obtain ⟨_, ⟨zs, hl, ho⟩, h3⟩ := fewN_spec O
  rw [cnt_pos, fst_iff]
  constructor
  · rintro ⟨ws, hw, hc⟩
    exact h3 m ws hm hw hc
  · intro h
    exact ⟨zs, hl, ho.more h⟩
theorem countI_fn {n : Int} {xs : List S58} (O : OkBs n xs) (m : Nat) (h1 : 1 ≤ m) (h6 : m ≤ 6) (k : Nat) (hk : 2000 < k) : impl_CountColours.f k n xs (m : Int) = some (cnt (adjB xs) m n.toNat [], 0) := by
  have hn := O.lands
  have hm := O.many
  have e2 := count_main O m h6 n.toNat k 0 [] (by simp; omega) (by simp) (Nat.zero_le _) (by omega)
  rw [Int.natCast_zero] at e2
  have e3 : ints [] = [] := rfl
  rw [e3] at e2
  unfold impl_CountColours.f impl_manyCode.f
  rw [impl_ok n xs (by omega) k (by omega), okBs_mk O, Option.bind_some, within_some, Option.bind_some, check_some, Option.bind_some, Option.bind_some, decide_eq_true (by omega), if_pos rfl, if_pos rfl, if_pos rfl, e2, Option.bind_some]
theorem ints_get (zs : List Nat) {i : Nat} (h : i < zs.length) : rd (ints zs) (i : Int) = (zs[i] : Int) := ints_rd zs h
theorem okC_proper {n : Int} {xs : List S58} (O : OkBs n xs) {m : Nat} (h6 : m ≤ 10) {zs : List Nat} (hl : zs.length = n.toNat) (h : OkC (adjB xs) m zs) : okCs n (ints zs) = true ∧ Proper xs (ints zs) := by
  have hn := O.lands
  refine ⟨okCs_iff.2 ⟨by rw [ints_length]; omega, fun c hc => ?_⟩, fun p hp e => ?_⟩
  · unfold ints at hc
    obtain ⟨z, hz, rfl⟩ := List.mem_map.1 hc
    have := h.lt z hz
    omega
  · have ho := O.at_ p hp
    obtain ⟨a, ha⟩ : ∃ a : Nat, p.f0 = (a : Int) := ⟨p.f0.toNat, by omega⟩
    obtain ⟨b, hb⟩ : ∃ b : Nat, p.f1 = (b : Int) := ⟨p.f1.toNat, by omega⟩
    have hal : a < zs.length := by omega
    have hbl : b < zs.length := by omega
    rw [ha, hb, ints_get zs hal, ints_get zs hbl] at e
    have := h.ok a b hal hbl (by omega) (by omega)
    unfold adjB at this
    rw [List.any_eq_false] at this
    apply this p hp
    unfold matB
    rw [Bool.or_eq_true, decide_eq_true_eq, decide_eq_true_eq]
    exact .inr ⟨hb, ha⟩
theorem firstI_fn {n : Int} {xs : List S58} (O : OkBs n xs) (m : Nat) (h1 : 1 ≤ m) (h6 : m ≤ 6) (k : Nat) (hk : 2000 < k) : (fewN n xs ≤ m → ∃ r, impl_FirstColours.f k n xs (m : Int) = some (r, 0) ∧ okCs n r = true ∧ Proper xs r) ∧ (¬ fewN n xs ≤ m → impl_FirstColours.f k n xs (m : Int) = some ([], 3)) := by
  have hn := O.lands
  have hm := O.many
  have e2 := firstI_main O m (by omega) n.toNat k [] (by simp; omega) (by omega)
  have e3 : ints [] = [] := rfl
  rw [e3] at e2
  have start : impl_FirstColours.f k n xs (m : Int) = (if (((((fst (adjB xs) m n.toNat []).map ints).getD []).length : Nat) : Int) = 0 then some ([], 3) else some (((fst (adjB xs) m n.toNat []).map ints).getD [], 0)) := by
    unfold impl_FirstColours.f impl_manyCode.f
    rw [impl_ok n xs (by omega) k (by omega), okBs_mk O, Option.bind_some, within_some, Option.bind_some, check_some, Option.bind_some, Option.bind_some, decide_eq_true (by omega), if_pos rfl, if_pos rfl, if_pos rfl, e2, Option.bind_some]
  have hw := (cnt_pos (adjB xs) m n.toNat []).symm.trans (ways_iff O m h1)
  rw [start]
  constructor
  · intro hf
    have hs := hw.2 hf
    cases hfs : fst (adjB xs) m n.toNat [] with
    | none => rw [hfs] at hs; cases hs
    | some zs =>
      have hl := fst_length _ _ _ _ _ hfs
      rw [List.length_nil, Nat.zero_add] at hl
      have ho := fst_okC (adjB xs) m n.toNat [] zs ⟨fun x hx => (by cases hx), fun i j hi => (by simp at hi)⟩ hfs
      obtain ⟨c1, c2⟩ := okC_proper O (by omega) hl ho
      refine ⟨ints zs, ?_, c1, c2⟩
      simp only [Option.map_some, Option.getD_some]
      rw [if_neg (by rw [ints_length]; omega)]
  · intro hf
    cases hfs : fst (adjB xs) m n.toNat [] with
    | none => rfl
    | some zs => exact absurd (hw.1 (by rw [hfs]; rfl)) hf
end Go.Proofs.Ytcjkklkmlooinaa.Pure
