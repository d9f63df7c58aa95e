/- The first right colours, as the program finds them. -/
import Derived.Test.YtcjkklkmlooinaaPrint0
import Derived.Test.YtcjkklkmlooinaaPrint7
import Derived.Test.YtcjkklkmlooinaaNum
import Derived.Test.YtcjkklkmlooinaaMgA
import Derived.Test.YtcjkklkmlooinaaBoVI
import Derived.Test.YtcjkklkmlooinaaAscP
import Derived.Test.YtcjkklkmlooinaaBoNI
import Derived.Test.YtcjkklkmlooinaaAdjP
import Derived.Test.YtcjkklkmlooinaaCntA
import Derived.Test.YtcjkklkmlooinaaMayP
namespace Go.Proofs.Ytcjkklkmlooinaa.Pure
open Go.RowKit Go.Proofs.Ytcjkklkmlooinaa.Print Go.Proofs.YtcjkklkmlooinaaW.PrintWords Go.Proofs.YtcjkklkmlooinaaW.PrintLast Go.Proofs.YtcjkklkmlooinaaW.PrintMore
set_option linter.unusedVariables false
set_option linter.unusedSimpArgs false
/-- The first right colours that begin with some colours, for d lands more. -/
def fst (A : Nat → Nat → Bool) (m : Nat) : Nat → List Nat → Option (List Nat)
  | 0, cs => some cs
  | d + 1, cs => (List.range' 0 m).findSome? fun c => if mayH A cs c = true then fst A m d (cs ++ [c]) else none
def fstG (A : Nat → Nat → Bool) (m d : Nat) (cs : List Nat) (c : Nat) : Option (List Nat) := if mayH A cs c = true then fst A m d (cs ++ [c]) else none
theorem fst_succ (A : Nat → Nat → Bool) (m d : Nat) (cs : List Nat) : fst A m (d + 1) cs = (List.range' 0 m).findSome? (fstG A m d cs) := rfl
theorem fst_length (A : Nat → Nat → Bool) (m : Nat) : ∀ (d : Nat) (cs zs : List Nat), fst A m d cs = some zs → zs.length = cs.length + d
  | 0, cs, zs, h => by cases h; rfl
  | d + 1, cs, zs, h => by
    rw [fst_succ] at h
    obtain ⟨c, _, hc⟩ := List.exists_of_findSome?_eq_some h
    unfold fstG at hc
    split at hc
    · have := fst_length A m d _ zs hc
      rw [this, List.length_append, List.length_singleton]
      omega
    · cases hc
/-- With as many colours as lands there are right colours. -/
theorem fst_enough (A : Nat → Nat → Bool) (m : Nat) : ∀ (d : Nat) (cs : List Nat), (∀ x ∈ cs, x < cs.length) → cs.length + d ≤ m → (fst A m d cs).isSome = true
  | 0, cs, _, _ => rfl
  | d + 1, cs, hcs, hm => by
    rw [fst_succ, List.findSome?_isSome_iff]
    refine ⟨cs.length, by rw [List.mem_range']; exact ⟨cs.length, by omega, by omega⟩, ?_⟩
    unfold fstG
    rw [if_pos (mayH_new A hcs (Nat.le_refl _))]
    refine fst_enough A m d (cs ++ [cs.length]) (fun x hx => ?_) (by rw [List.length_append, List.length_singleton]; omega)
    rw [List.length_append, List.length_singleton]
    rcases List.mem_append.1 hx with hx | hx
    · have := hcs x hx; omega
    · rw [List.mem_singleton.1 hx]; omega
theorem firstI_main {n : Int} {xs : List S58} (O : OkBs n xs) (m : Nat) (hm : m ≤ 10) : ∀ (d k : Nat) (cs : List Nat), (cs.length : Int) + (d : Int) = n → 20 * d + 100 < k →
    impl_firstColours.f k n xs (m : Int) (ints cs) = some (((fst (adjB xs) m d cs).map ints).getD []) := by
  intro d
  have hn := O.lands
  induction d with
  | zero =>
    intro k cs hl hk
    obtain ⟨k, rfl⟩ : ∃ m, k = m + 1 := ⟨k - 1, by omega⟩
    simp only [impl_firstColours.f]
    rw [ints_length, if_pos (by omega), if_pos (by omega)]
    rfl
  | succ d ih =>
    intro k cs hl hk
    obtain ⟨k, rfl⟩ : ∃ m, k = m + 1 := ⟨k - 1, by omega⟩
    have hcl : (cs.length : Int) < n := by omega
    have hloop : ∀ (e k c : Nat), m - c = e → c ≤ m → 20 * d + 102 + e < k → impl_firstColours.l0 k n xs (m : Int) (ints cs) (m : Int) (c : Int) = some ((((List.range' c e).findSome? (fstG (adjB xs) m d cs)).map ints).getD []) := by
      intro e
      induction e with
      | zero =>
        intro k c he hc hk2
        obtain ⟨k, rfl⟩ : ∃ m, k = m + 1 := ⟨k - 1, by omega⟩
        simp only [impl_firstColours.l0]
        rw [if_neg (by omega)]
        rfl
      | succ e ihe =>
        intro k c he hc hk2
        obtain ⟨k, rfl⟩ : ∃ m, k = m + 1 := ⟨k - 1, by omega⟩
        have hnext := ihe k (c + 1) (by omega) (by omega) (by omega)
        have z : wrap64 ((c : Int) + 1) = ((c + 1 : Nat) : Int) := by rw [w64 (by omega) (by omega)]; omega
        have em := may_some O cs hcl c k (by omega)
        have hf := ih k (cs ++ [c]) (by rw [List.length_append, List.length_singleton]; omega) (by omega)
        have q1 : (c : Int) < (m : Int) := by omega
        have q2 : (ints cs).length < 17592186044416 := by rw [ints_length]; omega
        simp only [impl_firstColours.l0]
        rw [if_pos q1, em, Option.bind_some, z, List.range'_succ, List.findSome?_cons]
        by_cases hy : mayH (adjB xs) cs c = true
        · have g : fstG (adjB xs) m d cs c = fst (adjB xs) m d (cs ++ [c]) := by unfold fstG; rw [if_pos hy]
          rw [if_pos hy, clone_ints cs (by omega), Option.bind_some, if_pos q2, ints_snoc, hf, Option.bind_some, g]
          cases hfs : fst (adjB xs) m d (cs ++ [c]) with
          | none =>
            simp only [Option.map_none, Option.getD_none]
            rw [if_pos (by simp)]
            exact hnext
          | some zs =>
            have := fst_length _ _ _ _ _ hfs
            rw [List.length_append, List.length_singleton] at this
            simp only [Option.map_some, Option.getD_some]
            rw [if_neg (by rw [ints_length]; omega)]
        · have g : fstG (adjB xs) m d cs c = none := by unfold fstG; rw [if_neg hy]
          rw [if_neg hy, g]
          exact hnext
    simp only [impl_firstColours.f]
    rw [ints_length, if_neg (by omega), show (0 : Int) = ((0 : Nat) : Int) from rfl, hloop m k 0 (by omega) (by omega) (by omega), fst_succ]
end Go.Proofs.Ytcjkklkmlooinaa.Pure
