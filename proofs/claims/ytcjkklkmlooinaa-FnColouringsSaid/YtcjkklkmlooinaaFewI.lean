/- The least number of colours, as the program finds it. -/
import Derived.Test.YtcjkklkmlooinaaPrint0
import Derived.Test.YtcjkklkmlooinaaPrint7
import Derived.Test.YtcjkklkmlooinaaPrint8
import Derived.Test.YtcjkklkmlooinaaNum
import Derived.Test.YtcjkklkmlooinaaMgA
import Derived.Test.YtcjkklkmlooinaaBoVI
import Derived.Test.YtcjkklkmlooinaaAscP
import Derived.Test.YtcjkklkmlooinaaBoNI
import Derived.Test.YtcjkklkmlooinaaAdjP
import Derived.Test.YtcjkklkmlooinaaCntA
import Derived.Test.YtcjkklkmlooinaaMayP
import Derived.Test.YtcjkklkmlooinaaFstI
namespace Go.Proofs.Ytcjkklkmlooinaa.Pure
open Go.RowKit Go.Proofs.Ytcjkklkmlooinaa.Print Go.Proofs.YtcjkklkmlooinaaW.PrintWords Go.Proofs.YtcjkklkmlooinaaW.PrintLast Go.Proofs.YtcjkklkmlooinaaW.PrintMore
set_option linter.unusedVariables false
set_option linter.unusedSimpArgs false
/-- The least number of colours from c on; with n of them there are always right colours. -/
def fewL (A : Nat → Nat → Bool) (n : Nat) : Nat → Nat → Nat
  | 0, c => c
  | e + 1, c => if (fst A c n []).isSome = true then c else fewL A n e (c + 1)
theorem fewL_zero (A : Nat → Nat → Bool) (n c : Nat) : fewL A n 0 c = c := rfl
theorem fewL_succ (A : Nat → Nat → Bool) (n e c : Nat) : fewL A n (e + 1) c = if (fst A c n []).isSome = true then c else fewL A n e (c + 1) := rfl
theorem fewI_loop {n : Int} {xs : List S58} (O : OkBs n xs) : ∀ (e k c : Nat), n.toNat - c = e → c ≤ n.toNat → 401 + e < k → impl_fewestColours.l0 k n xs (c : Int) = some ((fewL (adjB xs) n.toNat e c : Nat) : Int) := by
  have hn := O.lands
  have key : ∀ (k c : Nat), c ≤ n.toNat → 400 < k → impl_firstColours.f k n xs (c : Int) [] = some (((fst (adjB xs) c n.toNat []).map ints).getD []) := fun k c hc hk => by
    have e := firstI_main O c (by omega) n.toNat k [] (by simp; omega) (by omega)
    have e3 : ints [] = [] := rfl
    rw [e3] at e
    exact e
  intro e
  induction e with
  | zero =>
    intro k c he hc hk
    obtain ⟨k, rfl⟩ : ∃ m, k = m + 1 := ⟨k - 1, by omega⟩
    have hce : c = n.toNat := by omega
    have hs := fst_enough (adjB xs) c n.toNat [] (fun x hx => by cases hx) (by simp; omega)
    simp only [impl_fewestColours.l0]
    rw [key k c hc (by omega), Option.bind_some]
    cases hf : fst (adjB xs) c n.toNat [] with
    | none => rw [hf] at hs; cases hs
    | some zs =>
      have hl := fst_length _ _ _ _ _ hf
      simp only [List.length_nil] at hl
      simp only [Option.map_some, Option.getD_some]
      rw [if_neg (by rw [ints_length]; omega)]
      rfl
  | succ e ih =>
    intro k c he hc hk
    obtain ⟨k, rfl⟩ : ∃ m, k = m + 1 := ⟨k - 1, by omega⟩
    have z : wrap64 ((c : Int) + 1) = ((c + 1 : Nat) : Int) := by rw [w64 (by omega) (by omega)]; omega
    simp only [impl_fewestColours.l0]
    rw [key k c hc (by omega), Option.bind_some, z, ih k (c + 1) (by omega) (by omega) (by omega)]
    rw [fewL_succ]
    cases hf : fst (adjB xs) c n.toNat [] with
    | none => rfl
    | some zs =>
      have hl := fst_length _ _ _ _ _ hf
      simp only [List.length_nil] at hl
      simp only [Option.map_some, Option.getD_some, Option.isSome_some, if_true]
      rw [if_neg (by rw [ints_length]; omega)]
theorem fewI_some {n : Int} {xs : List S58} (O : OkBs n xs) (k : Nat) (hk : 500 < k) : impl_fewestColours.f k n xs = some ((fewL (adjB xs) n.toNat (n.toNat - 1) 1 : Nat) : Int) := by
  have hn := O.lands
  unfold impl_fewestColours.f
  exact fewI_loop O (n.toNat - 1) k 1 rfl (by omega) (by omega)
end Go.Proofs.Ytcjkklkmlooinaa.Pure
