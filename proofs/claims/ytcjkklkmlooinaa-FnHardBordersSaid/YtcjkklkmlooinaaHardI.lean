/- Hard borders, as the program finds them. -/
import Derived.Test.YtcjkklkmlooinaaPrint0
import Derived.Test.YtcjkklkmlooinaaPrint8
import Derived.Test.YtcjkklkmlooinaaPrint9
import Derived.Test.YtcjkklkmlooinaaNum
import Derived.Test.YtcjkklkmlooinaaInW
import Derived.Test.YtcjkklkmlooinaaIntsR
import Derived.Test.YtcjkklkmlooinaaBoR
import Derived.Test.YtcjkklkmlooinaaBoVI
import Derived.Test.YtcjkklkmlooinaaAscP
import Derived.Test.YtcjkklkmlooinaaBoNI
import Derived.Test.YtcjkklkmlooinaaAdjP
import Derived.Test.YtcjkklkmlooinaaCntA
import Derived.Test.YtcjkklkmlooinaaMayP
import Derived.Test.YtcjkklkmlooinaaFstI
import Derived.Test.YtcjkklkmlooinaaFewI
namespace Go.Proofs.Ytcjkklkmlooinaa.Pure
open Go.RowKit Go.Proofs.Ytcjkklkmlooinaa.Print Go.Proofs.YtcjkklkmlooinaaW.PrintWords Go.Proofs.YtcjkklkmlooinaaW.PrintLast Go.Proofs.YtcjkklkmlooinaaW.PrintMore
set_option linter.unusedVariables false
set_option linter.unusedSimpArgs false
theorem concatB_some (a b : List S58) (h : a.length + b.length ≤ 1000000) (k : Nat) (hk : 8 ≤ k) : impl_Border_38.f k [a, b] = some (a ++ b) := by
  obtain ⟨k, rfl⟩ : ∃ m, k = m + 8 := ⟨k - 8, by omega⟩
  have w0 : wrap64 ((0 : Int) + 1) = 1 := w64 (by omega) (by omega)
  have w1 : wrap64 ((1 : Int) + 1) = 2 := w64 (by omega) (by omega)
  have wa : wrap64 (0 + (a.length : Int)) = (a.length : Int) := by rw [w64 (by omega) (by omega)]; omega
  have wb : wrap64 ((a.length : Int) + (b.length : Int)) = ((a.length + b.length : Nat) : Int) := by rw [w64 (by omega) (by omega)]; omega
  have e : (([a, b] : List (List S58)).length : Int) = 2 := rfl
  have r0 : rd_L3 [a, b] 0 = a := rfl
  have r1 : rd_L3 [a, b] 1 = b := rfl
  have na : ¬ ((a.length : Int) < 0) := by omega
  have nb : ¬ (((a.length + b.length : Nat) : Int) < 0) := by omega
  have g : impl_Border_64.f ([] : List S58) ((a.length + b.length : Nat) : Int) = some [] := by unfold impl_Border_64.f; rw [if_pos ⟨rfl, by omega, by omega⟩]
  have ca : ([] : List S58).length + a.length < 8796093022208 := by simp; omega
  have cb : a.length + b.length < 8796093022208 := by omega
  have c1 : (0 : Int) < 2 := by omega
  have c2 : (0 : Int) ≤ 0 := by omega
  have c3 : (1 : Int) < 2 := by omega
  have c4 : (0 : Int) ≤ 1 := by omega
  have c5 : ¬ ((2 : Int) < 2) := by omega
  unfold impl_Border_38.f
  rw [e]
  simp only [impl_Border_38.l0]
  rw [e, if_pos c1, if_pos c2, if_pos c1, r0, wa, if_neg na, w0, if_pos c3, if_pos c4, if_pos c3, r1, wb, if_neg nb, w1, if_neg c5, g, Option.bind_some]
  simp only [impl_Border_38.l1]
  rw [e, if_pos c1, if_pos c2, if_pos c1, r0, if_pos ca, w0, if_pos c3, if_pos c4, if_pos c3, r1, List.nil_append, if_pos cb, w1, if_neg c5]
def restB (xs : List S58) (i : Nat) : List S58 := xs.take i ++ xs.drop (i + 1)
theorem restB_sub (xs : List S58) (i : Nat) : (restB xs i).Sublist xs := by
  unfold restB
  rw [← List.eraseIdx_eq_take_drop_succ]
  exact List.eraseIdx_sublist _ _
theorem rest_ok {n : Int} {xs : List S58} (O : OkBs n xs) (i : Nat) : OkBs n (restB xs i) where
  lands := O.lands
  many := Nat.le_trans (restB_sub xs i).length_le O.many
  at_ := fun p hp => O.at_ p ((restB_sub xs i).subset hp)
  dist := (restB_sub xs i).nodup O.dist
def fewN (n : Int) (xs : List S58) : Nat := fewL (adjB xs) n.toNat (n.toNat - 1) 1
/-- The hard borders from i on. -/
def hardF (n : Int) (xs : List S58) : Nat → Nat → List Int
  | 0, _ => []
  | d + 1, i => if fewN n (restB xs i) < fewN n xs then (i : Int) :: hardF n xs d (i + 1) else hardF n xs d (i + 1)
theorem hardF_succ (n : Int) (xs : List S58) (d i : Nat) : hardF n xs (d + 1) i = if fewN n (restB xs i) < fewN n xs then (i : Int) :: hardF n xs d (i + 1) else hardF n xs d (i + 1) := rfl
theorem hardF_length (n : Int) (xs : List S58) : ∀ (d i : Nat), (hardF n xs d i).length ≤ d
  | 0, _ => Nat.le_refl _
  | d + 1, i => by
    have := hardF_length n xs d (i + 1)
    rw [hardF_succ]
    split
    · rw [List.length_cons]; omega
    · omega
theorem hardI_loop {n : Int} {xs : List S58} (O : OkBs n xs) : ∀ (d k i : Nat) (acc : List Int), xs.length - i = d → i ≤ xs.length → 600 + d < k → acc.length + d ≤ 1000 →
    impl_HardBorders.l0 k n xs acc ((fewN n xs : Nat) : Int) (xs.length : Int) (i : Int) = some (acc ++ hardF n xs d i, 0) := by
  have hmany := O.many
  intro d
  induction d with
  | zero =>
    intro k i acc hd hi hk ha
    obtain ⟨k, rfl⟩ : ∃ m, k = m + 1 := ⟨k - 1, by omega⟩
    simp only [impl_HardBorders.l0]
    rw [if_neg (by omega)]
    have e : acc ++ hardF n xs 0 i = acc := List.append_nil acc
    rw [e]
  | succ d ih =>
    intro k i acc hd hi hk ha
    obtain ⟨k, rfl⟩ : ∃ m, k = m + 1 := ⟨k - 1, by omega⟩
    have h : i < xs.length := by omega
    have hc := concatB_some (xs.take i) (xs.drop (i + 1)) (by simp; omega) k (by omega)
    have f2 := fewI_some (rest_ok O i) k (by omega)
    have z3 : acc.length < 17592186044416 := by omega
    have y1 := ih k (i + 1) acc (by omega) (by omega) (by omega) (by omega)
    have x1 := ih k (i + 1) (acc ++ [(i : Int)]) (by omega) (by omega) (by omega) (by rw [List.length_append, List.length_singleton]; omega)
    have en := nxt h (by omega)
    have q1 : (i : Int) < (xs.length : Int) := by omega
    have q2 : (0 : Int) ≤ (i : Int) := by omega
    have q3 : (i : Int) ≤ (xs.length : Int) := by omega
    have q4 : (0 : Int) ≤ ((i + 1 : Nat) : Int) := by omega
    have q5 : ((i + 1 : Nat) : Int) ≤ (xs.length : Int) := by omega
    have fd : (fewL (adjB (restB xs i)) n.toNat (n.toNat - 1) 1) = fewN n (restB xs i) := rfl
    have rd_ : xs.take i ++ xs.drop (i + 1) = restB xs i := rfl
    have t1 : ((i : Int)).toNat = i := Int.toNat_natCast i
    have t2 : (((i + 1 : Nat) : Int)).toNat = i + 1 := Int.toNat_natCast _
    rw [hardF_succ]
    simp only [impl_HardBorders.l0]
    rw [if_pos q1, if_pos q2, if_pos q3, en, t1, t2, if_pos q4, if_pos q5, hc, Option.bind_some, rd_, f2, Option.bind_some, fd]
    by_cases hlt : fewN n (restB xs i) < fewN n xs
    · rw [if_pos (Int.ofNat_lt.2 hlt), if_pos z3, if_pos hlt, x1, List.append_assoc, List.singleton_append]
    · rw [if_neg (fun hh => hlt (Int.ofNat_lt.1 hh)), if_neg hlt]
      exact y1
end Go.Proofs.Ytcjkklkmlooinaa.Pure
