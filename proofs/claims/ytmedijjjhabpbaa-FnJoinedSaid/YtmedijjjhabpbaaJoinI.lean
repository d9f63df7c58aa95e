/- Two chains are joined: the program and the reference give the same chain. -/
import Derived.Test.YtmedijjjhabpbaaPrint0
import Derived.Test.YtmedijjjhabpbaaPrint4
import Derived.Test.YtmedijjjhabpbaaPrint8
import Derived.Test.YtmedijjjhabpbaaPrint9
import Derived.Test.YtmedijjjhabpbaaPrint11
import Derived.Test.YtmedijjjhabpbaaPrint12
import Derived.Test.YtmedijjjhabpbaaNum
import Derived.Test.YtmedijjjhabpbaaInS
import Derived.Test.YtmedijjjhabpbaaInW
import Derived.Test.YtmedijjjhabpbaaChA
import Derived.Test.YtmedijjjhabpbaaChV
import Derived.Test.YtmedijjjhabpbaaChC
import Derived.Test.YtmedijjjhabpbaaChR
import Derived.Test.YtmedijjjhabpbaaChB
import Derived.Test.YtmedijjjhabpbaaRdP
namespace Go.Proofs.Ytmedijjjhabpbaa.Pure
open Go.RowKit Go.Proofs.Ytmedijjjhabpbaa.Print Go.Proofs.YtmedijjjhabpbaaW.PrintWords Go.Proofs.YtmedijjjhabpbaaW.PrintLast Go.Proofs.YtmedijjjhabpbaaW.PrintMore
set_option linter.unusedVariables false
set_option linter.unusedSimpArgs false
theorem concat_some (a b : List S49) (h : a.length + b.length ≤ 1000000) (k : Nat) (hk : 8 ≤ k) : impl_Place_56.f k [a, b] = some (a ++ b) := by
  obtain ⟨k, rfl⟩ : ∃ m, k = m + 8 := ⟨k - 8, by omega⟩
  have w0 : wrap64 ((0 : Int) + 1) = 1 := w64 (by omega) (by omega)
  have w1 : wrap64 ((1 : Int) + 1) = 2 := w64 (by omega) (by omega)
  have wa : wrap64 (0 + (a.length : Int)) = (a.length : Int) := by rw [w64 (by omega) (by omega)]; omega
  have wb : wrap64 ((a.length : Int) + (b.length : Int)) = ((a.length + b.length : Nat) : Int) := by rw [w64 (by omega) (by omega)]; omega
  have e : (([a, b] : List (List S49)).length : Int) = 2 := rfl
  have r0 : rd_L2 [a, b] 0 = a := rfl
  have r1 : rd_L2 [a, b] 1 = b := rfl
  have na : ¬ ((a.length : Int) < 0) := by omega
  have nb : ¬ (((a.length + b.length : Nat) : Int) < 0) := by omega
  have g : impl_Place_64.f ([] : List S49) ((a.length + b.length : Nat) : Int) = some [] := by unfold impl_Place_64.f; rw [if_pos ⟨rfl, by omega, by omega⟩]
  have ca : ([] : List S49).length + a.length < 8796093022208 := by simp; omega
  have cb : a.length + b.length < 8796093022208 := by omega
  have c1 : (0 : Int) < 2 := by omega
  have c2 : (0 : Int) ≤ 0 := by omega
  have c3 : (1 : Int) < 2 := by omega
  have c4 : (0 : Int) ≤ 1 := by omega
  have c5 : ¬ ((2 : Int) < 2) := by omega
  unfold impl_Place_56.f
  rw [e]
  simp only [impl_Place_56.l0]
  rw [e, if_pos c1, if_pos c2, if_pos c1, r0, wa, if_neg na, w0, if_pos c3, if_pos c4, if_pos c3, r1, wb, if_neg nb, w1, if_neg c5, g, Option.bind_some]
  simp only [impl_Place_56.l1]
  rw [e, if_pos c1, if_pos c2, if_pos c1, r0, if_pos ca, w0, if_pos c3, if_pos c4, if_pos c3, r1, List.nil_append, if_pos cb, w1, if_neg c5]
def eqP (x y : S49) : Bool := (x.f0 == y.f0) && (x.f1 == y.f1)
def lastP (a : List S49) : S49 := rd_T49 a (wrap64 ((a.length : Int) - 1))
def joinM (a b : List S49) : Option (List S49) :=
  if eqP (lastP a) (rd_T49 b 0) = true then some (a ++ b.drop 1)
  else if eqP (lastP a) (lastP b) = true then some (a ++ b.reverse.drop 1)
  else if eqP (rd_T49 a 0) (lastP b) = true then some (b ++ a.drop 1)
  else if eqP (rd_T49 a 0) (rd_T49 b 0) = true then some (b.reverse ++ a.drop 1)
  else none
theorem joinM_len {a b x : List S49} (ha : 1 ≤ a.length) (hb : 1 ≤ b.length) (h : joinM a b = some x) : x.length + 1 = a.length + b.length := by
  unfold joinM at h
  split at h
  · cases h; simp; omega
  · split at h
    · cases h; simp; omega
    · split at h
      · cases h; simp; omega
      · split at h
        · cases h; simp; omega
        · cases h
theorem implJoin_some {a b : List S49} (ha : 1 ≤ a.length) (ha1 : a.length ≤ 100000) (hb : 1 ≤ b.length) (hb1 : b.length ≤ 100000) (k : Nat) (hk : a.length + b.length + 10 ≤ k) : impl_join.f k a b = some ((joinM a b).getD []) := by
  have p1 : (0 : Int) < (a.length : Int) := by omega
  have p2 : (0 : Int) ≤ wrap64 ((a.length : Int) - 1) := by rw [w64 (by omega) (by omega)]; omega
  have p3 : wrap64 ((a.length : Int) - 1) < (a.length : Int) := by rw [w64 (by omega) (by omega)]; omega
  have p4 : (0 : Int) < (b.length : Int) := by omega
  have p5 : (0 : Int) ≤ wrap64 ((b.length : Int) - 1) := by rw [w64 (by omega) (by omega)]; omega
  have p6 : wrap64 ((b.length : Int) - 1) < (b.length : Int) := by rw [w64 (by omega) (by omega)]; omega
  have p7 : (1 : Int) ≤ (a.length : Int) := by omega
  have p8 : (1 : Int) ≤ (b.length : Int) := by omega
  have p9 : (1 : Int) ≤ (b.reverse.length : Int) := by simp; omega
  have v := reversed_some b (by omega) k (by omega)
  have q1 := concat_some a (b.drop 1) (by simp; omega) k (by omega)
  have q2 := concat_some a (b.reverse.drop 1) (by simp; omega) k (by omega)
  have q3 := concat_some b (a.drop 1) (by simp; omega) k (by omega)
  have q4 := concat_some b.reverse (a.drop 1) (by simp; omega) k (by omega)
  have n1 : (0 : Int) < ((a ++ b.drop 1).length : Int) := by simp; omega
  have n2 : (0 : Int) < ((a ++ b.reverse.drop 1).length : Int) := by simp; omega
  have n3 : (0 : Int) < ((b ++ a.drop 1).length : Int) := by simp; omega
  have n4 : (0 : Int) < ((b.reverse ++ a.drop 1).length : Int) := by simp; omega
  unfold impl_join.f joinM eqP lastP
  rw [if_pos p1, if_pos p2, if_pos p3, if_pos p4, if_pos p8, q1, Option.bind_some, if_pos n1, if_pos p5, if_pos p6, v, Option.bind_some, if_pos p9, q2, Option.bind_some, if_pos n2, if_pos p7, q3, Option.bind_some, if_pos n3, Option.bind_some, q4, Option.bind_some, if_pos n4]
  split
  · rfl
  · split
    · rfl
    · split
      · rfl
      · split <;> rfl
theorem specJoin_some {a b : List S49} (ha : 1 ≤ a.length) (ha1 : a.length ≤ 100000) (hb : 1 ≤ b.length) (hb1 : b.length ≤ 100000) (k : Nat) (hk : a.length + b.length + 10 ≤ k) : spec_l10Join.f k a b = some ((joinM a b).getD [], (joinM a b).isSome) := by
  have p1 : (0 : Int) < (a.length : Int) := by omega
  have p2 : (0 : Int) ≤ wrap64 ((a.length : Int) - 1) := by rw [w64 (by omega) (by omega)]; omega
  have p3 : wrap64 ((a.length : Int) - 1) < (a.length : Int) := by rw [w64 (by omega) (by omega)]; omega
  have p4 : (0 : Int) < (b.length : Int) := by omega
  have p5 : (0 : Int) ≤ wrap64 ((b.length : Int) - 1) := by rw [w64 (by omega) (by omega)]; omega
  have p6 : wrap64 ((b.length : Int) - 1) < (b.length : Int) := by rw [w64 (by omega) (by omega)]; omega
  have p7 : (1 : Int) ≤ (a.length : Int) := by omega
  have p8 : (1 : Int) ≤ (b.length : Int) := by omega
  have p9 : (1 : Int) ≤ (b.reverse.length : Int) := by simp; omega
  have v := back_some b (by omega) k (by omega)
  have z1 : ([] : List S49).length + a.length < 8796093022208 := by simp; omega
  have z2 : ([] : List S49).length + b.length < 8796093022208 := by simp; omega
  have z3 : a.length + (b.drop 1).length < 8796093022208 := by simp; omega
  have z4 : a.length + (b.reverse.drop 1).length < 8796093022208 := by simp; omega
  have z5 : b.length + (a.drop 1).length < 8796093022208 := by simp; omega
  have z6 : b.reverse.length + (a.drop 1).length < 8796093022208 := by simp; omega
  unfold spec_l10Join.f joinM eqP lastP
  simp only [Option.bind_some, List.nil_append, v]
  rw [if_pos p1, if_pos p2, if_pos p3, if_pos p4, if_pos z1, if_pos p8, if_pos z3, if_pos p5, if_pos p6, if_pos p9, if_pos z4, if_pos z2, if_pos p7, if_pos z5, if_pos z6]
  split
  · rfl
  · split
    · rfl
    · split
      · rfl
      · split <;> rfl
def JoinTwoM (a b : List S49) : List S49 × Int :=
  if okCh a = true ∧ okCh b = true then
    if okCl a = true ∨ okCl b = true then ([], 6)
    else match joinM a b with
      | none => ([], 10)
      | some x => if okCh x = true then (x, 0) else ([], 5)
  else ([], 1)
theorem JoinTwoM_len (a b : List S49) : (JoinTwoM a b).1.length ≤ 24 := by
  unfold JoinTwoM
  split
  · split
    · simp
    · split
      · simp
      · split
        · rename_i h
          exact (okCh_iff.1 h).2.2
        · simp
  · simp
theorem implJoinTwo_some (a b : List S49) (ha : a.length ≤ 1048576) (hb : b.length ≤ 1048576) (k : Nat) (hk : a.length + b.length + 100 ≤ k) : impl_JoinTwo.f k a b = some (JoinTwoM a b) := by
  obtain ⟨k, rfl⟩ : ∃ m, k = m + 2 := ⟨k - 2, by omega⟩
  unfold impl_JoinTwo.f JoinTwoM
  rw [valid_some a (by omega) _ (by omega), valid_some b (by omega) _ (by omega)]
  simp only [Option.bind_some]
  by_cases h1 : okCh a = true
  · by_cases h2 : okCh b = true
    · have l1 := (okCh_iff.1 h1).2
      have l2 := (okCh_iff.1 h2).2
      simp only [h1, h2, if_true, and_self, impl_JoinTwo.j0, Bool.not_true, Bool.false_eq_true, if_false]
      rw [(closed_some a (by omega)).1, (closed_some b (by omega)).1]
      simp only [Option.bind_some]
      by_cases h3 : okCl a = true
      · simp only [h3, if_true, true_or, impl_JoinTwo.j1]
      · by_cases h4 : okCl b = true
        · simp only [h3, h4, Bool.false_eq_true, if_false, if_true, or_true, impl_JoinTwo.j1]
        · simp only [h3, h4, Bool.false_eq_true, if_false, or_self, impl_JoinTwo.j1]
          rw [implJoin_some (by omega) (by omega) (by omega) (by omega) k (by omega), Option.bind_some]
          cases hj : joinM a b with
          | none => simp
          | some x =>
            have lx := joinM_len (by omega) (by omega) hj
            simp only [Option.getD_some]
            rw [if_neg (by omega), valid_some x (by omega) k (by omega), Option.bind_some]
            split <;> rfl
    · simp [h1, h2, impl_JoinTwo.j0]
  · simp [h1, impl_JoinTwo.j0]
end Go.Proofs.Ytmedijjjhabpbaa.Pure
