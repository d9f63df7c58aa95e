/- An order that is drawn is an order of all lands. -/
import Derived.Test.YtcjkklkmlooinaaPrint2
import Derived.Test.YtcjkklkmlooinaaPrint11
import Derived.Test.YtcjkklkmlooinaaPrint16
import Derived.Test.YtcjkklkmlooinaaNum
import Derived.Test.YtcjkklkmlooinaaMgA
import Derived.Test.YtcjkklkmlooinaaSrc
import Derived.Test.YtcjkklkmlooinaaBoVI
import Derived.Test.YtcjkklkmlooinaaAscP
import Derived.Test.YtcjkklkmlooinaaBoNI
import Derived.Test.YtcjkklkmlooinaaCntA
import Derived.Test.YtcjkklkmlooinaaDegP
import Derived.Test.YtcjkklkmlooinaaGreedyR
import Derived.Test.YtcjkklkmlooinaaGreedyI
import Derived.Test.YtcjkklkmlooinaaBoV
import Derived.Test.YtcjkklkmlooinaaClashP
import Derived.Test.YtcjkklkmlooinaaClrP
import Derived.Test.YtcjkklkmlooinaaLabI
import Derived.Test.YtcjkklkmlooinaaGrdP
namespace Go.Proofs.Ytcjkklkmlooinaa.Pure
open Go.RowKit Go.Proofs.Ytcjkklkmlooinaa.Print Go.Proofs.YtcjkklkmlooinaaW.PrintWords Go.Proofs.YtcjkklkmlooinaaW.PrintLast Go.Proofs.YtcjkklkmlooinaaW.PrintMore
set_option linter.unusedVariables false
set_option linter.unusedSimpArgs false
theorem ord_loop {c : List Int} (h : Code c) (n : Int) (hn : 0 ≤ n ∧ n ≤ 100) : ∀ (d k i : Nat) (os : List Int) (u sd : Int), n.toNat - i = d → i ≤ n.toNat → d < k → Ordr (i : Int) os → 0 ≤ u → u ≤ 10 * (i : Int) → ∃ r, spec_A2Order.l0 k n os (i : Int) c u sd = some r ∧ Ordr n r := by
  intro d
  induction d with
  | zero =>
    intro k i os u sd hd hi hk R h0 h1
    obtain ⟨k, rfl⟩ : ∃ m, k = m + 1 := ⟨k - 1, by omega⟩
    simp only [spec_A2Order.l0]
    rw [if_neg (by omega)]
    have e : (i : Int) = n := by omega
    rw [e] at R
    exact ⟨os, rfl, R⟩
  | succ d ih =>
    intro k i os u sd hd hi hk R h0 h1
    obtain ⟨k, rfl⟩ : ∃ m, k = m + 1 := ⟨k - 1, by omega⟩
    have hl := R.len
    have en : wrap64 ((i : Int) + 1) = ((i + 1 : Nat) : Int) := by rw [w64 (by omega) (by omega)]; omega
    obtain ⟨v, u', sd', e, m0, m1, v0, v1⟩ := pick_some h u sd ((i + 1 : Nat) : Int) h0 (by omega)
    obtain ⟨j, rfl⟩ : ∃ j : Nat, v = (j : Int) := ⟨v.toNat, by omega⟩
    have hj : j ≤ os.length := by omega
    have hperm : (os.take j ++ [(i : Int)] ++ os.drop j).Perm ((i : Int) :: os) := by
      have h1 : (os.take j ++ [(i : Int)] ++ os.drop j).Perm ([(i : Int)] ++ (os.take j ++ os.drop j)) := by
        rw [← List.append_assoc]
        exact List.Perm.append_right _ List.perm_append_comm
      rw [List.take_append_drop] at h1
      exact h1
    have R2 : Ordr ((i + 1 : Nat) : Int) (os.take j ++ [(i : Int)] ++ os.drop j) := by
      refine ⟨?_, ?_, fun x hx => ?_⟩
      · rw [hperm.length_eq, List.length_cons]; omega
      · rw [hperm.nodup_iff, List.nodup_cons]
        exact ⟨fun hm => by have := R.at_ _ hm; omega, R.nod⟩
      · rcases List.mem_cons.1 (hperm.mem_iff.1 hx) with e | hx
        · omega
        · have := R.at_ x hx; omega
    have hr := ih k (i + 1) _ u' sd' (by omega) (by omega) (by omega) R2 (by omega) (by omega)
    have q1 : (i : Int) < n := by omega
    have q2 : (0 : Int) ≤ (j : Int) := by omega
    have q3 : (j : Int) ≤ (os.length : Int) := by omega
    have t1 : ((j : Int)).toNat = j := Int.toNat_natCast j
    have hio : (i : Int) ≤ 100 := by omega
    have hol : os.length ≤ 100 := by omega
    have z0 : ([] : List Int).length + (os.take j).length < 17592186044416 := by rw [List.length_nil, List.length_take]; omega
    have z1 : (os.take j).length < 17592186044416 := by rw [List.length_take]; omega
    have z2 : (os.take j ++ [(i : Int)]).length + (os.drop j).length < 17592186044416 := by rw [List.length_append, List.length_take, List.length_singleton, List.length_drop]; omega
    have eo : spec_l00Own.f (os.take j) = some (os.take j) := by
      unfold spec_l00Own.f
      rw [Option.bind_some, if_pos z0, List.nil_append]
    simp only [spec_A2Order.l0]
    rw [if_pos q1, en, e, Option.bind_some, if_pos q2, if_pos q3, t1, eo, Option.bind_some, if_pos z1, Option.bind_some, Option.bind_some, if_pos z2]
    exact hr
theorem Order_some {c : List Int} (h : Code c) (n : Int) (hn : 0 ≤ n ∧ n ≤ 100) (k : Nat) (hk : 200 ≤ k) : ∃ os, spec_A2Order.f k c n = some os ∧ Ordr n os := by
  unfold spec_A2Order.f spec_l00From.f
  simp only [Option.bind_some]
  exact ord_loop h n hn n.toNat k 0 [] 0 0 (by omega) (by omega) (by omega) ⟨rfl, List.nodup_nil, fun x hx => (by cases hx)⟩ (by omega) (by omega)
theorem at_some {c : List Int} (h : Code c) (i n : Int) (h0 : 0 ≤ i) (hn : 1 ≤ n ∧ n ≤ 1000) : ∃ v, laws_a2At.f c i n = some v ∧ 0 ≤ v ∧ v < n := by
  unfold laws_a2At.f
  by_cases hb : i ≥ (c.length : Int)
  · rw [if_pos hb]; exact ⟨0, rfl, by omega, by omega⟩
  · have hr := code_rd h i
    rw [if_neg hb, if_neg (by omega), if_pos h0, if_pos (by omega), if_neg (by omega), w64 (by omega) (by omega)]
    obtain ⟨t0, t1⟩ := tmod_in (x := rd c i) (n := n) hr.1 (by omega)
    exact ⟨_, rfl, t0, t1⟩
end Go.Proofs.Ytcjkklkmlooinaa.Pure
