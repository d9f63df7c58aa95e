/- The law FnExactMoveChain: the program's MoveChain returns what the reference's returns. -/
import Derived.Test.YtehnlgifedndjaaPrint0
import Derived.Test.YtehnlgifedndjaaPrint3
import Derived.Test.YtehnlgifedndjaaPrint29
import Derived.Test.YtehnlgifedndjaaPrint31
import Derived.Test.YtehnlgifedndjaaPrint32
import Derived.Test.YtehnlgifedndjaaNum
import Derived.Test.YtehnlgifedndjaaInW
import Derived.Test.YtehnlgifedndjaaChA
import Derived.Test.YtehnlgifedndjaaChV
import Derived.Test.YtehnlgifedndjaaChM
import Derived.Test.YtehnlgifedndjaaChK
namespace Go.Proofs.Ytehnlgifedndjaa.Pure
open Go.RowKit Go.Proofs.Ytehnlgifedndjaa.Print Go.Proofs.YtehnlgifedndjaaW.PrintWords Go.Proofs.YtehnlgifedndjaaW.PrintLast Go.Proofs.YtehnlgifedndjaaW.PrintMore
set_option linter.unusedVariables false
set_option linter.unusedSimpArgs false
def moved (x y : Int) (p : S44) : S44 := ⟨wrap64 (p.f0 + x), wrap64 (p.f1 + y)⟩
def movedEnd (zs : List S44) : List S44 × Int := if okCh zs = true then (zs, 0) else ([], 5)
theorem move_loop (xs : List S44) (hl : xs.length ≤ 1000000000) (x y : Int) : ∀ (d k i : Nat) (acc : List S44), xs.length - i = d → i ≤ xs.length → acc.length = i → d + xs.length + 1 < k →
    spec_MoveChain.l0 k xs x y acc i = some (movedEnd (acc ++ (xs.drop i).map (moved x y))) ∧ impl_MoveChain.l0 k x y acc xs (xs.length : Int) i = some (movedEnd (acc ++ (xs.drop i).map (moved x y))) := by
  intro d
  induction d with
  | zero =>
    intro k i acc hd hi ha hk
    obtain ⟨k, rfl⟩ : ∃ m, k = m + 1 := ⟨k - 1, by omega⟩
    simp only [spec_MoveChain.l0, impl_MoveChain.l0]
    rw [if_neg (by omega), if_neg (by omega), l07Ok_some acc (by omega) k (by omega), valid_some acc (by omega) k (by omega), show i = xs.length by omega]
    simp only [Option.bind_some, List.drop_length, List.map_nil, List.append_nil, movedEnd]
    cases okCh acc <;> simp
  | succ d ih =>
    intro k i acc hd hi ha hk
    obtain ⟨k, rfl⟩ : ∃ m, k = m + 1 := ⟨k - 1, by omega⟩
    have h : i < xs.length := by omega
    have p0 : (0 : Int) ≤ (i : Int) := by omega
    have p1 : (i : Int) < (xs.length : Int) := by omega
    have p2 : acc.length < 8796093022208 := by omega
    simp only [spec_MoveChain.l0, impl_MoveChain.l0, p0, p1, p2, if_true, nxt h (show xs.length ≤ 4611686018427387903 by omega), rdP h]
    obtain ⟨e1, e2⟩ := ih k (i + 1) (acc ++ [(⟨wrap64 (xs[i].f0 + x), wrap64 (xs[i].f1 + y)⟩ : S44)]) (by omega) (by omega) (by simp; omega) (by omega)
    have e3 : acc ++ [(⟨wrap64 (xs[i].f0 + x), wrap64 (xs[i].f1 + y)⟩ : S44)] ++ (xs.drop (i + 1)).map (moved x y) = acc ++ (xs[i] :: xs.drop (i + 1)).map (moved x y) := by
      rw [List.map_cons, List.append_assoc]; rfl
    rw [e1, e2, e3, List.drop_eq_getElem_cons h]
    exact ⟨rfl, rfl⟩
theorem bothMoveChain (xs : List S44) (x y : Int) (hl : xs.length ≤ 10000000) : ∃ (r : List S44) (c : Int), r.length ≤ xs.length + 100 ∧ ∀ k, 2 * xs.length + 4 < k → spec_MoveChain.f k xs x y = some (r, c) ∧ impl_MoveChain.f k xs x y = some (r, c) := by
  refine ⟨if okCh xs = true then if (-2000 ≤ x ∧ x ≤ 2000) ∧ -2000 ≤ y ∧ y ≤ 2000 then (movedEnd (xs.map (moved x y))).1 else [] else [], if okCh xs = true then if (-2000 ≤ x ∧ x ≤ 2000) ∧ -2000 ≤ y ∧ y ≤ 2000 then (movedEnd (xs.map (moved x y))).2 else 2 else 1, ?_, fun k hk => ?_⟩
  · unfold movedEnd
    split <;> (try split) <;> (try split) <;> simp
  · obtain ⟨k, rfl⟩ : ∃ m, k = m + 1 := ⟨k - 1, by omega⟩
    obtain ⟨e1, e2⟩ := move_loop xs (by omega) x y xs.length k 0 [] (by omega) (by omega) rfl (by omega)
    simp only [Int.natCast_zero, List.drop_zero, List.nil_append] at e1 e2
    unfold spec_MoveChain.f impl_MoveChain.f
    rw [l07Ok_some xs (by omega) _ (by omega), valid_some xs (by omega) _ (by omega), within_some, within_some, l00In_some, l00In_some]
    simp only [Option.bind_some, check_some, spec_MoveChain.j0, impl_MoveChain.j0, e1, e2]
    by_cases h : okCh xs = true <;> by_cases hx : -2000 ≤ x ∧ x ≤ 2000 <;> by_cases hy : -2000 ≤ y ∧ y ≤ 2000 <;> simp [h, hx, hy]
theorem FnExactMoveChain : laws_FnExactMoveChain.Pure := by
  intro a x y _ ha _ _
  suffices H : ∀ k, 2 * a.length + 140 ≤ k → laws_FnExactMoveChain.f k a x y = some true from ⟨_, H _ (Nat.le_refl _)⟩
  intro k hk
  obtain ⟨k, rfl⟩ : ∃ m, k = m + 3 := ⟨k - 3, by omega⟩
  unfold laws_FnExactMoveChain.f
  rw [szPlaceS_some a (by omega) _ (by omega) (by omega)]
  by_cases h : 1048576 < (a.length : Int)
  · simp [h]
  rw [if_neg h, Option.bind_some, if_neg (by omega)]
  have l := chainOf_length a
  have ea : ∀ q, a.length < q → laws_toPlaceS.f q a = some (chainOf a) := toPlaceS_some a (by omega)
  obtain ⟨r, c, hr, e⟩ := bothMoveChain (chainOf a) x y (by omega)
  have qa := eqPlaceS_some (chainOf a) (by omega)
  have qr := eqPlaceS_some r (by omega)
  have m0 := markP_some (chainOf a) 1 (by omega) (by omega) (by omega) (k + 2) (by omega)
  have m1 := markP_some r 1 (by omega) (by omega) (by omega) (k + 1) (by omega)
  have m2 := heldP_some r.length 1 (by omega) (by omega) (by omega) (k + 1) (by omega)
  have m3 := heldP_some r.length 1 (by omega) (by omega) (by omega) k (by omega)
  have n0 : ¬ (1 + 2 * ((chainOf a).length : Int) < 0) := by omega
  have n1 : ¬ (1 + 2 * (r.length : Int) < 0) := by omega
  obtain ⟨e1, e2⟩ := e (k + 3) (by omega)
  obtain ⟨_, e3⟩ := e (k + 1) (by omega)
  simp only [ea (k + 3) (by omega), e1, e2, qr (k + 3) (by omega), Option.bind_some, if_true, bne_self_eq_false]
  simp only [laws_FnExactMoveChain.j0, Bool.false_eq_true, if_false, if_true, ea (k + 2) (by omega), qa (k + 2) (by omega), qr (k + 2) (by omega), m0, n0, Option.bind_some, bne_self_eq_false]
  simp only [laws_FnExactMoveChain.j1, Bool.false_eq_true, if_false, if_true, ea (k + 1) (by omega), e3, qr (k + 1) (by omega), m1, m2, n1, Option.bind_some, bne_self_eq_false]
  simp only [laws_FnExactMoveChain.j2, Bool.false_eq_true, if_false, if_true, m3, n1, Option.bind_some]
end Go.Proofs.Ytehnlgifedndjaa.Pure
