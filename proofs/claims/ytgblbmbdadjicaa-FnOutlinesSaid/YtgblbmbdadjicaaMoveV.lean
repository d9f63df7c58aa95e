/- A chain is moved alike by the program and the reference. -/
import Derived.Test.YtgblbmbdadjicaaPrint0
import Derived.Test.YtgblbmbdadjicaaPrint9
import Derived.Test.YtgblbmbdadjicaaPrint10
import Derived.Test.YtgblbmbdadjicaaNum
import Derived.Test.YtgblbmbdadjicaaInW
import Derived.Test.YtgblbmbdadjicaaChA
import Derived.Test.YtgblbmbdadjicaaChV
import Derived.Test.YtgblbmbdadjicaaChM
import Derived.Test.YtgblbmbdadjicaaChK
namespace Go.Proofs.Ytgblbmbdadjicaa.Pure
open Go.RowKit Go.Proofs.Ytgblbmbdadjicaa.Print Go.Proofs.YtgblbmbdadjicaaW.PrintWords Go.Proofs.YtgblbmbdadjicaaW.PrintLast Go.Proofs.YtgblbmbdadjicaaW.PrintMore
set_option linter.unusedVariables false
set_option linter.unusedSimpArgs false
def moved (x y : Int) (p : S44) : S44 := ⟨wrap64 (p.f0 + x), wrap64 (p.f1 + y)⟩
def movedEnd (zs : List S44) : List S44 × Int := if okCh zs = true then (zs, 0) else ([], 5)
theorem move_loop (xs : List S44) (hl : xs.length ≤ 1000000000) (x y : Int) : ∀ (d k i : Nat) (acc : List S44), xs.length - i = d → i ≤ xs.length → acc.length = i → d + xs.length + 1 < k →
    spec_MoveChain.l0 k xs x y acc i = some (movedEnd (acc ++ (xs.drop i).map (moved x y))) ∧ impl_MoveChain.l0 k x y acc xs (xs.length : Int) i = some (movedEnd (acc ++ (xs.drop i).map (moved x y))) := by
  intro d
  induction d with
  | zero =>
    intro k i acc hd hi ha hk
    obtain ⟨k, rfl⟩ : ∃ m, k = m + 1 := ⟨k - 1, by omega⟩
    simp only [spec_MoveChain.l0, impl_MoveChain.l0]
    rw [if_neg (by omega), if_neg (by omega), l07Ok_some acc (by omega) k (by omega), valid_some acc (by omega) k (by omega), show i = xs.length by omega]
    simp only [Option.bind_some, List.drop_length, List.map_nil, List.append_nil, movedEnd]
    cases okCh acc <;> simp
  | succ d ih =>
    intro k i acc hd hi ha hk
    obtain ⟨k, rfl⟩ : ∃ m, k = m + 1 := ⟨k - 1, by omega⟩
    have h : i < xs.length := by omega
    have p0 : (0 : Int) ≤ (i : Int) := by omega
    have p1 : (i : Int) < (xs.length : Int) := by omega
    have p2 : acc.length < 8796093022208 := by omega
    simp only [spec_MoveChain.l0, impl_MoveChain.l0, p0, p1, p2, if_true, nxt h (show xs.length ≤ 4611686018427387903 by omega), rdP h]
    obtain ⟨e1, e2⟩ := ih k (i + 1) (acc ++ [(⟨wrap64 (xs[i].f0 + x), wrap64 (xs[i].f1 + y)⟩ : S44)]) (by omega) (by omega) (by simp; omega) (by omega)
    have e3 : acc ++ [(⟨wrap64 (xs[i].f0 + x), wrap64 (xs[i].f1 + y)⟩ : S44)] ++ (xs.drop (i + 1)).map (moved x y) = acc ++ (xs[i] :: xs.drop (i + 1)).map (moved x y) := by
      rw [List.map_cons, List.append_assoc]; rfl
    rw [e1, e2, e3, List.drop_eq_getElem_cons h]
    exact ⟨rfl, rfl⟩
def moveV (xs : List S44) (x y : Int) : List S44 × Int := if okCh xs = true then if (-2000 ≤ x ∧ x ≤ 2000) ∧ -2000 ≤ y ∧ y ≤ 2000 then movedEnd (xs.map (moved x y)) else ([], 2) else ([], 1)
theorem move_val (xs : List S44) (x y : Int) (hl : xs.length ≤ 10000000) (k : Nat) (hk : 2 * xs.length + 4 < k) : spec_MoveChain.f k xs x y = some (moveV xs x y) ∧ impl_MoveChain.f k xs x y = some (moveV xs x y) := by
  obtain ⟨k, rfl⟩ : ∃ m, k = m + 1 := ⟨k - 1, by omega⟩
  obtain ⟨e1, e2⟩ := move_loop xs (by omega) x y xs.length k 0 [] (by omega) (by omega) rfl (by omega)
  simp only [Int.natCast_zero, List.drop_zero, List.nil_append] at e1 e2
  unfold spec_MoveChain.f impl_MoveChain.f moveV
  rw [l07Ok_some xs (by omega) _ (by omega), valid_some xs (by omega) _ (by omega), within_some, within_some, l00In_some, l00In_some]
  simp only [Option.bind_some, check_some, spec_MoveChain.j0, impl_MoveChain.j0, e1, e2]
  by_cases h : okCh xs = true <;> by_cases hx : -2000 ≤ x ∧ x ≤ 2000 <;> by_cases hy : -2000 ≤ y ∧ y ≤ 2000 <;> simp [h, hx, hy]
end Go.Proofs.Ytgblbmbdadjicaa.Pure
