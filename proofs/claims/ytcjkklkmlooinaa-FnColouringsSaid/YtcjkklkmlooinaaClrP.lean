/- Right colours have no clash. -/
import Derived.Test.YtcjkklkmlooinaaPrint0
import Derived.Test.YtcjkklkmlooinaaPrint12
import Derived.Test.YtcjkklkmlooinaaPrint15
import Derived.Test.YtcjkklkmlooinaaNum
import Derived.Test.YtcjkklkmlooinaaMgA
import Derived.Test.YtcjkklkmlooinaaBoVI
import Derived.Test.YtcjkklkmlooinaaBoV
import Derived.Test.YtcjkklkmlooinaaClashP
import Derived.Test.YtcjkklkmlooinaaAscP
import Derived.Test.YtcjkklkmlooinaaBoNI
import Derived.Test.YtcjkklkmlooinaaCntA
import Derived.Test.YtcjkklkmlooinaaDegP
namespace Go.Proofs.Ytcjkklkmlooinaa.Pure
open Go.RowKit Go.Proofs.Ytcjkklkmlooinaa.Print Go.Proofs.YtcjkklkmlooinaaW.PrintWords Go.Proofs.YtcjkklkmlooinaaW.PrintLast Go.Proofs.YtcjkklkmlooinaaW.PrintMore
set_option linter.unusedVariables false
set_option linter.unusedSimpArgs false
def Proper (xs : List S58) (ys : List Int) : Prop := ∀ p ∈ xs, rd ys p.f0 ≠ rd ys p.f1
theorem ffrom_none (ys : List Int) : ∀ (xs : List S58) (i : Int), Proper xs ys → g_ffrom ys xs i = -1
  | [], _, _ => rfl
  | p :: r, i, h => by
    show (if rd ys p.f0 = rd ys p.f1 then i else g_ffrom ys r (i + 1)) = -1
    rw [if_neg (h p List.mem_cons_self)]
    exact ffrom_none ys r (i + 1) (fun q hq => h q (List.mem_cons_of_mem _ hq))
theorem okCs_iff {n : Int} {ys : List Int} : okCs n ys = true ↔ (ys.length : Int) = n ∧ ∀ c ∈ ys, 0 ≤ c ∧ c ≤ 9 := by
  unfold okCs
  rw [Bool.and_eq_true, decide_eq_true_eq, List.all_eq_true]
  exact ⟨fun h => ⟨h.1, fun c hc => of_decide_eq_true (h.2 c hc)⟩, fun h => ⟨h.1, fun c hc => decide_eq_true (h.2 c hc)⟩⟩
theorem ends_in {n : Int} {xs : List S58} (O : OkBs n xs) {ys : List Int} (hl : (ys.length : Int) = n) : ∀ p ∈ xs, (0 ≤ p.f0 ∧ p.f0 < (ys.length : Int)) ∧ 0 ≤ p.f1 ∧ p.f1 < (ys.length : Int) := by
  intro p hp
  have := O.at_ p hp
  omega
theorem clashI_fn {n : Int} {xs : List S58} (O : OkBs n xs) {ys : List Int} (hy : okCs n ys = true) (hp : Proper xs ys) (k : Nat) (hk : 2000 < k) : impl_FirstClash.f k n xs ys = some (-1, 0) := by
  have hm := O.many
  have hn := O.lands
  have hl := (okCs_iff.1 hy).1
  have ha : xs.all (g_okB ys) = true := List.all_eq_true.2 fun p hp => decide_eq_true (ends_in O hl p hp)
  unfold impl_FirstClash.f
  rw [impl_ok n xs (by omega) k (by omega), okBs_mk O, Option.bind_some, if_pos rfl, implC_some n ys (by omega) k (by omega), hy, Option.bind_some, if_pos rfl]
  unfold impl_firstClash.f
  rw [if_pos ha, Option.bind_some, ffrom_none ys xs 0 hp]
theorem clashS_fn {n : Int} {xs : List S58} (O : OkBs n xs) {ys : List Int} (hy : okCs n ys = true) (hp : Proper xs ys) (k : Nat) (hk : 2000 < k) : spec_FirstClash.f k n xs ys = some (-1, 0) := by
  have hm := O.many
  have hn := O.lands
  have hl := (okCs_iff.1 hy).1
  have hq : (xs.length + 1) * (xs.length + 3) < k := Nat.lt_of_le_of_lt (Nat.mul_le_mul (show xs.length + 1 ≤ 31 by omega) (show xs.length + 3 ≤ 33 by omega)) (by omega)
  have e := clash_loop xs ys (by omega) (ends_in O hl) xs.length k 0 (by omega) (by omega) (by omega)
  rw [Int.natCast_zero, List.drop_zero] at e
  unfold spec_FirstClash.f
  rw [spec_ok n xs (by omega) k hq, okBs_mk O, Option.bind_some, if_pos rfl, specC_some n ys (by omega) k (by omega), hy, Option.bind_some, if_pos rfl]
  unfold spec_l09Clash.f
  rw [e, Option.bind_some, ffrom_none ys xs 0 hp]
theorem rd_in {l : List Int} {i : Int} (h0 : 0 ≤ i) (h1 : i < (l.length : Int)) : rd l i ∈ l := by
  obtain ⟨j, rfl⟩ : ∃ j : Nat, i = (j : Int) := ⟨i.toNat, by omega⟩
  have hj : j < l.length := by omega
  rw [rdI hj]
  exact List.getElem_mem hj
end Go.Proofs.Ytcjkklkmlooinaa.Pure
