/- Whether a line may stand for a part of a chain is asked alike by the program and the reference. -/
import Derived.Test.YtbgniogjboebgaaPrint0
import Derived.Test.YtbgniogjboebgaaPrint7
import Derived.Test.YtbgniogjboebgaaPrint9
import Derived.Test.YtbgniogjboebgaaPrint10
import Derived.Test.YtbgniogjboebgaaPrint12
import Derived.Test.YtbgniogjboebgaaPrint13
import Derived.Test.YtbgniogjboebgaaNum
import Derived.Test.YtbgniogjboebgaaChA
import Derived.Test.YtbgniogjboebgaaChV
import Derived.Test.YtbgniogjboebgaaChP
namespace Go.Proofs.Ytbgniogjboebgaa.Pure
open Go.RowKit Go.Proofs.Ytbgniogjboebgaa.Print Go.Proofs.YtbgniogjboebgaaW.PrintWords Go.Proofs.YtbgniogjboebgaaW.PrintLast Go.Proofs.YtbgniogjboebgaaW.PrintMore
set_option linter.unusedVariables false
set_option linter.unusedSimpArgs false
theorem far_eq {a b : S48} (ha : okP a = true) (hb : okP b = true) : spec_l07Far.f a.f0 a.f1 b.f0 b.f1 = impl_square.f a.f0 a.f1 b.f0 b.f1 := by
  rw [okP_iff] at ha hb
  obtain ⟨s1, t1⟩ := sub_in hb.1 ha.1
  obtain ⟨s2, t2⟩ := sub_in hb.2 ha.2
  obtain ⟨s3, t3⟩ := sub_in ha.1 hb.1
  obtain ⟨s4, t4⟩ := sub_in ha.2 hb.2
  unfold spec_l07Far.f impl_square.f
  rw [s1, s2, s3, s4, show (b.f0 - a.f0) * (b.f0 - a.f0) = (a.f0 - b.f0) * (a.f0 - b.f0) by grind, show (b.f1 - a.f1) * (b.f1 - a.f1) = (a.f1 - b.f1) * (a.f1 - b.f1) by grind]
theorem near_eq {a b p : S48} (ha : okP a = true) (hb : okP b = true) (hp : okP p = true) (n : Int) : spec_l07Near.f a.f0 a.f1 b.f0 b.f1 p.f0 p.f1 n = impl_lineWithin.f a.f0 a.f1 b.f0 b.f1 p.f0 p.f1 n := by
  unfold spec_l07Near.f impl_lineWithin.f
  rw [far_eq ha hb, far_eq ha hp]
  rfl
/-- May the line from a to b stand for p. -/
def lineB (a b p : S48) (n : Int) : Bool := (impl_lineWithin.f a.f0 a.f1 b.f0 b.f1 p.f0 p.f1 n).getD false
theorem line_some (a b p : S48) (n : Int) : impl_lineWithin.f a.f0 a.f1 b.f0 b.f1 p.f0 p.f1 n = some (lineB a b p n) := by
  unfold lineB
  have : ∃ r, impl_lineWithin.f a.f0 a.f1 b.f0 b.f1 p.f0 p.f1 n = some r := by
    unfold impl_lineWithin.f impl_square.f impl_beside.f
    split <;> exact ⟨_, rfl⟩
  obtain ⟨r, e⟩ := this
  rw [e]; rfl
def standB (xs : List S48) (i j : Nat) (n : Int) : Bool := ((xs.take j).drop (i + 1)).all fun p => lineB (rd_T48 xs (i : Int)) (rd_T48 xs (j : Int)) p n
theorem okP_rd {xs : List S48} (ho : ∀ p ∈ xs, okP p = true) {i : Nat} (h : i < xs.length) : okP (rd_T48 xs (i : Int)) = true := by rw [rdP h]; exact ho _ (List.getElem_mem h)
theorem within_loop (xs : List S48) (hl : xs.length ≤ 1000000000) (ho : ∀ p ∈ xs, okP p = true) (i j : Nat) (hi : i < xs.length) (hj : j < xs.length) (n : Int) : ∀ (d k t : Nat), j - t = d → d < k → spec_l07Within.l0 k xs i j n t = some (((xs.take j).drop t).all fun p => lineB (rd_T48 xs (i : Int)) (rd_T48 xs (j : Int)) p n) := by
  intro d
  induction d with
  | zero =>
    intro k t hd hk
    obtain ⟨k, rfl⟩ : ∃ m, k = m + 1 := ⟨k - 1, by omega⟩
    simp only [spec_l07Within.l0]
    rw [if_neg (by omega), List.drop_eq_nil_of_le (by simp; omega)]
    rfl
  | succ d ih =>
    intro k t hd hk
    obtain ⟨k, rfl⟩ : ∃ m, k = m + 1 := ⟨k - 1, by omega⟩
    have ht : t < xs.length := by omega
    have htj : t < (xs.take j).length := by simp; omega
    simp only [spec_l07Within.l0]
    rw [if_pos (by omega), if_pos (by omega), if_pos (by omega), if_pos (by omega), if_pos (by omega), if_pos (by omega), if_pos (by omega), near_eq (okP_rd ho hi) (okP_rd ho hj) (okP_rd ho ht), line_some, nxt ht (by omega), ih k (t + 1) (by omega) (by omega), List.drop_eq_getElem_cons htj, Option.bind_some, List.all_cons, rdP ht, List.getElem_take]
    cases lineB (rd_T48 xs (i : Int)) (rd_T48 xs (j : Int)) xs[t] n <;> simp
theorem within_ok (xs : List S48) (hl : xs.length ≤ 1000000000) (ho : ∀ p ∈ xs, okP p = true) (i j : Nat) (hi : i < xs.length) (hj : j < xs.length) (n : Int) (k : Nat) (hk : xs.length < k) : spec_l07Within.f k xs i j n = some (standB xs i j n) := by
  unfold spec_l07Within.f
  rw [nxt hi (by omega), within_loop xs hl ho i j hi hj n (j - (i + 1)) k (i + 1) rfl (by omega)]
  rfl
theorem mayStand_loop (xs ys : List S48) (hl : xs.length ≤ 1000000000) (hy : ys.length ≤ xs.length) (i j : Nat) (hi : i < xs.length) (hj : j < xs.length) (n : Int) : ∀ (d k t : Nat), ys.length - t = d → t ≤ ys.length → d < k → impl_mayStand.l0 k xs i j n ys (ys.length : Int) t = some ((ys.drop t).all fun p => lineB (rd_T48 xs (i : Int)) (rd_T48 xs (j : Int)) p n) := by
  intro d
  induction d with
  | zero =>
    intro k t hd ht hk
    obtain ⟨k, rfl⟩ : ∃ m, k = m + 1 := ⟨k - 1, by omega⟩
    simp only [impl_mayStand.l0]
    rw [if_neg (by omega), List.drop_eq_nil_of_le (by omega)]
    rfl
  | succ d ih =>
    intro k t hd ht hk
    obtain ⟨k, rfl⟩ : ∃ m, k = m + 1 := ⟨k - 1, by omega⟩
    have h : t < ys.length := by omega
    simp only [impl_mayStand.l0]
    rw [if_pos (by omega), if_pos (by omega), if_pos (by omega), if_pos (by omega), if_pos (by omega), if_pos (by omega), if_pos (by omega), line_some, nxt h (by omega), ih k (t + 1) (by omega) (by omega) (by omega), List.drop_eq_getElem_cons h, Option.bind_some, List.all_cons, rdP h]
    cases lineB (rd_T48 xs (i : Int)) (rd_T48 xs (j : Int)) ys[t] n <;> simp
theorem mayStand_ok (xs : List S48) (hl : xs.length ≤ 1000000000) (i j : Nat) (hij : i < j) (hj : j < xs.length) (n : Int) (k : Nat) (hk : xs.length < k) : impl_mayStand.f k xs i j n = some (standB xs i j n) := by
  unfold impl_mayStand.f
  rw [nxt (show i < xs.length by omega) (by omega), if_pos (by omega), if_pos (by omega), if_pos (by omega), Option.bind_some]
  have e := mayStand_loop xs ((xs.take j).drop (i + 1)) hl (by simp; omega) i j (by omega) hj n ((xs.take j).drop (i + 1)).length k 0 rfl (by omega) (by simp; omega)
  simp only [Int.toNat_natCast]
  simpa [standB] using e
end Go.Proofs.Ytbgniogjboebgaa.Pure
