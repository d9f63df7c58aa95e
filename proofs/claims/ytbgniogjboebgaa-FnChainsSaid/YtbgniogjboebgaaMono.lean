/- A line that may stand within a bound may stand within a greater one. -/
import Derived.Test.YtbgniogjboebgaaPrint0
import Derived.Test.YtbgniogjboebgaaPrint7
import Derived.Test.YtbgniogjboebgaaPrint9
import Derived.Test.YtbgniogjboebgaaNum
import Derived.Test.YtbgniogjboebgaaInW
import Derived.Test.YtbgniogjboebgaaChA
import Derived.Test.YtbgniogjboebgaaChV
import Derived.Test.YtbgniogjboebgaaChP
import Derived.Test.YtbgniogjboebgaaStand
import Derived.Test.YtbgniogjboebgaaFew
namespace Go.Proofs.Ytbgniogjboebgaa.Pure
open Go.RowKit Go.Proofs.Ytbgniogjboebgaa.Print Go.Proofs.YtbgniogjboebgaaW.PrintWords Go.Proofs.YtbgniogjboebgaaW.PrintLast Go.Proofs.YtbgniogjboebgaaW.PrintMore
set_option linter.unusedVariables false
set_option linter.unusedSimpArgs false
theorem prod_big {a b A B : Int} (ha0 : 0 ≤ a) (ha : a ≤ A) (hb0 : 0 ≤ b) (hb : b ≤ B) : 0 ≤ a * b ∧ a * b ≤ A * B := by
  refine ⟨Int.mul_nonneg ha0 hb0, ?_⟩
  exact Int.le_trans (Int.mul_le_mul_of_nonneg_right ha hb0) (Int.mul_le_mul_of_nonneg_left hb (by omega))
theorem w64b {x : Int} (h : 0 ≤ x ∧ x ≤ 72000000000000) : wrap64 x = x := w64 (by omega) (by omega)
theorem square_val {a b : S48} (ha : okP a = true) (hb : okP b = true) : ∃ s : Int, 0 ≤ s ∧ s ≤ 8000000 ∧ impl_square.f a.f0 a.f1 b.f0 b.f1 = some s ∧ s = (a.f0 - b.f0) * (a.f0 - b.f0) + (a.f1 - b.f1) * (a.f1 - b.f1) := by
  rw [okP_iff] at ha hb
  obtain ⟨s1, t1⟩ := sub_in ha.1 hb.1
  obtain ⟨s2, t2⟩ := sub_in ha.2 hb.2
  have p1 := prod_in t1 t1
  have p2 := prod_in t2 t2
  have q1 := sq0 (a.f0 - b.f0)
  have q2 := sq0 (a.f1 - b.f1)
  refine ⟨_, ?_, ?_, ?_, rfl⟩
  · omega
  · omega
  · unfold impl_square.f
    rw [s1, s2, w64 (x := (a.f0 - b.f0) * (a.f0 - b.f0)) (by omega) (by omega), w64 (x := (a.f1 - b.f1) * (a.f1 - b.f1)) (by omega) (by omega), w64 (by omega) (by omega)]
theorem beside_val {a b p : S48} (ha : okP a = true) (hb : okP b = true) (hp : okP p = true) : ∃ c : Int, -8000000 ≤ c ∧ c ≤ 8000000 ∧ impl_beside.f a.f0 a.f1 b.f0 b.f1 p.f0 p.f1 = some c ∧ c = (b.f0 - a.f0) * (p.f1 - a.f1) - (b.f1 - a.f1) * (p.f0 - a.f0) := by
  rw [okP_iff] at ha hb hp
  obtain ⟨s1, t1⟩ := sub_in hb.1 ha.1
  obtain ⟨s2, t2⟩ := sub_in hp.2 ha.2
  obtain ⟨s3, t3⟩ := sub_in hb.2 ha.2
  obtain ⟨s4, t4⟩ := sub_in hp.1 ha.1
  have p1 := prod_in t1 t2
  have p2 := prod_in t3 t4
  refine ⟨_, ?_, ?_, ?_, rfl⟩
  · omega
  · omega
  · unfold impl_beside.f
    rw [s1, s2, s3, s4, w64 (x := (b.f0 - a.f0) * (p.f1 - a.f1)) (by omega) (by omega), w64 (x := (b.f1 - a.f1) * (p.f0 - a.f0)) (by omega) (by omega), w64 (by omega) (by omega)]
def sqP (a b : S48) : Int := (a.f0 - b.f0) * (a.f0 - b.f0) + (a.f1 - b.f1) * (a.f1 - b.f1)
def crP (a b p : S48) : Int := (b.f0 - a.f0) * (p.f1 - a.f1) - (b.f1 - a.f1) * (p.f0 - a.f0)
theorem sq_le {c C : Int} (h0 : -C ≤ c) (h1 : c ≤ C) : c * c ≤ C * C := by
  have e1 : 0 ≤ (C - c) * (C + c) := Int.mul_nonneg (by omega) (by omega)
  have e2 : (C - c) * (C + c) = C * C - c * c := by grind
  omega
theorem line_val {a b p : S48} (ha : okP a = true) (hb : okP b = true) (hp : okP p = true) (n : Int) (h0 : 0 ≤ n) (h1 : n ≤ 3000) : lineB a b p n = true ↔ if a.f0 = b.f0 ∧ a.f1 = b.f1 then sqP a p ≤ n * n else crP a b p * crP a b p ≤ n * n * sqP a b := by
  obtain ⟨s, s0, s1, es, hs⟩ := square_val ha hp
  obtain ⟨f, f0, f1, ef, hf⟩ := square_val ha hb
  obtain ⟨c, c0, c1, ec, hc⟩ := beside_val ha hb hp
  have n0 := prod_big h0 h1 h0 h1
  have q0 := sq0 c
  have q1 := sq_le (C := 8000000) c0 c1
  have nn := prod_big n0.1 n0.2 f0 f1
  have e0 : wrap64 (n * n) = n * n := w64 (by omega) (by omega)
  have e1 : wrap64 (c * c) = c * c := w64 (by omega) (by omega)
  have e2 : wrap64 (n * n * f) = n * n * f := w64 (by omega) (by omega)
  unfold lineB impl_lineWithin.f
  rw [es, ef, ec, Option.bind_some, Option.bind_some, Option.bind_some, e0, e1, e2]
  have xs : sqP a p = s := hs.symm
  have xf : sqP a b = f := hf.symm
  have xc : crP a b p = c := hc.symm
  rw [xs, xf, xc]
  by_cases h : a.f0 = b.f0 ∧ a.f1 = b.f1
  · have hb : (a.f0 == b.f0 && a.f1 == b.f1) = true := by simp [h]
    rw [if_pos hb, if_pos h]
    simp
  · have hb : ¬ (a.f0 == b.f0 && a.f1 == b.f1) = true := by simpa using h
    rw [if_neg hb, if_neg h]
    simp
theorem sqP_nonneg (a b : S48) : 0 ≤ sqP a b := by
  have := sq0 (a.f0 - b.f0)
  have := sq0 (a.f1 - b.f1)
  unfold sqP
  omega
theorem line_mono {a b p : S48} (ha : okP a = true) (hb : okP b = true) (hp : okP p = true) {n m : Int} (h0 : 0 ≤ n) (hnm : n ≤ m) (h1 : m ≤ 3000) (h : lineB a b p n = true) : lineB a b p m = true := by
  rw [line_val ha hb hp n h0 (by omega)] at h
  rw [line_val ha hb hp m (by omega) h1]
  have hq : n * n ≤ m * m := (prod_big h0 hnm h0 hnm).2
  split at h
  · rename_i e; rw [if_pos e]; omega
  · rename_i e; rw [if_neg e]
    exact Int.le_trans h (Int.mul_le_mul_of_nonneg_right hq (sqP_nonneg a b))
theorem stand_mono (xs : List S48) (ho : ∀ p ∈ xs, okP p = true) {i j : Nat} (hi : i < xs.length) (hj : j < xs.length) {n m : Int} (h0 : 0 ≤ n) (hnm : n ≤ m) (h1 : m ≤ 3000) (h : standB xs i j n = true) : standB xs i j m = true := by
  unfold standB at *
  rw [List.all_eq_true] at *
  intro p hp
  exact line_mono (okP_rd ho hi) (okP_rd ho hj) (ho p (List.mem_of_mem_take (List.mem_of_mem_drop hp))) h0 hnm h1 (h p hp)
theorem Way.mono {st st' : Nat → Nat → Bool} {last : Nat} (h : ∀ i j, i ≤ last → j ≤ last → st i j = true → st' i j = true) : ∀ (r : List Int) (a : Nat), a ≤ last → Way st last a r → Way st' last a r := by
  intro r
  induction r with
  | nil => intro a _ hw; exact hw
  | cons x r ih =>
    intro a ha hw
    obtain ⟨b, e, h1, h2, h3, h4⟩ := hw
    exact ⟨b, e, h1, h2, h a b ha h2 h3, ih b h2 h4⟩
def Short (xs : List S48) (many n : Int) : Prop := ∃ r, Way (fun i j => standB xs i j n) (xs.length - 1) 0 r ∧ ((r.length + 1 : Nat) : Int) ≤ many
theorem Short.mono {xs : List S48} (h2 : 2 ≤ xs.length) (ho : ∀ p ∈ xs, okP p = true) {many n m : Int} (h0 : 0 ≤ n) (hnm : n ≤ m) (h1 : m ≤ 3000) (h : Short xs many n) : Short xs many m := by
  obtain ⟨r, hr, hl⟩ := h
  exact ⟨r, Way.mono (fun i j hi hj hs => stand_mono xs ho (by omega) (by omega) h0 hnm h1 hs) r 0 (by omega) hr, hl⟩
theorem Best.short {xs : List S48} {many n : Int} {r : List Int} (h : Best (fun i j => standB xs i j n) (xs.length - 1) r) : Short xs many n ↔ ((r.length + 1 : Nat) : Int) ≤ many := by
  constructor
  · rintro ⟨s, hs, hl⟩
    have := h.2 s hs
    omega
  · intro hl
    exact ⟨r, h.1, hl⟩
end Go.Proofs.Ytbgniogjboebgaa.Pure
