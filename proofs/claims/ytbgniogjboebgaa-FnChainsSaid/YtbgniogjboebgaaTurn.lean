/- As many points are needed for a chain from its end; within the greatest bound two points are enough. -/
import Derived.Test.YtbgniogjboebgaaPrint0
import Derived.Test.YtbgniogjboebgaaNum
import Derived.Test.YtbgniogjboebgaaInW
import Derived.Test.YtbgniogjboebgaaChA
import Derived.Test.YtbgniogjboebgaaChV
import Derived.Test.YtbgniogjboebgaaChP
import Derived.Test.YtbgniogjboebgaaStand
import Derived.Test.YtbgniogjboebgaaFew
import Derived.Test.YtbgniogjboebgaaMono
namespace Go.Proofs.Ytbgniogjboebgaa.Pure
open Go.RowKit Go.Proofs.Ytbgniogjboebgaa.Print Go.Proofs.YtbgniogjboebgaaW.PrintWords Go.Proofs.YtbgniogjboebgaaW.PrintLast Go.Proofs.YtbgniogjboebgaaW.PrintMore
set_option linter.unusedVariables false
set_option linter.unusedSimpArgs false
inductive Steps (st : Nat → Nat → Bool) : Nat → Nat → Nat → Prop
  | zero (a : Nat) : Steps st 0 a a
  | succ {n a b c : Nat} (h : a < b) (hs : st a b = true) (r : Steps st n b c) : Steps st (n + 1) a c
theorem Steps.le {st : Nat → Nat → Bool} {n a b : Nat} (h : Steps st n a b) : a ≤ b := by
  induction h with
  | zero a => exact Nat.le_refl a
  | succ h _ _ ih => omega
theorem Steps.snoc {st : Nat → Nat → Bool} {n a b c : Nat} (h : Steps st n a b) (hbc : b < c) (hs : st b c = true) : Steps st (n + 1) a c := by
  induction h with
  | zero a => exact .succ hbc hs (.zero c)
  | succ h1 h2 _ ih => exact .succ h1 h2 (ih hbc hs)
theorem Steps.turn {st st' : Nat → Nat → Bool} {last : Nat} (hst : ∀ i j, i < j → j ≤ last → st i j = true → st' (last - j) (last - i) = true) {n a b : Nat} (h : Steps st n a b) (hb : b ≤ last) : Steps st' n (last - b) (last - a) := by
  induction h with
  | zero a => exact .zero _
  | succ h1 h2 r ih =>
    have := r.le
    exact (ih hb).snoc (by omega) (hst _ _ h1 (by omega) h2)
theorem Way.steps {st : Nat → Nat → Bool} {last : Nat} : ∀ (r : List Int) (a : Nat), Way st last a r → Steps st r.length a last := by
  intro r
  induction r with
  | nil => intro a h; simp only [Way] at h; subst h; exact .zero a
  | cons x r ih =>
    intro a h
    obtain ⟨b, _, h1, _, h3, h4⟩ := h
    exact .succ h1 h3 (ih b h4)
theorem Steps.way {st : Nat → Nat → Bool} {n a c : Nat} (h : Steps st n a c) : ∃ r : List Int, r.length = n ∧ Way st c a r := by
  induction h with
  | zero a => exact ⟨[], rfl, rfl⟩
  | succ h1 h2 r ih =>
    obtain ⟨s, hl, hw⟩ := ih
    exact ⟨_ :: s, by simp [hl], _, rfl, h1, r.le, h2, hw⟩
theorem Best.turned {st st' : Nat → Nat → Bool} {last : Nat} (h1 : ∀ i j, i < j → j ≤ last → st i j = true → st' (last - j) (last - i) = true) (h2 : ∀ i j, i < j → j ≤ last → st' i j = true → st (last - j) (last - i) = true) {r s : List Int} (hr : Best st last r) (hs : Best st' last s) : r.length = s.length := by
  have a1 := (Way.steps r 0 hr.1).turn h1 (Nat.le_refl _)
  have a2 := (Way.steps s 0 hs.1).turn h2 (Nat.le_refl _)
  rw [Nat.sub_self, Nat.sub_zero] at a1 a2
  obtain ⟨r', l1, w1⟩ := a1.way
  obtain ⟨s', l2, w2⟩ := a2.way
  have := hs.2 r' w1
  have := hr.2 s' w2
  omega
theorem crP_swap (a b p : S48) : crP b a p = -(crP a b p) := by unfold crP; grind
theorem sqP_swap (a b : S48) : sqP b a = sqP a b := by unfold sqP; grind
theorem line_swap {a b p : S48} (ha : okP a = true) (hb : okP b = true) (hp : okP p = true) (n : Int) (h0 : 0 ≤ n) (h1 : n ≤ 3000) (h : lineB a b p n = true) : lineB b a p n = true := by
  rw [line_val ha hb hp n h0 h1] at h
  rw [line_val hb ha hp n h0 h1]
  by_cases e : a.f0 = b.f0 ∧ a.f1 = b.f1
  · rw [if_pos e] at h
    rw [if_pos ⟨e.1.symm, e.2.symm⟩]
    have : sqP b p = sqP a p := by unfold sqP; rw [e.1, e.2]
    rw [this]; exact h
  · rw [if_neg e] at h
    rw [if_neg (fun x => e ⟨x.1.symm, x.2.symm⟩), crP_swap, sqP_swap, Int.neg_mul_neg]
    exact h
theorem mid_reverse (xs : List S48) {i j last : Nat} (hx : xs.length = last + 1) (hij : i < j) (hj : j ≤ last) : (xs.reverse.take j).drop (i + 1) = ((xs.take (last - i)).drop (last - j + 1)).reverse := by
  rw [List.take_reverse, List.drop_reverse, hx]
  congr 1
  rw [List.length_drop, hx, List.take_drop]
  congr 2
  · omega
  · congr 1; omega
theorem stand_turn (xs : List S48) (ho : ∀ p ∈ xs, okP p = true) {last : Nat} (hx : xs.length = last + 1) (n : Int) (h0 : 0 ≤ n) (h1 : n ≤ 3000) (i j : Nat) (hij : i < j) (hj : j ≤ last) (h : standB xs i j n = true) : standB xs.reverse (last - j) (last - i) n = true := by
  unfold standB at *
  rw [mid_reverse xs hx (by omega) (by omega), List.all_reverse, show last - (last - j) = j by omega, show last - (last - i) + 1 = i + 1 by omega]
  have e1 : rd_T48 xs.reverse ((last - j : Nat) : Int) = rd_T48 xs (j : Int) := by
    rw [rdP (by simp; omega), rdP (by omega), List.getElem_reverse]
    congr 1; omega
  have e2 : rd_T48 xs.reverse ((last - i : Nat) : Int) = rd_T48 xs (i : Int) := by
    rw [rdP (by simp; omega), rdP (by omega), List.getElem_reverse]
    congr 1; omega
  rw [e1, e2]
  rw [List.all_eq_true] at *
  intro p hp
  exact line_swap (okP_rd ho (by omega)) (okP_rd ho (by omega)) (ho p (List.mem_of_mem_take (List.mem_of_mem_drop hp))) n h0 h1 (h p hp)
theorem stand_wide (xs : List S48) (ho : ∀ p ∈ xs, okP p = true) {i j : Nat} (hi : i < xs.length) (hj : j < xs.length) : standB xs i j 3000 = true := by
  unfold standB
  rw [List.all_eq_true]
  intro p hp
  have hb : okP p = true := ho p (List.mem_of_mem_take (List.mem_of_mem_drop hp))
  generalize ea : rd_T48 xs (i : Int) = a
  generalize eb : rd_T48 xs (j : Int) = b
  have ha : okP a = true := ea ▸ okP_rd ho hi
  have hb2 : okP b = true := eb ▸ okP_rd ho hj
  rw [line_val ha hb2 hb 3000 (by omega) (by omega)]
  obtain ⟨s, s0, s1, _, hs⟩ := square_val ha hb
  have es : sqP a p = s := hs.symm
  split
  · rw [es]; omega
  · have hl : crP a b p * crP a b p + ((b.f0 - a.f0) * (p.f0 - a.f0) + (b.f1 - a.f1) * (p.f1 - a.f1)) * ((b.f0 - a.f0) * (p.f0 - a.f0) + (b.f1 - a.f1) * (p.f1 - a.f1)) = sqP a b * sqP a p := by unfold crP sqP; grind
    have q := sq0 ((b.f0 - a.f0) * (p.f0 - a.f0) + (b.f1 - a.f1) * (p.f1 - a.f1))
    have nn := sqP_nonneg a b
    have m : sqP a b * sqP a p ≤ sqP a b * (3000 * 3000) := Int.mul_le_mul_of_nonneg_left (by rw [es]; omega) nn
    have c : (3000 : Int) * 3000 * sqP a b = sqP a b * (3000 * 3000) := Int.mul_comm _ _
    rw [c]
    omega
theorem short_wide {xs : List S48} (h2 : 2 ≤ xs.length) (ho : ∀ p ∈ xs, okP p = true) {many : Int} (hm : 2 ≤ many) : Short xs many 3000 :=
  ⟨[((xs.length - 1 : Nat) : Int)], ⟨xs.length - 1, rfl, by omega, Nat.le_refl _, stand_wide xs ho (by omega) (by omega), rfl⟩, by simp; omega⟩
theorem rd_cons0 (x : Int) (xs : List Int) : rd (x :: xs) (0 : Int) = x := by simp [rd]
theorem rd_cons1 (x : Int) (xs : List Int) (t : Nat) : rd (x :: xs) ((t + 1 : Nat) : Int) = rd xs (t : Int) := by simp [rd]
theorem way_get {st : Nat → Nat → Bool} {last : Nat} : ∀ (r : List Int) (a : Nat), a ≤ last → Way st last a r → (∀ t : Nat, t < r.length → ∃ p q : Nat, rd ((a : Int) :: r) (t : Int) = (p : Int) ∧ rd ((a : Int) :: r) ((t + 1 : Nat) : Int) = (q : Int) ∧ p < q ∧ q ≤ last ∧ st p q = true) ∧ rd ((a : Int) :: r) (r.length : Int) = (last : Int) := by
  intro r
  induction r with
  | nil => intro a ha h; simp only [Way] at h; subst h; exact ⟨fun t ht => absurd ht (by simp), rd_cons0 _ _⟩
  | cons x r ih =>
    intro a ha h
    obtain ⟨b, rfl, h1, h2, h3, h4⟩ := h
    obtain ⟨g, e⟩ := ih b h2 h4
    refine ⟨fun t ht => ?_, ?_⟩
    · cases t with
      | zero => exact ⟨a, b, rd_cons0 _ _, by rw [rd_cons1]; exact rd_cons0 _ _, h1, h2, h3⟩
      | succ t =>
        obtain ⟨p, q, e1, e2, e3⟩ := g t (by simpa using ht)
        exact ⟨p, q, by rw [rd_cons1]; exact e1, by rw [rd_cons1]; exact e2, e3⟩
    · rw [List.length_cons, rd_cons1]; exact e
end Go.Proofs.Ytbgniogjboebgaa.Pure
