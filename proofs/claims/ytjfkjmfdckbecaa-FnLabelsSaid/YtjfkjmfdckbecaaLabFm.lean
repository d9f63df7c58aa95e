/- Where drawn labels meet: what the program's functions say of them. -/
import Derived.Test.YtjfkjmfdckbecaaPrint0
import Derived.Test.YtjfkjmfdckbecaaPrint6
import Derived.Test.YtjfkjmfdckbecaaPrint7
import Derived.Test.YtjfkjmfdckbecaaPrint10
import Derived.Test.YtjfkjmfdckbecaaPrint11
import Derived.Test.YtjfkjmfdckbecaaNum
import Derived.Test.YtjfkjmfdckbecaaInW
import Derived.Test.YtjfkjmfdckbecaaIntsR
import Derived.Test.YtjfkjmfdckbecaaSrc
import Derived.Test.YtjfkjmfdckbecaaLabI
import Derived.Test.YtjfkjmfdckbecaaLabDr
import Derived.Test.YtjfkjmfdckbecaaLabMt
import Derived.Test.YtjfkjmfdckbecaaLabVd
namespace Go.Proofs.Ytjfkjmfdckbecaa.Pure
open Go.RowKit Go.Proofs.Ytjfkjmfdckbecaa.Print Go.Proofs.YtjfkjmfdckbecaaW.PrintWords Go.Proofs.YtjfkjmfdckbecaaW.PrintLast Go.Proofs.YtjfkjmfdckbecaaW.PrintMore
set_option linter.unusedVariables false
set_option linter.unusedSimpArgs false
structure Ctx (ls : List S36) (ps : List Int) : Prop where
  hl : ls.length ≤ 6
  ho : ∀ x ∈ ls, OkL x
  hp : ps.length = ls.length
  at_ : ∀ j (hj : j < ls.length), -1 ≤ rd ps (j : Int) ∧ rd ps (j : Int) < (ls[j].f2.length : Int)
def mtL (a b : S36) (x y : Int) : Bool := decide (a.f0 = b.f0 ∧ x < y + b.f1 ∧ y < x + a.f1)
theorem mtL_comm (a b : S36) (x y : Int) : mtL a b x y = mtL b a y x := by
  unfold mtL
  rw [Bool.eq_iff_iff]
  simp only [decide_eq_true_eq]
  constructor <;> rintro ⟨h1, h2, h3⟩ <;> exact ⟨h1.symm, h3, h2⟩
theorem rdm {l : List Int} {i : Int} (h0 : 0 ≤ i) (h1 : i < (l.length : Int)) : rd l i ∈ l := by
  unfold rd
  rw [List.getD_eq_getElem?_getD, List.getElem?_eq_getElem (by omega)]
  exact List.getElem_mem _
theorem st_in {x : S36} (o : OkL x) {p : Int} (h0 : 0 ≤ p) (h1 : p < (x.f2.length : Int)) : 0 ≤ rd x.f2 p ∧ rd x.f2 p ≤ 29 := o.at_ _ (rdm h0 h1)
theorem mt_some {a b : S36} (oa : OkL a) (ob : OkL b) {x y : Int} (hx : 0 ≤ x ∧ x ≤ 29) (hy : 0 ≤ y ∧ y ≤ 29) : impl_labelsMeet.f a.f0 a.f1 a.f2 a.f3 b.f0 b.f1 b.f2 b.f3 x y = some (mtL a b x y) := by
  have wa := oa.width
  have wb := ob.width
  unfold impl_labelsMeet.f mtL
  rw [w64 (x := y + b.f1) (by omega) (by omega), w64 (x := x + a.f1) (by omega) (by omega)]
  by_cases h : a.f0 = b.f0
  · rw [if_pos h]
    by_cases h2 : x < y + b.f1
    · rw [if_pos h2]
      congr 1
      rw [Bool.eq_iff_iff]
      simp only [decide_eq_true_eq]
      exact ⟨fun h3 => ⟨h, h2, h3⟩, fun h3 => h3.2.2⟩
    · rw [if_neg h2, decide_eq_false (fun h3 => h2 h3.2.1)]
  · rw [if_neg h, decide_eq_false (fun h3 => h h3.1)]
/-- The label t meets the one at j. -/
def badAt (ls : List S36) (ps : List Int) (t j : Nat) : Bool := decide (0 ≤ rd ps (t : Int)) && (decide (0 ≤ rd ps (j : Int)) && mtL (rd_T36 ls (t : Int)) (rd_T36 ls (j : Int)) (rd (rd_T36 ls (t : Int)).f2 (rd ps (t : Int))) (rd (rd_T36 ls (j : Int)).f2 (rd ps (j : Int))))
def anyF (ls : List S36) (ps : List Int) (t : Nat) : Nat → Nat → Bool
  | 0, _ => false
  | d + 1, j => badAt ls ps t j || anyF ls ps t d (j + 1)
def nbF (ls : List S36) (ps : List Int) : Nat → Nat → Int
  | 0, _ => -1
  | d + 1, i => if anyF ls ps i i 0 = true then (i : Int) else nbF ls ps d (i + 1)
theorem rd_tk (ps : List Int) (i j : Nat) (h : j < i) (hi : i ≤ ps.length) : rd (ps.take i) (j : Int) = rd ps (j : Int) := by
  rw [rdI (xs := ps.take i) (by simp; omega), rdI (xs := ps) (by omega), List.getElem_take]
theorem ov_loop {ls : List S36} {ps : List Int} (C : Ctx ls ps) (t : Nat) (ht : t < ls.length) : ∀ (d k j : Nat), t - j = d → j ≤ t → d < k →
    impl_overlaps.l0 k ls t (rd ps (t : Int)) (ps.take t) ((ps.take t).length : Int) j = some (anyF ls ps t d j) := by
  intro d
  have hpl := C.hp
  have hl := C.hl
  have htl : (ps.take t).length = t := by simp; omega
  have ot := C.ho _ (List.getElem_mem ht)
  have T1 := (C.at_ t ht).2
  have T2 := Aside0.mk T1
  clear T1
  rw [htl]
  induction d with
  | zero =>
    intro k j hd hj hk
    obtain ⟨k, rfl⟩ : ∃ m, k = m + 1 := ⟨k - 1, by omega⟩
    simp only [impl_overlaps.l0]
    rw [if_neg (by omega)]
    rfl
  | succ d ih =>
    intro k j hd hj hk
    obtain ⟨k, rfl⟩ : ∃ m, k = m + 1 := ⟨k - 1, by omega⟩
    have h : j < t := by omega
    have hjl : j < ls.length := by omega
    have oj := C.ho _ (List.getElem_mem hjl)
    have e := ih k (j + 1) (by omega) (by omega) (by omega)
    have en := nxt h (by omega)
    have q1 : (j : Int) < (t : Int) := by omega
    have q2 : (0 : Int) ≤ (j : Int) := by omega
    have q3 : (j : Int) < ((ps.take t).length : Int) := by omega
    have q4 : ¬ (j : Int) = (t : Int) := by omega
    have q5 : (0 : Int) ≤ (t : Int) := by omega
    have q6 : (t : Int) < (ls.length : Int) := by omega
    have q7 : (j : Int) < (ls.length : Int) := by omega
    have q8 := rd_tk ps t j h (by omega)
    have g1 := (C.at_ j hjl).2
    have t1 := T2.out
    have hfa : badAt ls ps t j = (decide (0 ≤ rd ps (t : Int)) && (decide (0 ≤ rd ps (j : Int)) && mtL ls[t] ls[j] (rd ls[t].f2 (rd ps (t : Int))) (rd ls[j].f2 (rd ps (j : Int))))) := by
      unfold badAt
      rw [rdLd hjl, rdLd ht]
    have ha : anyF ls ps t (d + 1) j = (badAt ls ps t j || anyF ls ps t d (j + 1)) := rfl
    rw [ha, hfa]
    simp only [impl_overlaps.l0]
    rw [if_pos q1, if_pos q2, if_pos q3, if_neg q4, q8, en, e]
    by_cases hr : rd ps (t : Int) ≥ 0
    · rw [if_pos hr, decide_eq_true (show 0 ≤ rd ps (t : Int) from hr), Bool.true_and]
      by_cases hr2 : rd ps (j : Int) ≥ 0
      · have hb := mt_some ot oj (st_in ot hr t1) (st_in oj hr2 g1)
        rw [if_pos hr2, if_pos q5, if_pos q6, if_pos q7, if_pos hr, rdLd ht, rdLd hjl, if_pos t1, if_pos hr2, if_pos g1, hb, Option.bind_some, decide_eq_true (show 0 ≤ rd ps (j : Int) from hr2), Bool.true_and]
        cases mtL ls[t] ls[j] (rd ls[t].f2 (rd ps (t : Int))) (rd ls[j].f2 (rd ps (j : Int))) with
        | true => rw [if_pos rfl, Bool.true_or]
        | false => rw [if_neg (by simp), Bool.false_or]
      · rw [if_neg hr2, decide_eq_false (show ¬ 0 ≤ rd ps (j : Int) from hr2), Bool.false_and, Bool.false_or]
    · rw [if_neg hr, decide_eq_false (show ¬ 0 ≤ rd ps (t : Int) from hr), Bool.false_and, Bool.false_or]
theorem pf_loop {ls : List S36} {ps : List Int} (C : Ctx ls ps) : ∀ (d k i : Nat), ls.length - i = d → i ≤ ls.length → d + 10 < k →
    impl_placesFault.l0 k ls ps ps (ps.length : Int) i = some (nbF ls ps d i) := by
  intro d
  have hpl := C.hp
  have hl := C.hl
  induction d with
  | zero =>
    intro k i hd hi hk
    obtain ⟨k, rfl⟩ : ∃ m, k = m + 1 := ⟨k - 1, by omega⟩
    simp only [impl_placesFault.l0]
    rw [if_neg (by omega)]
    rfl
  | succ d ih =>
    intro k i hd hi hk
    obtain ⟨k, rfl⟩ : ∃ m, k = m + 1 := ⟨k - 1, by omega⟩
    have h : i < ls.length := by omega
    have e := ih k (i + 1) (by omega) (by omega) (by omega)
    have en := nxt h (by omega)
    have eo := ov_loop C i h i k 0 (by omega) (by omega) (by omega)
    rw [Int.natCast_zero] at eo
    have ha : nbF ls ps (d + 1) i = if anyF ls ps i i 0 = true then (i : Int) else nbF ls ps d (i + 1) := rfl
    rw [ha]
    simp only [impl_placesFault.l0, impl_overlaps.f]
    rw [if_pos (by omega), if_pos (by omega), if_pos (by omega), if_pos (by omega), Int.toNat_natCast, eo, Option.bind_some, en, e]
    cases anyF ls ps i i 0 with
    | true => rw [if_pos rfl, if_pos rfl]
    | false => rw [if_neg (by simp), if_neg (by simp)]
theorem pfC_some {ls : List S36} {ps : List Int} (C : Ctx ls ps) (k : Nat) (hk : 300 < k) : impl_PlacesFault.f k ls ps = some (nbF ls ps ls.length 0, 0) := by
  unfold impl_PlacesFault.f impl_placesFault.f
  have e := pf_loop C ls.length k 0 (by omega) (by omega) (by have := C.hl; omega)
  rw [Int.natCast_zero] at e
  rw [pc_some ls ps C.hl C.ho C.hp C.at_ k (by omega), Option.bind_some, if_pos rfl, e, Option.bind_some]
end Go.Proofs.Ytjfkjmfdckbecaa.Pure
