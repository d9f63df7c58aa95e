/- The law FnLabelsMeet: labels meet just if a number of a row is covered by both, and the first fault is the first such label. -/
import Derived.Test.YtidommcimkmmfaaPrint0
import Derived.Test.YtidommcimkmmfaaPrint1
import Derived.Test.YtidommcimkmmfaaPrint10
import Derived.Test.YtidommcimkmmfaaNum
import Derived.Test.YtidommcimkmmfaaInW
import Derived.Test.YtidommcimkmmfaaIntsR
import Derived.Test.YtidommcimkmmfaaSrc
import Derived.Test.YtidommcimkmmfaaLabI
import Derived.Test.YtidommcimkmmfaaLabDr
import Derived.Test.YtidommcimkmmfaaLabMt
import Derived.Test.YtidommcimkmmfaaLabVd
import Derived.Test.YtidommcimkmmfaaChK
import Derived.Test.YtidommcimkmmfaaLabFm
namespace Go.Proofs.Ytidommcimkmmfaa.Pure
open Go.RowKit Go.Proofs.Ytidommcimkmmfaa.Print Go.Proofs.YtidommcimkmmfaaW.PrintWords Go.Proofs.YtidommcimkmmfaaW.PrintLast Go.Proofs.YtidommcimkmmfaaW.PrintMore
set_option linter.unusedVariables false
set_option linter.unusedSimpArgs false
theorem meet_last {a b : S36} {x y n : Int} (wb : 1 ≤ b.f1) (both : Bool) (hn : n < x + a.f1) (hnx : x ≤ n) :
    (both || decide (a.f0 = b.f0 ∧ n < y + b.f1 ∧ y < x + a.f1)) = ((both || (decide (a.f0 = b.f0 ∧ n ≥ y ∧ n < y + b.f1))) || decide (n + 1 < x + a.f1 ∧ a.f0 = b.f0 ∧ n + 1 < y + b.f1 ∧ y < x + a.f1)) := by
  rw [Bool.eq_iff_iff]
  simp only [Bool.or_eq_true, decide_eq_true_eq]
  constructor
  · rintro (h | ⟨h1, h2, h3⟩)
    · exact .inl (.inl h)
    · by_cases q : n ≥ y
      · exact .inl (.inr ⟨h1, q, h2⟩)
      · exact .inr ⟨by omega, h1, by omega, h3⟩
  · rintro ((h | ⟨h1, h2, h3⟩) | ⟨h0, h1, h2, h3⟩)
    · exact .inl h
    · exact .inr ⟨h1, h3, by omega⟩
    · exact .inr ⟨h1, by omega, h3⟩
theorem l2_loop {ls : List S36} {ps : List Int} (C : Ctx ls ps) (t j : Nat) (hj : j < t) (ht : t < ls.length) (x y q7 q9 : Int) (hx : 0 ≤ x ∧ x ≤ 29) (hy : 0 ≤ y ∧ y ≤ 29) (c : Bool) : ∀ (d k : Nat) (n : Int) (both : Bool), x + (rd_T36 ls (j : Int)).f1 - n = (d : Int) → x ≤ n → d + 1 < k → 0 ≤ n →
    ∃ m, k = m + (d + 1) ∧ laws_FnLabelsMeet.l2 k ls ps q7 0 q9 (t : Int) (j : Int) x y c 0 c 0 both n = laws_FnLabelsMeet.j4 m ls ps q7 0 q9 (t : Int) (j : Int) c (c != (both || decide (n < x + (rd_T36 ls (j : Int)).f1 ∧ (rd_T36 ls (j : Int)).f0 = (rd_T36 ls (t : Int)).f0 ∧ n < y + (rd_T36 ls (t : Int)).f1 ∧ y < x + (rd_T36 ls (j : Int)).f1))) := by
  intro d
  have hl := C.hl
  have hjl : j < ls.length := by omega
  have ej := rdLd hjl
  have et := rdLd ht
  have oj := C.ho _ (List.getElem_mem hjl)
  have ot := C.ho _ (List.getElem_mem ht)
  rw [← ej] at oj
  rw [← et] at ot
  generalize rd_T36 ls (j : Int) = a at oj ej ⊢
  generalize rd_T36 ls (t : Int) = b at ot et ⊢
  have wa := oj.width
  have wb := ot.width
  have r1 : wrap64 (x + a.f1) = x + a.f1 := w64 (by omega) (by omega)
  have r2 : wrap64 (y + b.f1) = y + b.f1 := w64 (by omega) (by omega)
  have p1 : (0 : Int) ≤ (j : Int) := by omega
  have p2 : (j : Int) < (ls.length : Int) := by omega
  have p3 : (0 : Int) ≤ (t : Int) := by omega
  have p4 : (t : Int) < (ls.length : Int) := by omega
  have eja : rd_T36 ls (j : Int) = a := (rdLd hjl).trans ej.symm
  have etb : rd_T36 ls (t : Int) = b := (rdLd ht).trans et.symm
  clear ej et
  induction d with
  | zero =>
    intro k n both hd hxn hk hn
    obtain ⟨k, rfl⟩ : ∃ m, k = m + 1 := ⟨k - 1, by omega⟩
    refine ⟨k, rfl, ?_⟩
    simp only [laws_FnLabelsMeet.l2]
    rw [if_pos p1, if_pos p2, eja, r1, if_neg (show ¬ n < x + a.f1 by omega), if_pos trivial, if_pos trivial, if_neg (by simp), decide_eq_false (fun h => by omega), Bool.or_false]
  | succ d ih =>
    intro k n both hd hxn hk hn
    obtain ⟨k, rfl⟩ : ∃ m, k = m + 1 := ⟨k - 1, by omega⟩
    have hlt : n < x + a.f1 := by omega
    have en : wrap64 (n + 1) = n + 1 := w64 (by omega) (by omega)
    have em := meet_last (a := a) (b := b) (x := x) (y := y) (n := n) wb.1 both hlt hxn
    have e0 : decide (n < x + a.f1 ∧ a.f0 = b.f0 ∧ n < y + b.f1 ∧ y < x + a.f1) = decide (a.f0 = b.f0 ∧ n < y + b.f1 ∧ y < x + a.f1) := by
      rw [Bool.eq_iff_iff]; simp only [decide_eq_true_eq]; exact ⟨fun h => h.2, fun h => ⟨hlt, h⟩⟩
    rw [e0, em]
    obtain ⟨m, hm, e⟩ := ih k (n + 1) (both || decide (a.f0 = b.f0 ∧ n ≥ y ∧ n < y + b.f1)) (by omega) (by omega) (by omega) (by omega)
    refine ⟨m, by omega, ?_⟩
    rw [← e]
    simp only [laws_FnLabelsMeet.l2]
    rw [if_pos p1, if_pos p2, eja, r1, if_pos hlt, en]
    cases both with
    | true => rw [if_pos rfl, Bool.true_or]
    | false =>
      rw [if_neg (by simp), if_pos p3, if_pos p4, etb, r2, Bool.false_or]
      by_cases h1 : a.f0 = b.f0
      · rw [if_pos h1]
        by_cases h2 : n ≥ y
        · rw [if_pos h2]
          have : decide (n < y + b.f1) = decide (a.f0 = b.f0 ∧ n ≥ y ∧ n < y + b.f1) := by
            rw [Bool.eq_iff_iff]; simp only [decide_eq_true_eq]; exact ⟨fun h => ⟨h1, h2, h⟩, fun h => h.2.2⟩
          rw [this]
        · rw [if_neg h2, decide_eq_false (fun h => h2 h.2.1)]
      · rw [if_neg h1, decide_eq_false (fun h => h1 h.1)]
theorem l1_loop {ls : List S36} {ps : List Int} (C : Ctx ls ps) (q7 : Int) (t : Nat) (ht : t < ls.length) (B : Nat) (hB : 50 ≤ B) (R : Int → Bool)
    (hR : ∀ (K : Nat) (q9 : Int), B < K → laws_FnLabelsMeet.l0 K ls ps q7 0 q9 ((t + 1 : Nat) : Int) = some (R q9)) : ∀ (d k j : Nat) (q9 : Int), t - j = d → j ≤ t → B + 25 * d + 2 < k →
    laws_FnLabelsMeet.l1 k ls ps q7 0 q9 (t : Int) (j : Int) = some (R (if q9 < 0 ∧ anyF ls ps t d j = true then (t : Int) else q9)) := by
  intro d
  have hl := C.hl
  have hpl := C.hp
  have ot := C.ho _ (List.getElem_mem ht)
  have ent := nxt ht (by omega)
  have et := rdLd ht
  have p3 : (0 : Int) ≤ (t : Int) := by omega
  have p4 : (t : Int) < (ls.length : Int) := by omega
  have p5 : (t : Int) < (ps.length : Int) := by omega
  induction d with
  | zero =>
    intro k j q9 hd hj hk
    obtain ⟨k, rfl⟩ : ∃ m, k = m + 1 := ⟨k - 1, by omega⟩
    simp only [laws_FnLabelsMeet.l1]
    rw [if_neg (by omega), ent, hR k q9 (by omega), if_neg (fun h => by cases h.2)]
  | succ d ih =>
    intro k j q9 hd hj hk
    obtain ⟨k, rfl⟩ : ∃ m, k = m + 2 := ⟨k - 2, by omega⟩
    have h : j < t := by omega
    have hjl : j < ls.length := by omega
    have oj := C.ho _ (List.getElem_mem hjl)
    have ej := rdLd hjl
    have en := nxt h (by omega)
    have p1 : (0 : Int) ≤ (j : Int) := by omega
    have p2 : (j : Int) < (ls.length : Int) := by omega
    have p6 : (j : Int) < (ps.length : Int) := by omega
    have p7 : (j : Int) < (t : Int) := by omega
    have z1 : 40 < k := by omega
    have z2 : B + 25 * d + 2 < k := by omega
    have z3 : ∀ m, k = m + (ls[j].f1.toNat + 1) → ls[j].f1 ≤ 14 → ∃ n, m = n + 1 ∧ B + 25 * d + 2 < n := fun m e1 e2 => ⟨m - 1, by omega, by omega⟩
    have z4 : ls[j].f1.toNat + 1 < k := by have := oj.width; omega
    have z5 : ((ls[j].f1.toNat : Nat) : Int) = ls[j].f1 := by have := oj.width; omega
    have ha : anyF ls ps t (d + 1) j = (badAt ls ps t j || anyF ls ps t d (j + 1)) := rfl
    have ih' : ∀ K, B + 25 * d + 2 < K → ∀ q9, laws_FnLabelsMeet.l1 K ls ps q7 0 q9 (t : Int) ((j + 1 : Nat) : Int) = some (R (if q9 < 0 ∧ anyF ls ps t d (j + 1) = true then (t : Int) else q9)) := fun K hK q9 => ih K (j + 1) q9 (by omega) (by omega) hK
    have t1 := (C.at_ t ht).2
    have g1 := (C.at_ j hjl).2
    rw [ha]
    simp only [laws_FnLabelsMeet.l1]
    rw [if_pos p7, if_pos p1, if_pos p6]
    by_cases hr2 : rd ps (j : Int) < 0
    · have hb : badAt ls ps t j = false := by
        unfold badAt; rw [decide_eq_false (Int.not_le.mpr hr2), Bool.false_and, Bool.and_false]
      rw [if_pos hr2, hb, Bool.false_or]
      simp only [laws_FnLabelsMeet.j2]
      rw [if_pos trivial, en, ih' k z2]
    · rw [if_neg hr2, if_pos p3, if_pos p5]
      by_cases hr : rd ps (t : Int) < 0
      · have hb : badAt ls ps t j = false := by
          unfold badAt; rw [decide_eq_false (Int.not_le.mpr hr), Bool.false_and]
        rw [decide_eq_true hr, hb, Bool.false_or]
        simp only [laws_FnLabelsMeet.j2]
        rw [if_pos trivial, en, ih' k z2]
      · have u0 : 0 ≤ rd ps (t : Int) := Int.not_lt.mp hr
        have v0 : 0 ≤ rd ps (j : Int) := Int.not_lt.mp hr2
        have sx := st_in oj v0 g1
        have sy := st_in ot u0 t1
        have hb : badAt ls ps t j = mtL ls[j] ls[t] (rd ls[j].f2 (rd ps (j : Int))) (rd ls[t].f2 (rd ps (t : Int))) := by
          unfold badAt; rw [decide_eq_true u0, decide_eq_true v0, Bool.true_and, Bool.true_and, ej, et, mtL_comm]
        have e1 := lm_some oj ot sx sy k z1
        have e2 := lm_some ot oj sy sx k z1
        rw [mtL_comm ls[t] ls[j]] at e2
        rw [← hb] at e1 e2
        have hb2 : decide (rd ls[j].f2 (rd ps (j : Int)) < rd ls[j].f2 (rd ps (j : Int)) + ls[j].f1 ∧ ls[j].f0 = ls[t].f0 ∧ rd ls[j].f2 (rd ps (j : Int)) < rd ls[t].f2 (rd ps (t : Int)) + ls[t].f1 ∧ rd ls[t].f2 (rd ps (t : Int)) < rd ls[j].f2 (rd ps (j : Int)) + ls[j].f1) = badAt ls ps t j := by
          rw [hb]; unfold mtL
          rw [Bool.eq_iff_iff]; simp only [decide_eq_true_eq]; exact ⟨fun h => h.2, fun h => ⟨Int.lt_add_of_pos_right _ (Int.lt_of_lt_of_le (by decide) oj.width.1), h⟩⟩
        have z6 : ∀ x : Int, x + ls[j].f1 - x = ((ls[j].f1.toNat : Nat) : Int) := fun x => by rw [z5, Int.add_comm, Int.add_sub_cancel]
        obtain ⟨m, hm, e3⟩ := l2_loop C t j h ht (rd ls[j].f2 (rd ps (j : Int))) (rd ls[t].f2 (rd ps (t : Int))) q7 q9 sx sy (badAt ls ps t j) ls[j].f1.toNat k (rd ls[j].f2 (rd ps (j : Int))) false (by rw [ej]; exact z6 _) (Int.le_refl _) z4 sx.1
        rw [ej, et, hb2, Bool.false_or] at e3
        rw [decide_eq_false hr]
        simp only [laws_FnLabelsMeet.j2]
        rw [if_neg (by simp), if_pos p1, if_pos p2, if_pos p6, if_pos v0, ej, if_pos g1, if_pos p3, if_pos p4, if_pos p5, if_pos u0, et, if_pos t1, e1, Option.bind_some, e2, Option.bind_some]
        dsimp only
        rw [e3]
        obtain ⟨n, rfl, z7⟩ := z3 m hm oj.width.2
        clear e1 e2 e3 hb2 hb sx sy u0 v0 hr hr2 t1 g1
        simp only [laws_FnLabelsMeet.j4]
        rw [if_neg (by simp), en]
        cases badAt ls ps t j with
        | false =>
          rw [if_neg (by simp), Bool.false_or, ih' n z7]
        | true =>
          rw [if_pos rfl, Bool.true_or]
          by_cases h9 : q9 < 0
          · rw [if_pos h9, ih' n z7, if_neg (fun h => by omega), if_pos ⟨h9, rfl⟩]
          · rw [if_neg h9, ih' n z7, if_neg (fun h => h9 h.1), if_neg (fun h => h9 h.1)]
theorem l0_loop {ls : List S36} {ps : List Int} (C : Ctx ls ps) (q7 : Int) : ∀ (d k i : Nat) (q9 : Int), ls.length - i = d → i ≤ ls.length → 60 + 200 * d < k →
    laws_FnLabelsMeet.l0 k ls ps q7 0 q9 (i : Int) = some (q7 == (if q9 < 0 then (if nbF ls ps d i < 0 then q9 else nbF ls ps d i) else q9)) := by
  intro d
  have hl := C.hl
  induction d with
  | zero =>
    intro k i q9 hd hi hk
    obtain ⟨k, rfl⟩ : ∃ m, k = m + 1 := ⟨k - 1, by omega⟩
    simp only [laws_FnLabelsMeet.l0]
    have e : nbF ls ps 0 i = -1 := rfl
    rw [if_neg (by omega), if_pos trivial, e, if_pos (show (-1 : Int) < 0 by decide), ite_self]
  | succ d ih =>
    intro k i q9 hd hi hk
    obtain ⟨k, rfl⟩ : ∃ m, k = m + 1 := ⟨k - 1, by omega⟩
    have h : i < ls.length := by omega
    have e := l1_loop C q7 i h (60 + 200 * d) (by omega) (fun q9 => q7 == (if q9 < 0 then (if nbF ls ps d (i + 1) < 0 then q9 else nbF ls ps d (i + 1)) else q9)) (fun K q9 hK => ih K (i + 1) q9 (by omega) (by omega) hK) i k 0 q9 (by omega) (by omega) (by omega)
    rw [Int.natCast_zero] at e
    simp only [laws_FnLabelsMeet.l0]
    rw [if_pos (by omega), e]
    have ha : nbF ls ps (d + 1) i = if anyF ls ps i i 0 = true then (i : Int) else nbF ls ps d (i + 1) := rfl
    rw [ha]
    by_cases h9 : q9 < 0
    · by_cases hb : anyF ls ps i i 0 = true
      · rw [if_pos (show q9 < 0 ∧ anyF ls ps i i 0 = true from ⟨h9, hb⟩), if_neg (show ¬ (i : Int) < 0 by omega), if_pos h9, if_pos hb, if_neg (show ¬ (i : Int) < 0 by omega)]
      · rw [if_neg (show ¬ (q9 < 0 ∧ anyF ls ps i i 0 = true) from fun h => hb h.2), if_neg hb]
    · rw [if_neg (show ¬ (q9 < 0 ∧ anyF ls ps i i 0 = true) from fun h => h9 h.1), if_neg h9, if_neg h9]
theorem nbF_range (ls : List S36) (ps : List Int) : ∀ (d i : Nat), nbF ls ps d i = -1 ∨ 0 ≤ nbF ls ps d i
  | 0, _ => .inl rfl
  | d + 1, i => by
    have ha : nbF ls ps (d + 1) i = if anyF ls ps i i 0 = true then (i : Int) else nbF ls ps d (i + 1) := rfl
    rw [ha]
    split
    · exact .inr (by omega)
    · exact nbF_range ls ps d (i + 1)
theorem FnLabelsMeet : laws_FnLabelsMeet.Pure := by
  intro l0 l1 h0 hl0 h1 hl1
  suffices H : ∀ k, 5000 ≤ k → laws_FnLabelsMeet.f k l0 l1 = some true from ⟨_, H _ (Nat.le_refl _)⟩
  intro k hk
  have c0 := code_of h0 hl0
  have c1 := code_of h1 hl1
  obtain ⟨ls, e1, hl, ho⟩ := labels_some c0 k (by omega)
  obtain ⟨ps, e2, hp, hat⟩ := places_some c1 ls hl ho k (by omega)
  have C : Ctx ls ps := ⟨hl, ho, hp, hat⟩
  have e3 := pfC_some C k (by omega)
  have e4 := l0_loop C (nbF ls ps ls.length 0) ls.length k 0 (-1) (by omega) (by omega) (by omega)
  rw [Int.natCast_zero] at e4
  unfold laws_FnLabelsMeet.f
  have e5 : ∃ b, laws_a2Long.f l0 l1 = some b := by
    unfold laws_a2Long.f
    split <;> exact ⟨_, rfl⟩
  obtain ⟨b, e5⟩ := e5
  rw [e5, Option.bind_some]
  cases b with
  | true => rw [if_pos rfl]
  | false =>
    rw [if_neg (by simp), e1, Option.bind_some, e2, Option.bind_some, e3, Option.bind_some]
    dsimp only
    rw [e4, if_pos (by decide)]
    rcases nbF_range ls ps ls.length 0 with q | q
    · rw [q, if_pos (by decide)]; rfl
    · rw [if_neg (by omega)]; simp
end Go.Proofs.Ytidommcimkmmfaa.Pure
