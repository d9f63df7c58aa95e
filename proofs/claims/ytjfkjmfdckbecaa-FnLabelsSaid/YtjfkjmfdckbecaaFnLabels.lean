/- The law FnLabels: the best places have no overlap and no less weight than the greedy ones, what is left out weighs the rest, and rows are filled by their labels. -/
import Derived.Test.YtjfkjmfdckbecaaPrint0
import Derived.Test.YtjfkjmfdckbecaaPrint1
import Derived.Test.YtjfkjmfdckbecaaPrint12
import Derived.Test.YtjfkjmfdckbecaaPrint14
import Derived.Test.YtjfkjmfdckbecaaNum
import Derived.Test.YtjfkjmfdckbecaaInW
import Derived.Test.YtjfkjmfdckbecaaIntsR
import Derived.Test.YtjfkjmfdckbecaaSrc
import Derived.Test.YtjfkjmfdckbecaaLabI
import Derived.Test.YtjfkjmfdckbecaaLabDr
import Derived.Test.YtjfkjmfdckbecaaLabMt
import Derived.Test.YtjfkjmfdckbecaaLabVd
import Derived.Test.YtjfkjmfdckbecaaLabFm
import Derived.Test.YtjfkjmfdckbecaaLbS
import Derived.Test.YtjfkjmfdckbecaaLbG
import Derived.Test.YtjfkjmfdckbecaaLbF
namespace Go.Proofs.Ytjfkjmfdckbecaa.Pure
open Go.RowKit Go.Proofs.Ytjfkjmfdckbecaa.Print Go.Proofs.YtjfkjmfdckbecaaW.PrintWords Go.Proofs.YtjfkjmfdckbecaaW.PrintLast Go.Proofs.YtjfkjmfdckbecaaW.PrintMore
set_option linter.unusedVariables false
set_option linter.unusedSimpArgs false
theorem fl_l2 {ls : List S36} (L : Ls ls) (ps : List Int) (row : Int) (B : Nat) (r : Bool) : ∀ (d i : Nat), i + d = ls.length → ∀ k, B + 100 + d < k → (∀ k', B ≤ k' → laws_FnLabels.l1 k' ls ps (outL ps ls.length) (wrap64 (row + 1)) = some r) →
    laws_FnLabels.l2 k ls ps (outL ps ls.length) row (fS ls ps row ls.length) 0 (fS ls ps row i) (i : Int) = some r := by
  have hl := L.hl
  intro d
  induction d with
  | zero =>
    intro i hi k hk H
    obtain ⟨k, rfl⟩ : ∃ m, k = m + 1 := ⟨k - 1, by omega⟩
    have c1 : ¬ (i : Int) < (ls.length : Int) := by omega
    have g := H k (by omega)
    unfold laws_FnLabels.l2
    rw [if_neg c1, if_pos rfl, show i = ls.length by omega, if_pos rfl]
    exact g
  | succ d ih =>
    intro i hi k hk H
    obtain ⟨k, rfl⟩ : ∃ m, k = m + 1 := ⟨k - 1, by omega⟩
    have h : i < ls.length := by omega
    have c1 : (i : Int) < (ls.length : Int) := by omega
    have c2 : (0 : Int) ≤ (i : Int) := by omega
    have hn : wrap64 ((i : Int) + 1) = ((i + 1 : Nat) : Int) := nxt h (by omega)
    have i1 := ih (i + 1) (by omega) k (by omega) H
    have hs := fS_step L ps row i h
    have hh := has_out L ps i h k (by omega)
    have e : fS ls ps row (i + 1) = fS ls ps row i + (if rd ps (i : Int) ≥ 0 ∧ (rd_T36 ls (i : Int)).f0 = row then (rd_T36 ls (i : Int)).f1 else 0) := rfl
    rw [e] at i1
    unfold laws_FnLabels.l2
    rw [if_pos c1, if_pos c2, hn]
    by_cases hrow : (rd_T36 ls (i : Int)).f0 = row
    · rw [if_pos hrow, hh, Option.bind_some]
      by_cases hr : rd ps (i : Int) < 0
      · rw [decide_eq_true hr, if_pos rfl]
        rw [if_neg (fun h => absurd h.1 (by omega)), Int.add_zero] at i1
        exact i1
      · rw [decide_eq_false hr, if_neg (by simp), hs]
        rw [if_pos ⟨by omega, hrow⟩] at i1
        exact i1
    · rw [if_neg hrow]
      rw [if_neg (fun h => hrow h.2), Int.add_zero] at i1
      exact i1
theorem fl_l1 {ls : List S36} (L : Ls ls) {ps : List Int} (C : Ctx ls ps) (G : GoodL ls ps) (k : Nat) (hk : 2000 < k) : laws_FnLabels.l1 k ls ps (outL ps ls.length) 0 = some true := by
  have hl := L.hl
  have last : ∀ k, 1 ≤ k → laws_FnLabels.l1 k ls ps (outL ps ls.length) 2 = some true := fun k hk => by
    obtain ⟨k, rfl⟩ : ∃ m, k = m + 1 := ⟨k - 1, by omega⟩
    unfold laws_FnLabels.l1
    rw [if_neg (by omega)]
  have w1 : wrap64 ((1 : Int) + 1) = 2 := w64 (by omega) (by omega)
  have w0 : wrap64 ((0 : Int) + 1) = 1 := w64 (by omega) (by omega)
  have mid : ∀ k, 500 ≤ k → laws_FnLabels.l1 k ls ps (outL ps ls.length) 1 = some true := fun k hk => by
    obtain ⟨k, rfl⟩ : ∃ m, k = m + 1 := ⟨k - 1, by omega⟩
    have e := rf_some L C G 1 (by omega) (by omega) k (by omega)
    have e2 := fl_l2 L ps 1 1 true ls.length 0 (by omega) k (by omega) (fun k' hk' => by rw [w1]; exact last k' hk')
    unfold laws_FnLabels.l1
    rw [if_pos (by omega), e, Option.bind_some]
    exact e2
  obtain ⟨k, rfl⟩ : ∃ m, k = m + 1 := ⟨k - 1, by omega⟩
  have e := rf_some L C G 0 (by omega) (by omega) k (by omega)
  have e2 := fl_l2 L ps 0 500 true ls.length 0 (by omega) k (by omega) (fun k' hk' => by rw [w0]; exact mid k' hk')
  unfold laws_FnLabels.l1
  rw [if_pos (by omega), e, Option.bind_some]
  exact e2
theorem fl_l0 {ls : List S36} (L : Ls ls) {ps : List Int} (C : Ctx ls ps) (G : GoodL ls ps) : ∀ (d i : Nat), i + d = ls.length → ∀ k, 3000 + d < k → laws_FnLabels.l0 k ls ps (wAll ls ps) (outL ps ls.length) (aS ls i) (rS ls ps i) (i : Int) = some true := by
  have hl := L.hl
  have hp := C.hp
  intro d
  induction d with
  | zero =>
    intro i hi k hk
    obtain ⟨k, rfl⟩ : ∃ m, k = m + 1 := ⟨k - 1, by omega⟩
    have c1 : ¬ (i : Int) < (ls.length : Int) := by omega
    have g := fl_l1 L C G k (by omega)
    have e : wrap64 (aS ls i - rS ls ps i) = wAll ls ps := by
      rw [rest_in L ps i (by omega)]
      have h1 := wSum_small L ps i (by omega)
      have h2 : wAll ls ps = wSum ls ps i := by unfold wAll; rw [show ps.length = i by omega]
      rw [h2]
      generalize aS ls i = x
      generalize wSum ls ps i = z at *
      rw [show x - (x - z) = z by omega]
      exact w64 (by omega) (by omega)
    unfold laws_FnLabels.l0
    rw [if_neg c1, if_pos e]
    exact g
  | succ d ih =>
    intro i hi k hk
    obtain ⟨k, rfl⟩ : ∃ m, k = m + 1 := ⟨k - 1, by omega⟩
    have h : i < ls.length := by omega
    have c1 : (i : Int) < (ls.length : Int) := by omega
    have c2 : (0 : Int) ≤ (i : Int) := by omega
    have hn : wrap64 ((i : Int) + 1) = ((i + 1 : Nat) : Int) := nxt h (by omega)
    have i1 := ih (i + 1) (by omega) k (by omega)
    have hh := has_out L ps i h k (by omega)
    have e1 : aS ls (i + 1) = aS ls i + (rd_T36 ls (i : Int)).f3 := rfl
    have e2 : rS ls ps (i + 1) = rS ls ps i + (if rd ps (i : Int) < 0 then (rd_T36 ls (i : Int)).f3 else 0) := rfl
    have hw := (L.at_ h).weight
    have b1 := aS_in L i (by omega)
    have b2 := wSum_small L ps i (by omega)
    have b3 := rest_in L ps i (by omega)
    have s1 : wrap64 (aS ls i + (rd_T36 ls (i : Int)).f3) = aS ls i + (rd_T36 ls (i : Int)).f3 := by
      generalize aS ls i = x at *
      generalize (rd_T36 ls (i : Int)).f3 = y at *
      exact w64 (by omega) (by omega)
    have s2 : wrap64 (rS ls ps i + (rd_T36 ls (i : Int)).f3) = rS ls ps i + (rd_T36 ls (i : Int)).f3 := by
      rw [b3]
      generalize aS ls i = x at *
      generalize wSum ls ps i = z at *
      generalize (rd_T36 ls (i : Int)).f3 = y at *
      exact w64 (by omega) (by omega)
    rw [e1, e2] at i1
    unfold laws_FnLabels.l0
    rw [if_pos c1, if_pos c2, hh, Option.bind_some, hn, s1, s2]
    by_cases hr : rd ps (i : Int) < 0
    · rw [if_pos hr] at i1
      rw [decide_eq_true hr, if_pos rfl]
      exact i1
    · rw [if_neg hr, Int.add_zero] at i1
      rw [decide_eq_false hr, if_neg (by simp)]
      exact i1
theorem FnLabels : laws_FnLabels.Pure := by
  intro l0 h0 hl0
  suffices H : ∀ k, 5000 ≤ k → laws_FnLabels.f k l0 = some true from ⟨_, H _ (Nat.le_refl _)⟩
  intro k hk
  have c0 := code_of h0 hl0
  obtain ⟨ls, e1, hl, ho⟩ := labels_some c0 k (by omega)
  have L : Ls ls := ⟨hl, ho⟩
  obtain ⟨r, F, O, B⟩ := best_some L
  obtain ⟨g, V, Gr⟩ := greedy_some L
  have C := ctx_of L F.pre F.len
  have D := ctx_of L V.pre V.len
  have hlen := outL_len r.1 ls.length
  have f1 := pfC_some C k (by omega)
  have f2 := pfC_some D k (by omega)
  rw [nb_good F.len F.good] at f1
  rw [nb_good V.len V.goodL] at f2
  have f3 := wpl_some L C k (by omega)
  have f4 := wpl_some L D k (by omega)
  have f5 := lo_some C k (by omega)
  have f6 : laws_a2Rises.f k (outL r.1 ls.length) (ls.length : Int) = some true := by
    have := rise_loop (outL r.1 ls.length) (ls.length : Int) (by omega) (outL_in r.1 ls.length) (outL_rise r.1 ls.length) (outL r.1 ls.length).length k 0 (by omega) (by omega)
    unfold laws_a2Rises.f
    exact this
  have hle : ¬ wAll ls g > r.2 := Int.not_lt.2 (O g V.pre V.len V.goodL)
  obtain ⟨k', rfl⟩ : ∃ m, k = m + 1 := ⟨k - 1, by omega⟩
  have e4 := fl_l0 L C F.good ls.length 0 (by omega) k' (by omega)
  have e5 : ∃ b, laws_a2Long.f l0 [] = some b := by
    unfold laws_a2Long.f
    split <;> exact ⟨_, rfl⟩
  obtain ⟨b, e5⟩ := e5
  unfold laws_FnLabels.f
  rw [e5, Option.bind_some]
  cases b with
  | true => rw [if_pos rfl]
  | false =>
    rw [if_neg (by simp), e1, Option.bind_some, B (k' + 1) (by omega), Option.bind_some, Gr (k' + 1) (by omega), Option.bind_some]
    dsimp only
    rw [f1, Option.bind_some, f2, Option.bind_some, f3, Option.bind_some, f4, Option.bind_some, f5, Option.bind_some]
    dsimp only
    rw [if_pos rfl, if_pos rfl, if_pos rfl, if_pos rfl, if_pos rfl, if_pos rfl, if_pos rfl, if_pos F.w.symm, if_pos rfl, if_neg hle, if_pos rfl, f6, Option.bind_some]
    simp only [laws_FnLabels.j0, Bool.not_true, Bool.false_eq_true, if_false]
    rw [F.w]
    exact e4
end Go.Proofs.Ytjfkjmfdckbecaa.Pure
