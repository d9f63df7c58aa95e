/- The law FnColourings: colours by an order are right, there are right colours just if enough are there, more colours have more ways, and exchanged colours stay right. -/
import Derived.Test.YtcjkklkmlooinaaPrint0
import Derived.Test.YtcjkklkmlooinaaPrint2
import Derived.Test.YtcjkklkmlooinaaPrint8
import Derived.Test.YtcjkklkmlooinaaPrint18
import Derived.Test.YtcjkklkmlooinaaNum
import Derived.Test.YtcjkklkmlooinaaMgA
import Derived.Test.YtcjkklkmlooinaaLabI
import Derived.Test.YtcjkklkmlooinaaBoVI
import Derived.Test.YtcjkklkmlooinaaBoV
import Derived.Test.YtcjkklkmlooinaaClashP
import Derived.Test.YtcjkklkmlooinaaAscP
import Derived.Test.YtcjkklkmlooinaaBoNI
import Derived.Test.YtcjkklkmlooinaaAdjP
import Derived.Test.YtcjkklkmlooinaaCntA
import Derived.Test.YtcjkklkmlooinaaMayP
import Derived.Test.YtcjkklkmlooinaaCntI
import Derived.Test.YtcjkklkmlooinaaDegP
import Derived.Test.YtcjkklkmlooinaaClrP
import Derived.Test.YtcjkklkmlooinaaFstI
import Derived.Test.YtcjkklkmlooinaaFewI
import Derived.Test.YtcjkklkmlooinaaChrP
import Derived.Test.YtcjkklkmlooinaaGreedyR
import Derived.Test.YtcjkklkmlooinaaGreedyI
import Derived.Test.YtcjkklkmlooinaaGrdP
import Derived.Test.YtcjkklkmlooinaaSwapI
import Derived.Test.YtcjkklkmlooinaaSwpP
import Derived.Test.YtcjkklkmlooinaaSrc
import Derived.Test.YtcjkklkmlooinaaSrcY
import Derived.Test.YtcjkklkmlooinaaDrawL
import Derived.Test.YtcjkklkmlooinaaOrdD
import Derived.Test.YtcjkklkmlooinaaCntP
namespace Go.Proofs.Ytcjkklkmlooinaa.Pure
open Go.RowKit Go.Proofs.Ytcjkklkmlooinaa.Print Go.Proofs.YtcjkklkmlooinaaW.PrintWords Go.Proofs.YtcjkklkmlooinaaW.PrintLast Go.Proofs.YtcjkklkmlooinaaW.PrintMore
set_option linter.unusedVariables false
set_option linter.unusedSimpArgs false
theorem fewI_fn {n : Int} {xs : List S58} (O : OkBs n xs) (k : Nat) (hk : 2000 < k) : impl_FewestColours.f k n xs = some (((fewN n xs : Nat) : Int), 0) := by
  have hm := O.many
  have e := fewI_some O k (by omega)
  have fd : fewL (adjB xs) n.toNat (n.toNat - 1) 1 = fewN n xs := rfl
  unfold impl_FewestColours.f
  rw [impl_ok n xs (by omega) k (by omega), okBs_mk O, Option.bind_some, if_pos rfl, e, Option.bind_some, fd]
/-- The rest of the law behind the six numbers of colours. -/
theorem law_end {n : Int} {xs : List S58} (O : OkBs n xs) {c ys : List Int} (hc : Code c) (hy : okCs n ys = true) (hp : Proper xs ys) (N : Int) (last : Int) (k : Nat) (hk : 4000 < k) : laws_FnColourings.l1 k c n xs N ys last 7 = some true := by
  have hn := O.lands
  obtain ⟨hlen, _⟩ := okCs_iff.1 hy
  obtain ⟨k, rfl⟩ : ∃ m, k = m + 1 := ⟨k - 1, by omega⟩
  obtain ⟨land, e1, l0, l1⟩ := at_some hc 0 n (by omega) (by omega)
  obtain ⟨other, e2, o0, o1⟩ := at_some hc 1 5 (by omega) (by omega)
  obtain ⟨s1, s2⟩ := swapI_fn O hy hp land other l0 l1 o0 (by omega) k (by omega)
  have q1 : land < (ys.length : Int) := by omega
  simp only [laws_FnColourings.l1]
  rw [if_neg (by omega), e1, Option.bind_some, e2, Option.bind_some]
  by_cases e : rd ys land = other
  · rw [s1 e, Option.bind_some, if_pos l0, if_pos q1, if_pos e]
    rfl
  · obtain ⟨r, f, c1, c2, c3⟩ := s2 e
    have hl := (okCs_iff.1 c1).1
    rw [f, Option.bind_some, if_pos l0, if_pos q1, if_neg e, clashI_fn O c1 c2 k (by omega), Option.bind_some, if_pos rfl, if_pos hl, if_pos rfl, if_pos rfl, if_pos (show land < (r.length : Int) by omega), c3, beq_self_eq_true]
theorem law_l1 {n : Int} {xs : List S58} (O : OkBs n xs) {c ys : List Int} (hc : Code c) (hy : okCs n ys = true) (hp : Proper xs ys) : ∀ (d k m : Nat) (last : Int), 7 - m = d → 1 ≤ m → m ≤ 7 → 6000 + 2 * d < k → last ≤ cnt (adjB xs) m n.toNat [] → laws_FnColourings.l1 k c n xs ((fewN n xs : Nat) : Int) ys last (m : Int) = some true := by
  intro d
  induction d with
  | zero =>
    intro k m last hd h1 h7 hk hl
    obtain rfl : m = 7 := by omega
    exact law_end O hc hy hp _ last k (by omega)
  | succ d ih =>
    intro k m last hd h1 h7 hk hl
    obtain ⟨k, rfl⟩ : ∃ m, k = m + 2 := ⟨k - 2, by omega⟩
    have z : wrap64 ((m : Int) + 1) = ((m + 1 : Nat) : Int) := by rw [w64 (by omega) (by omega)]; omega
    have e1 := countI_fn O m h1 (by omega) (k + 1) (by omega)
    obtain ⟨f1, f2⟩ := firstI_fn O m h1 (by omega) (k + 1) (by omega)
    have hw := ways_iff O m h1
    have hmono := cnt_mono (adjB xs) m n.toNat []
    have nx : ∀ K, 6000 + 2 * d < K → laws_FnColourings.l1 K c n xs ((fewN n xs : Nat) : Int) ys (cnt (adjB xs) m n.toNat []) ((m + 1 : Nat) : Int) = some true := fun K hK => ih K (m + 1) _ (by omega) (by omega) (by omega) hK hmono
    generalize cnt (adjB xs) m n.toNat [] = w at *
    have c2 : (decide (w > 0) != decide ((m : Int) ≥ ((fewN n xs : Nat) : Int))) = false := by
      rw [show decide (w > 0) = decide ((m : Int) ≥ ((fewN n xs : Nat) : Int)) from by
        rw [decide_eq_decide]
        exact hw.trans (by exact Int.ofNat_le.symm), bne_self_eq_false]
    simp only [laws_FnColourings.l1]
    rw [if_pos (by omega), e1, Option.bind_some]
    by_cases hf : fewN n xs ≤ m
    · obtain ⟨r, f, g1, g2⟩ := f1 hf
      have hpos := hw.2 hf
      rw [f, Option.bind_some, if_pos rfl, if_neg (by omega), c2, if_neg (by simp), decide_eq_true (show w > 0 from hpos), if_neg (by simp), if_pos rfl]
      simp only [laws_FnColourings.j3]
      rw [if_neg (by simp), if_pos trivial, clashS_fn O g1 g2 k (by omega), Option.bind_some, if_pos rfl, if_pos rfl, z]
      exact nx k (by omega)
    · have hnp : ¬ w > 0 := fun h => hf (hw.1 h)
      rw [f2 hf, Option.bind_some, if_pos rfl, if_neg (by omega), c2, if_neg (by simp), decide_eq_false hnp, if_neg (by simp), if_neg (by simp)]
      simp only [laws_FnColourings.j3]
      rw [if_neg (by simp), if_neg (by simp), z]
      exact nx k (by omega)
theorem law_l0 {n : Int} {xs : List S58} {c ys : List Int} {N : Int} (hlen : ys.length ≤ 10) (hb : ∀ x ∈ ys, 0 ≤ x ∧ x ≤ 9) (P : Option Bool → Prop) (k0 : Nat) (hP : ∀ (k : Nat) (M : Int), k0 ≤ k → 0 ≤ M → M ≤ 10 → (∀ x ∈ ys, x + 1 ≤ M) → P (if M < N then none else laws_FnColourings.l1 k c n xs N ys 0 1)) : ∀ (d k i : Nat) (M : Int), ys.length - i = d → i ≤ ys.length → k0 + d + 1 ≤ k → 0 ≤ M → M ≤ 10 → (∀ (j : Nat) (h : j < ys.length), j < i → ys[j] + 1 ≤ M) → P (laws_FnColourings.l0 k c n xs N ys M (i : Int)) := by
  intro d
  induction d with
  | zero =>
    intro k i M hd hi hk h0 h1 hM
    obtain ⟨k, rfl⟩ : ∃ m, k = m + 1 := ⟨k - 1, by omega⟩
    simp only [laws_FnColourings.l0]
    rw [if_neg (by omega)]
    exact hP k M (by omega) h0 h1 (fun x hx => by
      obtain ⟨j, hj, rfl⟩ := List.getElem_of_mem hx
      exact hM j hj (by omega))
  | succ d ih =>
    intro k i M hd hi hk h0 h1 hM
    obtain ⟨k, rfl⟩ : ∃ m, k = m + 1 := ⟨k - 1, by omega⟩
    have h : i < ys.length := by omega
    have hx := hb _ (List.getElem_mem h)
    simp only [laws_FnColourings.l0]
    rw [if_pos (by omega), if_pos (by omega), rdI h, w64 (by omega) (by omega), nxt h (by omega)]
    have hmx : mx M (ys[i] + 1) = (if M < ys[i] + 1 then ys[i] + 1 else M) := by
      unfold mx
      split <;> (try split) <;> omega
    rw [hmx]
    refine ih k (i + 1) _ (by omega) (by omega) (by omega) (by split <;> omega) (by split <;> omega) (fun j hj hji => ?_)
    by_cases e : j = i
    · subst e
      split <;> omega
    · have := hM j hj (by omega)
      split <;> omega
theorem le_toNat {N : Nat} {M : Int} (h : N ≤ M.toNat) (h0 : 0 ≤ M) : (N : Int) ≤ M := by omega
theorem few_most {n : Int} {xs : List S58} (O : OkBs n xs) {ys : List Int} (hy : okCs n ys = true) (hp : Proper xs ys) {M : Int} (hM : ∀ x ∈ ys, x + 1 ≤ M) : ((fewN n xs : Nat) : Int) ≤ M := by
  have hn := O.lands
  obtain ⟨hlen, hb⟩ := okCs_iff.1 hy
  obtain ⟨_, _, h3⟩ := fewN_spec O
  have h0 : 0 < ys.length := by omega
  have hM1 := hM _ (List.getElem_mem h0)
  have hb1 := hb _ (List.getElem_mem h0)
  have hle := h3 M.toNat (ys.map Int.toNat) (by omega) (by rw [List.length_map]; omega) ⟨fun x hx => by
    obtain ⟨y, hy2, rfl⟩ := List.mem_map.1 hx
    have := hM y hy2
    have := hb y hy2
    omega, fun i j hi hj hij e => by
    rw [List.length_map] at hi hj
    rw [List.getElem_map, List.getElem_map] at e
    have b1 := hb _ (List.getElem_mem hi)
    have b2 := hb _ (List.getElem_mem hj)
    have e' : ys[i] = ys[j] := by omega
    unfold adjB
    rw [List.any_eq_false]
    intro p hpm hmat
    unfold matB at hmat
    rw [Bool.or_eq_true, decide_eq_true_eq, decide_eq_true_eq] at hmat
    have ho := O.at_ p hpm
    have hpp := hp p hpm
    have hij2 : p.f0 = (i : Int) ∧ p.f1 = (j : Int) := by omega
    rw [hij2.1, hij2.2, rdI hi, rdI hj] at hpp
    exact hpp e'⟩
  exact le_toNat hle (by omega)
theorem FnColourings : laws_FnColourings.Pure := by
  intro c d hw hl hw2 hl2
  have hc := code_of hw hl
  have hd := code_of hw2 hl2
  suffices H : ∀ k, 20000 ≤ k → laws_FnColourings.f k c d = some true from ⟨20000, H _ (Nat.le_refl _)⟩
  intro k hk
  obtain ⟨k, rfl⟩ : ∃ m, k = m + 1 := ⟨k - 1, by omega⟩
  unfold laws_FnColourings.f laws_a2Long.f
  by_cases hbig : (c.length : Int) > 3000
  · rw [if_pos hbig]; rfl
  rw [if_neg hbig, Option.bind_some]
  by_cases hbig2 : (d.length : Int) > 3000
  · rw [decide_eq_true hbig2, if_pos rfl]
  rw [decide_eq_false hbig2, if_neg (by simp)]
  obtain ⟨n, xs, e, O, hn6⟩ := Lands_some hc (k + 1) (by omega)
  have hn := O.lands
  obtain ⟨os, e2, R⟩ := Order_some hd n (by omega) (k + 1) (by omega)
  obtain ⟨g1, g2⟩ := greedy_right O (by omega) R
  have e3 := greedyI_fn O R (k + 1) (by omega)
  have e4 := fewI_fn O (k + 1) (by omega)
  have e5 := clashI_fn O g1 g2 (k + 1) (by omega)
  obtain ⟨hlen, hb⟩ := okCs_iff.1 g1
  generalize gcol n xs os (List.replicate n.toNat (-1)) = ys at *
  rw [e, Option.bind_some, e4, Option.bind_some, e2, Option.bind_some, e3, Option.bind_some, e5, Option.bind_some, if_pos rfl, if_pos rfl, if_pos hlen, if_pos rfl, bne_self_eq_false]
  simp only [laws_FnColourings.j0]
  rw [if_neg (by simp)]
  have hnn : ((0 : Nat) : Int) = 0 := rfl
  refine law_l0 (by omega) hb (fun o => o = some true) 10000 (fun K M hK _ _ hM => ?_) ys.length k 0 0 (by omega) (by omega) (by omega) (by omega) (by omega) (fun j hj hji => (by omega))
  rw [if_neg (Int.not_lt.2 (few_most O g1 g2 hM))]
  exact law_l1 O hd g1 g2 6 K 1 0 rfl (by omega) (by omega) (by omega) (cnt_nonneg _ _ _ _)
end Go.Proofs.Ytcjkklkmlooinaa.Pure
