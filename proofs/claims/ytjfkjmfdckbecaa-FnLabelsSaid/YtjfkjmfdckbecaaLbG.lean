/- The greedy places of drawn labels are right ones. -/
import Derived.Test.YtjfkjmfdckbecaaPrint0
import Derived.Test.YtjfkjmfdckbecaaPrint7
import Derived.Test.YtjfkjmfdckbecaaPrint9
import Derived.Test.YtjfkjmfdckbecaaNum
import Derived.Test.YtjfkjmfdckbecaaInW
import Derived.Test.YtjfkjmfdckbecaaIntsR
import Derived.Test.YtjfkjmfdckbecaaSrc
import Derived.Test.YtjfkjmfdckbecaaLabI
import Derived.Test.YtjfkjmfdckbecaaLabDr
import Derived.Test.YtjfkjmfdckbecaaLabMt
import Derived.Test.YtjfkjmfdckbecaaLabVd
import Derived.Test.YtjfkjmfdckbecaaLabFm
import Derived.Test.YtjfkjmfdckbecaaLbS
import Derived.Shelf.SlSortCmp.Insertion
namespace Go.Proofs.Ytjfkjmfdckbecaa.Pure
open Go.RowKit Go.Proofs.Ytjfkjmfdckbecaa.Print Go.Proofs.YtjfkjmfdckbecaaW.PrintWords Go.Proofs.YtjfkjmfdckbecaaW.PrintLast Go.Proofs.YtjfkjmfdckbecaaW.PrintMore
set_option linter.unusedVariables false
set_option linter.unusedSimpArgs false
theorem inn_size (lt : Int → Int → Bool) (a : Nat) : ∀ (j : Nat) (d : Array Int), (Go.Sort.insInner lt a j d).size = d.size := by
  intro j
  induction j with
  | zero => intro d; rfl
  | succ j ih =>
    intro d
    unfold Go.Sort.insInner
    split
    · rw [ih]; simp [Go.Sort.swp]
    · rfl
theorem out_size (lt : Int → Int → Bool) (a b : Nat) : ∀ (m i : Nat) (d : Array Int), b - i = m → (Go.Sort.insOuter lt a b i d).size = d.size := by
  intro m
  induction m with
  | zero =>
    intro i d h
    unfold Go.Sort.insOuter
    rw [if_neg (by omega)]
  | succ m ih =>
    intro i d h
    unfold Go.Sort.insOuter
    rw [if_pos (by omega), ih (i + 1) _ (by omega), inn_size]
theorem srt_size (lt : Int → Int → Bool) (d : Array Int) (a b : Nat) : (Go.Sort.insertionSort lt d a b).size = d.size := out_size lt a b _ _ d rfl
/-- Rows of labels. -/
structure Idx (n : Nat) (y : List Int) : Prop where
  len : y.length = n
  in_ : ∀ j : Nat, j < n → 0 ≤ rd y (j : Int) ∧ rd y (j : Int) < (n : Int)
theorem sort_idx (ls : List S36) : Idx ls.length (g_sortW ls (g_up ls.length)) := by
  have hu : (g_up ls.length).length = ls.length := by unfold g_up; simp
  have hlen : (g_sortW ls (g_up ls.length)).length = ls.length := by
    unfold g_sortW
    rw [List.length_map, Array.length_toList, srt_size]
    simpa using hu
  refine ⟨hlen, fun j hj => ?_⟩
  rw [rdI (by omega)]
  have hm : (g_sortW ls (g_up ls.length))[j]'(by omega) ∈ g_sortW ls (g_up ls.length) := List.getElem_mem _
  generalize (g_sortW ls (g_up ls.length))[j]'(by omega) = x at hm
  unfold g_sortW at hm
  obtain ⟨z, _, e⟩ := List.mem_map.1 hm
  rw [← e]
  unfold g_clamp
  split
  · assumption
  · omega
/-- Places of all labels, none of which meet. -/
structure PInv (ls : List S36) (xp : List Int) : Prop where
  len : xp.length = ls.length
  pre : PreL ls xp
  good : ∀ t j : Nat, t < ls.length → j < ls.length → ¬ j = t → badAt ls xp t j = false
theorem PInv.goodL {ls : List S36} {xp : List Int} (V : PInv ls xp) : GoodL ls xp := fun t ht j hj => V.good t j (by have := V.len; omega) (by have := V.len; omega) (by omega)
theorem none_inv (ls : List S36) : PInv ls (List.replicate ls.length (-1)) := ⟨by simp, none_pre ls, fun t j ht _ _ => none_bad ls t j ht⟩
theorem set_at (xp : List Int) (m : Nat) (c : Int) (hm : m < xp.length) : rd (xp.set m c) (m : Int) = c := by
  rw [rdI (by simpa using hm)]; simp
theorem set_ne (xp : List Int) (m t : Nat) (c : Int) (h : m ≠ t) : rd (xp.set m c) (t : Int) = rd xp (t : Int) := by
  simp [rd, List.getD_eq_getElem?_getD, List.getElem?_set_ne h]
theorem bad_comm (ls : List S36) (ps : List Int) (t j : Nat) : badAt ls ps t j = badAt ls ps j t := by
  unfold badAt
  rw [mtL_comm]
  cases decide (0 ≤ rd ps (t : Int)) <;> cases decide (0 ≤ rd ps (j : Int)) <;> rfl
theorem put_inv {ls : List S36} {xp : List Int} (V : PInv ls xp) {I : Nat} (hI : I < ls.length) {c : Int} (h0 : 0 ≤ c) (h1 : c < ((rd_T36 ls (I : Int)).f2.length : Int)) (hh : (List.range xp.length).any (hitL ls xp I c) = false) : PInv ls (xp.set I c) := by
  have hl := V.len
  have key : ∀ j : Nat, j < ls.length → ¬ j = I → badAt ls (xp.set I c) I j = false := by
    intro j hj hne
    have e := set_at xp I c (by omega)
    rw [bad_hit ls (qs := xp) (by rw [e]; exact h0) hne (set_ne _ _ _ _ (by omega)), e]
    have := List.any_eq_false.1 hh j (List.mem_range.2 (by omega))
    simpa using this
  refine ⟨by rw [List.length_set]; exact hl, ⟨by rw [List.length_set]; omega, fun t ht => ?_⟩, fun t j ht hj hne => ?_⟩
  · rw [List.length_set] at ht
    by_cases htI : I = t
    · subst htI
      rw [set_at _ _ _ ht]
      exact ⟨by omega, h1⟩
    · rw [set_ne _ _ _ _ htI]
      exact V.pre.at_ t ht
  · by_cases htI : t = I
    · subst htI
      exact key j hj hne
    · by_cases hjI : j = I
      · subst hjI
        rw [bad_comm]
        exact key t ht htI
      · rw [badAt_same ls (set_ne _ _ _ _ (by omega)) (set_ne _ _ _ _ (by omega))]
        exact V.good t j ht hj hne
theorem gr_l3 {ls : List S36} (L : Ls ls) {y : List Int} {i I : Nat} (hi : i < ls.length) (hI : I < ls.length) (e : rd y (i : Int) = (I : Int)) (K : Nat) (hK : 9 ≤ K)
    (hnext : ∀ xp, PInv ls xp → ∃ r, PInv ls r ∧ ∀ k, K ≤ k → impl_GreedyPlaces.l2 k ls y xp ((i + 1 : Nat) : Int) = some r) : ∀ (d c : Nat) (xp : List Int), PInv ls xp → c + d = (rd_T36 ls (I : Int)).f2.length → ∃ r, PInv ls r ∧ ∀ k, K + d < k → impl_GreedyPlaces.l3 k ls y xp (i : Int) (c : Int) = some r := by
  have hl := L.hl
  have hst := (L.at_ hI).many
  have hn1 : wrap64 ((i : Int) + 1) = ((i + 1 : Nat) : Int) := nxt hi (by omega)
  intro d
  induction d with
  | zero =>
    intro c xp V hc
    obtain ⟨r, R, H⟩ := hnext xp V
    refine ⟨r, R, fun k hk => ?_⟩
    obtain ⟨k, rfl⟩ : ∃ m, k = m + 1 := ⟨k - 1, by omega⟩
    have c1 : ¬ (c : Int) < ((rd_T36 ls (I : Int)).f2.length : Int) := by omega
    have g := H k (by omega)
    unfold impl_GreedyPlaces.l3
    rw [e, if_neg c1, hn1]
    exact g
  | succ d ih =>
    intro c xp V hc
    have hxl := V.len
    have c1 : (c : Int) < ((rd_T36 ls (I : Int)).f2.length : Int) := by omega
    have c0 : (0 : Int) ≤ (c : Int) := by omega
    have c2 : (0 : Int) ≤ (I : Int) := by omega
    have c3 : (I : Int) < (xp.length : Int) := by omega
    have hn2 : wrap64 ((c : Int) + 1) = ((c + 1 : Nat) : Int) := nxt (show c < (rd_T36 ls (I : Int)).f2.length by omega) (by omega)
    have ho : ∀ k, xp.length < k → impl_overlaps.f k ls xp (I : Int) (c : Int) = some ((List.range xp.length).any (hitL ls xp I (c : Int))) := fun k hk => by
      have := over_allL L V.pre I hI (c : Int) c0 c1 xp.length k 0 (by omega) (by omega) hk (fun t ht => absurd ht (by omega))
      unfold impl_overlaps.f
      exact this
    cases hh : (List.range xp.length).any (hitL ls xp I (c : Int)) with
    | true =>
      obtain ⟨r, R, H⟩ := ih (c + 1) xp V (by omega)
      refine ⟨r, R, fun k hk => ?_⟩
      obtain ⟨k, rfl⟩ : ∃ m, k = m + 1 := ⟨k - 1, by omega⟩
      have o := ho k (by omega)
      have g := H k (by omega)
      rw [hh] at o
      unfold impl_GreedyPlaces.l3
      rw [e, if_pos c1, o, Option.bind_some, if_pos rfl, hn2]
      exact g
    | false =>
      obtain ⟨r, R, H⟩ := hnext _ (put_inv V hI c0 c1 hh)
      refine ⟨r, R, fun k hk => ?_⟩
      obtain ⟨k, rfl⟩ : ∃ m, k = m + 1 := ⟨k - 1, by omega⟩
      have o := ho k (by omega)
      have g := H k (by omega)
      rw [hh] at o
      unfold impl_GreedyPlaces.l3
      rw [e, if_pos c1, o, Option.bind_some, if_neg (by simp), if_pos c2, if_pos c3, hn1, Int.toNat_natCast]
      exact g
theorem gr_l2 {ls : List S36} (L : Ls ls) {y : List Int} (Y : Idx ls.length y) : ∀ (d i : Nat), i + d = ls.length → ∀ xp, PInv ls xp → ∃ r, PInv ls r ∧ ∀ k, 10 * d + 10 ≤ k → impl_GreedyPlaces.l2 k ls y xp (i : Int) = some r := by
  have hl := L.hl
  have hy := Y.len
  intro d
  induction d with
  | zero =>
    intro i hi xp V
    refine ⟨xp, V, fun k hk => ?_⟩
    obtain ⟨k, rfl⟩ : ∃ m, k = m + 1 := ⟨k - 1, by omega⟩
    have c1 : ¬ (i : Int) < (y.length : Int) := by omega
    unfold impl_GreedyPlaces.l2
    rw [if_neg c1]
  | succ d ih =>
    intro i hi xp V
    have hil : i < ls.length := by omega
    have hin := Y.in_ i hil
    obtain ⟨I, hI, e⟩ : ∃ I : Nat, I < ls.length ∧ rd y (i : Int) = (I : Int) := by
      generalize rd y (i : Int) = z at hin ⊢
      exact ⟨z.toNat, by omega, by omega⟩
    have hst := (L.at_ hI).many
    obtain ⟨r, R, H⟩ := gr_l3 L hil hI e (10 * d + 10) (by omega) (fun xp V => ih (i + 1) (by omega) xp V) (rd_T36 ls (I : Int)).f2.length 0 xp V (by omega)
    refine ⟨r, R, fun k hk => ?_⟩
    obtain ⟨k, rfl⟩ : ∃ m, k = m + 1 := ⟨k - 1, by omega⟩
    have c1 : (i : Int) < (y.length : Int) := by omega
    have c2 : (0 : Int) ≤ (i : Int) := by omega
    have c3 : (0 : Int) ≤ (I : Int) := by omega
    have c4 : (I : Int) < (ls.length : Int) := by omega
    have g := H k (by omega)
    rw [Int.natCast_zero] at g
    unfold impl_GreedyPlaces.l2
    rw [if_pos c1, if_pos c2, e, if_pos c3, if_pos c4]
    exact g
theorem greedy_some {ls : List S36} (L : Ls ls) : ∃ g, PInv ls g ∧ ∀ k, 300 ≤ k → impl_GreedyPlaces.f k ls = some (g, 0) := by
  have hl := L.hl
  obtain ⟨r, R, H⟩ := gr_l2 L (sort_idx ls) ls.length 0 (by omega) _ (none_inv ls)
  refine ⟨r, R, fun k hk => ?_⟩
  have g := H k (by omega)
  rw [Int.natCast_zero] at g
  unfold impl_GreedyPlaces.f
  rw [vd_some ls L.hl L.ho k (by omega), Option.bind_some, if_pos rfl, if_pos (by omega), g, Option.bind_some]
end Go.Proofs.Ytjfkjmfdckbecaa.Pure
