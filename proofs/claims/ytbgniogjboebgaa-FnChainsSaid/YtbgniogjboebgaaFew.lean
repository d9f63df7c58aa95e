/- The fewest points of a chain: the program's list is the reference's, it stands for the chain, and no list that does is shorter. -/
import Derived.Test.YtbgniogjboebgaaPrint0
import Derived.Test.YtbgniogjboebgaaPrint11
import Derived.Test.YtbgniogjboebgaaPrint14
import Derived.Test.YtbgniogjboebgaaNum
import Derived.Test.YtbgniogjboebgaaInW
import Derived.Test.YtbgniogjboebgaaChA
import Derived.Test.YtbgniogjboebgaaChV
import Derived.Test.YtbgniogjboebgaaChP
import Derived.Test.YtbgniogjboebgaaStand
namespace Go.Proofs.Ytbgniogjboebgaa.Pure
open Go.RowKit Go.Proofs.Ytbgniogjboebgaa.Print Go.Proofs.YtbgniogjboebgaaW.PrintWords Go.Proofs.YtbgniogjboebgaaW.PrintLast Go.Proofs.YtbgniogjboebgaaW.PrintMore
set_option linter.unusedVariables false
set_option linter.unusedSimpArgs false
theorem nx1 (i : Nat) (h : i ≤ 1000000) : wrap64 ((i : Int) + 1) = ((i + 1 : Nat) : Int) := by rw [w64 (by omega) (by omega)]; omega
theorem rdJ {xs : List Int} {i : Nat} (h : i < xs.length) : rd xs (i : Int) = xs[i] := by simp [rd, h]
theorem rdIset {xs : List Int} {i : Nat} (j : Nat) (v : Int) (h : i < xs.length) : rd (xs.set i v) (j : Int) = if i = j then v else rd xs (j : Int) := by
  unfold rd
  simp only [Int.toNat_natCast]
  by_cases e : i = j
  · subst e; simp [h]
  · simp [e]
def up (N : Nat → Int) (i : Nat) (v : Int) : Nat → Int := fun p => if i = p then v else N p
theorem up_eq (N : Nat → Int) (i : Nat) (v : Int) : up N i v i = v := by simp [up]
theorem up_ne (N : Nat → Int) {i p : Nat} (v : Int) (h : i ≠ p) : up N i v p = N p := by simp [up, h]
/-- The list's cells are those of the function. -/
def Cells (xs : List Int) (N : Nat → Int) (n : Nat) : Prop := xs.length = n ∧ ∀ p : Nat, rd xs (p : Int) = N p
theorem Cells.set {xs : List Int} {N : Nat → Int} {n : Nat} (h : Cells xs N n) {i : Nat} (hi : i < n) (v : Int) : Cells (xs.set i v) (up N i v) n := by
  refine ⟨by simpa using h.1, fun p => ?_⟩
  have h1 := h.1
  rw [rdIset p v (by omega), h.2 p]
  rfl
def Way (st : Nat → Nat → Bool) (last : Nat) : Nat → List Int → Prop
  | a, [] => a = last
  | a, x :: r => ∃ b : Nat, x = (b : Int) ∧ a < b ∧ b ≤ last ∧ st a b = true ∧ Way st last b r
def Best (st : Nat → Nat → Bool) (last : Nat) (r : List Int) : Prop := Way st last 0 r ∧ ∀ s, Way st last 0 s → r.length ≤ s.length
structure Done (st : Nat → Nat → Bool) (last m : Nat) (N X : Nat → Int) : Prop where
  z : N last = 0
  nx : ∀ p : Nat, m ≤ p → p < last → ∃ q : Nat, X p = (q : Int) ∧ p < q ∧ q ≤ last ∧ st p q = true ∧ N p = N q + 1
  le : ∀ p q : Nat, m ≤ p → p < q → q ≤ last → st p q = true → N p ≤ N q + 1
  bd : ∀ p : Nat, m ≤ p → p ≤ last → 0 ≤ N p ∧ N p ≤ ((last - p : Nat) : Int)
structure Mid (st : Nat → Nat → Bool) (last i t : Nat) (N X : Nat → Int) : Prop where
  le : ∀ q : Nat, i < q → q < t → st i q = true → N i ≤ N q + 1
  nx : N i = ((last + 1 : Nat) : Int) ∨ ∃ q : Nat, X i = (q : Int) ∧ i < q ∧ q ≤ last ∧ q < t ∧ st i q = true ∧ N i = N q + 1
theorem Way.need {st : Nat → Nat → Bool} {last : Nat} {N X : Nat → Int} (F : Done st last 0 N X) : ∀ (s : List Int) (a : Nat), a ≤ last → Way st last a s → N a ≤ (s.length : Int) := by
  intro s
  induction s with
  | nil => intro a ha h; simp only [Way] at h; subst h; rw [F.z]; simp
  | cons x r ih =>
    intro a ha h
    obtain ⟨b, rfl, hab, hb, hs, hw⟩ := h
    have := ih b hb hw
    have := F.le a b (by omega) hab hb hs
    simp only [List.length_cons]; omega
theorem Done.step {st : Nat → Nat → Bool} {last i : Nat} {N X : Nat → Int} (F : Done st last (i + 1) N X) (M : Mid st last i (last + 1) N X) (hi : i < last) (h1 : st i (i + 1) = true) : Done st last i N X := by
  have hq := M.le (i + 1) (by omega) (by omega) h1
  have hb := F.bd (i + 1) (by omega) (by omega)
  have hne : N i ≠ ((last + 1 : Nat) : Int) := by omega
  obtain ⟨q, q1, q2, q3, q4, q5, q6⟩ := M.nx.resolve_left hne
  refine ⟨F.z, fun p hp hpl => ?_, fun p q hp hpq hq hs => ?_, fun p hp hpl => ?_⟩
  · by_cases e : p = i
    · subst e; exact ⟨q, q1, q2, q3, q5, q6⟩
    · exact F.nx p (by omega) hpl
  · by_cases e : p = i
    · subst e; exact M.le q hpq (by omega) hs
    · exact F.le p q (by omega) hpq hq hs
  · by_cases e : p = i
    · subst e
      have := F.bd q (by omega) q3
      omega
    · exact F.bd p (by omega) hpl
theorem Done.up1 {st : Nat → Nat → Bool} {last i : Nat} {N X : Nat → Int} (F : Done st last (i + 1) N X) (hi : i < last) (v : Int) : Done st last (i + 1) (up N i v) X := by
  refine ⟨?_, fun p hp hpl => ?_, fun p q hp hpq hq hs => ?_, fun p hp hpl => ?_⟩
  · rw [up_ne N v (by omega)]; exact F.z
  · obtain ⟨q, q1, q2, q3, q4, q5⟩ := F.nx p hp hpl
    refine ⟨q, q1, q2, q3, q4, ?_⟩
    rw [up_ne N v (by omega), up_ne N v (by omega)]; exact q5
  · rw [up_ne N v (by omega), up_ne N v (by omega)]; exact F.le p q hp hpq hq hs
  · rw [up_ne N v (by omega)]; exact F.bd p hp hpl
theorem Done.up2 {st : Nat → Nat → Bool} {last i : Nat} {N X : Nat → Int} (F : Done st last (i + 1) N X) (v : Int) : Done st last (i + 1) N (up X i v) := by
  refine ⟨F.z, fun p hp hpl => ?_, F.le, F.bd⟩
  rw [up_ne X v (by omega)]; exact F.nx p hp hpl
theorem Mid.put {st : Nat → Nat → Bool} {last i t : Nat} {N X : Nat → Int} (M : Mid st last i t N X) (hit : i < t) (ht : t ≤ last) (hs : st i t = true) (hlt : N t + 1 < N i) : Mid st last i (t + 1) (up N i (N t + 1)) (up X i (t : Int)) := by
  refine ⟨fun q hq hqt hqs => ?_, .inr ⟨t, up_eq X i _, by omega, ht, by omega, hs, ?_⟩⟩
  · rw [up_eq N, up_ne N _ (by omega)]
    by_cases e : q = t
    · subst e; omega
    · have := M.le q hq (by omega) hqs
      omega
  · rw [up_eq N, up_ne N _ (by omega)]
theorem Mid.skip {st : Nat → Nat → Bool} {last i t : Nat} {N X : Nat → Int} (M : Mid st last i t N X) (hs : st i t = true → N i ≤ N t + 1) : Mid st last i (t + 1) N X := by
  refine ⟨fun q hq hqt hqs => ?_, ?_⟩
  · by_cases e : q = t
    · subst e; exact hs hqs
    · exact M.le q hq (by omega) hqs
  · rcases M.nx with h | ⟨q, q1, q2, q3, q4, q5⟩
    · exact .inl h
    · exact .inr ⟨q, q1, q2, q3, by omega, q5⟩
theorem l2_both {st : Nat → Nat → Bool} {last : Nat} {N X : Nat → Int} {nxt : List Int} (C : Cells nxt X (last + 1)) (F : Done st last 0 N X) (hL : last ≤ 23) : ∀ (d a : Nat) (acc : List Int), last - a = d → a ≤ last → acc.length + d ≤ 1000 → ∃ r, Way st last a r ∧ (r.length : Int) = N a ∧ ∀ k, d < k → impl_fewestPoints.l2 k (last : Int) nxt acc (a : Int) = some (acc ++ r) ∧ spec_l07Fewest.l2 k ((last + 1 : Nat) : Int) nxt acc (a : Int) = some (acc ++ r) := by
  have e0 : wrap64 (((last + 1 : Nat) : Int) - 1) = (last : Int) := by rw [w64 (by omega) (by omega)]; omega
  intro d
  induction d using Nat.strongRecOn with
  | ind d ih =>
    intro a acc hd ha hacc
    by_cases h : a = last
    · subst h
      refine ⟨[], rfl, by rw [F.z]; rfl, fun k hk => ?_⟩
      obtain ⟨k, rfl⟩ : ∃ m, k = m + 1 := ⟨k - 1, by omega⟩
      simp only [impl_fewestPoints.l2, spec_l07Fewest.l2, e0]
      simp
    · obtain ⟨q, e1, h1, h2, h3, h4⟩ := F.nx a (by omega) (by omega)
      obtain ⟨r, hw, hr, hk⟩ := ih (last - q) (by omega) q (acc ++ [(q : Int)]) rfl h2 (by simp; omega)
      refine ⟨(q : Int) :: r, ⟨q, rfl, h1, h2, h3, hw⟩, by simp only [List.length_cons]; omega, fun k hk' => ?_⟩
      obtain ⟨k, rfl⟩ : ∃ m, k = m + 1 := ⟨k - 1, by omega⟩
      obtain ⟨k1, k2⟩ := hk k (by omega)
      have lx := C.1
      have ex : rd nxt (a : Int) = (q : Int) := by rw [C.2 a, e1]
      clear ih hk F
      simp only [impl_fewestPoints.l2, spec_l07Fewest.l2, e0, ex]
      rw [if_pos (by omega), if_pos (by omega), if_pos (by omega), if_pos (by omega), k1]
      rw [if_pos (by omega), if_pos (by omega), if_pos (by omega), if_pos (by omega), k2]
      simp
theorem st_next (xs : List S48) (n : Int) (i : Nat) : standB xs i (i + 1) n = true := by
  unfold standB
  rw [List.drop_eq_nil_of_le (by simp; omega)]
  rfl
theorem w1 {z : Int} {m : Nat} (h : 0 ≤ z ∧ z ≤ (m : Int)) (hm : m ≤ 1000) : wrap64 (z + 1) = z + 1 := by
  obtain ⟨h1, h2⟩ := h
  exact w64 (by omega) (by omega)
theorem l1_stop (xs : List S48) (last : Nat) (hL : last ≤ 23) (n : Int) (k i : Nat) (hi : i < last) (need nxt r : List Int) (k1 : impl_fewestPoints.l0 k xs n (last : Int) need nxt ((i : Int) - 1) = some r) (k2 : spec_l07Fewest.l0 k xs n ((last + 1 : Nat) : Int) need nxt ((i : Int) - 1) = some r) : impl_fewestPoints.l1 (k + 1) xs n (last : Int) need nxt (i : Int) ((last + 1 : Nat) : Int) = some r ∧ spec_l07Fewest.l1 (k + 1) xs n ((last + 1 : Nat) : Int) need nxt (i : Int) ((last + 1 : Nat) : Int) = some r := by
  simp only [impl_fewestPoints.l1, spec_l07Fewest.l1]
  rw [if_neg (by omega), if_neg (by omega), w64 (x := (i : Int) - 1) (by omega) (by omega)]
  exact ⟨k1, k2⟩
theorem l1_put (xs : List S48) (last : Nat) (hx : xs.length = last + 1) (hL : last ≤ 23) (ho : ∀ p ∈ xs, okP p = true) (n : Int) (k i t : Nat) (hk : 60 ≤ k) (hi : i < last) (hit : i < t) (ht : t ≤ last) (need nxt r : List Int) (ln : need.length = last + 1) (lx : nxt.length = last + 1) (v u : Int) (ev : rd need (t : Int) = v) (eu : rd need (i : Int) = u) (en : wrap64 (v + 1) = v + 1) (hlt : v + 1 < u) (hs : standB xs i t n = true)
    (k1 : impl_fewestPoints.l1 k xs n (last : Int) (need.set i (v + 1)) (nxt.set i (t : Int)) (i : Int) ((t + 1 : Nat) : Int) = some r) (k2 : spec_l07Fewest.l1 k xs n ((last + 1 : Nat) : Int) (need.set i (v + 1)) (nxt.set i (t : Int)) (i : Int) ((t + 1 : Nat) : Int) = some r) : impl_fewestPoints.l1 (k + 1) xs n (last : Int) need nxt (i : Int) (t : Int) = some r ∧ spec_l07Fewest.l1 (k + 1) xs n ((last + 1 : Nat) : Int) need nxt (i : Int) (t : Int) = some r := by
  have m1 := mayStand_ok xs (by clear ev eu en; omega) i t hit (by clear ev eu en; omega) n k (by clear ev eu en; omega)
  have m2 := within_ok xs (by clear ev eu en; omega) ho i t (by clear ev eu en; omega) (by clear ev eu en; omega) n k (by clear ev eu en; omega)
  have et := nx1 t (by clear ev eu en; omega)
  simp only [impl_fewestPoints.l1, spec_l07Fewest.l1, ev, eu, en, et, Int.toNat_natCast]
  rw [if_pos (by clear ev eu en; omega), if_pos (by clear ev eu en; omega), if_pos (by clear ev eu en; omega), if_pos (by clear ev eu en; omega), if_pos (by clear ev eu en; omega), if_pos hlt, m1, Option.bind_some, if_pos hs, if_pos (by clear ev eu en; omega), k1]
  rw [if_pos (by clear ev eu en; omega), if_pos (by clear ev eu en; omega), if_pos (by clear ev eu en; omega), if_pos (by clear ev eu en; omega), if_pos (by clear ev eu en; omega), if_pos hlt, m2, Option.bind_some, if_pos hs, if_pos (by clear ev eu en; omega), k2]
  exact ⟨rfl, rfl⟩
theorem l1_skip (xs : List S48) (last : Nat) (hx : xs.length = last + 1) (hL : last ≤ 23) (ho : ∀ p ∈ xs, okP p = true) (n : Int) (k i t : Nat) (hk : 60 ≤ k) (hi : i < last) (hit : i < t) (ht : t ≤ last) (need nxt r : List Int) (ln : need.length = last + 1) (lx : nxt.length = last + 1) (v u : Int) (ev : rd need (t : Int) = v) (eu : rd need (i : Int) = u) (en : wrap64 (v + 1) = v + 1) (hlt : ¬ (v + 1 < u ∧ standB xs i t n = true))
    (k1 : impl_fewestPoints.l1 k xs n (last : Int) need nxt (i : Int) ((t + 1 : Nat) : Int) = some r) (k2 : spec_l07Fewest.l1 k xs n ((last + 1 : Nat) : Int) need nxt (i : Int) ((t + 1 : Nat) : Int) = some r) : impl_fewestPoints.l1 (k + 1) xs n (last : Int) need nxt (i : Int) (t : Int) = some r ∧ spec_l07Fewest.l1 (k + 1) xs n ((last + 1 : Nat) : Int) need nxt (i : Int) (t : Int) = some r := by
  have m1 := mayStand_ok xs (by clear ev eu en; omega) i t hit (by clear ev eu en; omega) n k (by clear ev eu en; omega)
  have m2 := within_ok xs (by clear ev eu en; omega) ho i t (by clear ev eu en; omega) (by clear ev eu en; omega) n k (by clear ev eu en; omega)
  have et := nx1 t (by clear ev eu en; omega)
  simp only [impl_fewestPoints.l1, spec_l07Fewest.l1, ev, eu, en, et, Int.toNat_natCast]
  by_cases h1 : v + 1 < u
  · have h2 : ¬ standB xs i t n = true := fun h => hlt ⟨h1, h⟩
    rw [if_pos (by clear ev eu en; omega), if_pos (by clear ev eu en; omega), if_pos (by clear ev eu en; omega), if_pos (by clear ev eu en; omega), if_pos (by clear ev eu en; omega), if_pos h1, m1, Option.bind_some, if_neg h2, k1]
    rw [if_pos (by clear ev eu en; omega), if_pos (by clear ev eu en; omega), if_pos (by clear ev eu en; omega), if_pos (by clear ev eu en; omega), if_pos (by clear ev eu en; omega), if_pos h1, m2, Option.bind_some, if_neg h2, k2]
    exact ⟨rfl, rfl⟩
  · rw [if_pos (by clear ev eu en; omega), if_pos (by clear ev eu en; omega), if_pos (by clear ev eu en; omega), if_pos (by clear ev eu en; omega), if_pos (by clear ev eu en; omega), if_neg h1, k1]
    rw [if_pos (by clear ev eu en; omega), if_pos (by clear ev eu en; omega), if_pos (by clear ev eu en; omega), if_pos (by clear ev eu en; omega), if_pos (by clear ev eu en; omega), if_neg h1, k2]
    exact ⟨rfl, rfl⟩
theorem l0_go (xs : List S48) (last : Nat) (hx : xs.length = last + 1) (hL : last ≤ 23) (n : Int) (k i : Nat) (hi : i < last) (need nxt r : List Int) (ln : need.length = last + 1)
    (k1 : impl_fewestPoints.l1 k xs n (last : Int) (need.set i ((last + 1 : Nat) : Int)) nxt (i : Int) ((i + 1 : Nat) : Int) = some r) (k2 : spec_l07Fewest.l1 k xs n ((last + 1 : Nat) : Int) (need.set i ((last + 1 : Nat) : Int)) nxt (i : Int) ((i + 1 : Nat) : Int) = some r) : impl_fewestPoints.l0 (k + 1) xs n (last : Int) need nxt (i : Int) = some r ∧ spec_l07Fewest.l0 (k + 1) xs n ((last + 1 : Nat) : Int) need nxt (i : Int) = some r := by
  have et := nx1 i (by omega)
  simp only [impl_fewestPoints.l0, spec_l07Fewest.l0, et, Int.toNat_natCast, hx]
  rw [if_pos (by omega), if_pos (by omega), if_pos (by omega), k1]
  rw [if_pos (by omega), if_pos (by omega), if_pos (by omega), k2]
  exact ⟨rfl, rfl⟩
theorem outer_both (xs : List S48) (last : Nat) (hx : xs.length = last + 1) (hL : last ≤ 23) (ho : ∀ p ∈ xs, okP p = true) (n : Int) (st : Nat → Nat → Bool) (est : ∀ i j, st i j = standB xs i j n) : ∀ (m : Nat) (N X : Nat → Int) (need nxt : List Int), m ≤ last → Cells need N (last + 1) → Cells nxt X (last + 1) → Done st last m N X → ∃ r, Best st last r ∧ ∀ k, m * 30 + 60 ≤ k → impl_fewestPoints.l0 k xs n (last : Int) need nxt ((m : Int) - 1) = some (0 :: r) ∧ spec_l07Fewest.l0 k xs n ((last + 1 : Nat) : Int) need nxt ((m : Int) - 1) = some (0 :: r) := by
  intro m
  induction m with
  | zero =>
    intro N X need nxt hm cn cx F
    obtain ⟨r, hw, hr, hk⟩ := l2_both cx F hL last 0 [0] (by omega) (by omega) (by simp; omega)
    refine ⟨r, ⟨hw, fun s hs => ?_⟩, fun k hk' => ?_⟩
    · have := Way.need F s 0 (by omega) hs
      omega
    · obtain ⟨k, rfl⟩ : ∃ m, k = m + 1 := ⟨k - 1, by omega⟩
      obtain ⟨k1, k2⟩ := hk k (by omega)
      simp only [impl_fewestPoints.l0, spec_l07Fewest.l0]
      rw [if_neg (by omega), if_neg (by omega)]
      simp only [Int.natCast_zero] at k1 k2
      rw [k1, k2]
      exact ⟨rfl, rfl⟩
  | succ i ih =>
    intro N X need nxt hm cn cx F
    have inner : ∀ (d t : Nat) (N X : Nat → Int) (need nxt : List Int), last + 1 - t = d → i < t → t ≤ last + 1 → Cells need N (last + 1) → Cells nxt X (last + 1) → Done st last (i + 1) N X → Mid st last i t N X → ∃ r, Best st last r ∧ ∀ k, d + 1 + (i * 30 + 60) ≤ k → impl_fewestPoints.l1 k xs n (last : Int) need nxt (i : Int) (t : Int) = some (0 :: r) ∧ spec_l07Fewest.l1 k xs n ((last + 1 : Nat) : Int) need nxt (i : Int) (t : Int) = some (0 :: r) := by
      intro d
      induction d with
      | zero =>
        intro t N X need nxt hd hit ht cn cx F M
        have et : t = last + 1 := by omega
        subst et
        obtain ⟨r, hr, hk⟩ := ih N X need nxt (by omega) cn cx (F.step M (by omega) (by rw [est]; exact st_next xs n i))
        refine ⟨r, hr, fun k hk' => ?_⟩
        obtain ⟨k, rfl⟩ : ∃ m, k = m + 1 := ⟨k - 1, by omega⟩
        obtain ⟨k1, k2⟩ := hk k (by omega)
        exact l1_stop xs last hL n k i (by omega) need nxt _ k1 k2
      | succ d ihd =>
        intro t N X need nxt hd hit ht cn cx F M
        have htl : t ≤ last := by omega
        have en : wrap64 (N t + 1) = N t + 1 := w1 (F.bd t (by omega) htl) (by omega)
        by_cases hlt : N t + 1 < N i ∧ standB xs i t n = true
        · obtain ⟨r, hr, hk⟩ := ihd (t + 1) (up N i (N t + 1)) (up X i (t : Int)) (need.set i (N t + 1)) (nxt.set i (t : Int)) (by omega) (by omega) (by omega) (cn.set (by omega) _) (cx.set (by omega) _) ((F.up1 (by omega) _).up2 _) (M.put hit htl (by rw [est]; exact hlt.2) hlt.1)
          refine ⟨r, hr, fun k hk' => ?_⟩
          obtain ⟨k, rfl⟩ : ∃ m, k = m + 1 := ⟨k - 1, by omega⟩
          obtain ⟨k1, k2⟩ := hk k (by omega)
          exact l1_put xs last hx hL ho n k i t (by omega) (by omega) hit htl need nxt _ cn.1 cx.1 _ _ (cn.2 t) (cn.2 i) en hlt.1 hlt.2 k1 k2
        · obtain ⟨r, hr, hk⟩ := ihd (t + 1) N X need nxt (by omega) (by omega) (by omega) cn cx F (M.skip fun hs => by
            rw [est] at hs
            exact Int.not_lt.1 fun h => hlt ⟨h, hs⟩)
          refine ⟨r, hr, fun k hk' => ?_⟩
          obtain ⟨k, rfl⟩ : ∃ m, k = m + 1 := ⟨k - 1, by omega⟩
          obtain ⟨k1, k2⟩ := hk k (by omega)
          exact l1_skip xs last hx hL ho n k i t (by omega) (by omega) hit htl need nxt _ cn.1 cx.1 _ _ (cn.2 t) (cn.2 i) en hlt k1 k2
    obtain ⟨r, hr, hk⟩ := inner (last + 1 - (i + 1)) (i + 1) (up N i ((last + 1 : Nat) : Int)) X (need.set i ((last + 1 : Nat) : Int)) nxt rfl (by omega) (by omega) (cn.set (by omega) _) cx (F.up1 (by omega) _) ⟨fun q hq hqt => by omega, .inl (up_eq N i _)⟩
    refine ⟨r, hr, fun k hk' => ?_⟩
    obtain ⟨k, rfl⟩ : ∃ m, k = m + 1 := ⟨k - 1, by omega⟩
    obtain ⟨k1, k2⟩ := hk k (by omega)
    rw [show ((i + 1 : Nat) : Int) - 1 = (i : Int) by omega]
    exact l0_go xs last hx hL n k i (by omega) need nxt _ cn.1 k1 k2
theorem few_both (xs : List S48) (h2 : 2 ≤ xs.length) (h24 : xs.length ≤ 24) (ho : ∀ p ∈ xs, okP p = true) (n : Int) : ∃ r, Best (fun i j => standB xs i j n) (xs.length - 1) r ∧ ∀ k, 1000 ≤ k → impl_fewestPoints.f k xs n = some (0 :: r) ∧ spec_l07Fewest.f k xs n = some (0 :: r) := by
  obtain ⟨last, hx⟩ : ∃ m, xs.length = m + 1 := ⟨xs.length - 1, by omega⟩
  have C : Cells (List.replicate (last + 1) (0 : Int)) (fun p => rd (List.replicate (last + 1) (0 : Int)) (p : Int)) (last + 1) := ⟨by simp, fun p => rfl⟩
  have z : ∀ p : Nat, p ≤ last → rd (List.replicate (last + 1) (0 : Int)) (p : Int) = 0 := fun p hp => by rw [rdJ (by simp; omega)]; simp
  have F : Done (fun i j => standB xs i j n) last last (fun p => rd (List.replicate (last + 1) (0 : Int)) (p : Int)) (fun p => rd (List.replicate (last + 1) (0 : Int)) (p : Int)) := by
    refine ⟨z last (Nat.le_refl _), fun p hp hpl => by omega, fun p q hp hpq hq => by omega, fun p hp hpl => ?_⟩
    have := z p hpl
    simp only [this]
    exact ⟨Int.le_refl _, by omega⟩
  obtain ⟨r, hr, hk⟩ := outer_both xs last hx (by omega) ho n _ (fun _ _ => rfl) last _ _ _ _ (Nat.le_refl _) C C F
  refine ⟨r, by rw [hx]; exact hr, fun k hk' => ?_⟩
  obtain ⟨k1, k2⟩ := hk k (by omega)
  clear hk F C z hr
  unfold impl_fewestPoints.f spec_l07Fewest.f
  rw [if_pos (by omega), if_pos (by omega), hx, if_pos (by omega), if_pos (by omega), w64 (x := ((last + 1 : Nat) : Int) - 1) (by omega) (by omega), w64 (x := ((last + 1 : Nat) : Int) - 1 - 1) (by omega) (by omega), w64 (x := ((last + 1 : Nat) : Int) - 2) (by omega) (by omega), Int.toNat_natCast, show ((last + 1 : Nat) : Int) - 1 - 1 = (last : Int) - 1 by omega, show ((last + 1 : Nat) : Int) - 2 = (last : Int) - 1 by omega, show ((last + 1 : Nat) : Int) - 1 = (last : Int) by omega, k1, k2]
  exact ⟨rfl, rfl⟩
end Go.Proofs.Ytbgniogjboebgaa.Pure
