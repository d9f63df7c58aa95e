/- What chains cost together, and chains of chains that are marked. -/
import Derived.Test.YtmedijjjhabpbaaPrint0
import Derived.Test.YtmedijjjhabpbaaPrint2
import Derived.Test.YtmedijjjhabpbaaPrint17
import Derived.Test.YtmedijjjhabpbaaPrint18
import Derived.Test.YtmedijjjhabpbaaNum
import Derived.Test.YtmedijjjhabpbaaChA
import Derived.Test.YtmedijjjhabpbaaChAX
import Derived.Test.YtmedijjjhabpbaaChM
import Derived.Test.YtmedijjjhabpbaaChMX
import Derived.Test.YtmedijjjhabpbaaRdP
import Derived.Test.YtmedijjjhabpbaaChS
namespace Go.Proofs.Ytmedijjjhabpbaa.Pure
open Go.RowKit Go.Proofs.Ytmedijjjhabpbaa.Print Go.Proofs.YtmedijjjhabpbaaW.PrintWords Go.Proofs.YtmedijjjhabpbaaW.PrintLast Go.Proofs.YtmedijjjhabpbaaW.PrintMore
set_option linter.unusedVariables false
set_option linter.unusedSimpArgs false
theorem szSum_loop (xs : List (List S61)) (hl : xs.length ≤ 4611686018427387903) (hw : ∀ c ∈ xs, c.length ≤ 9223372036854775807) : ∀ (d k i : Nat) (a : Int), xs.length - i = d → i ≤ xs.length → d < k → 0 ≤ a → a ≤ 1048576 →
    ∃ r, laws_szPlaceSS.l0 k xs a i = some r ∧ (0 ≤ r → (((xs.drop i).map List.length).sum : Int) ≤ a) := by
  intro d
  induction d with
  | zero =>
    intro k i a hd hi hk h0 h1
    obtain ⟨k, rfl⟩ : ∃ m, k = m + 1 := ⟨k - 1, by omega⟩
    simp only [laws_szPlaceSS.l0]
    rw [if_neg (by omega), show i = xs.length by omega, List.drop_length]
    exact ⟨a, rfl, fun _ => by simpa using h0⟩
  | succ d ih =>
    intro k i a hd hi hk h0 h1
    obtain ⟨k, rfl⟩ : ∃ m, k = m + 1 := ⟨k - 1, by omega⟩
    have h : i < xs.length := by omega
    simp only [laws_szPlaceSS.l0]
    rw [if_pos (by omega), if_pos (by omega), rdLL h, szPlaceS_some _ (hw _ (List.getElem_mem h)) a h0 h1, Option.bind_some, nxt h hl]
    by_cases hb : a < (xs[i].length : Int)
    · rw [if_pos hb, if_pos (by omega)]
      exact ⟨-1, rfl, fun h => by omega⟩
    · rw [if_neg hb, if_neg (by omega)]
      obtain ⟨r, e, hr⟩ := ih k (i + 1) (a - xs[i].length) (by omega) (by omega) (by omega) (by omega) (by omega)
      refine ⟨r, e, fun h0 => ?_⟩
      have := hr h0
      rw [List.drop_eq_getElem_cons h, List.map_cons, List.sum_cons]
      omega
theorem szSum_some (xs : List (List S61)) (hl : xs.length ≤ 4611686018427387903) (hw : ∀ c ∈ xs, c.length ≤ 9223372036854775807) (k : Nat) (hk : xs.length < k) {r : Int} (e : laws_szPlaceSS.f k xs 1048576 = some r) (h0 : 0 ≤ r) : (xs.map List.length).sum ≤ 1048576 := by
  unfold laws_szPlaceSS.f at e
  rw [w64 (by omega) (by omega)] at e
  by_cases h : (1048576 : Int) - xs.length < 0
  · rw [if_pos h] at e
    injection e with e
    omega
  · rw [if_neg h] at e
    obtain ⟨r', e', hr⟩ := szSum_loop xs hl hw xs.length k 0 (1048576 - xs.length) (by omega) (by omega) hk (by omega) (by omega)
    rw [Int.natCast_zero] at e'
    rw [e'] at e
    injection e with e
    have := hr (by omega)
    rw [List.drop_zero] at this
    omega
theorem sum_chains (xs : List (List S61)) : ((chainsOf xs).map List.length).sum = (xs.map List.length).sum := by
  unfold chainsOf
  rw [List.map_map]
  congr 1
  exact List.map_congr_left fun c _ => chainOf_length c
def mkSS : Int → List (List S49) → List (List S49)
  | _, [] => []
  | a, c :: cs => mk2 a c.length :: mkSS (a + 2 * (c.length : Int)) cs
theorem mkSS_length : ∀ (ys : List (List S49)) (a : Int), (mkSS a ys).length = ys.length
  | [], _ => rfl
  | c :: cs, a => by rw [mkSS, List.length_cons, List.length_cons, mkSS_length cs]
theorem markSS_loop (K : Nat) (hK : 1048576 < K) : ∀ (ys pre : List (List S49)) (k i : Nat) (a : Int), pre.length = i → i + ys.length ≤ 2000000 → (∀ c ∈ ys, c.length ≤ 1048576) → 0 ≤ a → a + 2 * ((ys.map List.length).sum : Int) ≤ 3000000 → ys.length < k → laws_markPlaceSS.l0 K k (pre ++ ys) a i = some (a + 2 * ((ys.map List.length).sum : Int), pre ++ mkSS a ys) := by
  intro ys
  induction ys with
  | nil =>
    intro pre k i a hp hl hy h0 h1 hk
    obtain ⟨k, rfl⟩ : ∃ m, k = m + 1 := ⟨k - 1, by omega⟩
    rw [laws_markPlaceSS.l0, List.append_nil, if_neg (by omega)]
    simp [mkSS]
  | cons c cs ih =>
    intro pre k i a hp hl hy h0 h1 hk
    obtain ⟨k, rfl⟩ : ∃ m, k = m + 1 := ⟨k - 1, by simp at hk; omega⟩
    have hc := hy c (by simp)
    rw [List.map_cons, List.sum_cons] at h1
    rw [List.length_cons] at hl hk
    have hlen : (pre ++ c :: cs).length = i + (cs.length + 1) := by rw [List.length_append, List.length_cons, hp]
    rw [laws_markPlaceSS.l0, hlen, if_pos (by omega), if_pos (by omega), show ((i : Int)).toNat = i by omega, List.getD_eq_getElem?_getD, List.getElem?_eq_getElem (by rw [hlen]; omega), Option.getD_some, get_mid _ _ _ hp, markP_some c a h0 (by omega) (by omega) K (by omega), Option.bind_some, set_mid _ _ _ _ hp, nxt (n := i + 1) (by omega) (by omega)]
    have e := ih (pre ++ [mk2 a c.length]) k (i + 1) (a + 2 * (c.length : Int)) (by simp; omega) (by omega) (fun d hd => hy d (by simp [hd])) (by omega) (by omega) (by omega)
    rw [List.append_assoc, List.append_assoc, List.singleton_append, List.singleton_append] at e
    rw [e, mkSS, List.map_cons, List.sum_cons]
    congr 2
    omega
theorem heldSS_loop : ∀ (ys pre : List (List S49)) (k i : Nat) (a : Int), pre.length = i → i + ys.length ≤ 2000000 → (∀ c ∈ ys, c.length ≤ 1048576) → 0 ≤ a → a + 2 * ((ys.map List.length).sum : Int) ≤ 3000000 → ys.length + 1048577 < k → laws_heldPlaceSS.l0 k (pre ++ mkSS a ys) a i = some (a + 2 * ((ys.map List.length).sum : Int)) := by
  intro ys
  induction ys with
  | nil =>
    intro pre k i a hp hl hy h0 h1 hk
    obtain ⟨k, rfl⟩ : ∃ m, k = m + 1 := ⟨k - 1, by omega⟩
    rw [laws_heldPlaceSS.l0, mkSS, List.append_nil, if_neg (by omega)]
    simp
  | cons c cs ih =>
    intro pre k i a hp hl hy h0 h1 hk
    obtain ⟨k, rfl⟩ : ∃ m, k = m + 1 := ⟨k - 1, by simp at hk; omega⟩
    have hc := hy c (by simp)
    rw [List.map_cons, List.sum_cons] at h1
    rw [List.length_cons] at hl hk
    have hlen : (pre ++ mkSS a (c :: cs)).length = i + (cs.length + 1) := by rw [List.length_append, mkSS_length, List.length_cons, hp]
    have hlen' : i < (pre ++ mk2 a c.length :: mkSS (a + 2 * (c.length : Int)) cs).length := by rw [mkSS] at hlen; omega
    rw [laws_heldPlaceSS.l0, hlen, if_pos (by omega), if_pos (by omega), mkSS, rdPP hlen', get_mid _ _ _ hp, heldP_some c.length a h0 (by omega) (by omega) k (by omega), Option.bind_some, if_neg (by omega), nxt (n := i + 1) (by omega) (by omega)]
    have e := ih (pre ++ [mk2 a c.length]) k (i + 1) (a + 2 * (c.length : Int)) (by simp; omega) (by omega) (fun d hd => hy d (by simp [hd])) (by omega) (by omega) (by omega)
    rw [List.append_assoc, List.singleton_append] at e
    rw [e, List.map_cons, List.sum_cons]
    congr 1
    omega
theorem markSS_some (ys : List (List S49)) (hl : ys.length ≤ 1048576) (hy : ∀ c ∈ ys, c.length ≤ 1048576) (hs : (ys.map List.length).sum ≤ 1048576) (k : Nat) (hk : ys.length + 1048576 < k) : laws_markPlaceSS.f k ys 1 = some (1 + 2 * ((ys.map List.length).sum : Int), mkSS 1 ys) := by
  unfold laws_markPlaceSS.f
  exact markSS_loop k (by omega) ys [] k 0 1 rfl (by omega) hy (by omega) (by omega) (by omega)
theorem heldSS_some (ys : List (List S49)) (hl : ys.length ≤ 1048576) (hy : ∀ c ∈ ys, c.length ≤ 1048576) (hs : (ys.map List.length).sum ≤ 1048576) (k : Nat) (hk : ys.length + 1048577 < k) : laws_heldPlaceSS.f k (mkSS 1 ys) 1 = some (1 + 2 * ((ys.map List.length).sum : Int)) := by
  unfold laws_heldPlaceSS.f
  exact heldSS_loop ys [] k 0 1 rfl (by omega) hy (by omega) (by omega) (by omega)
end Go.Proofs.Ytmedijjjhabpbaa.Pure
