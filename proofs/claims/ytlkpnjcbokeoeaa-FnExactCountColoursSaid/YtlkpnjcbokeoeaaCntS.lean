/- The reference's table of sets counts the right colourings. -/
import Derived.Test.YtlkpnjcbokeoeaaPrint0
import Derived.Test.YtlkpnjcbokeoeaaPrint25
import Derived.Test.YtlkpnjcbokeoeaaPrint26
import Derived.Test.YtlkpnjcbokeoeaaNum
import Derived.Test.YtlkpnjcbokeoeaaInS
import Derived.Test.YtlkpnjcbokeoeaaInW
import Derived.Test.YtlkpnjcbokeoeaaBoA
import Derived.Test.YtlkpnjcbokeoeaaBoV
import Derived.Test.YtlkpnjcbokeoeaaAscP
import Derived.Test.YtlkpnjcbokeoeaaBoN
import Derived.Test.YtlkpnjcbokeoeaaCntA
import Derived.Laws.BitsLemmas
namespace Go.Proofs.Ytlkpnjcbokeoeaa.Pure
open Go.RowKit Go.Proofs.Ytlkpnjcbokeoeaa.Print Go.Proofs.YtlkpnjcbokeoeaaW.PrintWords Go.Proofs.YtlkpnjcbokeoeaaW.PrintLast Go.Proofs.YtlkpnjcbokeoeaaW.PrintMore
set_option linter.unusedVariables false
set_option linter.unusedSimpArgs false
def adjB (xs : List S55) (s t : Nat) : Bool := xs.any (matB (t : Int) (s : Int))
theorem adjB_comm (xs : List S55) (s t : Nat) : adjB xs s t = adjB xs t s := by
  unfold adjB
  congr 1
  funext p
  unfold matB
  rw [Bool.eq_iff_iff, Bool.or_eq_true, Bool.or_eq_true, decide_eq_true_eq, decide_eq_true_eq, decide_eq_true_eq, decide_eq_true_eq]
  constructor
  · rintro (⟨a, b⟩ | ⟨a, b⟩)
    · exact .inr ⟨b, a⟩
    · exact .inl ⟨b, a⟩
  · rintro (⟨a, b⟩ | ⟨a, b⟩)
    · exact .inr ⟨b, a⟩
    · exact .inl ⟨b, a⟩
theorem u64w2 (n : Int) : IntKind.u64.wrap n = n % 18446744073709551616 := by simp [IntKind.wrap, IntKind.bits, IntKind.signed]
theorem wrap_i64_small (n : Int) (h0 : 0 ≤ n) (h1 : n < 2 ^ 20) : IntKind.i64.wrap n = n := by
  have h2 : n < 1048576 := by simpa using h1
  rw [Go.IntKind.wrap_i64]; omega
theorem and_some (a b : Nat) (ha : a < 1048576) (hb : b < 1048576) : Go.bits .and .i64 (a : Int) (b : Int) = ((a &&& b : Nat) : Int) :=
  (Go.bits_nat .i64 20 (by decide) wrap_i64_small a b (by simpa using ha) (by simpa using hb)).1
theorem bit_some (S v : Nat) (hv : v ≤ 63) (hS : S < 1048576) : Go.bits .and .i64 (shr .i64 (S : Int) (IntKind.u64.wrap (v : Int))) 1 = ((S / 2 ^ v % 2 : Nat) : Int) := by
  have e1 : IntKind.u64.wrap (v : Int) = (v : Int) := by rw [u64w2]; omega
  have e2 : shr .i64 (S : Int) (v : Int) = ((S / 2 ^ v : Nat) : Int) := by
    unfold shr
    rw [Int.toNat_natCast, Nat.min_eq_left (show v ≤ IntKind.i64.bits by simpa [IntKind.bits] using (by omega : v ≤ 64)), Int.natCast_ediv, Int.natCast_pow]
    rfl
  rw [e1, e2]
  have h := and_some (S / 2 ^ v) 1 (Nat.lt_of_le_of_lt (Nat.div_le_self _ _) hS) (by decide)
  rw [Nat.and_one_is_mod] at h
  exact h
def bitB (S : Nat) (v : Int) : Bool := decide (S / 2 ^ v.toNat % 2 = 1)
theorem bit_iff (S : Nat) (v : Int) (h0 : 0 ≤ v) (hv : v ≤ 63) (hS : S < 1048576) : (Go.bits .and .i64 (shr .i64 (S : Int) (IntKind.u64.wrap v)) 1 = 1) ↔ bitB S v = true := by
  obtain ⟨m, rfl⟩ : ∃ m : Nat, v = (m : Int) := ⟨v.toNat, by omega⟩
  rw [bit_some S m (by omega) hS]
  unfold bitB
  rw [decide_eq_true_eq, Int.toNat_natCast]
  omega
def apM (xs : List S55) (S : Nat) : Bool := xs.all fun p => !(bitB S p.f0 && bitB S p.f1)
theorem specA_loop (xs : List S55) (S : Nat) (hS : S < 1048576) (hl : xs.length ≤ 1000000) (ho : ∀ p ∈ xs, (0 ≤ p.f0 ∧ p.f0 ≤ 63) ∧ 0 ≤ p.f1 ∧ p.f1 ≤ 63) : ∀ (d k i : Nat), xs.length - i = d → i ≤ xs.length → d < k → spec_l09Apart.l0 k xs (S : Int) (i : Int) = some ((xs.drop i).all fun p => !(bitB S p.f0 && bitB S p.f1)) := by
  intro d
  induction d with
  | zero =>
    intro k i hd hi hk
    obtain ⟨k, rfl⟩ : ∃ m, k = m + 1 := ⟨k - 1, by omega⟩
    simp only [spec_l09Apart.l0]
    rw [if_neg (by omega), List.drop_eq_nil_of_le (by omega)]
    rfl
  | succ d ih =>
    intro k i hd hi hk
    obtain ⟨k, rfl⟩ : ∃ m, k = m + 1 := ⟨k - 1, by omega⟩
    have h : i < xs.length := by omega
    have q1 : (i : Int) < (xs.length : Int) := by omega
    have q2 : (0 : Int) ≤ (i : Int) := by omega
    have e := ih k (i + 1) (by omega) (by omega) (by omega)
    have en := nxt h (by omega)
    obtain ⟨⟨a0, a1⟩, b0, b1⟩ := ho _ (List.getElem_mem h)
    have w0 : 0 ≤ IntKind.u64.wrap xs[i].f0 := by rw [u64w2]; exact Int.emod_nonneg _ (by decide)
    have w1 : 0 ≤ IntKind.u64.wrap xs[i].f1 := by rw [u64w2]; exact Int.emod_nonneg _ (by decide)
    simp only [spec_l09Apart.l0]
    rw [if_pos q1, if_pos q2, rdB h, if_pos w0, if_pos w1, en, e, List.drop_eq_getElem_cons h, List.all_cons]
    by_cases c0 : bitB S xs[i].f0 = true
    · rw [if_pos ((bit_iff S _ a0 a1 hS).2 c0), c0, Bool.true_and]
      by_cases c1 : bitB S xs[i].f1 = true
      · rw [if_pos ((bit_iff S _ b0 b1 hS).2 c1), c1]; rfl
      · rw [if_neg (fun h => c1 ((bit_iff S _ b0 b1 hS).1 h)), Bool.eq_false_iff.2 c1]; rfl
    · rw [if_neg (fun h => c0 ((bit_iff S _ a0 a1 hS).1 h)), Bool.eq_false_iff.2 c0]; rfl
theorem apM_eq {n : Int} {xs : List S55} (O : OkBs n xs) (S : Nat) : apM xs S = apartL (adjB xs) (lds 0 n.toNat S) := by
  have hn := O.lands
  rw [Bool.eq_iff_iff, apartL_iff (adjB_comm xs) (lds_nodup _ _ _)]
  unfold apM
  rw [List.all_eq_true]
  constructor
  · intro h s hs t ht hst
    have hs2 := (mem_lds _ _ _ _).1 hs
    have ht2 := (mem_lds _ _ _ _).1 ht
    rw [Nat.sub_zero] at hs2 ht2
    cases hc : adjB xs s t with
    | false => rfl
    | true =>
      unfold adjB at hc
      obtain ⟨p, hp, hm⟩ := List.any_eq_true.1 hc
      have := h p hp
      unfold matB at hm
      rw [Bool.or_eq_true, decide_eq_true_eq, decide_eq_true_eq] at hm
      have b1 : bitB S (s : Int) = true := by unfold bitB; rw [decide_eq_true_eq, Int.toNat_natCast]; exact hs2.2.2
      have b2 : bitB S (t : Int) = true := by unfold bitB; rw [decide_eq_true_eq, Int.toNat_natCast]; exact ht2.2.2
      rcases hm with ⟨e1, e2⟩ | ⟨e1, e2⟩
      · rw [e1, e2, b1, b2] at this; cases this
      · rw [e1, e2, b1, b2] at this; cases this
  · intro h p hp
    have o := O.at_ p hp
    cases c0 : bitB S p.f0 with
    | false => rfl
    | true =>
      cases c1 : bitB S p.f1 with
      | false => rfl
      | true =>
        unfold bitB at c0 c1
        rw [decide_eq_true_eq] at c0 c1
        have m0 : p.f0.toNat ∈ lds 0 n.toNat S := (mem_lds _ _ _ _).2 ⟨Nat.zero_le _, by omega, by rw [Nat.sub_zero]; exact c0⟩
        have m1 : p.f1.toNat ∈ lds 0 n.toNat S := (mem_lds _ _ _ _).2 ⟨Nat.zero_le _, by omega, by rw [Nat.sub_zero]; exact c1⟩
        have := h _ m0 _ m1 (by omega)
        unfold adjB at this
        rw [List.any_eq_false] at this
        refine absurd ?_ (this p hp)
        unfold matB
        rw [Bool.or_eq_true, decide_eq_true_eq, decide_eq_true_eq]
        exact .inr ⟨by omega, by omega⟩
theorem specA_some {n : Int} {xs : List S55} (O : OkBs n xs) (S : Nat) (hS : S < 1048576) (k : Nat) (hk : 40 < k) : spec_l09Apart.f k xs (S : Int) = some (apartL (adjB xs) (lds 0 n.toNat S)) := by
  have hm := O.many
  have hn := O.lands
  have e := specA_loop xs S hS (by omega) (fun p hp => by have := O.at_ p hp; omega) xs.length k 0 (by omega) (by omega) (by omega)
  rw [Int.natCast_zero, List.drop_zero] at e
  unfold spec_l09Apart.f
  rw [e, ← apM_eq O S]
  rfl
/-- The table: how many ways each set has. -/
def tabW (xs : List S55) (n N c : Nat) : List Int := (List.range N).map fun S => Wn (adjB xs) c (lds 0 n S)
def tabA (xs : List S55) (n N : Nat) : List Bool := (List.range N).map fun S => apartL (adjB xs) (lds 0 n S)
theorem tabW_length (xs : List S55) (n N c : Nat) : (tabW xs n N c).length = N := by simp [tabW]
theorem tabA_length (xs : List S55) (n N : Nat) : (tabA xs n N).length = N := by simp [tabA]
theorem tabW_rd (xs : List S55) (n N c S : Nat) (h : S < N) : rd (tabW xs n N c) (S : Int) = Wn (adjB xs) c (lds 0 n S) := by
  unfold rd tabW
  rw [Int.toNat_natCast, List.getD_eq_getElem?_getD, List.getElem?_map, List.getElem?_range h]
  rfl
theorem tabA_rd (xs : List S55) (n N S : Nat) (h : S < N) : rdOf false (tabA xs n N) (S : Int) = apartL (adjB xs) (lds 0 n S) := by
  unfold rdOf tabA
  rw [Int.toNat_natCast, List.getD_eq_getElem?_getD, List.getElem?_map, List.getElem?_range h]
  rfl
theorem GS_nonneg (S : Nat) (t : Nat → Int) (ht : ∀ q, 0 ≤ t q) : ∀ (f p : Nat), 0 ≤ GS f S t p
  | 0, _ => Int.le_refl _
  | f + 1, p => by
    have h1 := ht p
    rw [GS_succ]
    split
    · omega
    · have := GS_nonneg S t ht f ((p - 1) &&& S)
      omega
def tq (xs : List S55) (n c S q : Nat) : Int := if apartL (adjB xs) (lds 0 n q) = true then Wn (adjB xs) c (lds 0 n (S - q)) else 0
theorem tq_nonneg (xs : List S55) (n c S q : Nat) : 0 ≤ tq xs n c S q := by
  unfold tq
  split
  · exact (Wn_bound _ _ _).1
  · exact Int.le_refl _
theorem rd_set_self {row : List Int} {i : Nat} (h : i < row.length) (v : Int) : rd (row.set i v) (i : Int) = v := by
  unfold rd
  rw [Int.toNat_natCast, List.getD_eq_getElem?_getD, List.getElem?_set_self h]
  rfl
theorem l3_loop (xs : List S55) (n N c S : Nat) (hN : N ≤ 1024) (hS : S < N) (m x11 : Int) : ∀ (f k p : Nat) (row : List Int), p < f → p ≤ S → f < k → row.length = N → 0 ≤ rd row (S : Int) → rd row (S : Int) + GS f S (tq xs n c S) p ≤ 1000000000 →
    ∃ k', k ≤ k' + f ∧ spec_l09Count.l3 k m (N : Int) (tabA xs n N) (tabW xs n N c) x11 row (S : Int) (p : Int) = spec_l09Count.l2 k' m (N : Int) (tabA xs n N) (tabW xs n N c) x11 (row.set S (rd row (S : Int) + GS f S (tq xs n c S) p)) ((S + 1 : Nat) : Int) := by
  intro f
  induction f with
  | zero => intro k p row h; omega
  | succ f ih =>
    intro k p row hp hpS hk hrl h0 hb
    have H0 := Aside0.mk h0
    have HBB := Aside0.mk hb
    clear h0 hb
    obtain ⟨k, rfl⟩ : ∃ m, k = m + 1 := ⟨k - 1, by omega⟩
    have hpN : p < N := by omega
    have z1 : (0 : Int) ≤ (p : Int) := Int.natCast_nonneg _
    have z2 : (p : Int) < ((tabA xs n N).length : Int) := by rw [tabA_length]; omega
    have z3 : (0 : Int) ≤ (S : Int) := Int.natCast_nonneg _
    have z4 : (S : Int) < (row.length : Int) := by rw [hrl]; omega
    have z6 : ((S - p : Nat) : Int) < ((tabW xs n N c).length : Int) := by rw [tabW_length]; omega
    have z7 : (0 : Int) ≤ ((S - p : Nat) : Int) := Int.natCast_nonneg _
    have hSl : S < row.length := by omega
    have zle : (p - 1) &&& S ≤ p - 1 := Nat.and_le_left
    have y1 : p = 0 → k ≤ k + (f + 1) ∧ k + 1 ≤ k + (f + 1) := fun _ => by clear z2 z6 zle; omega
    have y2 : p ≠ 0 → (p - 1) &&& S < f ∧ (p - 1) &&& S ≤ S := fun _ => by clear z2 z6; omega
    have y3 : f < k := by clear z2 z6 zle; omega
    have y4 : ∀ k', k ≤ k' + f → k + 1 ≤ k' + (f + 1) := fun _ _ => by clear z2 z6 zle; omega
    have y5 : ¬ p = 0 → ¬ (p : Int) = 0 := fun _ => by clear z2 z6 zle; omega
    have y6 : S - p < N := by clear z2 z6 zle; omega
    have z5 : wrap64 ((S : Int) - (p : Int)) = ((S - p : Nat) : Int) := by rw [w64 (by clear z2 z6 zle; omega) (by clear z2 z6 zle; omega)]; clear z2 z6 zle; omega
    have z8 : wrap64 ((S : Int) + 1) = ((S + 1 : Nat) : Int) := by clear z5; rw [w64 (by clear z2 z6 zle; omega) (by clear z2 z6 zle; omega)]; clear z2 z6 zle; omega
    have zand : p ≠ 0 → Go.bits .and .i64 (wrap64 ((p : Int) - 1)) (S : Int) = (((p - 1) &&& S : Nat) : Int) := fun hp0 => by
      have e : wrap64 ((p : Int) - 1) = ((p - 1 : Nat) : Int) := by clear z5 z8 z2 z6 zle; rw [w64 (by omega) (by omega)]; omega
      rw [e, and_some _ _ (by clear e z5 z8 z2 z6 zle; omega) (by clear e z5 z8 z2 z6 zle; omega)]
    have h0 := H0.out
    have hb := HBB.out
    have eA := tabA_rd xs n N p hpN
    have eW := tabW_rd xs n N c (S - p) y6
    have tn := tq_nonneg xs n c S p
    have hrow : row.set S (rd row (S : Int)) = row := by
      unfold rd
      rw [Int.toNat_natCast, List.getD_eq_getElem?_getD, List.getElem?_eq_getElem hSl]
      exact List.set_getElem_self hSl
    have key : spec_l09Count.l3 (k + 1) m (N : Int) (tabA xs n N) (tabW xs n N c) x11 row (S : Int) (p : Int) = if (p : Int) = 0 then spec_l09Count.l2 k m (N : Int) (tabA xs n N) (tabW xs n N c) x11 (row.set S (rd row (S : Int) + tq xs n c S p)) ((S + 1 : Nat) : Int) else spec_l09Count.l3 k m (N : Int) (tabA xs n N) (tabW xs n N c) x11 (row.set S (rd row (S : Int) + tq xs n c S p)) (S : Int) (Go.bits .and .i64 (wrap64 ((p : Int) - 1)) (S : Int)) := by
      simp only [spec_l09Count.l3]
      rw [if_pos z1, if_pos z2, eA, z5, if_pos z3, if_pos z4, if_pos z7, if_pos z6, eW, z8]
      unfold tq
      by_cases ha : apartL (adjB xs) (lds 0 n p) = true
      · have hg := GS_nonneg S (tq xs n c S) (tq_nonneg xs n c S) f ((p - 1) &&& S)
        rw [GS_succ] at hb
        have et : tq xs n c S p = Wn (adjB xs) c (lds 0 n (S - p)) := by unfold tq; rw [if_pos ha]
        rw [et] at hb tn
        have hw : wrap64 (rd row (S : Int) + Wn (adjB xs) c (lds 0 n (S - p))) = rd row (S : Int) + Wn (adjB xs) c (lds 0 n (S - p)) := by
          refine w64 ?_ ?_
          · have := Int.add_nonneg h0 tn
            exact Int.le_trans (by decide) this
          · have h2 : rd row (S : Int) + Wn (adjB xs) c (lds 0 n (S - p)) ≤ 1000000000 := by
              refine Int.le_trans ?_ hb
              split
              · rw [Int.add_zero]; exact Int.le_refl _
              · rw [← Int.add_assoc]; exact Int.le_add_of_nonneg_right hg
            exact Int.le_trans h2 (by decide)
        rw [if_pos ha, if_pos ha, hw, Option.bind_some, Int.toNat_natCast]
      · rw [if_neg ha, if_neg ha, Int.add_zero, hrow]
    rw [key]
    by_cases hp0 : p = 0
    · subst hp0
      refine ⟨k, (y1 rfl).2, ?_⟩
      rw [if_pos (show ((0 : Nat) : Int) = 0 from rfl), GS_succ, if_pos rfl, Int.add_zero]
    · rw [if_neg (y5 hp0), zand hp0]
      have e1 : rd (row.set S (rd row (S : Int) + tq xs n c S p)) (S : Int) = rd row (S : Int) + tq xs n c S p := rd_set_self hSl _
      have hb2 : rd row (S : Int) + tq xs n c S p + GS f S (tq xs n c S) ((p - 1) &&& S) ≤ 1000000000 := by
        rw [GS_succ, if_neg hp0, ← Int.add_assoc] at hb
        exact hb
      obtain ⟨k', h1, h2⟩ := ih k ((p - 1) &&& S) (row.set S (rd row (S : Int) + tq xs n c S p)) (y2 hp0).1 (y2 hp0).2 y3 (by rw [List.length_set]; exact hrl) (by rw [e1]; exact Int.add_nonneg h0 tn) (by rw [e1]; exact hb2)
      refine ⟨k', y4 k' h1, ?_⟩
      rw [h2, e1, List.set_set, GS_succ, if_neg hp0, Int.add_assoc]
theorem Wn_small (A : Nat → Nat → Bool) (c : Nat) (hc : c ≤ 6) (S : List Nat) (hS : S.length ≤ 10) : 0 ≤ Wn A c S ∧ Wn A c S ≤ 60466176 := by
  have h := Wn_bound A c S
  have h2 : c ^ S.length ≤ 6 ^ 10 := Nat.le_trans (Nat.pow_le_pow_left hc _) (Nat.pow_le_pow_right (by decide) hS)
  have h3 : (6 : Nat) ^ 10 = 60466176 := by decide
  rw [h3] at h2
  omega
theorem l2_loop_ (xs : List S55) (n N c : Nat) (hn : n ≤ 10) (hN : N = 2 ^ n) (hN2 : N ≤ 1024) (hc : c + 1 ≤ 6) (m : Int) (x11 : Int) (hx : 0 ≤ x11 ∧ x11 ≤ 6) : ∀ (d k i : Nat), N - i = d → i ≤ N → 1100 * d + 5 < k →
    ∃ k', k ≤ k' + 1100 * d + 5 ∧ spec_l09Count.l2 k m (N : Int) (tabA xs n N) (tabW xs n N c) x11 ((tabW xs n N (c + 1)).take i ++ List.replicate (N - i) 0) (i : Int) = spec_l09Count.l1 k' m (N : Int) (tabA xs n N) (tabW xs n N (c + 1)) (x11 + 1) := by
  intro d
  have hx1 : wrap64 (x11 + 1) = x11 + 1 := w64 (by omega) (by omega)
  induction d with
  | zero =>
    intro k i hd hi hk
    obtain ⟨k, rfl⟩ : ∃ m, k = m + 1 := ⟨k - 1, by clear hx1; omega⟩
    have e : i = N := by clear hx1; omega
    subst e
    refine ⟨k, by clear hx1; omega, ?_⟩
    simp only [spec_l09Count.l2]
    rw [if_neg (Int.lt_irrefl _), hx1, Nat.sub_self, List.replicate_zero, List.append_nil, List.take_of_length_le (by rw [tabW_length]; exact Nat.le_refl _)]
  | succ d ih =>
    intro k i hd hi hk
    obtain ⟨k, rfl⟩ : ∃ m, k = m + 1 := ⟨k - 1, by clear hx1; omega⟩
    have hiN : i < N := by clear hx1; omega
    have q1 : (i : Int) < (N : Int) := by clear hx1; omega
    have hl : ((tabW xs n N (c + 1)).take i ++ List.replicate (N - i) (0 : Int)).length = N := by
      rw [List.length_append, List.length_take, tabW_length, List.length_replicate]; clear hx1; omega
    have hti : ((tabW xs n N (c + 1)).take i).length = i := by rw [List.length_take, tabW_length]; clear hx1; omega
    have hr : rd ((tabW xs n N (c + 1)).take i ++ List.replicate (N - i) (0 : Int)) (i : Int) = 0 := by
      unfold rd
      rw [Int.toNat_natCast, List.getD_eq_getElem?_getD, List.getElem?_append_right (by rw [hti]; exact Nat.le_refl _), hti, Nat.sub_self, List.getElem?_replicate, if_pos (by clear hx1; omega)]
      rfl
    have hways := ways_step (adjB xs) n c i (i + 1) (by rw [← hN]; exact hiN) (Nat.lt_succ_self _)
    have hsm := Wn_small (adjB xs) (c + 1) hc (lds 0 n i) (Nat.le_trans (lds_length _ _ _) hn)
    have hgs : GS (i + 1) i (tq xs n c i) i = Wn (adjB xs) (c + 1) (lds 0 n i) := hways
    obtain ⟨k', h1, h2⟩ := l3_loop xs n N c i hN2 hiN m x11 (i + 1) k i _ (Nat.lt_succ_self _) (Nat.le_refl _) (by clear hx1 hr hgs hways hsm; omega) hl (by rw [hr]; exact Int.le_refl _) (by rw [hr, hgs]; exact Int.le_trans (by rw [Int.zero_add]; exact hsm.2) (by decide))
    rw [hr, hgs, Int.zero_add] at h2
    have es : ((tabW xs n N (c + 1)).take i ++ List.replicate (N - i) (0 : Int)).set i (Wn (adjB xs) (c + 1) (lds 0 n i)) = (tabW xs n N (c + 1)).take (i + 1) ++ List.replicate (N - (i + 1)) 0 := by
      have hlt : i < (tabW xs n N (c + 1)).length := by rw [tabW_length]; exact hiN
      rw [List.set_append_right _ _ (by rw [hti]; exact Nat.le_refl _), hti, Nat.sub_self, show N - i = (N - (i + 1)) + 1 by (clear hx1 hr hgs hways hsm; omega), List.replicate_succ, List.set_cons_zero, List.take_succ_eq_append_getElem hlt, List.append_assoc]
      congr 1
      have : (tabW xs n N (c + 1))[i] = Wn (adjB xs) (c + 1) (lds 0 n i) := by simp [tabW]
      rw [this]
      rfl
    rw [es] at h2
    obtain ⟨k'', g1, g2⟩ := ih k' (i + 1) (by clear hx1 hr hgs hways hsm; omega) hiN (by clear hx1 hr hgs hways hsm; omega)
    refine ⟨k'', by clear hx1 hr hgs hways hsm; omega, ?_⟩
    rw [← g2, ← h2]
    simp only [spec_l09Count.l2]
    rw [if_pos q1]
theorem l1_loop_ (xs : List S55) (n N m : Nat) (hn : n ≤ 10) (hN : N = 2 ^ n) (hN2 : 1 ≤ N ∧ N ≤ 1024) (hm : m ≤ 6) : ∀ (d k c : Nat), m - c = d → c ≤ m → 1200000 * d + 5 < k →
    spec_l09Count.l1 k (m : Int) (N : Int) (tabA xs n N) (tabW xs n N c) (c : Int) = some (Wn (adjB xs) m (lds 0 n (N - 1))) := by
  intro d
  induction d with
  | zero =>
    intro k c hd hi hk
    obtain ⟨k, rfl⟩ : ∃ m, k = m + 1 := ⟨k - 1, by omega⟩
    have e : c = m := by omega
    subst e
    have e1 : wrap64 ((N : Int) - 1) = ((N - 1 : Nat) : Int) := by rw [w64 (by omega) (by omega)]; omega
    simp only [spec_l09Count.l1]
    rw [if_neg (Int.lt_irrefl _), e1, if_pos (Int.natCast_nonneg _), tabW_length, if_pos (by clear e1; omega), tabW_rd _ _ _ _ _ (by clear e1; omega)]
  | succ d ih =>
    intro k c hd hi hk
    obtain ⟨k, rfl⟩ : ∃ m, k = m + 1 := ⟨k - 1, by omega⟩
    have q1 : (c : Int) < (m : Int) := by omega
    obtain ⟨k', h1, h2⟩ := l2_loop_ xs n N c hn hN hN2.2 (by omega) (m : Int) (c : Int) (by omega) N k 0 (Nat.sub_zero _) (Nat.zero_le _) (by omega)
    rw [List.take_zero, List.nil_append, Nat.sub_zero, Int.natCast_zero, show (c : Int) + 1 = ((c + 1 : Nat) : Int) by omega] at h2
    simp only [spec_l09Count.l1]
    rw [if_pos q1, if_pos (Int.natCast_nonneg _), if_pos (by omega), Int.toNat_natCast, h2]
    exact ih k' (c + 1) (by omega) (by omega) (by omega)
theorem l0_loop_ {n : Int} {xs : List S55} (O : OkBs n xs) (N m : Nat) (hN : N = 2 ^ n.toNat) (hN2 : 1 ≤ N ∧ N ≤ 1024) : ∀ (d k i : Nat), N - i = d → i ≤ N → d + 50 < k →
    spec_l09Count.l0 k xs (m : Int) (N : Int) ((tabA xs n.toNat N).take i) (List.replicate N 0) (i : Int) = spec_l09Count.l1 (k - d - 1) (m : Int) (N : Int) (tabA xs n.toNat N) (tabW xs n.toNat N 0) 0 := by
  intro d
  induction d with
  | zero =>
    intro k i hd hi hk
    obtain ⟨k, rfl⟩ : ∃ m, k = m + 1 := ⟨k - 1, by omega⟩
    have e : i = N := by omega
    subst e
    simp only [spec_l09Count.l0]
    rw [if_neg (Int.lt_irrefl _), List.length_replicate, if_pos (by omega), List.take_of_length_le (by rw [tabA_length]; exact Nat.le_refl _)]
    have e0 : (List.replicate i (0 : Int)).set (0 : Int).toNat 1 = tabW xs n.toNat i 0 := by
      apply List.ext_getElem
      · rw [List.length_set, List.length_replicate, tabW_length]
      · intro j h1 h2
        rw [List.length_set, List.length_replicate] at h1
        have : (tabW xs n.toNat i 0)[j] = Wn (adjB xs) 0 (lds 0 n.toNat j) := by simp [tabW]
        rw [this, Wn_zero, List.getElem_set]
        have hz := lds_nil n.toNat 0 j (by rw [← hN]; exact h1)
        by_cases hj : j = 0
        · subst hj
          rw [if_pos (show (0 : Int).toNat = 0 from rfl), if_pos (hz.2 rfl)]
        · rw [if_neg (show ¬ (0 : Int).toNat = j from fun e => hj e.symm), if_neg (fun e => hj (hz.1 e)), List.getElem_replicate]
    rw [e0]
    rfl
  | succ d ih =>
    intro k i hd hi hk
    obtain ⟨k, rfl⟩ : ∃ m, k = m + 1 := ⟨k - 1, by omega⟩
    have hiN : i < N := by omega
    have hti : ((tabA xs n.toNat N).take i).length = i := by rw [List.length_take, tabA_length]; omega
    have ea := specA_some O i (by omega) k (by omega)
    have hlt : i < (tabA xs n.toNat N).length := by rw [tabA_length]; exact hiN
    have et := List.take_succ_eq_append_getElem hlt
    have ei : (tabA xs n.toNat N)[i] = apartL (adjB xs) (lds 0 n.toNat i) := by simp [tabA]
    have e := ih k (i + 1) (by omega) (by omega) (by omega)
    rw [et, ei] at e
    have en : wrap64 ((i : Int) + 1) = ((i + 1 : Nat) : Int) := nxt (n := i + 1) (by omega) (by omega)
    have ek : k + 1 - (d + 1) - 1 = k - d - 1 := by clear en; omega
    simp only [spec_l09Count.l0]
    rw [if_pos (by clear en; omega), ea, Option.bind_some, if_pos (by rw [hti]; clear en; omega), en, e, ek]
theorem shl_some (n : Int) (hn : 1 ≤ n ∧ n ≤ 10) : shl .i64 1 (IntKind.u64.wrap n) = ((2 ^ n.toNat : Nat) : Int) := by
  have e1 : IntKind.u64.wrap n = n := by rw [u64w2]; omega
  rw [e1]
  have : n = 1 ∨ n = 2 ∨ n = 3 ∨ n = 4 ∨ n = 5 ∨ n = 6 ∨ n = 7 ∨ n = 8 ∨ n = 9 ∨ n = 10 := by omega
  rcases this with h | h | h | h | h | h | h | h | h | h <;> subst h <;> decide
theorem specC_count {n : Int} {xs : List S55} (O : OkBs n xs) (m : Nat) (hm : m ≤ 6) (k : Nat) (hk : 7300000 < k) : spec_l09Count.f k n xs (m : Int) = some (cnt (adjB xs) m n.toNat []) := by
  have hn := O.lands
  have hp : 2 ^ n.toNat ≤ 2 ^ 10 := Nat.pow_le_pow_right (by decide) (by omega)
  have hp1 : 1 ≤ 2 ^ n.toNat := Nat.pow_pos (by decide)
  have hp2 : (2 : Nat) ^ 10 = 1024 := by decide
  rw [hp2] at hp
  have e0 : 0 ≤ IntKind.u64.wrap n := by rw [u64w2]; exact Int.emod_nonneg _ (by decide)
  unfold spec_l09Count.f
  rw [if_pos e0, shl_some n hn, if_pos (Int.natCast_nonneg _), Int.toNat_natCast]
  obtain ⟨N, hN⟩ : ∃ N, N = 2 ^ n.toNat := ⟨_, rfl⟩
  rw [← hN] at hp hp1 ⊢
  have a1 := l0_loop_ O N m hN ⟨hp1, hp⟩ N k 0 (Nat.sub_zero _) (Nat.zero_le _) (by clear e0; omega)
  have a2 := l1_loop_ xs n.toNat N m (by clear e0; omega) hN ⟨hp1, hp⟩ hm m (k - N - 1) 0 (Nat.sub_zero _) (Nat.zero_le _) (by clear e0 a1; omega)
  rw [List.take_zero, Int.natCast_zero] at a1
  rw [Int.natCast_zero] at a2
  rw [if_pos (by clear e0 a1 a2; omega), a1, a2, hN, lds_full, Wn_cnt]
end Go.Proofs.Ytlkpnjcbokeoeaa.Pure
