/- Labels: handed over, measured and compared. -/
import Derived.Test.YtjfkjmfdckbecaaPrint0
import Derived.Test.YtjfkjmfdckbecaaPrint7
import Derived.Test.YtjfkjmfdckbecaaPrint11
import Derived.Test.YtjfkjmfdckbecaaPrint12
import Derived.Test.YtjfkjmfdckbecaaPrint13
import Derived.Test.YtjfkjmfdckbecaaNum
import Derived.Test.YtjfkjmfdckbecaaIntsR
import Derived.Test.YtjfkjmfdckbecaaInts
import Derived.Test.YtjfkjmfdckbecaaIntsQ
import Derived.Test.YtjfkjmfdckbecaaIntsE
namespace Go.Proofs.Ytjfkjmfdckbecaa.Pure
open Go.RowKit Go.Proofs.Ytjfkjmfdckbecaa.Print Go.Proofs.YtjfkjmfdckbecaaW.PrintWords Go.Proofs.YtjfkjmfdckbecaaW.PrintLast Go.Proofs.YtjfkjmfdckbecaaW.PrintMore
set_option linter.unusedVariables false
set_option linter.unusedSimpArgs false
theorem rdLb {xs : List S36} {i : Nat} (h : i < xs.length) : rd_T36 xs (i : Int) = xs[i] := by simp [rd_T36, h]
theorem rdLw {xs : List S59} {i : Nat} (h : i < xs.length) : rd_T59 xs (i : Int) = xs[i] := by simp [rd_T59, h]
def labOf (x : S59) : S36 := ⟨x.f0, x.f1, x.f2, x.f3⟩
def labsOf (xs : List S59) : List S36 := xs.map labOf
theorem labsOf_length (xs : List S59) : (labsOf xs).length = xs.length := by simp [labsOf]
theorem toLab_some (x : S59) (hx : x.f2.length ≤ 1048576) (k : Nat) (hk : x.f2.length < k) : laws_toLabel.f k x.f0 x.f1 x.f2 x.f3 = some (x.f0, x.f1, x.f2, x.f3) := by
  unfold laws_toLabel.f
  rw [toInt_some x.f2 (by omega) k hk]; rfl
theorem toLabs_loop (xs : List S59) (hl : xs.length ≤ 4611686018427387903) (hw : ∀ c ∈ xs, c.f2.length ≤ 1048576) : ∀ (d k i : Nat), xs.length - i = d → i ≤ xs.length → d + 1048576 < k → laws_toLabelS.l0 k xs ((xs.take i).map labOf ++ List.replicate (xs.length - i) z36) i = some (xs.map labOf) := by
  intro d
  induction d with
  | zero =>
    intro k i hd hi hk
    obtain ⟨k, rfl⟩ : ∃ m, k = m + 1 := ⟨k - 1, by omega⟩
    simp only [laws_toLabelS.l0]
    rw [if_neg (by omega), hd, show i = xs.length by omega]
    simp
  | succ d ih =>
    intro k i hd hi hk
    obtain ⟨k, rfl⟩ : ∃ m, k = m + 1 := ⟨k - 1, by omega⟩
    have h : i < xs.length := by omega
    have hc := hw _ (List.getElem_mem h)
    simp only [laws_toLabelS.l0]
    rw [if_pos (by omega), if_pos (by omega), rdLw h, toLab_some _ hc k (by omega), Option.bind_some, if_pos (by simp; omega), nxt h hl]
    have := ih k (i + 1) (by omega) (by omega) (by omega)
    rw [← this]
    congr 1
    have e := set_step ((xs.take i).map labOf) z36 (labOf xs[i]) (n := xs.length) (i := i) (by simp; omega) h
    rw [show ((i : Int)).toNat = i by omega]
    refine Eq.trans e ?_
    congr 1
    rw [List.take_succ_eq_append_getElem h, List.map_append]
    rfl
theorem toLabs_some (xs : List S59) (hl : xs.length ≤ 1048576) (hw : ∀ c ∈ xs, c.f2.length ≤ 1048576) (k : Nat) (hk : xs.length + 1048576 < k) : laws_toLabelS.f k xs = some (labsOf xs) := by
  unfold laws_toLabelS.f
  rw [if_pos (by omega), if_pos (by omega), show ((xs.length : Int)).toNat = xs.length by omega]
  have := toLabs_loop xs (by omega) hw xs.length k 0 (by omega) (by omega) hk
  simpa [labsOf] using this
theorem labsOf_bound {xs : List S59} (hw : ∀ c ∈ xs, c.f2.length ≤ 1048576) : ∀ c ∈ labsOf xs, c.f2.length ≤ 1048576 := by
  intro c hc
  obtain ⟨x, hx, rfl⟩ := List.mem_map.1 hc
  exact hw x hx
theorem eqLab_some (x : S36) (hx : x.f2.length ≤ 1048576) (k : Nat) (hk : x.f2.length < k) : laws_eqLabel.f k x.f0 x.f1 x.f2 x.f3 x.f0 x.f1 x.f2 x.f3 = some true := by
  unfold laws_eqLabel.f
  rw [if_pos rfl, if_pos rfl, eqInt_some x.f2 (by omega) k hk, Option.bind_some, if_pos rfl, if_pos rfl]
theorem eqLabs_loop (xs : List S36) (hl : xs.length ≤ 4611686018427387903) (hw : ∀ c ∈ xs, c.f2.length ≤ 1048576) : ∀ (d k i : Nat), xs.length - i = d → i ≤ xs.length → d + 1048576 < k → laws_eqLabelS.l0 k xs xs i = some true := by
  intro d
  induction d with
  | zero =>
    intro k i hd hi hk
    obtain ⟨k, rfl⟩ : ∃ m, k = m + 1 := ⟨k - 1, by omega⟩
    simp only [laws_eqLabelS.l0]
    rw [if_neg (by omega)]
  | succ d ih =>
    intro k i hd hi hk
    obtain ⟨k, rfl⟩ : ∃ m, k = m + 1 := ⟨k - 1, by omega⟩
    have h : i < xs.length := by omega
    have hc := hw _ (List.getElem_mem h)
    simp only [laws_eqLabelS.l0]
    rw [if_pos (by omega), if_pos (by omega), if_pos (by omega), rdLb h, eqLab_some _ hc k (by omega), Option.bind_some, if_pos rfl, nxt h hl]
    exact ih k (i + 1) (by omega) (by omega) (by omega)
theorem eqLabs_some (xs : List S36) (hl : xs.length ≤ 1048576) (hw : ∀ c ∈ xs, c.f2.length ≤ 1048576) (k : Nat) (hk : xs.length + 1048576 < k) : laws_eqLabelS.f k xs xs = some true := by
  unfold laws_eqLabelS.f
  rw [if_pos rfl]
  exact eqLabs_loop xs (by omega) hw xs.length k 0 (by omega) (by omega) hk
theorem szI_some (xs : List Int) (hl : xs.length ≤ 9223372036854775807) (a : Int) (h0 : 0 ≤ a) (h1 : a ≤ 1048576) : laws_szInt64S.f xs a = some (if a < (xs.length : Int) then (-1 : Int) else a - (xs.length : Int)) := by
  unfold laws_szInt64S.f
  rw [w64 (by omega) (by omega)]
  by_cases h : a - (xs.length : Int) < 0
  · rw [if_pos h, if_pos (by omega)]
  · rw [if_neg h, if_neg (by omega)]
theorem szLab_some (x : S59) (hl : x.f2.length ≤ 9223372036854775807) (a : Int) (h0 : 0 ≤ a) (h1 : a ≤ 1048576) : laws_szLabel.f x.f0 x.f1 x.f2 x.f3 a = some (if a < (x.f2.length : Int) then (-1 : Int) else a - (x.f2.length : Int)) := by
  unfold laws_szLabel.f
  rw [szI_some x.f2 hl a h0 h1, Option.bind_some]
  by_cases h : a < (x.f2.length : Int)
  · rw [if_pos h, if_pos (by omega)]
  · rw [if_neg h, if_neg (by omega)]
theorem szLabs_loop (xs : List S59) (hl : xs.length ≤ 4611686018427387903) (hw : ∀ c ∈ xs, c.f2.length ≤ 9223372036854775807) : ∀ (d k i : Nat) (a : Int), xs.length - i = d → i ≤ xs.length → d < k → 0 ≤ a → a ≤ 1048576 →
    ∃ r, laws_szLabelS.l0 k xs a i = some r ∧ (0 ≤ r → r ≤ a ∧ ∀ t (h : t < xs.length), i ≤ t → xs[t].f2.length ≤ 1048576) := by
  intro d
  induction d with
  | zero =>
    intro k i a hd hi hk h0 h1
    obtain ⟨k, rfl⟩ : ∃ m, k = m + 1 := ⟨k - 1, by omega⟩
    simp only [laws_szLabelS.l0]
    rw [if_neg (by omega)]
    exact ⟨a, rfl, fun _ => ⟨by omega, fun t h ht => by omega⟩⟩
  | succ d ih =>
    intro k i a hd hi hk h0 h1
    obtain ⟨k, rfl⟩ : ∃ m, k = m + 1 := ⟨k - 1, by omega⟩
    have h : i < xs.length := by omega
    simp only [laws_szLabelS.l0]
    rw [if_pos (by omega), if_pos (by omega), rdLw h, szLab_some _ (hw _ (List.getElem_mem h)) a h0 h1, Option.bind_some, nxt h hl]
    by_cases hb : a < (xs[i].f2.length : Int)
    · rw [if_pos hb, if_pos (by omega)]
      exact ⟨-1, rfl, fun h => by omega⟩
    · rw [if_neg hb, if_neg (by omega)]
      obtain ⟨r, e, hr⟩ := ih k (i + 1) (a - xs[i].f2.length) (by omega) (by omega) (by omega) (by omega) (by omega)
      refine ⟨r, e, fun h0 => ⟨by have := (hr h0).1; omega, fun t ht hit => ?_⟩⟩
      by_cases e : t = i
      · subst e; omega
      · exact (hr h0).2 t ht (by omega)
theorem szLabs_some (xs : List S59) (hl : xs.length ≤ 4611686018427387903) (hw : ∀ c ∈ xs, c.f2.length ≤ 9223372036854775807) (k : Nat) (hk : xs.length < k) : ∃ r, laws_szLabelS.f k xs 1048576 = some r ∧ (0 ≤ r → xs.length ≤ 1048576 ∧ ∀ c ∈ xs, c.f2.length ≤ 1048576) := by
  unfold laws_szLabelS.f
  rw [w64 (by omega) (by omega)]
  by_cases h : (1048576 : Int) - xs.length < 0
  · rw [if_pos h]; exact ⟨-1, rfl, fun h => by omega⟩
  · rw [if_neg h]
    obtain ⟨r, e, hr⟩ := szLabs_loop xs hl hw xs.length k 0 (1048576 - xs.length) (by omega) (by omega) hk (by omega) (by omega)
    refine ⟨r, e, fun h0 => ⟨by omega, fun c hc => ?_⟩⟩
    obtain ⟨t, ht, e⟩ := List.mem_iff_getElem.1 hc
    rw [← e]
    exact (hr h0).2 t ht (by omega)
theorem wfLabs {xs : List S59} (h : wfS wf59 xs) : ∀ c ∈ xs, c.f2.length ≤ 9223372036854775807 := fun c hc => (h.2 c hc).2.2.1.1
end Go.Proofs.Ytjfkjmfdckbecaa.Pure
