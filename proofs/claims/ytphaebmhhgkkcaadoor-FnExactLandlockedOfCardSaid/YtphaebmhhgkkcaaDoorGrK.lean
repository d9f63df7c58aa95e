/- Coasts are counted alike by the program and the reference. -/
import Derived.Test.YtphaebmhhgkkcaaDoorPrint0
import Derived.Test.YtphaebmhhgkkcaaDoorPrint4
import Derived.Test.YtphaebmhhgkkcaaDoorPrint5
import Derived.Test.YtphaebmhhgkkcaaDoorPrint10
import Derived.Test.YtphaebmhhgkkcaaDoorPrint11
import Derived.Test.YtphaebmhhgkkcaaDoorNum
import Derived.Test.YtphaebmhhgkkcaaDoorInS
import Derived.Test.YtphaebmhhgkkcaaDoorGrA
import Derived.Test.YtphaebmhhgkkcaaDoorGrV
import Derived.Test.YtphaebmhhgkkcaaDoorGrC
namespace Go.Proofs.YtphaebmhhgkkcaaDoor.Pure
open Go.RowKit Go.Proofs.YtphaebmhhgkkcaaDoor.Print Go.Proofs.YtphaebmhhgkkcaaDoorW.PrintWords Go.Proofs.YtphaebmhhgkkcaaDoorW.PrintLast Go.Proofs.YtphaebmhhgkkcaaDoorW.PrintMore
set_option linter.unusedVariables false
set_option linter.unusedSimpArgs false
def dot (xs : List ByteArray) (i j : Int) : Int := if bt (rdOf ByteArray.empty xs i) j = 46 then 1 else 0
theorem dot_01 (xs : List ByteArray) (i j : Int) : 0 ≤ dot xs i j ∧ dot xs i j ≤ 1 := by unfold dot; split <;> omega
def cntP (xs : List ByteArray) (p : S57) : Int := dot xs p.f0 ((p.f1 + 1) % (wide xs : Int)) + (dot xs p.f0 ((p.f1 + (wide xs : Int) - 1) % (wide xs : Int)) + ((if p.f0 > 0 then dot xs (p.f0 - 1) p.f1 else 0) + (if p.f0 < (xs.length : Int) - 1 then dot xs (p.f0 + 1) p.f1 else 0)))
theorem cntP_04 (xs : List ByteArray) (p : S57) : 0 ≤ cntP xs p ∧ cntP xs p ≤ 4 := by
  unfold cntP
  have a := dot_01 xs p.f0 ((p.f1 + 1) % (wide xs : Int))
  have b := dot_01 xs p.f0 ((p.f1 + (wide xs : Int) - 1) % (wide xs : Int))
  have c := dot_01 xs (p.f0 - 1) p.f1
  have d := dot_01 xs (p.f0 + 1) p.f1
  split <;> split <;> omega
def nx (xs : List ByteArray) (p : S57) : List S57 := [⟨p.f0, (p.f1 + 1) % (wide xs : Int)⟩, ⟨p.f0, (p.f1 + (wide xs : Int) - 1) % (wide xs : Int)⟩] ++ ((if p.f0 > 0 then [⟨p.f0 - 1, p.f1⟩] else []) ++ (if p.f0 < (xs.length : Int) - 1 then [⟨p.f0 + 1, p.f1⟩] else []))
def dotq (xs : List ByteArray) (q : S57) : Int := dot xs q.f0 q.f1
theorem nx_sum (xs : List ByteArray) (p : S57) : ((nx xs p).map (dotq xs)).sum = cntP xs p := by
  unfold nx cntP
  split <;> split <;> simp [dotq] <;> omega
theorem nx_length (xs : List ByteArray) (p : S57) : (nx xs p).length ≤ 4 := by
  unfold nx
  split <;> split <;> simp
theorem tmodw {x : Int} {w : Nat} (h : 0 ≤ x) : Int.tmod x (w : Int) = x % (w : Int) := Int.tmod_eq_emod_of_nonneg h
theorem next_some {xs : List ByteArray} (g : Grid xs) (i j : Nat) (hi : i < xs.length) (hj : j < wide xs) : impl_nextTo.f xs (i : Int) (j : Int) = some (nx xs ⟨(i : Int), (j : Int)⟩) := by
  have g2 := g.l16
  have w1 := g.w1
  have w2 := g.w32
  unfold impl_nextTo.f nx
  have ew : ((rdOf ByteArray.empty xs 0).size : Int) = (wide xs : Int) := rfl
  rw [if_pos (by omega), ew, if_neg (by omega), w64 (x := (j : Int) + 1) (by omega) (by omega), w64 (x := (j : Int) + (wide xs : Int)) (by omega) (by omega), w64 (x := (j : Int) + (wide xs : Int) - 1) (by omega) (by omega), tmodw (by omega), tmodw (by omega), Option.bind_some, w64 (x := (xs.length : Int) - 1) (by omega) (by omega)]
  dsimp only
  by_cases h1 : (i : Int) > 0
  · rw [if_pos h1, if_pos h1, if_pos (by simp), Option.bind_some, w64 (x := (i : Int) - 1) (by omega) (by omega)]
    by_cases h2 : (i : Int) < (xs.length : Int) - 1
    · rw [if_pos h2, if_pos h2, if_pos (by simp), w64 (by omega) (by omega)]
      simp
    · rw [if_neg h2, if_neg h2]; simp
  · rw [if_neg h1, if_neg h1]
    by_cases h2 : (i : Int) < (xs.length : Int) - 1
    · rw [if_pos h2, if_pos h2, if_pos (by simp), w64 (by omega) (by omega)]
      simp
    · rw [if_neg h2, if_neg h2]; simp
/-- A cell of the grid. -/
def inG (xs : List ByteArray) (q : S57) : Prop := ∃ a b : Nat, q = ⟨(a : Int), (b : Int)⟩ ∧ a < xs.length ∧ b < wide xs
theorem nx_in {xs : List ByteArray} (g : Grid xs) (i j : Nat) (hi : i < xs.length) (hj : j < wide xs) : ∀ q ∈ nx xs ⟨(i : Int), (j : Int)⟩, inG xs q := by
  have w1 := g.w1
  have m1 := Int.emod_nonneg ((j : Int) + 1) (show (wide xs : Int) ≠ 0 by omega)
  have m2 := Int.emod_lt_of_pos ((j : Int) + 1) (show (0 : Int) < wide xs by omega)
  have m3 := Int.emod_nonneg ((j : Int) + (wide xs : Int) - 1) (show (wide xs : Int) ≠ 0 by omega)
  have m4 := Int.emod_lt_of_pos ((j : Int) + (wide xs : Int) - 1) (show (0 : Int) < wide xs by omega)
  intro q hq
  unfold nx at hq
  simp only [List.mem_append, List.mem_cons, List.not_mem_nil, or_false] at hq
  rcases hq with (rfl | rfl) | hq | hq
  · exact ⟨i, (((j : Int) + 1) % (wide xs : Int)).toNat, by rw [Int.toNat_of_nonneg m1], hi, by omega⟩
  · exact ⟨i, (((j : Int) + (wide xs : Int) - 1) % (wide xs : Int)).toNat, by rw [Int.toNat_of_nonneg m3], hi, by omega⟩
  · split at hq
    · simp only [List.mem_singleton] at hq
      subst hq
      exact ⟨i - 1, j, by congr 1; omega, by omega, hj⟩
    · cases hq
  · split at hq
    · simp only [List.mem_singleton] at hq
      subst hq
      exact ⟨i + 1, j, by congr 1, by omega, hj⟩
    · cases hq
theorem rdC {xs : List S57} {i : Nat} (h : i < xs.length) : rd_T57 xs (i : Int) = xs[i] := by simp [rd_T57, h]
theorem near_loop {xs : List ByteArray} (g : Grid xs) (cs ns : List S57) (hn : ∀ q ∈ ns, inG xs q) (hl : ns.length ≤ 1000) (i : Nat) (hi : i + 1 ≤ 100000) (R : Int) : ∀ (d k j : Nat) (acc : Int), ns.length - j = d → j ≤ ns.length → d < k → 0 ≤ acc → acc + d ≤ 10000000 →
    (∀ m, k ≤ m + d + 1 → impl_coastOf.l0 m xs (acc + ((ns.drop j).map (dotq xs)).sum) cs (cs.length : Int) ((i + 1 : Nat) : Int) = some R) →
    impl_coastOf.l1 k xs acc cs (cs.length : Int) i ns (ns.length : Int) j = some R := by
  intro d
  induction d with
  | zero =>
    intro k j acc hd hj hk h0 hb hv
    obtain ⟨k, rfl⟩ : ∃ m, k = m + 1 := ⟨k - 1, by omega⟩
    have e := hv k (by omega)
    rw [List.drop_eq_nil_of_le (by omega), List.map_nil, List.sum_nil, Int.add_zero] at e
    simp only [impl_coastOf.l1]
    rw [if_neg (by omega), nxt (n := i + 1) (by omega) (by omega)]
    exact e
  | succ d ih =>
    intro k j acc hd hj hk h0 hb hv
    obtain ⟨k, rfl⟩ : ∃ m, k = m + 1 := ⟨k - 1, by omega⟩
    have h : j < ns.length := by omega
    obtain ⟨a, b, eq, ha, hb2⟩ := hn _ (List.getElem_mem h)
    have hr := g.row _ (List.getElem_mem ha)
    have es : ((ns.drop j).map (dotq xs)).sum = dot xs (a : Int) (b : Int) + ((ns.drop (j + 1)).map (dotq xs)).sum := by
      rw [List.drop_eq_getElem_cons h, List.map_cons, List.sum_cons, eq]; rfl
    simp only [impl_coastOf.l1]
    rw [if_pos (by omega), if_pos (by omega), if_pos (by omega), rdC h, eq]
    dsimp only
    rw [if_pos (by omega), if_pos (by omega), if_pos (by omega), rdS ha, if_pos (by omega), nxt h (by omega)]
    have ed : dot xs (a : Int) (b : Int) = if bt xs[a] (b : Int) = 46 then 1 else 0 := by unfold dot; rw [rdS ha]
    by_cases hc : bt xs[a] (b : Int) = 46
    · rw [if_pos hc] at ed ⊢
      rw [w64 (by omega) (by omega)]
      exact ih k (j + 1) (acc + 1) (by omega) (by omega) (by omega) (by omega) (by omega) (fun m hm => by have := hv m (by omega); rwa [es, ed, ← Int.add_assoc] at this)
    · rw [if_neg hc] at ed ⊢
      exact ih k (j + 1) acc (by omega) (by omega) (by omega) (by omega) (by omega) (fun m hm => by have := hv m (by omega); rwa [es, ed, Int.zero_add] at this)
theorem coast_loop {xs : List ByteArray} (g : Grid xs) (cs : List S57) (hc : ∀ q ∈ cs, inG xs q) (hl : cs.length ≤ 10000) : ∀ (d k i : Nat) (acc : Int), cs.length - i = d → i ≤ cs.length → d * 6 < k → 0 ≤ acc → acc + 4 * d ≤ 1000000 →
    impl_coastOf.l0 k xs acc cs (cs.length : Int) i = some (acc + ((cs.drop i).map (cntP xs)).sum) := by
  intro d
  induction d with
  | zero =>
    intro k i acc hd hi hk h0 hb
    obtain ⟨k, rfl⟩ : ∃ m, k = m + 1 := ⟨k - 1, by omega⟩
    simp only [impl_coastOf.l0]
    rw [if_neg (by omega), List.drop_eq_nil_of_le (by omega), List.map_nil, List.sum_nil, Int.add_zero]
  | succ d ih =>
    intro k i acc hd hi hk h0 hb
    obtain ⟨k, rfl⟩ : ∃ m, k = m + 1 := ⟨k - 1, by omega⟩
    have h : i < cs.length := by omega
    obtain ⟨a, b, eq, ha, hb2⟩ := hc _ (List.getElem_mem h)
    have n4 := nx_length xs ⟨(a : Int), (b : Int)⟩
    have c4 := cntP_04 xs ⟨(a : Int), (b : Int)⟩
    simp only [impl_coastOf.l0]
    rw [if_pos (by omega), if_pos (by omega), if_pos (by omega), rdC h, List.drop_eq_getElem_cons h, List.map_cons, List.sum_cons, eq]
    dsimp only
    rw [next_some g a b ha hb2, Option.bind_some]
    refine near_loop g cs (nx xs ⟨(a : Int), (b : Int)⟩) (nx_in g a b ha hb2) (by omega) i (by omega) _ (nx xs ⟨(a : Int), (b : Int)⟩).length k 0 acc (by omega) (by omega) (by omega) h0 (by omega) (fun m hm => ?_)
    rw [List.drop_zero, nx_sum, ih m (i + 1) _ (by omega) (by omega) (by omega) (by omega) (by omega), Int.add_assoc]
theorem rowFrom_in {xs : List ByteArray} (i : Nat) (hi : i < xs.length) (s : ByteArray) (hs : s.size = wide xs) (c : Int) : ∀ (d j : Nat), j + d ≤ wide xs → ∀ q ∈ rowFrom s c (i : Int) d j, inG xs q := by
  intro d
  induction d with
  | zero => intro j hj q hq; simp [rowFrom] at hq
  | succ d ih =>
    intro j hj q hq
    unfold rowFrom at hq
    rcases List.mem_append.1 hq with hq | hq
    · split at hq
      · rw [List.mem_singleton] at hq
        exact ⟨i, j, hq, hi, by omega⟩
      · cases hq
    · exact ih (j + 1) (by omega) q hq
theorem cellsFrom_in {xs : List ByteArray} (g : Grid xs) (c : Int) : ∀ (d i : Nat), i + d ≤ xs.length → ∀ q ∈ cellsFrom xs c d i, inG xs q := by
  intro d
  induction d with
  | zero => intro i hi q hq; simp [cellsFrom] at hq
  | succ d ih =>
    intro i hi q hq
    have h : i < xs.length := by omega
    unfold cellsFrom at hq
    rw [rdS h] at hq
    rcases List.mem_append.1 hq with hq | hq
    · exact rowFrom_in i h xs[i] (g.row _ (List.getElem_mem h)) c xs[i].size 0 (by have := g.row _ (List.getElem_mem h); omega) q hq
    · exact ih (i + 1) (by omega) q hq
theorem cellsFrom_length {xs : List ByteArray} (g : Grid xs) (c : Int) : ∀ (d i : Nat), i + d ≤ xs.length → (cellsFrom xs c d i).length ≤ d * 32 := by
  intro d
  induction d with
  | zero => intro i hi; simp [cellsFrom]
  | succ d ih =>
    intro i hi
    have h : i < xs.length := by omega
    have := rowFrom_length xs[i] c (i : Int) xs[i].size 0
    have hr := g.row _ (List.getElem_mem h)
    have hw := g.w32
    have := ih (i + 1) (by omega)
    unfold cellsFrom
    rw [rdS h, List.length_append]
    omega
theorem coast_impl {xs : List ByteArray} (g : Grid xs) (c : Int) (k : Nat) (hk : 10000 < k) : impl_coastOf.f k xs c = some (((cellsL xs c).map (cntP xs)).sum) := by
  have l := cellsFrom_length g c xs.length 0 (by omega)
  have g2 := g.l16
  unfold impl_coastOf.f
  rw [cells_some c g k (by omega), Option.bind_some]
  have e := coast_loop g (cellsL xs c) (cellsFrom_in g c xs.length 0 (by omega)) (by unfold cellsL; omega) (cellsL xs c).length k 0 0 (by omega) (by omega) (by unfold cellsL; omega) (by omega) (by unfold cellsL; omega)
  rw [Int.natCast_zero, List.drop_zero, Int.zero_add] at e
  exact e
theorem east_some {xs : List ByteArray} (g : Grid xs) (i j : Nat) (hi : i < xs.length) (hj : j < wide xs) : spec_l12East.f xs (i : Int) (j : Int) = some (bt (rdOf ByteArray.empty xs (i : Int)) (((j : Int) + 1) % (wide xs : Int))) := by
  have w1 := g.w1
  have w2 := g.w32
  have hr := g.row _ (List.getElem_mem hi)
  have m1 := Int.emod_nonneg ((j : Int) + 1) (show (wide xs : Int) ≠ 0 by omega)
  have m2 := Int.emod_lt_of_pos ((j : Int) + 1) (show (0 : Int) < wide xs by omega)
  unfold spec_l12East.f
  rw [if_pos (by omega), if_pos (by omega), rdS hi, hr, if_neg (by omega), w64 (by omega) (by omega), tmodw (by omega), if_pos m1, if_pos m2]
theorem sj4 {xs : List ByteArray} (g : Grid xs) (c : Int) (i j : Nat) (hi : i < xs.length) (hj : j < wide xs) (k : Nat) : ∀ (a : Int) (b : Bool), 0 ≤ a → a ≤ 2000000 → spec_l12Coast.j4 (k + 1) xs c a (wide xs : Int) i j b = spec_l12Coast.l1 k xs c (a + ((if b = true then 1 else 0) + (if (i : Int) < (xs.length : Int) - 1 then dot xs ((i : Int) + 1) (j : Int) else 0))) (wide xs : Int) i ((j + 1 : Nat) : Int) := by
  have w1 := g.w1
  have w2 := g.w32
  have g2 := g.l16
  intro a b ha hb
  have en : wrap64 ((j : Int) + 1) = ((j + 1 : Nat) : Int) := nxt hj (by omega)
  simp only [spec_l12Coast.j4]
  rw [en, w64 (x := (i : Int) + 1) (by omega) (by omega)]
  cases b with
  | true =>
    simp only [if_true]
    by_cases h2 : (i : Int) < (xs.length : Int) - 1
    · have hi1 : i + 1 < xs.length := by omega
      have hr1 := g.row _ (List.getElem_mem hi1)
      have er : rdOf ByteArray.empty xs ((i : Int) + 1) = xs[i + 1] := by rw [← rdS hi1]; congr 1
      have ed : dot xs ((i : Int) + 1) (j : Int) = if bt xs[i + 1] (j : Int) = 46 then 1 else 0 := by unfold dot; rw [er]
      rw [if_pos h2, if_pos (show (i : Int) + 1 < (xs.length : Int) by omega), if_pos (show (0 : Int) ≤ (i : Int) + 1 by omega), if_pos (show (0 : Int) ≤ (j : Int) by omega), er, if_pos (show (j : Int) < (xs[i + 1].size : Int) by omega), ed]
      by_cases hd : bt xs[i + 1] (j : Int) = 46
      · rw [if_pos hd, if_pos hd]
        rw [w64 (x := a + 1) (by omega) (by omega), w64 (by omega) (by omega)]
        congr 1
        omega
      · rw [if_neg hd, if_neg hd]
        rw [w64 (x := a + 1) (by omega) (by omega)]
        congr 1
        first | done | omega
    · rw [if_neg h2, if_neg (show ¬ (i : Int) + 1 < (xs.length : Int) by omega)]
      rw [w64 (x := a + 1) (by omega) (by omega)]
      congr 1
      first | done | omega
  | false =>
    simp only [Bool.false_eq_true, if_false]
    by_cases h2 : (i : Int) < (xs.length : Int) - 1
    · have hi1 : i + 1 < xs.length := by omega
      have hr1 := g.row _ (List.getElem_mem hi1)
      have er : rdOf ByteArray.empty xs ((i : Int) + 1) = xs[i + 1] := by rw [← rdS hi1]; congr 1
      have ed : dot xs ((i : Int) + 1) (j : Int) = if bt xs[i + 1] (j : Int) = 46 then 1 else 0 := by unfold dot; rw [er]
      rw [if_pos h2, if_pos (show (i : Int) + 1 < (xs.length : Int) by omega), if_pos (show (0 : Int) ≤ (i : Int) + 1 by omega), if_pos (show (0 : Int) ≤ (j : Int) by omega), er, if_pos (show (j : Int) < (xs[i + 1].size : Int) by omega), ed]
      by_cases hd : bt xs[i + 1] (j : Int) = 46
      · rw [if_pos hd, if_pos hd]
        rw [w64 (x := a + 1) (by omega) (by omega)]
        congr 1
        first | done | omega
      · rw [if_neg hd, if_neg hd]
        congr 1
        first | done | omega
    · rw [if_neg h2, if_neg (show ¬ (i : Int) + 1 < (xs.length : Int) by omega)]
      congr 1
      first | done | omega
theorem sj3 {xs : List ByteArray} (g : Grid xs) (c : Int) (i j : Nat) (hi : i < xs.length) (hj : j < wide xs) (k : Nat) : ∀ (a : Int), 0 ≤ a → a ≤ 2000000 → spec_l12Coast.j3 (k + 2) xs c a (wide xs : Int) i j = spec_l12Coast.l1 k xs c (a + ((if (i : Int) > 0 then dot xs ((i : Int) - 1) (j : Int) else 0) + (if (i : Int) < (xs.length : Int) - 1 then dot xs ((i : Int) + 1) (j : Int) else 0))) (wide xs : Int) i ((j + 1 : Nat) : Int) := by
  have w1 := g.w1
  have w2 := g.w32
  have g2 := g.l16
  intro a ha hb
  simp only [spec_l12Coast.j3]
  by_cases h1 : (i : Int) > 0
  · have hi1 : i - 1 < xs.length := by omega
    have hr1 := g.row _ (List.getElem_mem hi1)
    have er : rdOf ByteArray.empty xs ((i : Int) - 1) = xs[i - 1] := by rw [← rdS hi1]; congr 1; omega
    have ed : dot xs ((i : Int) - 1) (j : Int) = if bt xs[i - 1] (j : Int) = 46 then 1 else 0 := by unfold dot; rw [er]
    rw [w64 (x := (i : Int) - 1) (by omega) (by omega), if_pos h1, if_pos h1, if_pos (show (0 : Int) ≤ (i : Int) - 1 by omega), if_pos (show (i : Int) - 1 < (xs.length : Int) by omega), if_pos (show (0 : Int) ≤ (j : Int) by omega), er, if_pos (show (j : Int) < (xs[i - 1].size : Int) by omega), sj4 g c i j hi hj k a _ ha hb, ed]
    congr 2
    by_cases hd : bt xs[i - 1] (j : Int) = 46
    · rw [beq_iff_eq.2 hd, if_pos hd, if_pos rfl]
    · rw [beq_eq_false_iff_ne.2 hd, if_neg hd, if_neg (by simp)]
  · rw [if_neg h1, if_neg h1, sj4 g c i j hi hj k a _ ha hb, if_neg (by simp)]
theorem sj2 {xs : List ByteArray} (g : Grid xs) (c : Int) (i j : Nat) (hi : i < xs.length) (hj : j < wide xs) (k : Nat) : ∀ (a : Int), 0 ≤ a → a ≤ 1500000 → spec_l12Coast.j2 (k + 3) xs c a (wide xs : Int) i j = spec_l12Coast.l1 k xs c (a + (dot xs (i : Int) (((j : Int) + (wide xs : Int) - 1) % (wide xs : Int)) + ((if (i : Int) > 0 then dot xs ((i : Int) - 1) (j : Int) else 0) + (if (i : Int) < (xs.length : Int) - 1 then dot xs ((i : Int) + 1) (j : Int) else 0)))) (wide xs : Int) i ((j + 1 : Nat) : Int) := by
  have w1 := g.w1
  have w2 := g.w32
  have g2 := g.l16
  have hr := g.row _ (List.getElem_mem hi)
  have m3 := Int.emod_nonneg ((j : Int) + (wide xs : Int) - 1) (show (wide xs : Int) ≠ 0 by omega)
  have m4 := Int.emod_lt_of_pos ((j : Int) + (wide xs : Int) - 1) (show (0 : Int) < wide xs by omega)
  intro a ha hb
  simp only [spec_l12Coast.j2]
  have ed : dot xs (i : Int) (((j : Int) + (wide xs : Int) - 1) % (wide xs : Int)) = if bt xs[i] (((j : Int) + (wide xs : Int) - 1) % (wide xs : Int)) = 46 then 1 else 0 := by unfold dot; rw [rdS hi]
  rw [if_pos (by omega), if_pos (by omega), if_neg (by omega), w64 (x := (j : Int) + (wide xs : Int)) (by omega) (by omega), w64 (x := (j : Int) + (wide xs : Int) - 1) (by omega) (by omega), tmodw (by omega), if_pos m3, rdS hi, hr, if_pos m4, ed]
  by_cases hd : bt xs[i] (((j : Int) + (wide xs : Int) - 1) % (wide xs : Int)) = 46
  · rw [if_pos hd, if_pos hd, w64 (x := a + 1) (by omega) (by omega), sj3 g c i j hi hj k (a + 1) (by omega) (by omega), Int.add_assoc]
  · rw [if_neg hd, if_neg hd, sj3 g c i j hi hj k a (by omega) (by omega), Int.zero_add]
theorem scell {xs : List ByteArray} (g : Grid xs) (c : Int) (i j : Nat) (hi : i < xs.length) (hj : j < wide xs) (hc : bt xs[i] (j : Int) = c) (acc : Int) (h0 : 0 ≤ acc) (h1 : acc ≤ 1000000) (k : Nat) :
    spec_l12Coast.l1 (k + 4) xs c acc (wide xs : Int) i j = spec_l12Coast.l1 k xs c (acc + cntP xs ⟨(i : Int), (j : Int)⟩) (wide xs : Int) i ((j + 1 : Nat) : Int) := by
  have w2 := g.w32
  have g2 := g.l16
  have hr := g.row _ (List.getElem_mem hi)
  simp only [spec_l12Coast.l1]
  rw [if_pos (by omega), if_pos (by omega), if_pos (by omega), if_pos (by omega), rdS hi, if_pos (by omega), if_pos hc, east_some g i j hi hj, rdS hi, Option.bind_some]
  have ed : dot xs (i : Int) (((j : Int) + 1) % (wide xs : Int)) = if bt xs[i] (((j : Int) + 1) % (wide xs : Int)) = 46 then 1 else 0 := by unfold dot; rw [rdS hi]
  unfold cntP
  dsimp only
  rw [ed]
  by_cases hd : bt xs[i] (((j : Int) + 1) % (wide xs : Int)) = 46
  · rw [if_pos hd, if_pos hd, w64 (x := acc + 1) (by omega) (by omega), sj2 g c i j hi hj k (acc + 1) (by omega) (by omega), Int.add_assoc]
  · rw [if_neg hd, if_neg hd, sj2 g c i j hi hj k acc (by omega) (by omega), Int.zero_add]
theorem sskip {xs : List ByteArray} (g : Grid xs) (c : Int) (i j : Nat) (hi : i < xs.length) (hj : j < wide xs) (hc : ¬ bt xs[i] (j : Int) = c) (acc : Int) (k : Nat) : spec_l12Coast.l1 (k + 1) xs c acc (wide xs : Int) i j = spec_l12Coast.l1 k xs c acc (wide xs : Int) i ((j + 1 : Nat) : Int) := by
  have w2 := g.w32
  have hr := g.row _ (List.getElem_mem hi)
  simp only [spec_l12Coast.l1]
  rw [if_pos (by clear hc; omega), if_pos (by clear hc; omega), if_pos (by clear hc; omega), if_pos (by clear hc; omega), rdS hi, if_pos (by clear hc; omega), if_neg hc, nxt hj (by clear hc; omega)]
theorem srow {xs : List ByteArray} (g : Grid xs) (c : Int) (i : Nat) (hi : i < xs.length) (R : Int) : ∀ (d k j : Nat) (acc : Int), wide xs - j = d → j ≤ wide xs → d * 4 < k → 0 ≤ acc → acc + 4 * d ≤ 1000000 →
    (∀ m, k ≤ m + d * 4 + 1 → spec_l12Coast.l0 m xs c (acc + ((rowFrom xs[i] c (i : Int) d j).map (cntP xs)).sum) (wide xs : Int) ((i + 1 : Nat) : Int) = some R) →
    spec_l12Coast.l1 k xs c acc (wide xs : Int) i j = some R := by
  have w2 := g.w32
  have g2 := g.l16
  have hr := g.row _ (List.getElem_mem hi)
  intro d
  induction d with
  | zero =>
    intro k j acc hd hj hk h0 hb hv
    obtain ⟨k, rfl⟩ : ∃ m, k = m + 1 := ⟨k - 1, by omega⟩
    have e := hv k (by omega)
    simp only [rowFrom, List.map_nil, List.sum_nil, Int.add_zero] at e
    simp only [spec_l12Coast.l1]
    rw [if_neg (by omega), nxt (n := i + 1) (by omega) (by omega)]
    exact e
  | succ d ih =>
    intro k j acc hd hj hk h0 hb hv
    obtain ⟨k, rfl⟩ : ∃ m, k = m + 4 := ⟨k - 4, by omega⟩
    have h : j < wide xs := by omega
    have e : rowFrom xs[i] c (i : Int) (d + 1) j = (if bt xs[i] (j : Int) = c then [⟨(i : Int), (j : Int)⟩] else []) ++ rowFrom xs[i] c (i : Int) d (j + 1) := rfl
    rw [e] at hv
    by_cases hc : bt xs[i] (j : Int) = c
    · have c4 := cntP_04 xs ⟨(i : Int), (j : Int)⟩
      rw [scell g c i j hi h hc acc h0 (by omega) k]
      refine ih k (j + 1) _ (by omega) (by omega) (by omega) (by omega) (by omega) (fun m hm => ?_)
      have := hv m (by omega)
      rw [if_pos hc, List.map_append, List.sum_append, List.map_cons, List.map_nil, List.sum_cons, List.sum_nil, Int.add_zero, ← Int.add_assoc] at this
      exact this
    · rw [show k + 4 = k + 3 + 1 from rfl, sskip g c i j hi h hc acc (k + 3)]
      refine ih (k + 3) (j + 1) acc (by omega) (by omega) (by omega) h0 (by omega) (fun m hm => ?_)
      have := hv m (by omega)
      rw [if_neg hc, List.nil_append] at this
      exact this
theorem sgrid {xs : List ByteArray} (g : Grid xs) (c : Int) : ∀ (d k i : Nat) (acc : Int), xs.length - i = d → i ≤ xs.length → d * 140 < k → 0 ≤ acc → acc + 128 * d ≤ 100000 →
    spec_l12Coast.l0 k xs c acc (wide xs : Int) i = some (acc + ((cellsFrom xs c d i).map (cntP xs)).sum) := by
  have w2 := g.w32
  have g2 := g.l16
  intro d
  induction d with
  | zero =>
    intro k i acc hd hi hk h0 hb
    obtain ⟨k, rfl⟩ : ∃ m, k = m + 1 := ⟨k - 1, by omega⟩
    simp only [spec_l12Coast.l0]
    rw [if_neg (by omega)]
    simp [cellsFrom]
  | succ d ih =>
    intro k i acc hd hi hk h0 hb
    obtain ⟨k, rfl⟩ : ∃ m, k = m + 1 := ⟨k - 1, by omega⟩
    have h : i < xs.length := by omega
    have hr := g.row _ (List.getElem_mem h)
    have hsum : ∀ (l : List S57), 0 ≤ (l.map (cntP xs)).sum ∧ (l.map (cntP xs)).sum ≤ 4 * (l.length : Int) := by
      intro l
      induction l with
      | nil => simp
      | cons p l ihl =>
        have c4 := cntP_04 xs p
        rw [List.map_cons, List.sum_cons, List.length_cons]
        omega
    have s1 := hsum (rowFrom xs[i] c (i : Int) xs[i].size 0)
    have s2 := rowFrom_length xs[i] c (i : Int) xs[i].size 0
    rw [hr] at s1 s2
    simp only [spec_l12Coast.l0]
    rw [if_pos (by omega)]
    have := srow g c i h (acc + ((cellsFrom xs c (d + 1) i).map (cntP xs)).sum) (wide xs) k 0 acc (by omega) (by omega) (by omega) h0 (by omega) (fun m hm => by
      have e : cellsFrom xs c (d + 1) i = rowFrom xs[i] c (i : Int) xs[i].size 0 ++ cellsFrom xs c d (i + 1) := by
        show rowFrom (rdOf ByteArray.empty xs (i : Int)) c (i : Int) (rdOf ByteArray.empty xs (i : Int)).size 0 ++ cellsFrom xs c d (i + 1) = _
        rw [rdS h]
      rw [e, hr, ih m (i + 1) _ (by omega) (by omega) (by omega) (by omega) (by omega), List.map_append, List.sum_append, Int.add_assoc])
    rw [Int.natCast_zero] at this
    exact this
theorem coast_spec {xs : List ByteArray} (g : Grid xs) (c : Int) (k : Nat) (hk : 10000 < k) : spec_l12Coast.f k xs c = some (((cellsL xs c).map (cntP xs)).sum) := by
  have g1 := g.l1
  have g2 := g.l16
  unfold spec_l12Coast.f
  rw [if_pos (by omega)]
  have e := sgrid g c xs.length k 0 0 (by omega) (by omega) (by omega) (by omega) (by omega)
  rw [Int.natCast_zero, Int.zero_add] at e
  exact e
end Go.Proofs.YtphaebmhhgkkcaaDoor.Pure
