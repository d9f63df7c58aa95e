/- The parts of the cells with a letter are counted alike by the program and the reference: both go through the same cells in the same order. -/
import Derived.Test.YtacbacbmomhjoaaDoorPrint0
import Derived.Test.YtacbacbmomhjoaaDoorPrint3
import Derived.Test.YtacbacbmomhjoaaDoorPrint9
import Derived.Test.YtacbacbmomhjoaaDoorNum
import Derived.Test.YtacbacbmomhjoaaDoorInS
import Derived.Test.YtacbacbmomhjoaaDoorGrA
import Derived.Test.YtacbacbmomhjoaaDoorGrV
import Derived.Test.YtacbacbmomhjoaaDoorGrC
import Derived.Test.YtacbacbmomhjoaaDoorGrN
import Derived.Test.YtacbacbmomhjoaaDoorPartA
import Derived.Lib.SlTrimSet
namespace Go.Proofs.YtacbacbmomhjoaaDoor.Pure
open Go.RowKit Go.Proofs.YtacbacbmomhjoaaDoor.Print Go.Proofs.YtacbacbmomhjoaaDoorW.PrintWords Go.Proofs.YtacbacbmomhjoaaDoorW.PrintLast Go.Proofs.YtacbacbmomhjoaaDoorW.PrintMore
set_option linter.unusedVariables false
set_option linter.unusedSimpArgs false
def zer (seen : List Int) : Nat := seen.count 0
structure Sim (H W : Nat) (ms : List S43) (seen : List Int) : Prop where
  len : seen.length = H * W
  at_ : ∀ n (h : n < seen.length), (seen[n] = 1 ∧ g_has ms (cellAt W n) = true) ∨ (seen[n] = 0 ∧ g_has ms (cellAt W n) = false)
theorem Sim.put {H W : Nat} {ms : List S43} {seen : List Int} (h : Sim H W ms seen) {p : Nat} (hp : p < seen.length) (h0 : seen[p] = 0) : Sim H W (ms ++ [cellAt W p]) (seen.set p 1) ∧ zer (seen.set p 1) + 1 = zer seen := by
  refine ⟨⟨by rw [List.length_set]; exact h.len, fun n hn => ?_⟩, ?_⟩
  · rw [List.length_set] at hn
    rw [List.getElem_set, has_app]
    by_cases e : p = n
    · subst e
      left
      simp
    · rw [if_neg e, decide_eq_false (fun z => e z.symm), Bool.or_false]
      exact h.at_ n hn
  · have hpos : 0 < seen.count 0 := List.count_pos_iff.2 (by rw [← h0]; exact List.getElem_mem hp)
    unfold zer
    rw [List.count_set hp, h0]
    simp
    omega
theorem rdI {xs : List Int} {i : Nat} (h : i < xs.length) : rd xs (i : Int) = xs[i] := by simp [rd, h]
theorem tdW (p W : Nat) : wrap64 (Int.tdiv (p : Int) (W : Int)) = wrap64 ((p / W : Nat) : Int) := by
  rw [Int.tdiv_eq_ediv_of_nonneg (by omega)]; rfl
theorem tmW (p W : Nat) : Int.tmod (p : Int) (W : Int) = ((p % W : Nat) : Int) := by
  rw [Int.tmod_eq_emod_of_nonneg (by omega)]; rfl
theorem w64N {n : Nat} (h : n ≤ 1000000000000) : wrap64 (n : Int) = (n : Int) := by unfold wrap64; omega
structure Pos (xs : List ByteArray) (p : Nat) : Prop where
  a : p / wide xs < xs.length
  b : p % wide xs < wide xs
  z : (rdOf ByteArray.empty xs ((p / wide xs : Nat) : Int)).size = wide xs
  p5 : p ≤ 512
  a16 : p / wide xs ≤ 16
  b32 : p % wide xs ≤ 32
theorem pos_of {xs : List ByteArray} (g : Grid xs) {p : Nat} (hp : p < xs.length * wide xs) : Pos xs p := by
  have h1 := div_lt hp
  have h2 := Nat.mod_lt p (show wide xs > 0 by have := g.w1; omega)
  have g1 := g.l16
  have g2 := g.w32
  have : xs.length * wide xs ≤ 16 * 32 := Nat.mul_le_mul g1 g2
  exact ⟨h1, h2, by rw [rdS h1]; exact g.row _ (List.getElem_mem h1), by omega, by omega, by omega⟩
theorem rdM {W : Nat} {ns : List Nat} {j : Nat} (hj : j < ns.length) : rd_T43 (ns.map (cellAt W)) (j : Int) = cellAt W ns[j] := by
  rw [rdC (by rw [List.length_map]; exact hj), List.getElem_map]
theorem i_step {xs : List ByteArray} (g : Grid xs) (c : Int) (T : List S43) (x5 I : Int) (ms Q : List S43) (ns : List Nat) (hn : ns.length ≤ 1000) (j : Nat) (hj : j < ns.length) (hp : ns[j] < xs.length * wide xs) (hQ : Q.length < 8796093022207) (k : Nat) :
    impl_partsOf.l2 (k + 1) xs c T x5 I ms Q (ns.map (cellAt (wide xs))) (j : Int) = if letterAt xs ns[j] = c then (if g_has ms (cellAt (wide xs) ns[j]) = true then impl_partsOf.l2 k xs c T x5 I ms Q (ns.map (cellAt (wide xs))) ((j + 1 : Nat) : Int) else impl_partsOf.l2 k xs c T x5 I (ms ++ [cellAt (wide xs) ns[j]]) (Q ++ [cellAt (wide xs) ns[j]]) (ns.map (cellAt (wide xs))) ((j + 1 : Nat) : Int)) else impl_partsOf.l2 k xs c T x5 I ms Q (ns.map (cellAt (wide xs))) ((j + 1 : Nat) : Int) := by
  have P := pos_of g hp
  have ew := wf_at g hp
  have hlen : (j : Int) < ((ns.map (cellAt (wide xs))).length : Int) := by rw [List.length_map]; omega
  simp only [impl_partsOf.l2]
  rw [if_pos hlen, if_pos (show (0 : Int) ≤ (j : Int) by omega), rdM hj, ew, nxt hj (by omega)]
  generalize ns[j] = p at P ⊢
  have e0 : (cellAt (wide xs) p).f0 = ((p / wide xs : Nat) : Int) := rfl
  have e1 : (cellAt (wide xs) p).f1 = ((p % wide xs : Nat) : Int) := rfl
  rw [e0, e1, if_pos (Int.natCast_nonneg (p / wide xs)), if_pos (show ((p / wide xs : Nat) : Int) < (xs.length : Int) from Int.ofNat_lt.2 P.a), if_pos (Int.natCast_nonneg (p % wide xs)), P.z, if_pos (show ((p % wide xs : Nat) : Int) < (wide xs : Int) from Int.ofNat_lt.2 P.b), if_pos rfl, if_pos hQ]
  rfl
theorem s_step {xs : List ByteArray} (g : Grid xs) (c : Int) (seen : List Int) (hs : seen.length = xs.length * wide xs) (n s : Int) (Q : List Int) (at_ : Int) (ns : List Nat) (hn : ns.length ≤ 1000) (j : Nat) (hj : j < ns.length) (hp : ns[j] < seen.length) (hQ : Q.length < 17592186044416) (k : Nat) :
    spec_l12Parts.l2 (k + 1) xs c (wide xs : Int) seen n s Q at_ (ns.map (fun (p : Nat) => (p : Int))) (j : Int) = if seen[ns[j]] = 0 then (if letterAt xs ns[j] = c then spec_l12Parts.l2 k xs c (wide xs : Int) (seen.set ns[j] 1) n s (Q ++ [(ns[j] : Int)]) at_ (ns.map (fun (p : Nat) => (p : Int))) ((j + 1 : Nat) : Int) else spec_l12Parts.l2 k xs c (wide xs : Int) seen n s Q at_ (ns.map (fun (p : Nat) => (p : Int))) ((j + 1 : Nat) : Int)) else spec_l12Parts.l2 k xs c (wide xs : Int) seen n s Q at_ (ns.map (fun (p : Nat) => (p : Int))) ((j + 1 : Nat) : Int) := by
  have P := pos_of g (by rw [← hs]; exact hp)
  have w1 := g.w1
  have hlen : (j : Int) < ((ns.map (fun (p : Nat) => (p : Int))).length : Int) := by rw [List.length_map]; omega
  have er : rd (ns.map (fun (p : Nat) => (p : Int))) (j : Int) = (ns[j] : Int) := by rw [rdI (by rw [List.length_map]; exact hj), List.getElem_map]
  simp only [spec_l12Parts.l2]
  rw [if_pos hlen, if_pos (show (0 : Int) ≤ (j : Int) by omega), er, nxt hj (by omega), rdI hp]
  generalize ns[j] = p at P hp ⊢
  rw [if_pos (show (0 : Int) ≤ (p : Int) by omega), if_pos (show (p : Int) < (seen.length : Int) by omega), tdW, tmW, w64N (n := p / wide xs) (by have := P.a16; omega), if_neg (show ¬ (wide xs : Int) = 0 by omega), if_pos (Int.natCast_nonneg (p / wide xs)), if_pos (show ((p / wide xs : Nat) : Int) < (xs.length : Int) from Int.ofNat_lt.2 P.a), if_pos (Int.natCast_nonneg (p % wide xs)), P.z, if_pos (show ((p % wide xs : Nat) : Int) < (wide xs : Int) from Int.ofNat_lt.2 P.b), if_pos hQ, Int.toNat_natCast]
  rfl
theorem near {xs : List ByteArray} (g : Grid xs) (c : Int) (T : List S43) (x5 I n s : Int) (ns pre : List Nat) (hn : ns.length ≤ 1000) (hns : ∀ p ∈ ns, p < xs.length * wide xs) (at_ : Int) : ∀ (d j : Nat) (ms : List S43) (seen : List Int) (q : List Nat), ns.length - j = d → j ≤ ns.length → Sim xs.length (wide xs) ms seen → (∀ p ∈ q, p < xs.length * wide xs) → pre.length + q.length + zer seen ≤ 100000 →
    ∃ (ms' : List S43) (seen' : List Int) (q' : List Nat), Sim xs.length (wide xs) ms' seen' ∧ q'.length + zer seen' = q.length + zer seen ∧ (∀ p ∈ q', p < xs.length * wide xs) ∧
      (∀ B k, B + d + 1 ≤ k → ∃ k', B ≤ k' ∧ impl_partsOf.l2 k xs c T x5 I ms (q.map (cellAt (wide xs))) (ns.map (cellAt (wide xs))) (j : Int) = impl_partsOf.l1 k' xs c T x5 I ms' (q'.map (cellAt (wide xs)))) ∧
      (∀ B k, B + d + 1 ≤ k → ∃ k', B ≤ k' ∧ spec_l12Parts.l2 k xs c (wide xs : Int) seen n s ((pre ++ q).map (fun (p : Nat) => (p : Int))) at_ (ns.map (fun (p : Nat) => (p : Int))) (j : Int) = spec_l12Parts.l1 k' xs c (wide xs : Int) seen' n s ((pre ++ q').map (fun (p : Nat) => (p : Int))) (wrap64 (at_ + 1))) := by
  intro d
  induction d with
  | zero =>
    intro j ms seen q hd hj hS hq hb
    refine ⟨ms, seen, q, hS, rfl, hq, fun B k hk => ?_, fun B k hk => ?_⟩
    · obtain ⟨k, rfl⟩ : ∃ m, k = m + 1 := ⟨k - 1, by omega⟩
      refine ⟨k, by omega, ?_⟩
      simp only [impl_partsOf.l2]
      rw [if_neg (by rw [List.length_map]; omega)]
    · obtain ⟨k, rfl⟩ : ∃ m, k = m + 1 := ⟨k - 1, by omega⟩
      refine ⟨k, by omega, ?_⟩
      simp only [spec_l12Parts.l2]
      rw [if_neg (by rw [List.length_map]; omega)]
  | succ d ih =>
    intro j ms seen q hd hj hS hq hb
    have h : j < ns.length := by omega
    have hp := hns _ (List.getElem_mem h)
    have hps : ns[j] < seen.length := by rw [hS.len]; exact hp
    have hQi : (q.map (cellAt (wide xs))).length < 8796093022207 := by rw [List.length_map]; omega
    have hQs : ((pre ++ q).map (fun (p : Nat) => (p : Int))).length < 17592186044416 := by rw [List.length_map, List.length_append]; omega
    have ei := fun k => i_step g c T x5 I ms (q.map (cellAt (wide xs))) ns hn j h hp hQi k
    have es := fun k => s_step g c seen hS.len n s ((pre ++ q).map (fun (p : Nat) => (p : Int))) at_ ns hn j h hps hQs k
    by_cases hz : seen[ns[j]] = 0 ∧ letterAt xs ns[j] = c
    · obtain ⟨z0, zc⟩ := hz
      have hh : g_has ms (cellAt (wide xs) ns[j]) = false := by
        rcases hS.at_ _ hps with ⟨e, _⟩ | ⟨_, e⟩
        · rw [z0] at e; omega
        · exact e
      obtain ⟨hS2, hz2⟩ := hS.put hps z0
      obtain ⟨ms', seen', q', a1, a2, a3, a4, a5⟩ := ih (j + 1) (ms ++ [cellAt (wide xs) ns[j]]) (seen.set ns[j] 1) (q ++ [ns[j]]) (by omega) (by omega) hS2 (fun p hp2 => by
        rcases List.mem_append.1 hp2 with h3 | h3
        · exact hq p h3
        · rw [List.mem_singleton] at h3; rw [h3]; exact hp) (by rw [List.length_append, List.length_singleton]; omega)
      rw [List.length_append, List.length_singleton] at a2
      refine ⟨ms', seen', q', a1, by omega, a3, fun B k hk => ?_, fun B k hk => ?_⟩
      · obtain ⟨k, rfl⟩ : ∃ m, k = m + 1 := ⟨k - 1, by omega⟩
        obtain ⟨k', b1, b2⟩ := a4 B k (by omega)
        refine ⟨k', b1, ?_⟩
        rw [ei, if_pos zc, if_neg (by rw [hh]; decide), ← b2, List.map_append]
        rfl
      · obtain ⟨k, rfl⟩ : ∃ m, k = m + 1 := ⟨k - 1, by omega⟩
        obtain ⟨k', b1, b2⟩ := a5 B k (by omega)
        refine ⟨k', b1, ?_⟩
        rw [es, if_pos z0, if_pos zc, ← b2, ← List.append_assoc, List.map_append (l₂ := [ns[j]])]
        rfl
    · obtain ⟨ms', seen', q', a1, a2, a3, a4, a5⟩ := ih (j + 1) ms seen q (by omega) (by omega) hS hq hb
      refine ⟨ms', seen', q', a1, a2, a3, fun B k hk => ?_, fun B k hk => ?_⟩
      · obtain ⟨k, rfl⟩ : ∃ m, k = m + 1 := ⟨k - 1, by omega⟩
        obtain ⟨k', b1, b2⟩ := a4 B k (by omega)
        refine ⟨k', b1, ?_⟩
        rw [ei, ← b2]
        by_cases zc : letterAt xs ns[j] = c
        · have hh : g_has ms (cellAt (wide xs) ns[j]) = true := by
            rcases hS.at_ _ hps with ⟨_, e⟩ | ⟨e, _⟩
            · exact e
            · exact absurd ⟨e, zc⟩ hz
          rw [if_pos zc, if_pos hh]
        · rw [if_neg zc]
      · obtain ⟨k, rfl⟩ : ∃ m, k = m + 1 := ⟨k - 1, by omega⟩
        obtain ⟨k', b1, b2⟩ := a5 B k (by omega)
        refine ⟨k', b1, ?_⟩
        rw [es, ← b2]
        by_cases z0 : seen[ns[j]] = 0
        · rw [if_pos z0, if_neg (fun z => hz ⟨z0, z⟩)]
        · rw [if_neg z0]
end Go.Proofs.YtacbacbmomhjoaaDoor.Pure
