/- The parts of the cells with a letter: whole searches, and the number of parts. -/
import Derived.Test.YtacbacbmomhjoaaDoorPrint0
import Derived.Test.YtacbacbmomhjoaaDoorPrint3
import Derived.Test.YtacbacbmomhjoaaDoorPrint8
import Derived.Test.YtacbacbmomhjoaaDoorPrint9
import Derived.Test.YtacbacbmomhjoaaDoorNum
import Derived.Test.YtacbacbmomhjoaaDoorInS
import Derived.Test.YtacbacbmomhjoaaDoorGrA
import Derived.Test.YtacbacbmomhjoaaDoorGrV
import Derived.Test.YtacbacbmomhjoaaDoorGrC
import Derived.Test.YtacbacbmomhjoaaDoorGrN
import Derived.Test.YtacbacbmomhjoaaDoorPartA
import Derived.Test.YtacbacbmomhjoaaDoorPartB
import Derived.Lib.SlTrimSet
namespace Go.Proofs.YtacbacbmomhjoaaDoor.Pure
open Go.RowKit Go.Proofs.YtacbacbmomhjoaaDoor.Print Go.Proofs.YtacbacbmomhjoaaDoorW.PrintWords Go.Proofs.YtacbacbmomhjoaaDoorW.PrintLast Go.Proofs.YtacbacbmomhjoaaDoorW.PrintMore
set_option linter.unusedVariables false
set_option linter.unusedSimpArgs false
abbrev ints (l : List Nat) : List Int := l.map (fun (p : Nat) => (p : Int))
theorem i_pop {xs : List ByteArray} (g : Grid xs) (c : Int) (T : List S43) (x5 I : Int) (ms : List S43) (p : Nat) (q : List Nat) (hp : p < xs.length * wide xs) (k : Nat) :
    impl_partsOf.l1 (k + 1) xs c T x5 I ms ((p :: q).map (cellAt (wide xs))) = impl_partsOf.l2 k xs c T x5 I ms (q.map (cellAt (wide xs))) ((nb xs.length (wide xs) p).map (cellAt (wide xs))) 0 := by
  have P := pos_of g hp
  have en := next_some g (p / wide xs) (p % wide xs) P.a P.b
  have ex := nx_nb g hp
  have e0 : rd_T43 ((p :: q).map (cellAt (wide xs))) 0 = cellAt (wide xs) p := rdM (W := wide xs) (ns := p :: q) (j := 0) (by simp)
  have hl : (0 : Int) < (((p :: q).map (cellAt (wide xs))).length : Int) := by rw [List.length_map, List.length_cons]; omega
  simp only [impl_partsOf.l1]
  rw [if_pos hl, e0]
  show (impl_nextTo.f xs ((p / wide xs : Nat) : Int) ((p % wide xs : Nat) : Int)).bind _ = _
  rw [en, Option.bind_some]
  show impl_partsOf.l2 k xs c T x5 I ms (q.map (cellAt (wide xs))) (nx xs (cellAt (wide xs) p)) 0 = _
  rw [ex]
theorem w64a {x : Int} (h0 : -1000000 ≤ x) (h1 : x ≤ 1000000) : wrap64 x = x := by unfold wrap64; omega
theorem sp_e1 {xs : List ByteArray} (p : Nat) (d1 : p / wide xs ≤ 16) (d2 : p % wide xs ≤ 32) (d3 : p ≤ 512) (w1 : 1 ≤ wide xs) (w2 : wide xs ≤ 32) : wrap64 ((wrap64 (((p / wide xs : Nat) : Int) * (wide xs : Int))) + (Int.tmod (wrap64 (((p % wide xs : Nat) : Int) + 1)) (wide xs : Int))) = ((p / wide xs * wide xs + (p % wide xs + 1) % wide xs : Nat) : Int) := by
  have b1 : p / wide xs * wide xs ≤ 16 * 32 := Nat.mul_le_mul d1 w2
  have b2 := Nat.mod_lt (p % wide xs + 1) (show wide xs > 0 by omega)
  rw [show ((p % wide xs : Nat) : Int) + 1 = ((p % wide xs + 1 : Nat) : Int) by omega, w64N (by omega), tmW, ← Int.natCast_mul, w64N (by omega), ← Int.natCast_add, w64N (by omega)]
theorem sp_e2 {xs : List ByteArray} (p : Nat) (d1 : p / wide xs ≤ 16) (d2 : p % wide xs ≤ 32) (d3 : p ≤ 512) (w1 : 1 ≤ wide xs) (w2 : wide xs ≤ 32) : wrap64 ((wrap64 (((p / wide xs : Nat) : Int) * (wide xs : Int))) + (Int.tmod (wrap64 ((wrap64 (((p % wide xs : Nat) : Int) + (wide xs : Int))) - 1)) (wide xs : Int))) = ((p / wide xs * wide xs + (p % wide xs + wide xs - 1) % wide xs : Nat) : Int) := by
  have b1 : p / wide xs * wide xs ≤ 16 * 32 := Nat.mul_le_mul d1 w2
  have b2 := Nat.mod_lt (p % wide xs + wide xs - 1) (show wide xs > 0 by omega)
  rw [show ((p % wide xs : Nat) : Int) + (wide xs : Int) = ((p % wide xs + wide xs : Nat) : Int) by omega, w64N (by omega), show ((p % wide xs + wide xs : Nat) : Int) - 1 = ((p % wide xs + wide xs - 1 : Nat) : Int) by omega, w64N (by omega), tmW, ← Int.natCast_mul, w64N (by omega), ← Int.natCast_add, w64N (by omega)]
theorem sp_e3 {xs : List ByteArray} (p : Nat) (d1 : p / wide xs ≤ 16) (d2 : p % wide xs ≤ 32) (d3 : p ≤ 512) (w1 : 1 ≤ wide xs) (w2 : wide xs ≤ 32) : p / wide xs > 0 → wrap64 ((p : Int) - (wide xs : Int)) = ((p - wide xs : Nat) : Int) := fun h => by
  have e := dm (wide xs) p
  have : 1 * wide xs ≤ p / wide xs * wide xs := Nat.mul_le_mul_right _ h
  rw [show (p : Int) - (wide xs : Int) = ((p - wide xs : Nat) : Int) by omega, w64N (by omega)]
theorem sp_e4 {xs : List ByteArray} (p : Nat) (d1 : p / wide xs ≤ 16) (d2 : p % wide xs ≤ 32) (d3 : p ≤ 512) (w1 : 1 ≤ wide xs) (w2 : wide xs ≤ 32) : wrap64 ((p : Int) + (wide xs : Int)) = ((p + wide xs : Nat) : Int) := by
  rw [← Int.natCast_add, w64N (by omega)]
theorem sp_e5 {xs : List ByteArray} (p : Nat) (d1 : p / wide xs ≤ 16) (d2 : p % wide xs ≤ 32) (d3 : p ≤ 512) (w1 : 1 ≤ wide xs) (w2 : wide xs ≤ 32) : wrap64 (((p / wide xs : Nat) : Int) + 1) = ((p / wide xs + 1 : Nat) : Int) := by
  rw [show ((p / wide xs : Nat) : Int) + 1 = ((p / wide xs + 1 : Nat) : Int) by omega, w64N (by omega)]
theorem s_pop {xs : List ByteArray} (g : Grid xs) (c : Int) (seen : List Int) (n s : Int) (pre : List Nat) (p : Nat) (q : List Nat) (hp : p < xs.length * wide xs) (hl : (pre ++ p :: q).length ≤ 1000000) (k : Nat) :
    spec_l12Parts.l1 (k + 3) xs c (wide xs : Int) seen n s (ints (pre ++ p :: q)) (pre.length : Int) = spec_l12Parts.l2 k xs c (wide xs : Int) seen n s (ints (pre ++ p :: q)) (pre.length : Int) (ints (nb xs.length (wide xs) p)) 0 := by
  have P := pos_of g hp
  have w1 := g.w1
  have w2 := g.w32
  have g2 := g.l16
  have hat : pre.length < (pre ++ p :: q).length := by rw [List.length_append, List.length_cons]; omega
  have er : rd (ints (pre ++ p :: q)) (pre.length : Int) = (p : Int) := by
    rw [rdI (by rw [List.length_map]; exact hat), List.getElem_map]
    simp
  have hlt : (pre.length : Int) < ((ints (pre ++ p :: q)).length : Int) := by rw [List.length_map]; omega
  have h0 : (0 : Int) ≤ (pre.length : Int) := by omega
  have d1 := P.a16
  have d2 := P.b32
  have d3 := P.p5
  have hw : ¬ (wide xs : Int) = 0 := by omega
  have c1 : ((p / wide xs : Nat) : Int) > 0 ↔ p / wide xs > 0 := by constructor <;> intro h <;> omega
  have c2 : ((p / wide xs + 1 : Nat) : Int) < (xs.length : Int) ↔ p / wide xs + 1 < xs.length := Int.ofNat_lt
  have ed := tdW p (wide xs)
  rw [w64N (n := p / wide xs) (by omega)] at ed
  have em := tmW p (wide xs)
  have e1 := sp_e1 p d1 d2 d3 w1 w2
  have e2 := sp_e2 p d1 d2 d3 w1 w2
  have e3 := sp_e3 p d1 d2 d3 w1 w2
  have e4 := sp_e4 p d1 d2 d3 w1 w2
  have e5 := sp_e5 p d1 d2 d3 w1 w2
  have fin : ∀ (N : List Int), N.length < 17592186044416 → spec_l12Parts.j3 (k + 1 + 1) xs c (wide xs : Int) seen n s (ints (pre ++ p :: q)) (pre.length : Int) ((p / wide xs : Nat) : Int) N = spec_l12Parts.l2 k xs c (wide xs : Int) seen n s (ints (pre ++ p :: q)) (pre.length : Int) (N ++ (if p / wide xs + 1 < xs.length then [((p + wide xs : Nat) : Int)] else [])) 0 := fun N hN => by
    simp only [spec_l12Parts.j3, spec_l12Parts.j4]
    rw [e5, er, e4, if_pos h0, if_pos hlt, if_pos hN]
    by_cases h : p / wide xs + 1 < xs.length
    · rw [if_pos (c2.2 h), if_pos h]
    · rw [if_neg (fun z => h (c2.1 z)), if_neg h, List.append_nil]
  have hl2 : ∀ a b : Int, [a, b].length < 17592186044416 := fun a b => by simp
  simp only [spec_l12Parts.l1]
  rw [if_pos hlt, if_pos h0, if_neg hw, er, ed, em, e1, e2, Option.bind_some]
  unfold nb
  by_cases h : p / wide xs > 0
  · rw [if_pos (c1.2 h), if_pos h, e3 h]
    rw [if_pos (hl2 _ _), fin _ (by simp)]
    congr 1
    by_cases h2 : p / wide xs + 1 < xs.length
    · rw [if_pos h2, if_pos h2]; simp only [ints, List.map_append, List.map_cons, List.map_nil, List.append_assoc, List.cons_append, List.nil_append, List.append_nil]
    · rw [if_neg h2, if_neg h2]; simp only [ints, List.map_append, List.map_cons, List.map_nil, List.append_assoc, List.cons_append, List.nil_append, List.append_nil]
  · rw [if_neg (fun z => h (c1.1 z)), if_neg h, fin _ (by simp)]
    congr 1
    by_cases h2 : p / wide xs + 1 < xs.length
    · rw [if_pos h2, if_pos h2]; simp only [ints, List.map_append, List.map_cons, List.map_nil, List.append_assoc, List.cons_append, List.nil_append, List.append_nil]
    · rw [if_neg h2, if_neg h2]; simp only [ints, List.map_append, List.map_cons, List.map_nil, List.append_assoc, List.cons_append, List.nil_append, List.append_nil]
theorem bfs {xs : List ByteArray} (g : Grid xs) (c : Int) (T : List S43) (x5 I n s : Int) : ∀ (m : Nat) (ms : List S43) (seen : List Int) (pre q : List Nat), q.length + zer seen = m → Sim xs.length (wide xs) ms seen → (∀ p ∈ q, p < xs.length * wide xs) → pre.length + q.length + zer seen ≤ 50000 →
    ∃ (ms' : List S43) (seen' : List Int), Sim xs.length (wide xs) ms' seen' ∧ zer seen' ≤ m ∧
      (∀ B k, B + 10 * m + 1 ≤ k + 10 * zer seen' → ∃ k', B ≤ k' ∧ impl_partsOf.l1 k xs c T x5 I ms (q.map (cellAt (wide xs))) = impl_partsOf.l0 k' xs c T x5 ms' (wrap64 (I + 1))) ∧
      (∀ B k, B + 10 * m + 1 ≤ k + 10 * zer seen' → ∃ k', B ≤ k' ∧ spec_l12Parts.l1 k xs c (wide xs : Int) seen n s (ints (pre ++ q)) (pre.length : Int) = spec_l12Parts.l0 k' xs c (wide xs : Int) seen' n (wrap64 (s + 1))) := by
  intro m
  induction m with
  | zero =>
    intro ms seen pre q hm hS hq hb
    obtain rfl : q = [] := List.eq_nil_of_length_eq_zero (by omega)
    refine ⟨ms, seen, hS, by omega, fun B k hk => ?_, fun B k hk => ?_⟩
    · obtain ⟨k, rfl⟩ : ∃ m, k = m + 1 := ⟨k - 1, by rw [List.length_nil] at hm; omega⟩
      refine ⟨k, by rw [List.length_nil] at hm; omega, ?_⟩
      simp only [impl_partsOf.l1]
      rw [if_neg (by simp)]
    · obtain ⟨k, rfl⟩ : ∃ m, k = m + 1 := ⟨k - 1, by rw [List.length_nil] at hm; omega⟩
      refine ⟨k, by rw [List.length_nil] at hm; omega, ?_⟩
      simp only [spec_l12Parts.l1]
      rw [if_neg (by simp)]
  | succ m ih =>
    intro ms seen pre q hm hS hq hb
    cases q with
    | nil =>
      rw [List.length_nil] at hm
      refine ⟨ms, seen, hS, by omega, fun B k hk => ?_, fun B k hk => ?_⟩
      · obtain ⟨k, rfl⟩ : ∃ m, k = m + 1 := ⟨k - 1, by omega⟩
        refine ⟨k, by omega, ?_⟩
        simp only [impl_partsOf.l1]
        rw [if_neg (by simp)]
      · obtain ⟨k, rfl⟩ : ∃ m, k = m + 1 := ⟨k - 1, by omega⟩
        refine ⟨k, by omega, ?_⟩
        simp only [spec_l12Parts.l1]
        rw [if_neg (by simp)]
    | cons p q =>
      rw [List.length_cons] at hm hb
      have hp := hq p (List.mem_cons_self ..)
      have hn4 := nb_length xs.length (wide xs) p
      have hnl := nb_lt hp g.w1
      obtain ⟨ms1, seen1, q1, a1, a2, a3, a4, a5⟩ := near g c T x5 I n s (nb xs.length (wide xs) p) (pre ++ [p]) (by omega) hnl (pre.length : Int) (nb xs.length (wide xs) p).length 0 ms seen q (by omega) (by omega) hS (fun x hx => hq x (List.mem_cons_of_mem _ hx)) (by rw [List.length_append, List.length_singleton]; omega)
      obtain ⟨ms', seen', b1, b2, b3, b4⟩ := ih ms1 seen1 (pre ++ [p]) q1 (by omega) a1 a3 (by rw [List.length_append, List.length_singleton]; omega)
      rw [Int.natCast_zero] at a4 a5
      refine ⟨ms', seen', b1, by omega, fun B k hk => ?_, fun B k hk => ?_⟩
      · obtain ⟨k, rfl⟩ : ∃ m, k = m + 1 := ⟨k - 1, by omega⟩
        obtain ⟨k1, c1, c2⟩ := a4 (B + 10 * m + 1 - 10 * zer seen') k (by omega)
        obtain ⟨k2, c3, c4⟩ := b3 B k1 (by omega)
        exact ⟨k2, c3, by rw [i_pop g c T x5 I ms p q hp k, c2, c4]⟩
      · obtain ⟨k, rfl⟩ : ∃ m, k = m + 3 := ⟨k - 3, by omega⟩
        obtain ⟨k1, c1, c2⟩ := a5 (B + 10 * m + 1 - 10 * zer seen') k (by omega)
        obtain ⟨k2, c3, c4⟩ := b4 B k1 (by omega)
        refine ⟨k2, c3, ?_⟩
        rw [s_pop g c seen n s pre p q hp (by rw [List.length_append, List.length_cons]; omega) k]
        rw [List.append_assoc, List.singleton_append] at c2
        rw [← c4]
        refine c2.trans ?_
        rw [List.length_append, List.length_singleton, show wrap64 ((pre.length : Int) + 1) = ((pre.length + 1 : Nat) : Int) from nxt (n := pre.length + 1) (by omega) (by omega)]
theorem s_start {xs : List ByteArray} (g : Grid xs) (c : Int) (seen : List Int) (n : Int) (s : Nat) (h : s < xs.length * wide xs) (hss : s < seen.length) :
    (∀ k, seen[s] = 1 → spec_l12Parts.l0 (k + 2) xs c (wide xs : Int) seen n (s : Int) = spec_l12Parts.l0 k xs c (wide xs : Int) seen n ((s + 1 : Nat) : Int)) ∧
    (∀ k, ¬ seen[s] = 1 → ¬ letterAt xs s = c → spec_l12Parts.l0 (k + 2) xs c (wide xs : Int) seen n (s : Int) = spec_l12Parts.l0 k xs c (wide xs : Int) seen n ((s + 1 : Nat) : Int)) ∧
    (∀ k, ¬ seen[s] = 1 → letterAt xs s = c → spec_l12Parts.l0 (k + 2) xs c (wide xs : Int) seen n (s : Int) = spec_l12Parts.l1 k xs c (wide xs : Int) (seen.set s 1) (wrap64 (n + 1)) (s : Int) (ints ([] ++ [s])) 0) := by
  have P := pos_of g h
  have p5 := P.p5
  have a16 := P.a16
  have w1 := g.w1
  have hw : ¬ (wide xs : Int) = 0 := by omega
  have q1 : (0 : Int) ≤ (s : Int) := by omega
  have q2 : (s : Int) < (seen.length : Int) := by omega
  have hb : s + 1 ≤ 4611686018427387903 := by omega
  have hb2 : s / wide xs ≤ 1000000000000 := by omega
  have ed := tdW s (wide xs)
  rw [w64N hb2] at ed
  have em := tmW s (wide xs)
  have en : wrap64 ((s : Int) + 1) = ((s + 1 : Nat) : Int) := nxt (Nat.lt_succ_self s) hb
  have S0 : ∀ k, seen[s] = 1 → spec_l12Parts.l0 (k + 2) xs c (wide xs : Int) seen n (s : Int) = spec_l12Parts.l0 k xs c (wide xs : Int) seen n ((s + 1 : Nat) : Int) := fun k h1 => by
    simp only [spec_l12Parts.l0, spec_l12Parts.j1]
    rw [if_pos q2, if_pos q1, rdI hss, if_pos h1, if_pos True.intro, en]
  have S1 : ∀ k, ¬ seen[s] = 1 → ¬ letterAt xs s = c → spec_l12Parts.l0 (k + 2) xs c (wide xs : Int) seen n (s : Int) = spec_l12Parts.l0 k xs c (wide xs : Int) seen n ((s + 1 : Nat) : Int) := fun k h1 hc => by
    have hc2 : (bt (rdOf ByteArray.empty xs ((s / wide xs : Nat) : Int)) ((s % wide xs : Nat) : Int) != c) = true := bne_iff_ne.2 hc
    simp only [spec_l12Parts.l0, spec_l12Parts.j1]
    rw [if_pos q2, if_pos q1, rdI hss, if_neg h1, if_neg hw, ed, em, if_pos (Int.natCast_nonneg _), if_pos (Int.ofNat_lt.2 P.a), if_pos (Int.natCast_nonneg _), P.z, if_pos (Int.ofNat_lt.2 P.b), if_pos hc2, en]
  have S2 : ∀ k, ¬ seen[s] = 1 → letterAt xs s = c → spec_l12Parts.l0 (k + 2) xs c (wide xs : Int) seen n (s : Int) = spec_l12Parts.l1 k xs c (wide xs : Int) (seen.set s 1) (wrap64 (n + 1)) (s : Int) (ints ([] ++ [s])) 0 := fun k h1 hc => by
    have hc2 : ¬ (bt (rdOf ByteArray.empty xs ((s / wide xs : Nat) : Int)) ((s % wide xs : Nat) : Int) != c) = true := by
      rw [show bt (rdOf ByteArray.empty xs ((s / wide xs : Nat) : Int)) ((s % wide xs : Nat) : Int) = c from hc]; simp
    simp only [spec_l12Parts.l0, spec_l12Parts.j1]
    rw [if_pos q2, if_pos q1, rdI hss, if_neg h1, if_neg hw, ed, em, if_pos (Int.natCast_nonneg _), if_pos (Int.ofNat_lt.2 P.a), if_pos (Int.natCast_nonneg _), P.z, if_pos (Int.ofNat_lt.2 P.b), if_neg hc2, if_pos q1, if_pos q2, Int.toNat_natCast]
    rfl
  exact ⟨S0, S1, S2⟩
theorem parts_lp {xs : List ByteArray} (g : Grid xs) (c : Int) (T : List S43) (hT : T.length ≤ 100000) : ∀ (d s I : Nat) (ms : List S43) (seen : List Int) (n : Int), xs.length * wide xs - s = d → s ≤ xs.length * wide xs → Sim xs.length (wide xs) ms seen → zer seen ≤ 10000 → I ≤ T.length → T.drop I = (posL xs c s d).map (cellAt (wide xs)) →
    ∃ v, (∀ k, 10 * (d + zer seen) + 10 ≤ k → impl_partsOf.l0 k xs c T n ms (I : Int) = some v) ∧ (∀ k, 10 * (d + zer seen) + 10 ≤ k → spec_l12Parts.l0 k xs c (wide xs : Int) seen n (s : Int) = some v) := by
  have g1 := g.l16
  have g2 := g.w32
  have w1 := g.w1
  have hHW : xs.length * wide xs ≤ 16 * 32 := Nat.mul_le_mul g1 g2
  intro d
  induction d with
  | zero =>
    intro s I ms seen n hd hs hS hz hI hTd
    have hl : T.length ≤ I := by
      have : (T.drop I).length = 0 := by rw [hTd]; rfl
      rw [List.length_drop] at this
      omega
    refine ⟨n, fun k hk => ?_, fun k hk => ?_⟩
    · obtain ⟨k, rfl⟩ : ∃ m, k = m + 1 := ⟨k - 1, by omega⟩
      simp only [impl_partsOf.l0]
      rw [if_neg (by omega)]
    · obtain ⟨k, rfl⟩ : ∃ m, k = m + 1 := ⟨k - 1, by omega⟩
      simp only [spec_l12Parts.l0]
      rw [if_neg (by rw [hS.len]; omega)]
  | succ d ih =>
    intro s I ms seen n hd hs hS hz hI hTd
    have h : s < xs.length * wide xs := by omega
    have P := pos_of g h
    have hss : s < seen.length := by rw [hS.len]; exact h
    have eL : posL xs c s (d + 1) = (if letterAt xs s = c then [s] else []) ++ posL xs c (s + 1) d := rfl
    rw [eL] at hTd
    have en := Aside0.mk (nxt (i := s) h (by omega))
    obtain ⟨S0, S1, S2⟩ := s_start g c seen n s h hss
    by_cases hc : letterAt xs s = c
    · rw [if_pos hc, List.singleton_append, List.map_cons] at hTd
      have hIl : I < T.length := by
        have : (T.drop I).length = ((posL xs c (s + 1) d).map (cellAt (wide xs))).length + 1 := by rw [hTd]; rfl
        rw [List.length_drop] at this
        omega
      rw [List.drop_eq_getElem_cons hIl] at hTd
      injection hTd with hT1 hT2
      have eI : rd_T43 T (I : Int) = cellAt (wide xs) s := by rw [rdC hIl, hT1]
      have enI := Aside0.mk (nxt (i := I) hIl (by omega))
      have r1 : (I : Int) < (T.length : Int) := by omega
      have r0 : (0 : Int) ≤ (I : Int) := by omega
      have wf := wf_at g h
      rcases hS.at_ s hss with ⟨z1, hh⟩ | ⟨z0, hh⟩
      · obtain ⟨v, v1, v2⟩ := ih (s + 1) (I + 1) ms seen n (by omega) (by omega) hS hz (by omega) hT2
        refine ⟨v, fun k hk => ?_, fun k hk => ?_⟩
        · obtain ⟨k, rfl⟩ : ∃ m, k = m + 1 := ⟨k - 1, by omega⟩
          rw [← v1 k (by omega)]
          simp only [impl_partsOf.l0]
          rw [if_pos r1, if_pos r0, eI, if_pos wf, if_pos hh, enI.out]
        · obtain ⟨k, rfl⟩ : ∃ m, k = m + 2 := ⟨k - 2, by omega⟩
          rw [S0 k z1]
          exact v2 k (by omega)
      · have nz : ¬ seen[s] = 1 := by rw [z0]; decide
        obtain ⟨hS2, hz2⟩ := hS.put hss z0
        obtain ⟨ms', seen', b1, b2, b3, b4⟩ := bfs g c T (wrap64 (n + 1)) (I : Int) (wrap64 (n + 1)) (s : Int) (zer seen) (ms ++ [cellAt (wide xs) s]) (seen.set s 1) [] [s] (by rw [List.length_singleton]; omega) hS2 (fun p hp => by rw [List.mem_singleton] at hp; rw [hp]; exact h) (by rw [List.length_nil, List.length_singleton]; omega)
        obtain ⟨v, v1, v2⟩ := ih (s + 1) (I + 1) ms' seen' (wrap64 (n + 1)) (by omega) (by omega) b1 (by omega) (by omega) hT2
        refine ⟨v, fun k hk => ?_, fun k hk => ?_⟩
        · obtain ⟨k, rfl⟩ : ∃ m, k = m + 1 := ⟨k - 1, by omega⟩
          obtain ⟨k', c1, c2⟩ := b3 (10 * (d + zer seen') + 10) k (by omega)
          rw [← v1 k' c1]
          simp only [impl_partsOf.l0]
          rw [if_pos r1, if_pos r0, eI, if_pos wf, if_neg (by rw [hh]; decide)]
          rw [← enI.out]
          exact c2
        · obtain ⟨k, rfl⟩ : ∃ m, k = m + 2 := ⟨k - 2, by omega⟩
          obtain ⟨k', c1, c2⟩ := b4 (10 * (d + zer seen') + 10) k (by omega)
          rw [S2 k nz hc, ← v2 k' c1, ← en.out]
          exact c2
    · rw [if_neg hc, List.nil_append] at hTd
      obtain ⟨v, v1, v2⟩ := ih (s + 1) I ms seen n (by omega) (by omega) hS hz hI hTd
      refine ⟨v, fun k hk => v1 k (by omega), fun k hk => ?_⟩
      obtain ⟨k, rfl⟩ : ∃ m, k = m + 2 := ⟨k - 2, by omega⟩
      by_cases h1 : seen[s] = 1
      · rw [S0 k h1]; exact v2 k (by omega)
      · rw [S1 k h1 hc]; exact v2 k (by omega)
theorem parts_eq {xs : List ByteArray} (g : Grid xs) (c : Int) : ∃ v, ∀ k, 20000 < k → impl_partsOf.f k xs c = some v ∧ spec_l12Parts.f k xs c = some v := by
  have g1 := g.l16
  have g0 := g.l1
  have g2 := g.w32
  have w1 := g.w1
  have hHW : xs.length * wide xs ≤ 16 * 32 := Nat.mul_le_mul g1 g2
  have l := cellsFrom_length g c xs.length 0 (by omega)
  have hS : Sim xs.length (wide xs) [] (List.replicate (xs.length * wide xs) 0) := by
    refine ⟨List.length_replicate, fun n hn => ?_⟩
    right
    exact ⟨List.getElem_replicate .., rfl⟩
  have hz : zer (List.replicate (xs.length * wide xs) (0 : Int)) ≤ 512 := by
    have := List.count_le_length (a := (0 : Int)) (l := List.replicate (xs.length * wide xs) (0 : Int))
    rw [List.length_replicate] at this
    unfold zer
    omega
  have hc := cells_pos g c xs.length 0 (by omega)
  rw [Nat.zero_mul] at hc
  obtain ⟨v, v1, v2⟩ := parts_lp g c (cellsL xs c) (by unfold cellsL; omega) (xs.length * wide xs) 0 0 [] (List.replicate (xs.length * wide xs) 0) 0 (by omega) (by omega) hS (by omega) (by omega) (by rw [List.drop_zero]; exact hc)
  refine ⟨v, fun k hk => ⟨?_, ?_⟩⟩
  · unfold impl_partsOf.f
    rw [cells_some c g k (by omega), Option.bind_some]
    exact v1 k (by omega)
  · have e0 : ((rdOf ByteArray.empty xs 0).size : Int) = (wide xs : Int) := rfl
    have em : wrap64 ((xs.length : Int) * (wide xs : Int)) = ((xs.length * wide xs : Nat) : Int) := by rw [← Int.natCast_mul, w64N (by omega)]
    unfold spec_l12Parts.f
    rw [if_pos (by omega), e0, em, if_pos (Int.natCast_nonneg _), Int.toNat_natCast, if_pos (by omega)]
    exact v2 k (by omega)
end Go.Proofs.YtacbacbmomhjoaaDoor.Pure
