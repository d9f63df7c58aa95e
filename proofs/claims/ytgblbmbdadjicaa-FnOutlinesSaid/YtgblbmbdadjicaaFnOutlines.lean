/- The law FnOutlines: a closed chain that is turned has the opposite area, one that is moved keeps it, and the greatest outline is not less than others. -/
import Derived.Test.YtgblbmbdadjicaaPrint0
import Derived.Test.YtgblbmbdadjicaaPrint2
import Derived.Test.YtgblbmbdadjicaaPrint4
import Derived.Test.YtgblbmbdadjicaaPrint9
import Derived.Test.YtgblbmbdadjicaaPrint11
import Derived.Test.YtgblbmbdadjicaaPrint15
import Derived.Test.YtgblbmbdadjicaaPrint16
import Derived.Test.YtgblbmbdadjicaaPrint17
import Derived.Test.YtgblbmbdadjicaaPrint18
import Derived.Test.YtgblbmbdadjicaaNum
import Derived.Test.YtgblbmbdadjicaaInW
import Derived.Test.YtgblbmbdadjicaaSrc
import Derived.Test.YtgblbmbdadjicaaChA
import Derived.Test.YtgblbmbdadjicaaChV
import Derived.Test.YtgblbmbdadjicaaChC
import Derived.Test.YtgblbmbdadjicaaChCC
import Derived.Test.YtgblbmbdadjicaaChArea
import Derived.Test.YtgblbmbdadjicaaAreaB
import Derived.Test.YtgblbmbdadjicaaAreaL
import Derived.Test.YtgblbmbdadjicaaAbs
import Derived.Test.YtgblbmbdadjicaaChK
import Derived.Test.YtgblbmbdadjicaaChM
import Derived.Test.YtgblbmbdadjicaaChR
import Derived.Test.YtgblbmbdadjicaaChB
import Derived.Test.YtgblbmbdadjicaaMoveV
import Derived.Test.YtgblbmbdadjicaaRdP
import Derived.Test.YtgblbmbdadjicaaChSC
import Derived.Test.YtgblbmbdadjicaaOutl
import Derived.Test.YtgblbmbdadjicaaGreatest
import Derived.Test.YtgblbmbdadjicaaInsV
import Derived.Test.YtgblbmbdadjicaaDrawC
import Derived.Test.YtgblbmbdadjicaaDrawO
import Derived.Test.YtgblbmbdadjicaaSameS
namespace Go.Proofs.Ytgblbmbdadjicaa.Pure
open Go.RowKit Go.Proofs.Ytgblbmbdadjicaa.Print Go.Proofs.YtgblbmbdadjicaaW.PrintWords Go.Proofs.YtgblbmbdadjicaaW.PrintLast Go.Proofs.YtgblbmbdadjicaaW.PrintMore
set_option linter.unusedVariables false
set_option linter.unusedSimpArgs false
theorem abs6 {x : Int} (h0 : -2000000000000000000 ≤ x) (h1 : x ≤ 2000000000000000000) : laws_f6abs.f x = some (x.natAbs : Int) := by
  unfold laws_f6abs.f
  rw [w64 (x := -x) (by omega) (by omega)]
  split <;> (congr 1; omega)
theorem closed_val (xs : List S44) (hl : xs.length ≤ 4611686018427387903) (k : Nat) (hk : xs.length < k) : spec_IsClosed.f k xs = some (if okCh xs = true then (okCl xs, 0) else (false, 1)) ∧ impl_IsClosed.f k xs = some (if okCh xs = true then (okCl xs, 0) else (false, 1)) := by
  unfold spec_IsClosed.f impl_IsClosed.f
  rw [l07Ok_some xs hl k hk, valid_some xs hl k hk, (closed_some xs hl).1, (closed_some xs hl).2]
  cases okCh xs <;> exact ⟨rfl, rfl⟩
theorem drawT {c : List Int} (h : Code c) (k : Nat) (hk : 100 ≤ k) : ∃ xs, spec_DrawTwiceArea.f k c = some xs ∧ xs.length ≤ 10 := by
  obtain ⟨xs, a, s, e, l, _⟩ := any_some h 0 0 (by omega) (by omega) k (by omega)
  unfold spec_DrawTwiceArea.f spec_l00From.f
  rw [Option.bind_some]
  dsimp only
  rw [e]
  exact ⟨xs, rfl, l⟩
theorem drawM {c : List Int} (h : Code c) (k : Nat) (hk : 100 ≤ k) : ∃ xs x y, spec_DrawMoveChain.f k c = some (xs, x, y) ∧ xs.length ≤ 10 := by
  obtain ⟨xs, a, s, e, l, p, q⟩ := any_some h 0 0 (by omega) (by omega) k (by omega)
  obtain ⟨v, a1, s1, e1, p1, q1, _⟩ := pick_some h a s 60 (by omega) (by omega)
  obtain ⟨b, a2, s2, e2, p2, q2⟩ := one_some h a1 s1 10 (by omega) (by omega)
  obtain ⟨u, a3, s3, e3, p3, q3, _⟩ := pick_some h a2 s2 60 (by omega) (by omega)
  obtain ⟨w, a4, s4, e4, p4, q4, _⟩ := among_some h a2 s2 [(-2001), (-2000), 2000, 2001, (-9223372036854775808)] (by omega) (by omega) (by simp)
  unfold spec_DrawMoveChain.f spec_l00From.f
  rw [Option.bind_some]
  dsimp only
  rw [e, Option.bind_some]
  dsimp only
  rw [e1, Option.bind_some]
  dsimp only
  rw [e2, Option.bind_some]
  dsimp only
  cases b
  · rw [if_neg (by simp), e3]; exact ⟨xs, _, _, rfl, l⟩
  · rw [if_pos rfl, e4]; exact ⟨xs, _, _, rfl, l⟩
theorem drawI {c : List Int} (h : Code c) (k : Nat) (hk : 100 ≤ k) : ∃ xs x y, spec_DrawInsideOf.f k c = some (xs, x, y) ∧ xs.length ≤ 10 := by
  obtain ⟨xs, a, s, e, l, p, q⟩ := any_some h 0 0 (by omega) (by omega) k (by omega)
  obtain ⟨v, a1, s1, e1, p1, q1, _⟩ := pick_some h a s 100 (by omega) (by omega)
  obtain ⟨v2, a2, s2, e2, p2, q2, _⟩ := pick_some h a1 s1 100 (by omega) (by omega)
  obtain ⟨b, a3, s3, e3, p3, q3⟩ := one_some h a2 s2 10 (by omega) (by omega)
  obtain ⟨w, a4, s4, e4, p4, q4, _⟩ := among_some h a3 s3 [(-1), 0, 2000, 2001] (by omega) (by omega) (by simp)
  unfold spec_DrawInsideOf.f spec_l00From.f
  rw [Option.bind_some]
  dsimp only
  rw [e, Option.bind_some]
  dsimp only
  rw [e1, Option.bind_some]
  dsimp only
  rw [e2, Option.bind_some]
  dsimp only
  rw [e3, Option.bind_some]
  dsimp only
  cases b
  · exact ⟨xs, _, _, rfl, l⟩
  · rw [if_pos rfl, e4]; exact ⟨xs, _, _, rfl, l⟩
theorem drawG {c : List Int} (h : Code c) (k : Nat) (hk : 300 ≤ k) : ∃ xs, spec_DrawGreatestOutline.f k c = some xs ∧ Few3 xs 31 := by
  obtain ⟨xs, a, s, e, l⟩ := list_some h k hk
  unfold spec_DrawGreatestOutline.f spec_l00From.f
  rw [Option.bind_some]
  dsimp only
  rw [e]
  exact ⟨xs, rfl, l⟩
theorem j4_true (xs : List S44) (hl : xs.length ≤ 1000000) (k : Nat) (hk : xs.length + 2 < k) : laws_FnOutlines.j4 k (clCode xs) (if clCode xs = 0 then area xs else 0) (leftOf xs) = some true := by
  obtain ⟨k, rfl⟩ : ∃ m, k = m + 1 := ⟨k - 1, by omega⟩
  have hll := leftOf_length xs
  simp only [laws_FnOutlines.j4]
  by_cases h : clCode xs = 0
  · obtain ⟨c1, c2⟩ := left_area h
    have ab := area_bound (clCode_iff.1 h).1
    rw [if_pos h, (twice_val (leftOf xs) (by omega) k (by omega)).2, if_pos c1, c1, c2, Option.bind_some, if_pos h]
    dsimp only
    rw [if_pos rfl, abs6 (by omega) (by omega), Option.bind_some]
    congr 1
    rw [beq_iff_eq]
    split <;> omega
  · rw [if_neg h]
theorem lo_loop (xs : List S44) (hl : xs.length ≤ 1000000) (ls : List (List S44)) (hls : Few3 ls 31) (b : Nat) (hb : b < ls.length) (ho : ∀ c ∈ ls, okCh c = true) (hcb : okCl ls[b] = true) (g : ∀ j (hj : j < ls.length), okCl ls[j] = true → (area ls[j]).natAbs ≤ (area ls[b]).natAbs) : ∀ (d k i : Nat), ls.length - i = d → i ≤ ls.length → d + xs.length + 50 < k → laws_FnOutlines.l0 k (clCode xs) (if clCode xs = 0 then area xs else 0) (leftOf xs) ls (area ls[b]) 0 i = some true := by
  intro d
  have abb := area_bound (ho _ (List.getElem_mem hb))
  induction d with
  | zero =>
    intro k i hd hi hk
    obtain ⟨k, rfl⟩ : ∃ m, k = m + 1 := ⟨k - 1, by omega⟩
    simp only [laws_FnOutlines.l0]
    rw [if_neg (by omega), j4_true xs hl k (by omega)]
  | succ d ih =>
    intro k i hd hi hk
    obtain ⟨k, rfl⟩ : ∃ m, k = m + 1 := ⟨k - 1, by omega⟩
    have h : i < ls.length := by omega
    have hll := hls.1
    have hc := hls.2 _ (List.getElem_mem h)
    have ab := area_bound (ho _ (List.getElem_mem h))
    simp only [laws_FnOutlines.l0]
    rw [if_pos (by omega), if_pos (by omega), rdPP h, (twice_val ls[i] (by omega) k (by omega)).2, Option.bind_some, if_pos trivial, nxt h (by omega), ih k (i + 1) (by omega) (by omega) (by omega)]
    dsimp only
    by_cases hcl : clCode ls[i] = 0
    · have hj := g i h (clCode_iff.1 hcl).2
      rw [if_pos hcl, if_pos hcl, abs6 (by omega) (by omega), abs6 (by omega) (by omega), Option.bind_some, Option.bind_some, if_neg (by omega)]
    · rw [if_neg hcl]
theorem j2_true (xs : List S44) (hl : xs.length ≤ 1000000) (ls : List (List S44)) (hls : Few3 ls 31) (z : Int × Int) (K : Nat) (hK : 1100000 ≤ K) (ez : impl_GreatestOutline.f K ls = some z) (k : Nat) (hk : xs.length + 100 < k) : laws_FnOutlines.j2 k (clCode xs) (if clCode xs = 0 then area xs else 0) (leftOf xs) ls z.2 z.1 = some true := by
  obtain ⟨k, rfl⟩ : ∃ m, k = m + 1 := ⟨k - 1, by omega⟩
  have hll := hls.1
  simp only [laws_FnOutlines.j2]
  by_cases hz : z.2 = 0
  · obtain ⟨ho, b, hb, e, hcb, g⟩ := great_val ls (by omega) (fun c hc => by have := hls.2 c hc; omega) (by omega) ez hz
    have hc := hls.2 _ (List.getElem_mem hb)
    have hcl : clCode ls[b] = 0 := clCode_iff.2 ⟨ho _ (List.getElem_mem hb), hcb⟩
    rw [if_pos hz, e, if_pos (by omega), if_pos (by omega), rdPP hb, (twice_val ls[b] (by omega) k (by omega)).1, Option.bind_some, if_pos hcl, hcl]
    dsimp only
    have := lo_loop xs hl ls hls b hb ho hcb g ls.length k 0 (by omega) (by omega) (by omega)
    rw [Int.natCast_zero] at this
    exact this
  · rw [if_neg hz, j4_true xs hl k (by omega)]
theorem FnOutlines : laws_FnOutlines.Pure := by
  intro code hc hcl
  suffices H : ∀ k, 1200000 ≤ k → laws_FnOutlines.f k code = some true from ⟨_, H _ (Nat.le_refl _)⟩
  intro k hk
  obtain ⟨k, rfl⟩ : ∃ m, k = m + 2 := ⟨k - 2, by omega⟩
  have C := code_of hc hcl
  obtain ⟨xs, ex, lx⟩ := drawT C (k + 2) (by omega)
  obtain ⟨a, u, v, ea, la⟩ := drawM C (k + 2) (by omega)
  obtain ⟨b, p, q, eb, lb⟩ := drawI C (k + 2) (by omega)
  obtain ⟨ls, el, fl⟩ := drawG C (k + 2) (by omega)
  obtain ⟨t1, t2⟩ := twice_val xs (by omega) (k + 2) (by omega)
  obtain ⟨l1, l2⟩ := left_val xs (by omega) (k + 2) (by omega)
  obtain ⟨m1, m2⟩ := move_val a u v (by omega) (k + 2) (by omega)
  obtain ⟨r, i1, i2⟩ := bothInsideOf b p q (by omega) (k + 2) (by omega)
  have hl31 := fl.1
  obtain ⟨z, gz⟩ := greatest_both ls (by omega) (fun c hc => by have := fl.2 c hc; omega)
  obtain ⟨g1, g2⟩ := gz (k + 2) (by omega)
  obtain ⟨c1, c2⟩ := closed_val xs (by omega) (k + 2) (by omega)
  have hll := leftOf_length xs
  have s1 := sameChain_self (leftOf xs) (by omega) (k + 2) (by omega)
  have hml : (moveV a u v).1.length ≤ 10 := by
    unfold moveV movedEnd
    split <;> (try split) <;> (try split) <;> simp <;> omega
  have s2 := sameChain_self (moveV a u v).1 (by omega) (k + 2) (by omega)
  have J2 := j2_true xs (by omega) ls fl z (k + 2) (by omega) g2 k (by omega)
  have J1 : laws_FnOutlines.j1 (k + 1) (clCode xs) (if clCode xs = 0 then area xs else 0) (leftOf xs) a (moveV a u v).1 (moveV a u v).2 ls z.2 z.1 false = some true := by
    simp only [laws_FnOutlines.j1, Bool.false_eq_true, if_false]
    by_cases h0 : (moveV a u v).2 = 0
    · obtain ⟨q1, q2⟩ : okCh a = true ∧ ((-2000 ≤ u ∧ u ≤ 2000) ∧ -2000 ≤ v ∧ v ≤ 2000) ∧ okCh (a.map (moved u v)) = true ∧ (moveV a u v).1 = a.map (moved u v) := by
        unfold moveV movedEnd at *
        by_cases h1 : okCh a = true
        · rw [if_pos h1] at *
          by_cases h2 : (-2000 ≤ u ∧ u ≤ 2000) ∧ -2000 ≤ v ∧ v ≤ 2000
          · rw [if_pos h2] at *
            by_cases h3 : okCh (a.map (moved u v)) = true
            · rw [if_pos h3] at *; exact ⟨h1, h2, h3, rfl⟩
            · rw [if_neg h3] at h0; cases h0
          · rw [if_neg h2] at h0; cases h0
        · rw [if_neg h1] at h0; cases h0
      obtain ⟨q2, q3, q4⟩ := q2
      rw [moved_shift (okCh_iff.1 q1).1 q2.1 q2.2] at q3 q4
      obtain ⟨w1, w2⟩ := twice_moved q1 q3
      rw [if_pos h0, q4, (twice_val a (by omega) k (by omega)).1, (twice_val (a.map (shiftP u v)) (by simp; omega) k (by simp; omega)).2, Option.bind_some, Option.bind_some, w1]
      dsimp only
      have e : (if clCode a = 0 then area (a.map (shiftP u v)) else 0) = if clCode a = 0 then area a else 0 := by
        by_cases h : clCode a = 0
        · rw [if_pos h, if_pos h, w2 h]
        · rw [if_neg h, if_neg h]
      rw [e, if_pos rfl, if_pos rfl, J2]
    · rw [if_neg h0, J2]
  have J0 : laws_FnOutlines.j0 (k + 2) (clCode xs) (if clCode xs = 0 then area xs else 0) (leftOf xs) a (moveV a u v).1 (moveV a u v).2 ls z.2 z.1 (if okCh xs = true then (okCl xs, (0 : Int)) else (false, 1)).2 (if okCh xs = true then (okCl xs, (0 : Int)) else (false, 1)).1 false = some true := by
    simp only [laws_FnOutlines.j0, Bool.false_eq_true, if_false]
    by_cases h : okCh xs = true
    · have e : (okCl xs != (clCode xs == 0)) = false := by
        unfold clCode
        rw [if_pos h]
        cases okCl xs <;> rfl
      simp only [h, if_true, e]
      exact J1
    · simp only [h, Bool.false_eq_true, if_false]
      rw [if_neg (by omega)]
      exact J1
  unfold laws_FnOutlines.f laws_f6big.f
  rw [Option.bind_some]
  by_cases hb : (code.length : Int) > 4096
  · rw [if_pos (decide_eq_true hb)]
  have hb' : ¬ decide ((code.length : Int) > 4096) = true := by simpa using hb
  rw [if_neg hb', ex, Option.bind_some, t2, Option.bind_some, t1, Option.bind_some, l2, Option.bind_some, l1, Option.bind_some, ea, Option.bind_some]
  dsimp only
  rw [m2, Option.bind_some, m1, Option.bind_some, eb, Option.bind_some]
  dsimp only
  rw [i2, Option.bind_some, i1, Option.bind_some, el, Option.bind_some, g2, Option.bind_some, g1, Option.bind_some, c2, Option.bind_some, c1, Option.bind_some]
  rw [if_pos rfl, if_pos rfl, if_pos rfl, s1, Option.bind_some, if_pos rfl, if_pos rfl, s2, Option.bind_some, if_pos rfl, if_pos rfl, if_neg (by simp), if_pos rfl, if_pos rfl, if_pos rfl, bne_self_eq_false]
  exact J0
end Go.Proofs.Ytgblbmbdadjicaa.Pure
