-- Printed by a program of this session out of the translation; not trusted: Lean checks it.
-- SHRUNK
import Derived.Test.YtjfkjmfdckbecaaPrint0
import Derived.Test.YtjfkjmfdckbecaaPrint8
namespace Go.Proofs.Ytjfkjmfdckbecaa.Print
open Go.RowKit Go.Proofs.YtjfkjmfdckbecaaW.PrintWords Go.Proofs.YtjfkjmfdckbecaaW.PrintLast Go.Proofs.YtjfkjmfdckbecaaW.PrintMore
attribute [local go_sem] max2_int min2_int max_two min_two max_three min_three max_four min_four   -- for this text's walks alone
set_option linter.unusedVariables false
set_option linter.unusedSimpArgs false

/-! ### spec_l11Free: function 53 -/
def g_meetL (a b : S36) (x y : Int) : Bool := g_meet a.f0 a.f1 b.f0 b.f1 x y
def g_freeAt (l0 : List S36) (l1 : List Int) (a2 a3 : Int) (i : Nat) : Bool := decide (rd l1 (i : Int) ≥ 0) && g_meetL (rd_T36 l0 (i : Int)) (rd_T36 l0 a2) (rd (rd_T36 l0 (i : Int)).f2 (rd l1 (i : Int))) a3
def g_freePre (l0 : List S36) (l1 : List Int) (a2 : Int) : Bool := decide (0 ≤ a2) && (decide (a2 < (l0.length : Int)) && (decide (a2 ≤ (l1.length : Int)) && (List.range a2.toNat).all fun i => decide (rd l1 (i : Int) < ((rd_T36 l0 (i : Int)).f2.length : Int))))
def spec_l11Free.f (l0 : List (S36)) (l1 : List Int) (a2 : Int) (a3 : Int) : Option (Bool) := if g_freePre l0 l1 a2 = true then some (!(List.range a2.toNat).any (g_freeAt l0 l1 a2 a3)) else none
set_option maxHeartbeats 8000000 in
set_option maxRecDepth 100000 in
theorem spec_l11Free.calls (A0 : Option Addr) (c0 : Nat) (l0 : List (S36)) (A1 : Option Addr) (c1 : Nat) (l1 : List Int) (a2 : Int) (a3 : Int) (r : Bool) (w : World) (hr0 : Kd.C k36 w A0 l0.length l0) (hc0 : l0.length ≤ c0) (hr1 : Kd.C (Kd.int .i64) w A1 l1.length l1) (hc1 : l1.length ≤ c1) (h : spec_l11Free.f l0 l1 a2 a3 = some r) :
  Calls Try.prog 53 #[.slice A0 l0.length c0, .slice A1 l1.length c1, .int .i64 a2, .int .i64 a3] w fun e w' => e = .returned (.bool r) ∧ Drawn0 w w' := by
 have hpre : g_freePre l0 l1 a2 = true := by
  unfold spec_l11Free.f at h
  by_cases hp : g_freePre l0 l1 a2 = true
  ·exact hp
  ·rw [if_neg hp] at h; cases h
 have hval : (!(List.range a2.toNat).any (g_freeAt l0 l1 a2 a3)) = r := by
  unfold spec_l11Free.f at h
  rw [if_pos hpre] at h
  exact Option.some.inj h
 have HV := Aside0.mk hval
 unfold g_freePre at hpre
 simp only [Bool.and_eq_true, decide_eq_true_eq] at hpre
 obtain ⟨q0, q1, q2, q3⟩ := hpre
 have Q3 : Aside0 (∀ i : Nat, (i : Int) < a2 → rd l1 (i : Int) < ((rd_T36 l0 (i : Int)).f2.length : Int)) := ⟨fun i hi => of_decide_eq_true (List.all_eq_true.1 q3 i (List.mem_range.2 (by omega)))⟩
 have HR0 := Aside0.mk hr0
 have HR1 := Aside0.mk hr1
 have HL := Aside0.mk hr0.2.1
 have Q := Aside0.mk (And.intro q0 (And.intro q1 q2))
 have hu := Try.underlying36
 obtain ⟨ad0, A20, c20, e20, hy0, hy1, hy2, hy3, hly, hCy⟩ := at_T36 hr0 a2 q0 q1
 have HY := Aside0.mk (And.intro hy0 (And.intro hy1 e20))
 clear hr0 hc0 h hr1 hc1 hval q3 hy0 hy1 hy2 hy3 hly hCy q2 e20 q0 q1
 go_enter Try.func53, Try.ntmps53
 go_wp2
 go_loopg [9] a2.toNat (fun d v9 w' => ∃ x : Int, v9 = .int .i64 x ∧ Aside0 (0 ≤ x ∧ x + (d : Int) = a2) ∧ Aside0 (∀ j : Nat, (j : Int) < x → g_freeAt l0 l1 a2 a3 j = false) ∧ Drawn0 w w')
 case atStart => exact ⟨0, rfl, ⟨by have := Q.out; omega⟩, ⟨fun j hx => absurd hx (by omega)⟩, by repeat (first | exact Drawn0.refl _ | apply Drawn0.step)⟩
 case round =>
  obtain ⟨x, rfl, HI, HP, ⟨m1, rfl⟩⟩ := hrel
  by_cases hi : x < a2
  ·have p9 : 0 ≤ (x : Int) := HI.out.1
   have q9 : x < (l0.length : Int) := by have := Q.out; omega
   have q8 : x < (l1.length : Int) := by have := Q.out; omega
   have HFA := Aside0.mk (show g_freeAt l0 l1 a2 a3 x.toNat = (decide (rd l1 x ≥ 0) && g_meetL (rd_T36 l0 x) (rd_T36 l0 a2) (rd (rd_T36 l0 x).f2 (rd l1 x)) a3) by unfold g_freeAt; rw [Int.toNat_of_nonneg p9])
   have HB := Aside0.mk (show rd l1 x < ((rd_T36 l0 x).f2.length : Int) by have := Q3.out x.toNat (by omega); rwa [Int.toNat_of_nonneg p9] at this)
   obtain ⟨ad8, e8, hx8⟩ := Kd.at_int HR1.out x p9 q8
   cases e8
   have cb1 : decide (x < a2) = true := decide_eq_true hi
   have HWA := Aside0.mk (show wrap64 (x + 1) = x + 1 by have := HL.out; unfold wrap64; omega)
   cases gk with
   | zero => exact absurd HI.out.2 (by omega)
   | succ k1 =>
   have HI2 := HI
   by_cases e1 : rd l1 x ≥ 0
   ·have cb3 : decide (0 ≤ rd l1 x) = true := decide_eq_true e1
    obtain ⟨ad9, A9, c9, e9, hx0, hx1, hx2, hx3, hl9, hC9⟩ := at_T36 HR0.out x p9 q9
    obtain ⟨ad7, e7, hx7⟩ := Kd.at_int hC9 (rd l1 x) e1 HB.out
    cases e9
    cases e7
    have hadd : ad0 = ad9 := (Option.some.inj HY.out.2.2).symm
    subst hadd
    have HX := Aside0.mk (And.intro hx0 hx1)
    clear hx0 hx1 hx3 hl9 hC9
    have q7 := eq_true HB.out
    have q1 := eq_true Q.out.2.1
    have q0 := eq_true Q.out.1
    cases e2 : g_meetL (rd_T36 l0 x) (rd_T36 l0 a2) (rd (rd_T36 l0 x).f2 (rd l1 x)) a3 with
    | true =>
     have E2 := Aside0.mk (show g_meet (rd_T36 l0 x).f0 (rd_T36 l0 x).f1 (rd_T36 l0 a2).f0 (rd_T36 l0 a2).f1 (rd (rd_T36 l0 x).f2 (rd l1 x)) a3 = true from e2)
     have hres : r = false := HV.out.symm.trans (by
      have : (List.range a2.toNat).any (g_freeAt l0 l1 a2 a3) = true := List.any_eq_true.2 ⟨x.toNat, List.mem_range.2 (by omega), by rw [HFA.out, decide_eq_true e1, e2]; rfl⟩
      rw [this]; rfl)
     subst hres
     clear e2
     replace hi := eq_true hi
     replace p9 := eq_true p9
     replace q9 := eq_true q9
     replace q8 := eq_true q8
     replace e1 := eq_true e1
     go_wp2
     repeat (go_quiet (first | (go_at_call 43; (with_reducible refine (spec_l11Meet.calls (ad0.add (x.toNat * 4)) (ad0.add (a2.toNat * 4)) (rd_T36 l0 x).f0 (rd_T36 l0 x).f1 (rd_T36 l0 a2).f0 (rd_T36 l0 a2).f1 (rd (rd_T36 l0 x).f2 (rd l1 x)) a3 _ ?a0 ?a1 ?a2 ?a3 true E2.out).mono ?_); (case a0 => (try simp only [World.cell?_drewN]); exact HX.out.1); (case a1 => (try simp only [World.cell?_drewN]); exact HX.out.2); (case a2 => (try simp only [World.cell?_drewN]); exact HY.out.1); (case a3 => (try simp only [World.cell?_drewN]); exact HY.out.2.1); rintro e w' ⟨rfl, ⟨nd, rfl⟩⟩; (try first | exact ⟨rfl, _, World.drewN_drewN _ _ _⟩ | exact ⟨rfl, _, Eq.trans (World.drewN_drewN _ _ _) (congrArg (World.drewN _) (Nat.add_assoc _ _ _))⟩))); try go_wp2)
     go_ret
     exact ⟨by first | rfl | (simp; done) | (simp [*]; done), by repeat (first | exact Drawn0.refl _ | apply Drawn0.step)⟩
    | false =>
     have E2 := Aside0.mk (show g_meet (rd_T36 l0 x).f0 (rd_T36 l0 x).f1 (rd_T36 l0 a2).f0 (rd_T36 l0 a2).f1 (rd (rd_T36 l0 x).f2 (rd l1 x)) a3 = false from e2)
     have HP2 : Aside0 (∀ j : Nat, (j : Int) < x + 1 → g_freeAt l0 l1 a2 a3 j = false) := ⟨fun j hjx => by
      by_cases hjx : (j : Int) = x
      ·have : j = x.toNat := by omega
       rw [this, HFA.out, e2, Bool.and_false]
      ·exact HP.out j (by omega)⟩
     clear e2
     replace hi := eq_true hi
     replace p9 := eq_true p9
     replace q9 := eq_true q9
     replace q8 := eq_true q8
     replace e1 := eq_true e1
     go_wp2
     repeat (go_quiet (first | (go_at_call 43; (with_reducible refine (spec_l11Meet.calls (ad0.add (x.toNat * 4)) (ad0.add (a2.toNat * 4)) (rd_T36 l0 x).f0 (rd_T36 l0 x).f1 (rd_T36 l0 a2).f0 (rd_T36 l0 a2).f1 (rd (rd_T36 l0 x).f2 (rd l1 x)) a3 _ ?a0 ?a1 ?a2 ?a3 false E2.out).mono ?_); (case a0 => (try simp only [World.cell?_drewN]); exact HX.out.1); (case a1 => (try simp only [World.cell?_drewN]); exact HX.out.2); (case a2 => (try simp only [World.cell?_drewN]); exact HY.out.1); (case a3 => (try simp only [World.cell?_drewN]); exact HY.out.2.1); rintro e w' ⟨rfl, ⟨nd, rfl⟩⟩; (try first | exact ⟨rfl, _, World.drewN_drewN _ _ _⟩ | exact ⟨rfl, _, Eq.trans (World.drewN_drewN _ _ _) (congrArg (World.drewN _) (Nat.add_assoc _ _ _))⟩))); try go_wp2)
     go_roundg k1
     case measure => have := HI2.out.2; omega
     case rel => exact ⟨x + 1, by rw [HWA.out], ⟨by have := HI2.out; omega⟩, HP2, by repeat (first | exact Drawn0.refl _ | apply Drawn0.step)⟩
   ·have cb3 : decide (0 ≤ rd l1 x) = false := decide_eq_false e1
    have HP2 : Aside0 (∀ j : Nat, (j : Int) < x + 1 → g_freeAt l0 l1 a2 a3 j = false) := ⟨fun j hjx => by
      by_cases hjx : (j : Int) = x
      ·have : j = x.toNat := by omega
       rw [this, HFA.out, decide_eq_false e1, Bool.false_and]
      ·exact HP.out j (by omega)⟩
    replace hi := eq_true hi
    replace p9 := eq_true p9
    replace q9 := eq_true q9
    replace q8 := eq_true q8
    clear e1
    go_wp2
    repeat (go_quiet (fail); try go_wp2)
    go_roundg k1
    case measure => have := HI2.out.2; omega
    case rel => exact ⟨x + 1, by rw [HWA.out], ⟨by have := HI2.out; omega⟩, HP2, by repeat (first | exact Drawn0.refl _ | apply Drawn0.step)⟩
  ·have hres : r = true := HV.out.symm.trans (by
    have : (List.range a2.toNat).any (g_freeAt l0 l1 a2 a3) = false := List.any_eq_false.2 fun j hj => by
     rw [HP.out j (by have := List.mem_range.1 hj; have := HI.out; omega)]; simp
    rw [this]; rfl)
   subst hres
   have cb1 : decide (x < a2) = false := decide_eq_false hi
   clear hi
   go_wp2
   go_ret
   exact ⟨by first | rfl | (simp; done) | (simp [*]; done), by repeat (first | exact Drawn0.refl _ | apply Drawn0.step)⟩

end Go.Proofs.Ytjfkjmfdckbecaa.Print
