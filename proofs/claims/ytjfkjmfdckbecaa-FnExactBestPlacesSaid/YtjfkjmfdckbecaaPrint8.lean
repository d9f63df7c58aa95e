-- Printed by a program of this session out of the translation; not trusted: Lean checks it.
-- SHRUNK
import Derived.Test.YtjfkjmfdckbecaaPrint0
import Derived.Test.YtjfkjmfdckbecaaPrint7
namespace Go.Proofs.Ytjfkjmfdckbecaa.Print
open Go.RowKit Go.Proofs.YtjfkjmfdckbecaaW.PrintWords Go.Proofs.YtjfkjmfdckbecaaW.PrintLast Go.Proofs.YtjfkjmfdckbecaaW.PrintMore
attribute [local go_sem] max2_int min2_int max_two min_two max_three min_three max_four min_four   -- for this text's walks alone
set_option linter.unusedVariables false
set_option linter.unusedSimpArgs false

/-! ### spec_l11One: function 52 -/
def g_in (n lo hi : Int) : Bool := decide (n ≥ lo) && decide (n ≤ hi)
theorem g_in_some (n lo hi : Int) : spec_l00In.f n lo hi = some (g_in n lo hi) := by
 unfold spec_l00In.f g_in
 by_cases h : n ≥ lo
 ·rw [if_pos h]; simp [h]
 ·rw [if_neg h]; simp [h]
theorem g_has_loop (l : List Int) (a : Int) (hl : l.length ≤ 9223372036854775807) : ∀ (d i k : Nat), i + d = l.length → d < k → spec_l00Has.l0 k l a (i : Int) = some ((l.drop i).contains a) := by
 intro d
 induction d with
 | zero =>
  intro i k h hk
  obtain ⟨k, rfl⟩ : ∃ m, k = m + 1 := ⟨k - 1, by omega⟩
  simp only [spec_l00Has.l0]
  rw [if_neg (by omega), List.drop_of_length_le (by omega)]
  rfl
 | succ d ih =>
  intro i k h hk
  obtain ⟨k, rfl⟩ : ∃ m, k = m + 1 := ⟨k - 1, by omega⟩
  simp only [spec_l00Has.l0]
  have hi : i < l.length := by omega
  rw [if_pos (by omega), if_pos (by omega)]
  have e : rd l (i : Int) = l[i] := by unfold rd; rw [Int.toNat_natCast, List.getD_eq_getElem?_getD, List.getElem?_eq_getElem hi]; rfl
  rw [e, List.drop_eq_getElem_cons hi, List.contains_cons]
  by_cases c : l[i] = a
  ·rw [if_pos c, c]; simp
  ·have cb : (a == l[i]) = false := by rw [beq_eq_false_iff_ne]; exact fun h => c h.symm
   rw [if_neg c, cb, Bool.false_or, show wrap64 ((i : Int) + 1) = ((i + 1 : Nat) : Int) by unfold wrap64; omega]
   exact ih (i + 1) k (by omega) (by omega)
theorem g_has_some (l : List Int) (a : Int) (hl : l.length ≤ 9223372036854775807) (k : Nat) (hk : l.length < k) : spec_l00Has.f k l a = some (l.contains a) :=
 g_has_loop l a hl l.length 0 k (by omega) hk
def g_stOk (l : List Int) (i : Nat) : Bool := g_in (rd l (i : Int)) 0 1000 && !(l.take i).contains (rd l (i : Int))
def g_one (a0 a1 : Int) (l : List Int) (a3 : Int) : Bool := (List.range l.length).all (g_stOk l) && (g_in (l.length : Int) 1 3 && g_in a0 0 11) && (g_in a1 1 1000 && g_in a3 1 1000)
theorem g_one_st {a0 a1 : Int} {l : List Int} {a3 : Int} {x : Int} (h0 : 0 ≤ x) (h1 : x < (l.length : Int)) (h : g_in (rd l x) 0 1000 = false ∨ (l.take x.toNat).contains (rd l x) = true) : g_one a0 a1 l a3 = false := by
 unfold g_one
 have : (List.range l.length).all (g_stOk l) = false := List.all_eq_false.2 ⟨x.toNat, List.mem_range.2 (by omega), by
  unfold g_stOk
  rw [Int.toNat_of_nonneg h0]
  rcases h with h | h <;> rw [h] <;> simp⟩
 rw [this]; rfl
set_option maxHeartbeats 8000000 in
set_option maxRecDepth 100000 in
theorem spec_l11One.calls (p : Addr) (a0 a1 : Int) (A2 : Option Addr) (c2 : Nat) (l2 : List Int) (a3 : Int) (w : World)
  (h0 : w.cell? p = some (.int .i64 a0)) (h1 : w.cell? ⟨p.block, p.off + 1, none⟩ = some (.int .i64 a1)) (h2 : w.cell? ⟨p.block, p.off + 2, none⟩ = some (.slice A2 l2.length c2)) (h3 : w.cell? ⟨p.block, p.off + 3, none⟩ = some (.int .i64 a3))
  (hr2 : Kd.C (Kd.int .i64) w A2 l2.length l2) (hc2 : l2.length ≤ c2) (r : Bool) (hres : g_one a0 a1 l2 a3 = r) :
  Calls Try.prog 52 #[.pointer (some p)] w fun e w' => e = .returned (.bool r) ∧ Drawn0 w w' := by
 have HR2 := Aside0.mk hr2
 have HC2 := Aside0.mk hc2
 have HL := Aside0.mk hr2.2.1
 have HRES := Aside0.mk hres
 have hu := Try.underlying36
 clear hr2 hc2 hres
 go_enter Try.func52, Try.ntmps52
 go_wp2
 go_loopg [3] l2.length (fun d v3 w' => ∃ x : Int, v3 = .int .i64 x ∧ Aside0 (0 ≤ x ∧ x + (d : Int) = (l2.length : Int)) ∧ Aside0 (∀ j : Nat, (j : Int) < x → g_stOk l2 j = true) ∧ Drawn0 w w')
 case atStart => exact ⟨0, rfl, ⟨by omega⟩, ⟨fun j hj => absurd hj (by omega)⟩, by repeat (first | exact Drawn0.refl _ | apply Drawn0.step)⟩
 case round =>
  obtain ⟨x, rfl, HI, HP, ⟨m1, rfl⟩⟩ := hrel
  by_cases hi : x < (l2.length : Int)
  ·have p9 : 0 ≤ (x : Int) := HI.out.1
   obtain ⟨ad9, e9, hx9⟩ := Kd.at_int HR2.out x p9 hi
   cases e9
   have cb1 : decide (x < (l2.length : Int)) = true := decide_eq_true hi
   have cb2 : decide (0 ≤ x) = true := decide_eq_true p9
   cases e1 : g_in (rd l2 x) 0 1000 with
   | false =>
    have E1 := Aside0.mk ((g_in_some (rd l2 x) 0 1000).trans (congrArg some e1))
    have hres : r = false := HRES.out.symm.trans (g_one_st p9 hi (.inl e1))
    subst hres
    clear e1
    replace hi := eq_true hi
    replace p9 := eq_true p9
    go_wp2
    repeat (go_quiet (first | (go_at_call 62; (with_reducible refine (spec_l00In.calls (rd l2 x) 0 1000 false _ E1.out).mono ?_); rintro e w' ⟨rfl, ⟨nd, rfl⟩⟩; (try first | exact ⟨rfl, _, World.drewN_drewN _ _ _⟩ | exact ⟨rfl, _, Eq.trans (World.drewN_drewN _ _ _) (congrArg (World.drewN _) (Nat.add_assoc _ _ _))⟩))); try go_wp2)
    go_ret
    exact ⟨by first | rfl | (simp; done) | (simp [*]; done), by repeat (first | exact Drawn0.refl _ | apply Drawn0.step)⟩
   | true =>
    have E1 := Aside0.mk ((g_in_some (rd l2 x) 0 1000).trans (congrArg some e1))
    obtain ⟨i09, hi09, _, hsz9, _⟩ := info_parts info2
    obtain ⟨hcut9, hA9, hC9⟩ := print_take_of (P := Try.prog) (Value.int .i64) 0 26 2 .i64 Try.underlying26 hi09 hsz9 (some ad9) c2 l2 x p9 (Int.le_of_lt hi) HC2.out
    have HR9 := Aside0.mk (Kd.C_of_reads (h1 := fun _ => rfl) (hA9 _ (Kd.reads_of_C HR2.out)))
    have HC9 := Aside0.mk hC9
    have HT9 := Aside0.mk (show (l2.take x.toNat).length = x.toNat by rw [List.length_take]; omega)
    clear hA9 hC9 hi09 hsz9
    have hle9 : (x ≤ (l2.length : Int)) = True := eq_true (Int.le_of_lt hi)
    have hle8 : decide (x ≤ (l2.length : Int)) = true := decide_eq_true (Int.le_of_lt hi)
    have HK := Aside0.mk (show (l2.take x.toNat).length < l2.length + 1 by rw [HT9.out]; omega)
    have HS := Aside0.mk (g_has_some (l2.take x.toNat) (rd l2 x) (by have := HL.out; rw [HT9.out]; omega) (l2.length + 1) HK.out)
    cases e2 : (l2.take x.toNat).contains (rd l2 x) with
    | true =>
     have E2 := Aside0.mk (HS.out.trans (congrArg some e2))
     have hres : r = false := HRES.out.symm.trans (g_one_st p9 hi (.inr e2))
     subst hres
     clear e1 e2
     replace hi := eq_true hi
     replace p9 := eq_true p9
     go_wp2
     repeat (go_quiet (first | (go_at_call 62; (with_reducible refine (spec_l00In.calls (rd l2 x) 0 1000 true _ E1.out).mono ?_); rintro e w' ⟨rfl, ⟨nd, rfl⟩⟩; (try first | exact ⟨rfl, _, World.drewN_drewN _ _ _⟩ | exact ⟨rfl, _, Eq.trans (World.drewN_drewN _ _ _) (congrArg (World.drewN _) (Nat.add_assoc _ _ _))⟩)) | (go_at_call 56; refine calls_of_args (args' := #[.slice (some ad9) (l2.take x.toNat).length c2, .int .i64 (rd l2 x)]) (by first | rfl | (rw [HT9.out] <;> rfl)) ?_; (with_reducible refine (spec_l00Has.calls (l2.length + 1) _ _ (l2.take x.toNat) (rd l2 x) true _ ?side1 ?side2 E2.out).mono ?_); (case side1 => repeat (first | exact HR9.out | (with_reducible refine Kd.C_alloc ?_ _) | (with_reducible refine Kd.C_drewN ?_ _) | (with_reducible refine Kd.C_drew ?_))); (case side2 => exact HC9.out); rintro e w' ⟨rfl, ⟨nd, rfl⟩⟩; (try first | exact ⟨rfl, _, World.drewN_drewN _ _ _⟩ | exact ⟨rfl, _, Eq.trans (World.drewN_drewN _ _ _) (congrArg (World.drewN _) (Nat.add_assoc _ _ _))⟩))); try go_wp2)
     go_ret
     exact ⟨by first | rfl | (simp; done) | (simp [*]; done), by repeat (first | exact Drawn0.refl _ | apply Drawn0.step)⟩
    | false =>
     have E2 := Aside0.mk (HS.out.trans (congrArg some e2))
     have HP2 : Aside0 (∀ j : Nat, (j : Int) < x + 1 → g_stOk l2 j = true) := ⟨fun j hj => by
      by_cases hjx : (j : Int) = x
      ·unfold g_stOk
       rw [hjx, e1, show j = x.toNat by omega, e2]; rfl
      ·exact HP.out j (by omega)⟩
     have HW : wrap64 (x + 1) = x + 1 := by have := HL.out; unfold wrap64; omega
     have HWA := Aside0.mk HW
     have HI2 := HI
     clear e1 e2 HW
     cases gk with
     | zero => exact absurd HI.out.2 (by omega)
     | succ k1 =>
     replace hi := eq_true hi
     replace p9 := eq_true p9
     go_wp2
     repeat (go_quiet (first | (go_at_call 62; (with_reducible refine (spec_l00In.calls (rd l2 x) 0 1000 true _ E1.out).mono ?_); rintro e w' ⟨rfl, ⟨nd, rfl⟩⟩; (try first | exact ⟨rfl, _, World.drewN_drewN _ _ _⟩ | exact ⟨rfl, _, Eq.trans (World.drewN_drewN _ _ _) (congrArg (World.drewN _) (Nat.add_assoc _ _ _))⟩)) | (go_at_call 56; refine calls_of_args (args' := #[.slice (some ad9) (l2.take x.toNat).length c2, .int .i64 (rd l2 x)]) (by first | rfl | (rw [HT9.out] <;> rfl)) ?_; (with_reducible refine (spec_l00Has.calls (l2.length + 1) _ _ (l2.take x.toNat) (rd l2 x) false _ ?side1 ?side2 E2.out).mono ?_); (case side1 => repeat (first | exact HR9.out | (with_reducible refine Kd.C_alloc ?_ _) | (with_reducible refine Kd.C_drewN ?_ _) | (with_reducible refine Kd.C_drew ?_))); (case side2 => exact HC9.out); rintro e w' ⟨rfl, ⟨nd, rfl⟩⟩; (try first | exact ⟨rfl, _, World.drewN_drewN _ _ _⟩ | exact ⟨rfl, _, Eq.trans (World.drewN_drewN _ _ _) (congrArg (World.drewN _) (Nat.add_assoc _ _ _))⟩))); try go_wp2)
     go_roundg k1
     case measure => have := HI2.out.2; omega
     case rel => exact ⟨x + 1, by rw [HWA.out], ⟨by have := HI2.out; omega⟩, HP2, by repeat (first | exact Drawn0.refl _ | apply Drawn0.step)⟩
  ·have hall : (List.range l2.length).all (g_stOk l2) = true := List.all_eq_true.2 fun j hj => HP.out j (by have := List.mem_range.1 hj; have := HI.out; omega)
   have cb1 : decide (x < (l2.length : Int)) = false := decide_eq_false hi
   have HALL := Aside0.mk hall
   clear hall hi
   have E50 := g_in_some (l2.length : Int) 1 3
   have E60 := g_in_some a0 0 11
   have E70 := g_in_some a1 1 1000
   have E80 := g_in_some a3 1 1000
   cases e5 : g_in (l2.length : Int) 1 3 with
   | false =>
    have E5 := Aside0.mk (E50.trans (congrArg some e5))
    clear E50 E60 E70 E80
    have hres : r = false := HRES.out.symm.trans (by unfold g_one; rw [HALL.out, e5]; rfl)
    subst hres
    clear e5
    go_wp2_with (first | (go_at_call 62; (with_reducible refine (spec_l00In.calls (l2.length : Int) 1 3 false _ E5.out).mono ?_); rintro e w' ⟨rfl, ⟨nd, rfl⟩⟩; (try first | exact ⟨rfl, _, World.drewN_drewN _ _ _⟩ | exact ⟨rfl, _, Eq.trans (World.drewN_drewN _ _ _) (congrArg (World.drewN _) (Nat.add_assoc _ _ _))⟩)))
    repeat (go_quiet (first | (go_at_call 62; (with_reducible refine (spec_l00In.calls (l2.length : Int) 1 3 false _ E5.out).mono ?_); rintro e w' ⟨rfl, ⟨nd, rfl⟩⟩; (try first | exact ⟨rfl, _, World.drewN_drewN _ _ _⟩ | exact ⟨rfl, _, Eq.trans (World.drewN_drewN _ _ _) (congrArg (World.drewN _) (Nat.add_assoc _ _ _))⟩))); try go_wp2_with (first | (go_at_call 62; (with_reducible refine (spec_l00In.calls (l2.length : Int) 1 3 false _ E5.out).mono ?_); rintro e w' ⟨rfl, ⟨nd, rfl⟩⟩; (try first | exact ⟨rfl, _, World.drewN_drewN _ _ _⟩ | exact ⟨rfl, _, Eq.trans (World.drewN_drewN _ _ _) (congrArg (World.drewN _) (Nat.add_assoc _ _ _))⟩))))
    go_ret
    exact ⟨by first | rfl | (simp; done) | (simp [*]; done), by repeat (first | exact Drawn0.refl _ | apply Drawn0.step)⟩
   | true =>
   have E5 := Aside0.mk (E50.trans (congrArg some e5))
   cases e6 : g_in a0 0 11 with
   | false =>
    have E6 := Aside0.mk (E60.trans (congrArg some e6))
    clear E50 E60 E70 E80
    have hres : r = false := HRES.out.symm.trans (by unfold g_one; rw [HALL.out, e5, e6]; rfl)
    subst hres
    clear e5 e6
    go_wp2_with (first | (go_at_call 62; (with_reducible refine (spec_l00In.calls (l2.length : Int) 1 3 true _ E5.out).mono ?_); rintro e w' ⟨rfl, ⟨nd, rfl⟩⟩; (try first | exact ⟨rfl, _, World.drewN_drewN _ _ _⟩ | exact ⟨rfl, _, Eq.trans (World.drewN_drewN _ _ _) (congrArg (World.drewN _) (Nat.add_assoc _ _ _))⟩)) | (go_at_call 62; (with_reducible refine (spec_l00In.calls a0 0 11 false _ E6.out).mono ?_); rintro e w' ⟨rfl, ⟨nd, rfl⟩⟩; (try first | exact ⟨rfl, _, World.drewN_drewN _ _ _⟩ | exact ⟨rfl, _, Eq.trans (World.drewN_drewN _ _ _) (congrArg (World.drewN _) (Nat.add_assoc _ _ _))⟩)))
    repeat (go_quiet (first | (go_at_call 62; (with_reducible refine (spec_l00In.calls (l2.length : Int) 1 3 true _ E5.out).mono ?_); rintro e w' ⟨rfl, ⟨nd, rfl⟩⟩; (try first | exact ⟨rfl, _, World.drewN_drewN _ _ _⟩ | exact ⟨rfl, _, Eq.trans (World.drewN_drewN _ _ _) (congrArg (World.drewN _) (Nat.add_assoc _ _ _))⟩)) | (go_at_call 62; (with_reducible refine (spec_l00In.calls a0 0 11 false _ E6.out).mono ?_); rintro e w' ⟨rfl, ⟨nd, rfl⟩⟩; (try first | exact ⟨rfl, _, World.drewN_drewN _ _ _⟩ | exact ⟨rfl, _, Eq.trans (World.drewN_drewN _ _ _) (congrArg (World.drewN _) (Nat.add_assoc _ _ _))⟩))); try go_wp2_with (first | (go_at_call 62; (with_reducible refine (spec_l00In.calls (l2.length : Int) 1 3 true _ E5.out).mono ?_); rintro e w' ⟨rfl, ⟨nd, rfl⟩⟩; (try first | exact ⟨rfl, _, World.drewN_drewN _ _ _⟩ | exact ⟨rfl, _, Eq.trans (World.drewN_drewN _ _ _) (congrArg (World.drewN _) (Nat.add_assoc _ _ _))⟩)) | (go_at_call 62; (with_reducible refine (spec_l00In.calls a0 0 11 false _ E6.out).mono ?_); rintro e w' ⟨rfl, ⟨nd, rfl⟩⟩; (try first | exact ⟨rfl, _, World.drewN_drewN _ _ _⟩ | exact ⟨rfl, _, Eq.trans (World.drewN_drewN _ _ _) (congrArg (World.drewN _) (Nat.add_assoc _ _ _))⟩))))
    go_ret
    exact ⟨by first | rfl | (simp; done) | (simp [*]; done), by repeat (first | exact Drawn0.refl _ | apply Drawn0.step)⟩
   | true =>
   have E6 := Aside0.mk (E60.trans (congrArg some e6))
   cases e7 : g_in a1 1 1000 with
   | false =>
    have E7 := Aside0.mk (E70.trans (congrArg some e7))
    clear E50 E60 E70 E80
    have hres : r = false := HRES.out.symm.trans (by unfold g_one; rw [HALL.out, e5, e6, e7]; rfl)
    subst hres
    clear e5 e6 e7
    go_wp2_with (first | (go_at_call 62; (with_reducible refine (spec_l00In.calls (l2.length : Int) 1 3 true _ E5.out).mono ?_); rintro e w' ⟨rfl, ⟨nd, rfl⟩⟩; (try first | exact ⟨rfl, _, World.drewN_drewN _ _ _⟩ | exact ⟨rfl, _, Eq.trans (World.drewN_drewN _ _ _) (congrArg (World.drewN _) (Nat.add_assoc _ _ _))⟩)) | (go_at_call 62; (with_reducible refine (spec_l00In.calls a0 0 11 true _ E6.out).mono ?_); rintro e w' ⟨rfl, ⟨nd, rfl⟩⟩; (try first | exact ⟨rfl, _, World.drewN_drewN _ _ _⟩ | exact ⟨rfl, _, Eq.trans (World.drewN_drewN _ _ _) (congrArg (World.drewN _) (Nat.add_assoc _ _ _))⟩)) | (go_at_call 62; (with_reducible refine (spec_l00In.calls a1 1 1000 false _ E7.out).mono ?_); rintro e w' ⟨rfl, ⟨nd, rfl⟩⟩; (try first | exact ⟨rfl, _, World.drewN_drewN _ _ _⟩ | exact ⟨rfl, _, Eq.trans (World.drewN_drewN _ _ _) (congrArg (World.drewN _) (Nat.add_assoc _ _ _))⟩)))
    repeat (go_quiet (first | (go_at_call 62; (with_reducible refine (spec_l00In.calls (l2.length : Int) 1 3 true _ E5.out).mono ?_); rintro e w' ⟨rfl, ⟨nd, rfl⟩⟩; (try first | exact ⟨rfl, _, World.drewN_drewN _ _ _⟩ | exact ⟨rfl, _, Eq.trans (World.drewN_drewN _ _ _) (congrArg (World.drewN _) (Nat.add_assoc _ _ _))⟩)) | (go_at_call 62; (with_reducible refine (spec_l00In.calls a0 0 11 true _ E6.out).mono ?_); rintro e w' ⟨rfl, ⟨nd, rfl⟩⟩; (try first | exact ⟨rfl, _, World.drewN_drewN _ _ _⟩ | exact ⟨rfl, _, Eq.trans (World.drewN_drewN _ _ _) (congrArg (World.drewN _) (Nat.add_assoc _ _ _))⟩)) | (go_at_call 62; (with_reducible refine (spec_l00In.calls a1 1 1000 false _ E7.out).mono ?_); rintro e w' ⟨rfl, ⟨nd, rfl⟩⟩; (try first | exact ⟨rfl, _, World.drewN_drewN _ _ _⟩ | exact ⟨rfl, _, Eq.trans (World.drewN_drewN _ _ _) (congrArg (World.drewN _) (Nat.add_assoc _ _ _))⟩))); try go_wp2_with (first | (go_at_call 62; (with_reducible refine (spec_l00In.calls (l2.length : Int) 1 3 true _ E5.out).mono ?_); rintro e w' ⟨rfl, ⟨nd, rfl⟩⟩; (try first | exact ⟨rfl, _, World.drewN_drewN _ _ _⟩ | exact ⟨rfl, _, Eq.trans (World.drewN_drewN _ _ _) (congrArg (World.drewN _) (Nat.add_assoc _ _ _))⟩)) | (go_at_call 62; (with_reducible refine (spec_l00In.calls a0 0 11 true _ E6.out).mono ?_); rintro e w' ⟨rfl, ⟨nd, rfl⟩⟩; (try first | exact ⟨rfl, _, World.drewN_drewN _ _ _⟩ | exact ⟨rfl, _, Eq.trans (World.drewN_drewN _ _ _) (congrArg (World.drewN _) (Nat.add_assoc _ _ _))⟩)) | (go_at_call 62; (with_reducible refine (spec_l00In.calls a1 1 1000 false _ E7.out).mono ?_); rintro e w' ⟨rfl, ⟨nd, rfl⟩⟩; (try first | exact ⟨rfl, _, World.drewN_drewN _ _ _⟩ | exact ⟨rfl, _, Eq.trans (World.drewN_drewN _ _ _) (congrArg (World.drewN _) (Nat.add_assoc _ _ _))⟩))))
    go_ret
    exact ⟨by first | rfl | (simp; done) | (simp [*]; done), by repeat (first | exact Drawn0.refl _ | apply Drawn0.step)⟩
   | true =>
   have E7 := Aside0.mk (E70.trans (congrArg some e7))
   cases e8 : g_in a3 1 1000 with
   | false =>
    have E8 := Aside0.mk (E80.trans (congrArg some e8))
    clear E50 E60 E70 E80
    have hres : r = false := HRES.out.symm.trans (by unfold g_one; rw [HALL.out, e5, e6, e7, e8]; rfl)
    subst hres
    clear e5 e6 e7 e8
    go_wp2_with (first | (go_at_call 62; (with_reducible refine (spec_l00In.calls (l2.length : Int) 1 3 true _ E5.out).mono ?_); rintro e w' ⟨rfl, ⟨nd, rfl⟩⟩; (try first | exact ⟨rfl, _, World.drewN_drewN _ _ _⟩ | exact ⟨rfl, _, Eq.trans (World.drewN_drewN _ _ _) (congrArg (World.drewN _) (Nat.add_assoc _ _ _))⟩)) | (go_at_call 62; (with_reducible refine (spec_l00In.calls a0 0 11 true _ E6.out).mono ?_); rintro e w' ⟨rfl, ⟨nd, rfl⟩⟩; (try first | exact ⟨rfl, _, World.drewN_drewN _ _ _⟩ | exact ⟨rfl, _, Eq.trans (World.drewN_drewN _ _ _) (congrArg (World.drewN _) (Nat.add_assoc _ _ _))⟩)) | (go_at_call 62; (with_reducible refine (spec_l00In.calls a1 1 1000 true _ E7.out).mono ?_); rintro e w' ⟨rfl, ⟨nd, rfl⟩⟩; (try first | exact ⟨rfl, _, World.drewN_drewN _ _ _⟩ | exact ⟨rfl, _, Eq.trans (World.drewN_drewN _ _ _) (congrArg (World.drewN _) (Nat.add_assoc _ _ _))⟩)) | (go_at_call 62; (with_reducible refine (spec_l00In.calls a3 1 1000 false _ E8.out).mono ?_); rintro e w' ⟨rfl, ⟨nd, rfl⟩⟩; (try first | exact ⟨rfl, _, World.drewN_drewN _ _ _⟩ | exact ⟨rfl, _, Eq.trans (World.drewN_drewN _ _ _) (congrArg (World.drewN _) (Nat.add_assoc _ _ _))⟩)))
    repeat (go_quiet (first | (go_at_call 62; (with_reducible refine (spec_l00In.calls (l2.length : Int) 1 3 true _ E5.out).mono ?_); rintro e w' ⟨rfl, ⟨nd, rfl⟩⟩; (try first | exact ⟨rfl, _, World.drewN_drewN _ _ _⟩ | exact ⟨rfl, _, Eq.trans (World.drewN_drewN _ _ _) (congrArg (World.drewN _) (Nat.add_assoc _ _ _))⟩)) | (go_at_call 62; (with_reducible refine (spec_l00In.calls a0 0 11 true _ E6.out).mono ?_); rintro e w' ⟨rfl, ⟨nd, rfl⟩⟩; (try first | exact ⟨rfl, _, World.drewN_drewN _ _ _⟩ | exact ⟨rfl, _, Eq.trans (World.drewN_drewN _ _ _) (congrArg (World.drewN _) (Nat.add_assoc _ _ _))⟩)) | (go_at_call 62; (with_reducible refine (spec_l00In.calls a1 1 1000 true _ E7.out).mono ?_); rintro e w' ⟨rfl, ⟨nd, rfl⟩⟩; (try first | exact ⟨rfl, _, World.drewN_drewN _ _ _⟩ | exact ⟨rfl, _, Eq.trans (World.drewN_drewN _ _ _) (congrArg (World.drewN _) (Nat.add_assoc _ _ _))⟩)) | (go_at_call 62; (with_reducible refine (spec_l00In.calls a3 1 1000 false _ E8.out).mono ?_); rintro e w' ⟨rfl, ⟨nd, rfl⟩⟩; (try first | exact ⟨rfl, _, World.drewN_drewN _ _ _⟩ | exact ⟨rfl, _, Eq.trans (World.drewN_drewN _ _ _) (congrArg (World.drewN _) (Nat.add_assoc _ _ _))⟩))); try go_wp2_with (first | (go_at_call 62; (with_reducible refine (spec_l00In.calls (l2.length : Int) 1 3 true _ E5.out).mono ?_); rintro e w' ⟨rfl, ⟨nd, rfl⟩⟩; (try first | exact ⟨rfl, _, World.drewN_drewN _ _ _⟩ | exact ⟨rfl, _, Eq.trans (World.drewN_drewN _ _ _) (congrArg (World.drewN _) (Nat.add_assoc _ _ _))⟩)) | (go_at_call 62; (with_reducible refine (spec_l00In.calls a0 0 11 true _ E6.out).mono ?_); rintro e w' ⟨rfl, ⟨nd, rfl⟩⟩; (try first | exact ⟨rfl, _, World.drewN_drewN _ _ _⟩ | exact ⟨rfl, _, Eq.trans (World.drewN_drewN _ _ _) (congrArg (World.drewN _) (Nat.add_assoc _ _ _))⟩)) | (go_at_call 62; (with_reducible refine (spec_l00In.calls a1 1 1000 true _ E7.out).mono ?_); rintro e w' ⟨rfl, ⟨nd, rfl⟩⟩; (try first | exact ⟨rfl, _, World.drewN_drewN _ _ _⟩ | exact ⟨rfl, _, Eq.trans (World.drewN_drewN _ _ _) (congrArg (World.drewN _) (Nat.add_assoc _ _ _))⟩)) | (go_at_call 62; (with_reducible refine (spec_l00In.calls a3 1 1000 false _ E8.out).mono ?_); rintro e w' ⟨rfl, ⟨nd, rfl⟩⟩; (try first | exact ⟨rfl, _, World.drewN_drewN _ _ _⟩ | exact ⟨rfl, _, Eq.trans (World.drewN_drewN _ _ _) (congrArg (World.drewN _) (Nat.add_assoc _ _ _))⟩))))
    go_ret
    exact ⟨by first | rfl | (simp; done) | (simp [*]; done), by repeat (first | exact Drawn0.refl _ | apply Drawn0.step)⟩
   | true =>
    have E8 := Aside0.mk (E80.trans (congrArg some e8))
    clear E50 E60 E70 E80
    have hres : r = true := HRES.out.symm.trans (by unfold g_one; rw [HALL.out, e5, e6, e7, e8]; rfl)
    subst hres
    clear e5 e6 e7 e8
    go_wp2_with (first | (go_at_call 62; (with_reducible refine (spec_l00In.calls (l2.length : Int) 1 3 true _ E5.out).mono ?_); rintro e w' ⟨rfl, ⟨nd, rfl⟩⟩; (try first | exact ⟨rfl, _, World.drewN_drewN _ _ _⟩ | exact ⟨rfl, _, Eq.trans (World.drewN_drewN _ _ _) (congrArg (World.drewN _) (Nat.add_assoc _ _ _))⟩)) | (go_at_call 62; (with_reducible refine (spec_l00In.calls a0 0 11 true _ E6.out).mono ?_); rintro e w' ⟨rfl, ⟨nd, rfl⟩⟩; (try first | exact ⟨rfl, _, World.drewN_drewN _ _ _⟩ | exact ⟨rfl, _, Eq.trans (World.drewN_drewN _ _ _) (congrArg (World.drewN _) (Nat.add_assoc _ _ _))⟩)) | (go_at_call 62; (with_reducible refine (spec_l00In.calls a1 1 1000 true _ E7.out).mono ?_); rintro e w' ⟨rfl, ⟨nd, rfl⟩⟩; (try first | exact ⟨rfl, _, World.drewN_drewN _ _ _⟩ | exact ⟨rfl, _, Eq.trans (World.drewN_drewN _ _ _) (congrArg (World.drewN _) (Nat.add_assoc _ _ _))⟩)) | (go_at_call 62; (with_reducible refine (spec_l00In.calls a3 1 1000 true _ E8.out).mono ?_); rintro e w' ⟨rfl, ⟨nd, rfl⟩⟩; (try first | exact ⟨rfl, _, World.drewN_drewN _ _ _⟩ | exact ⟨rfl, _, Eq.trans (World.drewN_drewN _ _ _) (congrArg (World.drewN _) (Nat.add_assoc _ _ _))⟩)))
    repeat (go_quiet (first | (go_at_call 62; (with_reducible refine (spec_l00In.calls (l2.length : Int) 1 3 true _ E5.out).mono ?_); rintro e w' ⟨rfl, ⟨nd, rfl⟩⟩; (try first | exact ⟨rfl, _, World.drewN_drewN _ _ _⟩ | exact ⟨rfl, _, Eq.trans (World.drewN_drewN _ _ _) (congrArg (World.drewN _) (Nat.add_assoc _ _ _))⟩)) | (go_at_call 62; (with_reducible refine (spec_l00In.calls a0 0 11 true _ E6.out).mono ?_); rintro e w' ⟨rfl, ⟨nd, rfl⟩⟩; (try first | exact ⟨rfl, _, World.drewN_drewN _ _ _⟩ | exact ⟨rfl, _, Eq.trans (World.drewN_drewN _ _ _) (congrArg (World.drewN _) (Nat.add_assoc _ _ _))⟩)) | (go_at_call 62; (with_reducible refine (spec_l00In.calls a1 1 1000 true _ E7.out).mono ?_); rintro e w' ⟨rfl, ⟨nd, rfl⟩⟩; (try first | exact ⟨rfl, _, World.drewN_drewN _ _ _⟩ | exact ⟨rfl, _, Eq.trans (World.drewN_drewN _ _ _) (congrArg (World.drewN _) (Nat.add_assoc _ _ _))⟩)) | (go_at_call 62; (with_reducible refine (spec_l00In.calls a3 1 1000 true _ E8.out).mono ?_); rintro e w' ⟨rfl, ⟨nd, rfl⟩⟩; (try first | exact ⟨rfl, _, World.drewN_drewN _ _ _⟩ | exact ⟨rfl, _, Eq.trans (World.drewN_drewN _ _ _) (congrArg (World.drewN _) (Nat.add_assoc _ _ _))⟩))); try go_wp2_with (first | (go_at_call 62; (with_reducible refine (spec_l00In.calls (l2.length : Int) 1 3 true _ E5.out).mono ?_); rintro e w' ⟨rfl, ⟨nd, rfl⟩⟩; (try first | exact ⟨rfl, _, World.drewN_drewN _ _ _⟩ | exact ⟨rfl, _, Eq.trans (World.drewN_drewN _ _ _) (congrArg (World.drewN _) (Nat.add_assoc _ _ _))⟩)) | (go_at_call 62; (with_reducible refine (spec_l00In.calls a0 0 11 true _ E6.out).mono ?_); rintro e w' ⟨rfl, ⟨nd, rfl⟩⟩; (try first | exact ⟨rfl, _, World.drewN_drewN _ _ _⟩ | exact ⟨rfl, _, Eq.trans (World.drewN_drewN _ _ _) (congrArg (World.drewN _) (Nat.add_assoc _ _ _))⟩)) | (go_at_call 62; (with_reducible refine (spec_l00In.calls a1 1 1000 true _ E7.out).mono ?_); rintro e w' ⟨rfl, ⟨nd, rfl⟩⟩; (try first | exact ⟨rfl, _, World.drewN_drewN _ _ _⟩ | exact ⟨rfl, _, Eq.trans (World.drewN_drewN _ _ _) (congrArg (World.drewN _) (Nat.add_assoc _ _ _))⟩)) | (go_at_call 62; (with_reducible refine (spec_l00In.calls a3 1 1000 true _ E8.out).mono ?_); rintro e w' ⟨rfl, ⟨nd, rfl⟩⟩; (try first | exact ⟨rfl, _, World.drewN_drewN _ _ _⟩ | exact ⟨rfl, _, Eq.trans (World.drewN_drewN _ _ _) (congrArg (World.drewN _) (Nat.add_assoc _ _ _))⟩))))
    go_ret
    exact ⟨by first | rfl | (simp; done) | (simp [*]; done), by repeat (first | exact Drawn0.refl _ | apply Drawn0.step)⟩

/-! ### spec_l11Ok: function 38 -/
def g_lab (x : S36) : Bool := g_one x.f0 x.f1 x.f2 x.f3
def g_labs (l : List S36) : Bool := l.all g_lab && decide (l.length ≤ 8)
def spec_l11Ok.f (l0 : List (S36)) : Option (Bool) := some (g_labs l0)
theorem g_rd_lab (l : List S36) (x : Int) (h0 : 0 ≤ x) (h1 : x < (l.length : Int)) : rd_T36 l x = l[x.toNat]'(by omega) := by
 unfold rd_T36
 rw [List.getD_eq_getElem?_getD, List.getElem?_eq_getElem (by omega)]; rfl
set_option maxHeartbeats 8000000 in
set_option maxRecDepth 100000 in
theorem spec_l11Ok.calls (A0 : Option Addr) (c0 : Nat) (l0 : List (S36)) (r : Bool) (w : World) (hr0 : Kd.C k36 w A0 l0.length l0) (hc0 : l0.length ≤ c0) (h : spec_l11Ok.f l0 = some r) :
  Calls Try.prog 38 #[.slice A0 l0.length c0] w fun e w' => e = .returned (.bool r) ∧ Drawn0 w w' := by
 have HR0 := Aside0.mk hr0
 have HC0 := Aside0.mk hc0
 have HL := Aside0.mk hr0.2.1
 have HRES := Aside0.mk (Option.some.inj h)
 have hu := Try.underlying36
 clear hr0 hc0 h
 go_enter Try.func38, Try.ntmps38
 go_wp2
 go_loopg [3] l0.length (fun d v3 w' => ∃ x : Int, v3 = .int .i64 x ∧ Aside0 (0 ≤ x ∧ x + (d : Int) = (l0.length : Int)) ∧ Aside0 (∀ j : Nat, (hj : j < l0.length) → (j : Int) < x → g_lab l0[j] = true) ∧ Drawn0 w w')
 case atStart => exact ⟨0, rfl, ⟨by omega⟩, ⟨fun j hj hx => absurd hx (by omega)⟩, by repeat (first | exact Drawn0.refl _ | apply Drawn0.step)⟩
 case round =>
  obtain ⟨x, rfl, HI, HP, ⟨m1, rfl⟩⟩ := hrel
  by_cases hi : x < (l0.length : Int)
  ·have p9 : 0 ≤ (x : Int) := HI.out.1
   obtain ⟨ad9, A9, c9, e9, hx0, hx1, hx2, hx3, hl9, hC9⟩ := at_T36 HR0.out x p9 hi
   cases e9
   have HL9 := Aside0.mk hl9
   have HC9 := Aside0.mk hC9
   have cb1 : decide (x < (l0.length : Int)) = true := decide_eq_true hi
   have cb2 : decide (0 ≤ x) = true := decide_eq_true p9
   have hrd := g_rd_lab l0 x p9 hi
   have HX := Aside0.mk (And.intro hx0 (And.intro hx1 (And.intro hx2 hx3)))
   clear hx0 hx1 hx2 hx3 hl9 hC9
   cases e1 : g_lab (rd_T36 l0 x) with
   | false =>
    have E1 := Aside0.mk (show g_one (rd_T36 l0 x).f0 (rd_T36 l0 x).f1 (rd_T36 l0 x).f2 (rd_T36 l0 x).f3 = false from e1)
    have hres : r = false := HRES.out.symm.trans (by
     unfold g_labs
     have : l0.all g_lab = false := List.all_eq_false.2 ⟨l0[x.toNat]'(by omega), List.getElem_mem _, by rw [← hrd, e1]; simp⟩
     rw [this]; rfl)
    subst hres
    clear e1 hrd
    replace hi := eq_true hi
    replace p9 := eq_true p9
    go_wp2_with (first | (go_at_call 52; (with_reducible refine (spec_l11One.calls (ad9.add (x.toNat * 4)) (rd_T36 l0 x).f0 (rd_T36 l0 x).f1 A9 c9 (rd_T36 l0 x).f2 (rd_T36 l0 x).f3 _ ?a0 ?a1 ?a2 ?a3 ?side1 HL9.out false E1.out).mono ?_); (case a0 => rw [World.cell?_drewN]; exact HX.out.1); (case a1 => rw [World.cell?_drewN]; exact HX.out.2.1); (case a2 => rw [World.cell?_drewN]; exact HX.out.2.2.1); (case a3 => rw [World.cell?_drewN]; exact HX.out.2.2.2); (case side1 => repeat (first | exact HC9.out | (with_reducible refine Kd.C_alloc ?_ _) | (with_reducible refine Kd.C_drewN ?_ _) | (with_reducible refine Kd.C_drew ?_))); rintro e w' ⟨rfl, ⟨nd, rfl⟩⟩))
    go_ret
    exact ⟨by first | rfl | (simp; done) | (simp [*]; done), by repeat (first | exact Drawn0.refl _ | apply Drawn0.step)⟩
   | true =>
    have E1 := Aside0.mk (show g_one (rd_T36 l0 x).f0 (rd_T36 l0 x).f1 (rd_T36 l0 x).f2 (rd_T36 l0 x).f3 = true from e1)
    have HP2 : Aside0 (∀ j : Nat, (hj : j < l0.length) → (j : Int) < x + 1 → g_lab l0[j] = true) := ⟨fun j hj hjx => by
      by_cases hjx : (j : Int) = x
      ·have : j = x.toNat := by omega
       subst this
       rw [← hrd, e1]
      ·exact HP.out j hj (by omega)⟩
    have HWA := Aside0.mk (show wrap64 (x + 1) = x + 1 by have := HL.out; unfold wrap64; omega)
    clear e1 hrd
    cases gk with
    | zero => exact absurd HI.out.2 (by omega)
    | succ k1 =>
    replace hi := eq_true hi
    replace p9 := eq_true p9
    have HI2 := HI
    go_wp2_with (first | (go_at_call 52; (with_reducible refine (spec_l11One.calls (ad9.add (x.toNat * 4)) (rd_T36 l0 x).f0 (rd_T36 l0 x).f1 A9 c9 (rd_T36 l0 x).f2 (rd_T36 l0 x).f3 _ ?a0 ?a1 ?a2 ?a3 ?side1 HL9.out true E1.out).mono ?_); (case a0 => rw [World.cell?_drewN]; exact HX.out.1); (case a1 => rw [World.cell?_drewN]; exact HX.out.2.1); (case a2 => rw [World.cell?_drewN]; exact HX.out.2.2.1); (case a3 => rw [World.cell?_drewN]; exact HX.out.2.2.2); (case side1 => repeat (first | exact HC9.out | (with_reducible refine Kd.C_alloc ?_ _) | (with_reducible refine Kd.C_drewN ?_ _) | (with_reducible refine Kd.C_drew ?_))); rintro e w' ⟨rfl, ⟨nd, rfl⟩⟩))
    go_roundg k1
    case measure => have := HI2.out.2; omega
    case rel => exact ⟨x + 1, by rw [HWA.out], ⟨by have := HI2.out; omega⟩, HP2, by repeat (first | exact Drawn0.refl _ | apply Drawn0.step)⟩
  ·have hall : l0.all g_lab = true := List.all_eq_true.2 fun y hy => by
    obtain ⟨j, hj, rfl⟩ := List.mem_iff_getElem.1 hy
    exact HP.out j hj (by have := HI.out; omega)
   have cb1 : decide (x < (l0.length : Int)) = false := decide_eq_false hi
   have hres : r = decide ((l0.length : Int) ≤ 8) := HRES.out.symm.trans (by
    unfold g_labs
    rw [hall, Bool.true_and]
    by_cases h8 : l0.length ≤ 8
    ·rw [decide_eq_true h8, decide_eq_true (show (l0.length : Int) ≤ 8 by omega)]
    ·rw [decide_eq_false h8, decide_eq_false (show ¬ (l0.length : Int) ≤ 8 by omega)])
   have HRE := Aside0.mk hres
   clear hall hi hres
   go_wp2
   go_ret
   exact ⟨by rw [HRE.out]; first | rfl | (simp; done) | (simp [*]; done), by repeat (first | exact Drawn0.refl _ | apply Drawn0.step)⟩

/-! ### spec_l00Own: function 42 -/
def spec_l00Own.f (l0 : List Int) : Option (List Int) := (some (([] : List Int) : List Int)).bind fun y141 => (if y141.length + l0.length < 17592186044416 then (some (y141 ++ l0)) else (none))
set_option maxHeartbeats 8000000 in
set_option maxRecDepth 100000 in
theorem spec_l00Own.calls (A0 : Option Addr) (c0 : Nat) (l0 : List Int) (r : List Int) (w : World) (hr0 : Kd.C (Kd.int .i64) w A0 l0.length l0) (hc0 : l0.length ≤ c0) (h : spec_l00Own.f l0 = some r) :
  Calls Try.prog 42 #[.slice A0 l0.length c0] w fun e w' => ∃ v0_ : Value, e = .returned (v0_) ∧ Kd.R (Kd.int .i64) 2 w' w.heap.size (fun _ => True) v0_ r ∧ Below w.heap.size w w' := by
 have HR0 := Aside0.mk hr0
 have HC0 := Aside0.mk hc0
 clear hr0 hc0
 have HB := Aside0.mk (Below.refl w.heap.size w)
 have H : ((some (([] : List Int) : List Int)).bind fun y141 => (if y141.length + l0.length < 17592186044416 then (some (y141 ++ l0)) else (none))) = some r := h
 clear h
 obtain ⟨y141, hy141⟩ : ∃ y_ : List Int, y_ = (([] : List Int)) := ⟨_, rfl⟩
 replace H : (if y141.length + l0.length < 17592186044416 then (some (y141 ++ l0)) else (none)) = some r := by first | (rw [hy141]; with_reducible exact H) | (have H2_ := (Option.bind_some _ _).symm.trans H; rw [hy141]; with_reducible exact H2_) | (have H2_ := (Option.bind_some _ _).symm.trans H; with_reducible exact H2_) | with_reducible exact H | (rw [hy141]; exact H) | exact H
 have Ny141 := Aside0.mk hy141
 clear hy141
 by_cases c2 : y141.length + l0.length < 17592186044416
 ·rw [if_pos c2] at H
  have LMc2 := Aside0.mk c2
  clear c2
  obtain ⟨y144, hy144⟩ : ∃ y_ : List Int, y_ = (y141 ++ l0) := ⟨_, rfl⟩
  replace H : (some y144) = some r := by first | (rw [hy144]; with_reducible exact H) | (have H2_ := (Option.bind_some _ _).symm.trans H; rw [hy144]; with_reducible exact H2_) | (have H2_ := (Option.bind_some _ _).symm.trans H; with_reducible exact H2_) | with_reducible exact H | (rw [hy144]; exact H) | exact H
  have Ny144 := Aside0.mk hy144
  clear hy144
  obtain rfl := Option.some.inj H
  go_enter Try.func42, Try.ntmps42
  go_wp2_with (first | ((with_reducible refine gate_dst (N := 3) rfl ?_); refine Kd.R_lit (Kd.int .i64) _ 2 ?hg (N := 3) ?hd (xs := ([] : List Int)) (inner := []) (ok := fun _ => True) (okp := fun _ => True) ?hr ?hp (fun _ hk => hk) trivial (Below.refl _ _) (Nat.le_refl _) (by simp) ?_; (case hd => rfl); (case hg => rfl); (case hr => first | (go_simp; done) | (go_simp; rfl)); (case hp => exact (Reps.none _ _)); intro v142 w3 ho4 hb hg_ hnew_; clear hg_ hnew_; (first | rw [← Ny141.out] at ho4 | (simp only [Int.reduceToNat] at ho4; rw [← Ny141.out] at ho4)); have n0_ := Aside0.mk (Kd.R_lower ho4 (below_size (by repeat (first | (with_reducible first | exact HB.out | apply below_alloc | apply pw_below_drewN | apply below_drew1) | exact HB.out)))); have n1_ := Aside0.mk (below_step (by repeat (first | (with_reducible first | exact HB.out | apply below_alloc | apply pw_below_drewN | apply below_drew1) | exact HB.out)) hb); clear HB; have HO143 := n0_; have HB := n1_; clear n0_ n1_; clear hb ho4) | ((with_reducible refine gate_builtin (b := .append) (xs := #[.tmp 3, .tmp 4]) rfl ?_); at_builtin; refine Kd.R_append_rows (Kd.int .i64) (w0 := w) w.heap.size rfl (.tmp 3) (.tmp 4) 26 2 (.int .i64 0) 8 rfl Try.underlying26 info2 rfl (by decide) (by omega) v142 y141 l0 _ _ _ (fun _ => True) (fun _ => False) rfl rfl ?aO ?aR (fun _ _ h => h) (fun _ h => h.elim) ?aF ?aB ?aS ?aL ?_; (case aR => repeat (first | exact (Kd.C_below HR0.out HB.out) | (with_reducible refine Kd.C_alloc ?_ _) | (with_reducible refine Kd.C_drewN ?_ _) | (with_reducible refine Kd.C_drew ?_))); (case aB => exact (by repeat (first | (with_reducible first | exact HB.out | apply below_alloc | apply pw_below_drewN | apply below_drew1) | exact HB.out))); (case aF => exact (fun _ _ => trivial)); (case aO => exact (by (with_reducible repeat (first | apply Kd.R_alloc | apply Kd.R_drewN | apply Kd.R_drew)); exact HO143.out)); (case aS => exact (below_size (by repeat (first | (with_reducible first | exact HB.out | apply below_alloc | apply pw_below_drewN | apply below_drew1) | exact HB.out)))); (case aL => have := LMc2.out; omega); intro v145 w5 ho hb hg hat; rw [← Ny144.out] at ho; have n0_ := Aside0.mk (hb); have n1_ := Aside0.mk (ho); clear HB; clear HO143; have HB := n0_; have HO146 := n1_; clear n0_ n1_; clear ho hb hg hat))
  go_ret
  exact ⟨_, by first | rfl | (simp [errW_none, errW_some] <;> rfl) | (simp [*, errW_none, errW_some] <;> rfl), by (with_reducible repeat (first | apply Kd.R_alloc | apply Kd.R_drewN | apply Kd.R_drew)); exact HO146.out, by repeat (first | (with_reducible first | exact HB.out | apply below_alloc | apply pw_below_drewN | apply below_drew1) | exact HB.out)⟩
 ·rw [if_neg c2] at H
  exact absurd H (by simp)

/-! ### spec_l11Meet: function 43 -/
def g_meet (a0 a1 b0 b1 x y : Int) : Bool := (a0 == b0) && (decide (x < wrap64 (y + b1)) && decide (y < wrap64 (x + a1)))
set_option maxHeartbeats 8000000 in
set_option maxRecDepth 100000 in
theorem spec_l11Meet.calls (p q : Addr) (a0 a1 b0 b1 x y : Int) (w : World)
  (h0 : w.cell? p = some (.int .i64 a0)) (h1 : w.cell? ⟨p.block, p.off + 1, none⟩ = some (.int .i64 a1)) (h2 : w.cell? q = some (.int .i64 b0)) (h3 : w.cell? ⟨q.block, q.off + 1, none⟩ = some (.int .i64 b1))
  (r : Bool) (hres : g_meet a0 a1 b0 b1 x y = r) :
  Calls Try.prog 43 #[.pointer (some p), .pointer (some q), .int .i64 x, .int .i64 y] w fun e w' => e = .returned (.bool r) ∧ Drawn0 w w' := by
 have hu := Try.underlying36
 cases e1 : (a0 == b0) with
 | false =>
  have hr : r = false := hres.symm.trans (by unfold g_meet; rw [e1]; rfl)
  clear hres
  subst hr
  go_enter Try.func43, Try.ntmps43
  go_wp2
  repeat (go_quiet (fail); try go_wp2)
  go_ret
  exact ⟨by first | rfl | (simp; done) | (simp [*]; done), by repeat (first | exact Drawn0.refl _ | apply Drawn0.step)⟩
 | true =>
  by_cases e2 : x < wrap64 (y + b1)
  ·have hr : r = decide (y < wrap64 (x + a1)) := hres.symm.trans (by unfold g_meet; rw [e1, decide_eq_true e2]; rfl)
   have HR := Aside0.mk hr
   have e2b := decide_eq_true e2
   clear hres hr e2
   go_enter Try.func43, Try.ntmps43
   go_wp2
   repeat (go_quiet (fail); try go_wp2)
   go_ret
   exact ⟨by rw [HR.out]; first | rfl | (simp; done) | (simp [*]; done), by repeat (first | exact Drawn0.refl _ | apply Drawn0.step)⟩
  ·have hr : r = false := hres.symm.trans (by unfold g_meet; rw [e1, decide_eq_false e2]; rfl)
   have e2b := decide_eq_false e2
   clear hres e2
   subst hr
   go_enter Try.func43, Try.ntmps43
   go_wp2
   repeat (go_quiet (fail); try go_wp2)
   go_ret
   exact ⟨by first | rfl | (simp; done) | (simp [*]; done), by repeat (first | exact Drawn0.refl _ | apply Drawn0.step)⟩

end Go.Proofs.Ytjfkjmfdckbecaa.Print
