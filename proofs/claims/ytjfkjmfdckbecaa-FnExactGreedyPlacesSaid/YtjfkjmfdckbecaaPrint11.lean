-- Printed by a program of this session out of the translation; not trusted: Lean checks it.
-- SHRUNK
import Derived.Test.YtjfkjmfdckbecaaPrint0
import Derived.Test.YtjfkjmfdckbecaaPrint10
namespace Go.Proofs.Ytjfkjmfdckbecaa.Print
open Go.RowKit Go.Proofs.YtjfkjmfdckbecaaW.PrintWords Go.Proofs.YtjfkjmfdckbecaaW.PrintLast Go.Proofs.YtjfkjmfdckbecaaW.PrintMore
attribute [local go_sem] max2_int min2_int max_two min_two max_three min_three max_four min_four   -- for this text's walks alone
set_option linter.unusedVariables false
set_option linter.unusedSimpArgs false

/-! ### spec_l11Ok: function 38 -/
def g_lab (x : S36) : Bool := g_one x.f0 x.f1 x.f2 x.f3
def g_labs (l : List S36) : Bool := l.all g_lab && decide (l.length ≤ 8)
def spec_l11Ok.f (l0 : List (S36)) : Option (Bool) := some (g_labs l0)
theorem g_rd_lab (l : List S36) (x : Int) (h0 : 0 ≤ x) (h1 : x < (l.length : Int)) : rd_T36 l x = l[x.toNat]'(by omega) := by
 unfold rd_T36
 rw [List.getD_eq_getElem?_getD, List.getElem?_eq_getElem (by omega)]; rfl
set_option maxHeartbeats 8000000 in
set_option maxRecDepth 100000 in
theorem spec_l11Ok.calls (A0 : Option Addr) (c0 : Nat) (l0 : List (S36)) (r : Bool) (w : World) (hr0 : Kd.C k36 w A0 l0.length l0) (hc0 : l0.length ≤ c0) (h : spec_l11Ok.f l0 = some r) :
  Calls Try.prog 38 #[.slice A0 l0.length c0] w fun e w' => e = .returned (.bool r) ∧ Drawn0 w w' := by
 have HR0 := Aside0.mk hr0
 have HC0 := Aside0.mk hc0
 have HL := Aside0.mk hr0.2.1
 have HRES := Aside0.mk (Option.some.inj h)
 have hu := Try.underlying36
 clear hr0 hc0 h
 go_enter Try.func38, Try.ntmps38
 go_wp2
 go_loopg [3] l0.length (fun d v3 w' => ∃ x : Int, v3 = .int .i64 x ∧ Aside0 (0 ≤ x ∧ x + (d : Int) = (l0.length : Int)) ∧ Aside0 (∀ j : Nat, (hj : j < l0.length) → (j : Int) < x → g_lab l0[j] = true) ∧ Drawn0 w w')
 case atStart => exact ⟨0, rfl, ⟨by omega⟩, ⟨fun j hj hx => absurd hx (by omega)⟩, by repeat (first | exact Drawn0.refl _ | apply Drawn0.step)⟩
 case round =>
  obtain ⟨x, rfl, HI, HP, ⟨m1, rfl⟩⟩ := hrel
  by_cases hi : x < (l0.length : Int)
  ·have p9 : 0 ≤ (x : Int) := HI.out.1
   obtain ⟨ad9, A9, c9, e9, hx0, hx1, hx2, hx3, hl9, hC9⟩ := at_T36 HR0.out x p9 hi
   cases e9
   have HL9 := Aside0.mk hl9
   have HC9 := Aside0.mk hC9
   have cb1 : decide (x < (l0.length : Int)) = true := decide_eq_true hi
   have cb2 : decide (0 ≤ x) = true := decide_eq_true p9
   have hrd := g_rd_lab l0 x p9 hi
   have HX := Aside0.mk (And.intro hx0 (And.intro hx1 (And.intro hx2 hx3)))
   clear hx0 hx1 hx2 hx3 hl9 hC9
   cases e1 : g_lab (rd_T36 l0 x) with
   | false =>
    have E1 := Aside0.mk (show g_one (rd_T36 l0 x).f0 (rd_T36 l0 x).f1 (rd_T36 l0 x).f2 (rd_T36 l0 x).f3 = false from e1)
    have hres : r = false := HRES.out.symm.trans (by
     unfold g_labs
     have : l0.all g_lab = false := List.all_eq_false.2 ⟨l0[x.toNat]'(by omega), List.getElem_mem _, by rw [← hrd, e1]; simp⟩
     rw [this]; rfl)
    subst hres
    clear e1 hrd
    replace hi := eq_true hi
    replace p9 := eq_true p9
    go_wp2_with (first | (go_at_call 52; (with_reducible refine (spec_l11One.calls (ad9.add (x.toNat * 4)) (rd_T36 l0 x).f0 (rd_T36 l0 x).f1 A9 c9 (rd_T36 l0 x).f2 (rd_T36 l0 x).f3 _ ?a0 ?a1 ?a2 ?a3 ?side1 HL9.out false E1.out).mono ?_); (case a0 => rw [World.cell?_drewN]; exact HX.out.1); (case a1 => rw [World.cell?_drewN]; exact HX.out.2.1); (case a2 => rw [World.cell?_drewN]; exact HX.out.2.2.1); (case a3 => rw [World.cell?_drewN]; exact HX.out.2.2.2); (case side1 => repeat (first | exact HC9.out | (with_reducible refine Kd.C_alloc ?_ _) | (with_reducible refine Kd.C_drewN ?_ _) | (with_reducible refine Kd.C_drew ?_))); rintro e w' ⟨rfl, ⟨nd, rfl⟩⟩))
    go_ret
    exact ⟨by first | rfl | (simp; done) | (simp [*]; done), by repeat (first | exact Drawn0.refl _ | apply Drawn0.step)⟩
   | true =>
    have E1 := Aside0.mk (show g_one (rd_T36 l0 x).f0 (rd_T36 l0 x).f1 (rd_T36 l0 x).f2 (rd_T36 l0 x).f3 = true from e1)
    have HP2 : Aside0 (∀ j : Nat, (hj : j < l0.length) → (j : Int) < x + 1 → g_lab l0[j] = true) := ⟨fun j hj hjx => by
      by_cases hjx : (j : Int) = x
      ·have : j = x.toNat := by omega
       subst this
       rw [← hrd, e1]
      ·exact HP.out j hj (by omega)⟩
    have HWA := Aside0.mk (show wrap64 (x + 1) = x + 1 by have := HL.out; unfold wrap64; omega)
    clear e1 hrd
    cases gk with
    | zero => exact absurd HI.out.2 (by omega)
    | succ k1 =>
    replace hi := eq_true hi
    replace p9 := eq_true p9
    have HI2 := HI
    go_wp2_with (first | (go_at_call 52; (with_reducible refine (spec_l11One.calls (ad9.add (x.toNat * 4)) (rd_T36 l0 x).f0 (rd_T36 l0 x).f1 A9 c9 (rd_T36 l0 x).f2 (rd_T36 l0 x).f3 _ ?a0 ?a1 ?a2 ?a3 ?side1 HL9.out true E1.out).mono ?_); (case a0 => rw [World.cell?_drewN]; exact HX.out.1); (case a1 => rw [World.cell?_drewN]; exact HX.out.2.1); (case a2 => rw [World.cell?_drewN]; exact HX.out.2.2.1); (case a3 => rw [World.cell?_drewN]; exact HX.out.2.2.2); (case side1 => repeat (first | exact HC9.out | (with_reducible refine Kd.C_alloc ?_ _) | (with_reducible refine Kd.C_drewN ?_ _) | (with_reducible refine Kd.C_drew ?_))); rintro e w' ⟨rfl, ⟨nd, rfl⟩⟩))
    go_roundg k1
    case measure => have := HI2.out.2; omega
    case rel => exact ⟨x + 1, by rw [HWA.out], ⟨by have := HI2.out; omega⟩, HP2, by repeat (first | exact Drawn0.refl _ | apply Drawn0.step)⟩
  ·have hall : l0.all g_lab = true := List.all_eq_true.2 fun y hy => by
    obtain ⟨j, hj, rfl⟩ := List.mem_iff_getElem.1 hy
    exact HP.out j hj (by have := HI.out; omega)
   have cb1 : decide (x < (l0.length : Int)) = false := decide_eq_false hi
   have hres : r = decide ((l0.length : Int) ≤ 8) := HRES.out.symm.trans (by
    unfold g_labs
    rw [hall, Bool.true_and]
    by_cases h8 : l0.length ≤ 8
    ·rw [decide_eq_true h8, decide_eq_true (show (l0.length : Int) ≤ 8 by omega)]
    ·rw [decide_eq_false h8, decide_eq_false (show ¬ (l0.length : Int) ≤ 8 by omega)])
   have HRE := Aside0.mk hres
   clear hall hi hres
   go_wp2
   go_ret
   exact ⟨by rw [HRE.out]; first | rfl | (simp; done) | (simp [*]; done), by repeat (first | exact Drawn0.refl _ | apply Drawn0.step)⟩

/-! ### spec_l00Own: function 42 -/
def spec_l00Own.f (l0 : List Int) : Option (List Int) := (some (([] : List Int) : List Int)).bind fun y165 => (if y165.length + l0.length < 17592186044416 then (some (y165 ++ l0)) else (none))
set_option maxHeartbeats 8000000 in
set_option maxRecDepth 100000 in
theorem spec_l00Own.calls (A0 : Option Addr) (c0 : Nat) (l0 : List Int) (r : List Int) (w : World) (hr0 : Kd.C (Kd.int .i64) w A0 l0.length l0) (hc0 : l0.length ≤ c0) (h : spec_l00Own.f l0 = some r) :
  Calls Try.prog 42 #[.slice A0 l0.length c0] w fun e w' => ∃ v0_ : Value, e = .returned (v0_) ∧ Kd.R (Kd.int .i64) 2 w' w.heap.size (fun _ => True) v0_ r ∧ Below w.heap.size w w' := by
 have HR0 := Aside0.mk hr0
 have HC0 := Aside0.mk hc0
 clear hr0 hc0
 have HB := Aside0.mk (Below.refl w.heap.size w)
 have H : ((some (([] : List Int) : List Int)).bind fun y165 => (if y165.length + l0.length < 17592186044416 then (some (y165 ++ l0)) else (none))) = some r := h
 clear h
 obtain ⟨y165, hy165⟩ : ∃ y_ : List Int, y_ = (([] : List Int)) := ⟨_, rfl⟩
 replace H : (if y165.length + l0.length < 17592186044416 then (some (y165 ++ l0)) else (none)) = some r := by first | (rw [hy165]; with_reducible exact H) | (have H2_ := (Option.bind_some _ _).symm.trans H; rw [hy165]; with_reducible exact H2_) | (have H2_ := (Option.bind_some _ _).symm.trans H; with_reducible exact H2_) | with_reducible exact H | (rw [hy165]; exact H) | exact H
 have Ny165 := Aside0.mk hy165
 clear hy165
 by_cases c2 : y165.length + l0.length < 17592186044416
 ·rw [if_pos c2] at H
  have LMc2 := Aside0.mk c2
  clear c2
  obtain ⟨y168, hy168⟩ : ∃ y_ : List Int, y_ = (y165 ++ l0) := ⟨_, rfl⟩
  replace H : (some y168) = some r := by first | (rw [hy168]; with_reducible exact H) | (have H2_ := (Option.bind_some _ _).symm.trans H; rw [hy168]; with_reducible exact H2_) | (have H2_ := (Option.bind_some _ _).symm.trans H; with_reducible exact H2_) | with_reducible exact H | (rw [hy168]; exact H) | exact H
  have Ny168 := Aside0.mk hy168
  clear hy168
  obtain rfl := Option.some.inj H
  go_enter Try.func42, Try.ntmps42
  go_wp2_with (first | ((with_reducible refine gate_dst (N := 3) rfl ?_); refine Kd.R_lit (Kd.int .i64) _ 2 ?hg (N := 3) ?hd (xs := ([] : List Int)) (inner := []) (ok := fun _ => True) (okp := fun _ => True) ?hr ?hp (fun _ hk => hk) trivial (Below.refl _ _) (Nat.le_refl _) (by simp) ?_; (case hd => rfl); (case hg => rfl); (case hr => first | (go_simp; done) | (go_simp; rfl)); (case hp => exact (Reps.none _ _)); intro v166 w3 ho4 hb hg_ hnew_; clear hg_ hnew_; (first | rw [← Ny165.out] at ho4 | (simp only [Int.reduceToNat] at ho4; rw [← Ny165.out] at ho4)); have n0_ := Aside0.mk (Kd.R_lower ho4 (below_size (by repeat (first | (with_reducible first | exact HB.out | apply below_alloc | apply pw_below_drewN | apply below_drew1) | exact HB.out)))); have n1_ := Aside0.mk (below_step (by repeat (first | (with_reducible first | exact HB.out | apply below_alloc | apply pw_below_drewN | apply below_drew1) | exact HB.out)) hb); clear HB; have HO167 := n0_; have HB := n1_; clear n0_ n1_; clear hb ho4) | ((with_reducible refine gate_builtin (b := .append) (xs := #[.tmp 3, .tmp 4]) rfl ?_); at_builtin; refine Kd.R_append_rows (Kd.int .i64) (w0 := w) w.heap.size rfl (.tmp 3) (.tmp 4) 26 2 (.int .i64 0) 8 rfl Try.underlying26 info2 rfl (by decide) (by omega) v166 y165 l0 _ _ _ (fun _ => True) (fun _ => False) rfl rfl ?aO ?aR (fun _ _ h => h) (fun _ h => h.elim) ?aF ?aB ?aS ?aL ?_; (case aR => repeat (first | exact (Kd.C_below HR0.out HB.out) | (with_reducible refine Kd.C_alloc ?_ _) | (with_reducible refine Kd.C_drewN ?_ _) | (with_reducible refine Kd.C_drew ?_))); (case aB => exact (by repeat (first | (with_reducible first | exact HB.out | apply below_alloc | apply pw_below_drewN | apply below_drew1) | exact HB.out))); (case aF => exact (fun _ _ => trivial)); (case aO => exact (by (with_reducible repeat (first | apply Kd.R_alloc | apply Kd.R_drewN | apply Kd.R_drew)); exact HO167.out)); (case aS => exact (below_size (by repeat (first | (with_reducible first | exact HB.out | apply below_alloc | apply pw_below_drewN | apply below_drew1) | exact HB.out)))); (case aL => have := LMc2.out; omega); intro v169 w5 ho hb hg hat; rw [← Ny168.out] at ho; have n0_ := Aside0.mk (hb); have n1_ := Aside0.mk (ho); clear HB; clear HO167; have HB := n0_; have HO170 := n1_; clear n0_ n1_; clear ho hb hg hat))
  go_ret
  exact ⟨_, by first | rfl | (simp [errW_none, errW_some] <;> rfl) | (simp [*, errW_none, errW_some] <;> rfl), by (with_reducible repeat (first | apply Kd.R_alloc | apply Kd.R_drewN | apply Kd.R_drew)); exact HO170.out, by repeat (first | (with_reducible first | exact HB.out | apply below_alloc | apply pw_below_drewN | apply below_drew1) | exact HB.out)⟩
 ·rw [if_neg c2] at H
  exact absurd H (by simp)

/-! ### spec_l11Meet: function 43 -/
def g_meet (a0 a1 b0 b1 x y : Int) : Bool := (a0 == b0) && (decide (x < wrap64 (y + b1)) && decide (y < wrap64 (x + a1)))
set_option maxHeartbeats 8000000 in
set_option maxRecDepth 100000 in
theorem spec_l11Meet.calls (p q : Addr) (a0 a1 b0 b1 x y : Int) (w : World)
  (h0 : w.cell? p = some (.int .i64 a0)) (h1 : w.cell? ⟨p.block, p.off + 1, none⟩ = some (.int .i64 a1)) (h2 : w.cell? q = some (.int .i64 b0)) (h3 : w.cell? ⟨q.block, q.off + 1, none⟩ = some (.int .i64 b1))
  (r : Bool) (hres : g_meet a0 a1 b0 b1 x y = r) :
  Calls Try.prog 43 #[.pointer (some p), .pointer (some q), .int .i64 x, .int .i64 y] w fun e w' => e = .returned (.bool r) ∧ Drawn0 w w' := by
 have hu := Try.underlying36
 cases e1 : (a0 == b0) with
 | false =>
  have hr : r = false := hres.symm.trans (by unfold g_meet; rw [e1]; rfl)
  clear hres
  subst hr
  go_enter Try.func43, Try.ntmps43
  go_wp2
  repeat (go_quiet (fail); try go_wp2)
  go_ret
  exact ⟨by first | rfl | (simp; done) | (simp [*]; done), by repeat (first | exact Drawn0.refl _ | apply Drawn0.step)⟩
 | true =>
  by_cases e2 : x < wrap64 (y + b1)
  ·have hr : r = decide (y < wrap64 (x + a1)) := hres.symm.trans (by unfold g_meet; rw [e1, decide_eq_true e2]; rfl)
   have HR := Aside0.mk hr
   have e2b := decide_eq_true e2
   clear hres hr e2
   go_enter Try.func43, Try.ntmps43
   go_wp2
   repeat (go_quiet (fail); try go_wp2)
   go_ret
   exact ⟨by rw [HR.out]; first | rfl | (simp; done) | (simp [*]; done), by repeat (first | exact Drawn0.refl _ | apply Drawn0.step)⟩
  ·have hr : r = false := hres.symm.trans (by unfold g_meet; rw [e1, decide_eq_false e2]; rfl)
   have e2b := decide_eq_false e2
   clear hres e2
   subst hr
   go_enter Try.func43, Try.ntmps43
   go_wp2
   repeat (go_quiet (fail); try go_wp2)
   go_ret
   exact ⟨by first | rfl | (simp; done) | (simp [*]; done), by repeat (first | exact Drawn0.refl _ | apply Drawn0.step)⟩

end Go.Proofs.Ytjfkjmfdckbecaa.Print
