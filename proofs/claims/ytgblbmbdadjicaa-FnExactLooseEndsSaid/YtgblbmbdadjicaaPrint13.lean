-- Printed by a program of this session out of the translation; not trusted: Lean checks it.
import Derived.Test.YtgblbmbdadjicaaPrint0
import Derived.Test.YtgblbmbdadjicaaPrint4
namespace Go.Proofs.Ytgblbmbdadjicaa.Print
open Go.RowKit Go.Proofs.YtgblbmbdadjicaaW.PrintWords Go.Proofs.YtgblbmbdadjicaaW.PrintLast Go.Proofs.YtgblbmbdadjicaaW.PrintMore
attribute [local go_sem] max2_int min2_int max_two min_two max_three min_three max_four min_four   -- for this text's walks alone
set_option linter.unusedVariables false
set_option linter.unusedSimpArgs false

/-! ### laws_markPlaceSS: function 39 -/
def laws_markPlaceSS.l0 (k0 : Nat) : Nat → List (List S44) → Int → Int → Option Int
 | 0, _, _, _ => none
 | k + 1, x0, x1, x5 => if x5 < (x0.length : Int) then (if 0 ≤ x5 then ((laws_markPlaceS.f k0 (x0.getD x5.toNat []) x1).bind fun y => laws_markPlaceSS.l0 k0 k (x0.set x5.toNat y.2) y.1 (wrap64 (x5 + 1))) else none) else some x1
def laws_markPlaceSS.f (k : Nat) (l0 : List (List S44)) (a1 : Int) : Option Int := laws_markPlaceSS.l0 k k l0 a1 0
theorem laws_markPlaceSS.mono_l : ∀ k0 k y0 y1 y2, LeO (laws_markPlaceSS.l0 k0 k y0 y1 y2) (laws_markPlaceSS.l0 (k0 + 1) (k + 1) y0 y1 y2)
 | _, 0, _, _, _ => fun r h => by simp [laws_markPlaceSS.l0] at h
 | k0, k + 1, y0, y1, y2 => by
  have ih0 := laws_markPlaceSS.mono_l k0 k
  unfold laws_markPlaceSS.l0
  refine LeO.ite ?_ (LeO.refl _)
  refine LeO.ite ?_ (LeO.refl _)
  refine LeO.bind (laws_markPlaceS.mono _ _ _) (fun _ => ih0 _ _ _)
theorem laws_markPlaceSS.mono : ∀ a0 a1 k, LeO (laws_markPlaceSS.f k a0 a1) (laws_markPlaceSS.f (k + 1) a0 a1) := fun _ _ k => laws_markPlaceSS.mono_l k k _ _ _
theorem g_H_kept {α : Type} {d : Kd α} {e base : Nat} {ok oki : Nat → Prop} {W W2 : World} {v : Value} {xs : List α} {i : Int} {c : List Value} (h : Kd.H d e W base ok v xs i oki c) (hk : Kept W W2 oki) : Kd.H d e W2 base ok v xs i oki c := by
  obtain ⟨h1, f, h2⟩ := h
  exact ⟨h1, f, Kd.R_mono (Kd.R_keptB h2 hk (fun k hk => hk.2)) (fun k hk => hk.1)⟩
theorem g_keepTight {α : Type} {d : Kd α} {e base : Nat} {ok S : Nat → Prop} {W W2 : World} {v : Value} {xs : List α} (hE : d.E = []) (h : d.R e W base ok v xs) (hk : Kept W W2 S) (hne : ∀ k, some k = v.ownBlock → ¬ S k) : d.R e W2 base ok v xs :=
  Kd.R_mono (Kd.R_keptB (Kd.R_tight hE h) hk hne) (fun k hk => h.1 k hk.1.symm)
set_option maxHeartbeats 8000000 in
set_option maxRecDepth 100000 in
theorem laws_markPlaceSS.calls (k : Nat) (P0_ : Nat → Prop) (u9000_ : Value) (l0 : List (List S44)) (a1 : Int) (r1 : Int) (w0 w : World) (hB : Below w0.heap.size w0 w) (ho0 : Kd.S (Kd.slice 44 k44) 26 w w0.heap.size P0_ u9000_ l0) (h : laws_markPlaceSS.f k l0 a1 = some r1) :
  Calls Try.prog 39 #[u9000_, .int .i64 a1] w fun e w' => e = .returned (.int .i64 r1) ∧ Below w0.heap.size w0 w' ∧ Kept w w' (fun k_ => P0_ k_) := by
 have HK := Aside0.mk (Kept.refl w (fun k_ => P0_ k_))
 have HO0 := Aside0.mk ho0
 have HB := Aside0.mk hB
 clear hB ho0
 have H : (laws_markPlaceSS.l0 k k l0 a1 0) = some r1 := h
 clear h
 have H' := Aside0.mk H
 clear H
 go_enter Try.func39, Try.ntmps39
 go_wp2
 go_loopg [1, 5] k (fun kq v1 v5 w' => ∃ (x0_1 : List (List S44)) (x1_1 : Int) (x5_1 : Int), v1 = .int .i64 x1_1 ∧ v5 = .int .i64 x5_1 ∧ Aside0 (laws_markPlaceSS.l0 k kq x0_1 x1_1 x5_1 = some r1) ∧ Aside0 (kq ≤ k) ∧ Aside0 (Kd.S (Kd.slice 44 k44) 26 w' w0.heap.size P0_ u9000_ x0_1) ∧ Aside0 (Kept w w' (fun k_ => P0_ k_)) ∧ Aside0 (Below w0.heap.size w0 w'))
 case atStart => exact ⟨l0, a1, 0, rfl, rfl, H', ⟨Nat.le_refl _⟩, HO0, HK, HB⟩
 case round =>
  clear H' HO0 HK HB
  obtain ⟨x0_1, x1_1, x5_1, rfl, rfl, HA, HK1, HO_0, HK, HB⟩ := hrel
  cases gk with
  | zero => exact absurd HA.out (by simp [laws_markPlaceSS.l0])
  | succ k1 =>
   have H := HA.out
   clear HA
   simp only [laws_markPlaceSS.l0] at H
   by_cases c3 : x5_1 < (x0_1.length : Int)
   ·rw [if_pos c3] at H
    have c3b0 : decide (x5_1 < (x0_1.length : Int)) = true := decide_eq_true c3
    clear c3
    by_cases c4 : 0 ≤ x5_1
    ·rw [if_pos c4] at H
     have c4b0 : decide (0 ≤ x5_1) = true := decide_eq_true c4
     clear c4
     replace H := Option.bind_eq_some_iff.mp H
     obtain ⟨⟨t1, t2⟩, A10, H⟩ := H
     have A1 := Aside0.mk A10
     have H' := Aside0.mk H
     clear A10 H
     obtain ⟨Ao7, co7, eo7⟩ := Kd.S_slice HO_0.out
     subst eo7
     have p5 : 0 ≤ (x5_1 : Int) := od_
     have q5 : (x5_1 : Int) < ((x0_1.length : Int) : Int) := od_
     obtain ⟨go5, co5, eo5, gb5, gl5, cl5, HG5⟩ := Kd.S_form HO_0.out (by omega)
     (first | cases eo5 | (injection eo5 with ea_ en_ ec_; (first | subst ea_ | (injection ea_ with ea_; subst ea_)); subst ec_; clear en_))
     obtain ⟨oki, ce5, hcl5, hM5, hcc5, hfr5, hoki, hH⟩ := Kd.S_elem HO_0.out [] (x5_1 : Int) p5 q5
     obtain ⟨ve5, rfl, hR⟩ := hM5
     have hx5_0 : wr.cell? ⟨go5, (x5_1 : Int).toNat * 1, none⟩ = some ve5 := hcc5 0 _ rfl
     have hx5_1 : wr.cell? ⟨go5, (x5_1 : Int).toNat, none⟩ = some ve5 := by rw [Nat.mul_one] at hx5_0; exact hx5_0
     have hf5_0 : wr.frozen? ⟨go5, (x5_1 : Int).toNat, none⟩ = false := by have := hfr5 0; simpa [Kd.slice] using this
     have HH := Aside0.mk hH
     have HR := Aside0.mk hR
     have HOK := Aside0.mk hoki
     clear hH hR hoki hcc5 hfr5 hcl5
     replace p5 := eq_true p5
     replace q5 := eq_true q5
     go_wp2_with (first | (go_at_call 22; (with_reducible refine (laws_markPlaceS.calls k oki ve5 _ x1_1 t1 t2 w0 _ ?side1 ?side2 A1.out).mono ?_); (case side1 => exact HB.out); (case side2 => exact HR.out); rintro e w9 ⟨rfl, hy0, hb, hkp⟩; have n0_ := Aside0.mk (Kd.H_back (g_H_kept HH.out hkp) (x' := t2) (okp := oki) ⟨ve5, rfl, Kd.R_reok rfl hy0 (fun k_ e_ => HR.out.1 k_ e_)⟩ (fun _ hk => hk)); have n1_ := Aside0.mk hb; have n2_ := Aside0.mk (HK.out.then_ hkp (fun k_ hk_ => Or.inl (HOK.out k_ hk_).1)); clear HB HK HO_0 HH HR hy0 hb hkp; have HO_0 := n0_; have HB := n1_; have HK := n2_; clear n0_ n1_ n2_))
     go_roundg k1
     case measure => have := HK1.out; omega
     case rel => exact ⟨_, _, _, rfl, rfl, H', ⟨by have := HK1.out; omega⟩, HO_0, HK, HB⟩
    ·rw [if_neg c4] at H
     exact absurd H (by simp)
   ·rw [if_neg c3] at H
    have c3b0 : decide (x5_1 < (x0_1.length : Int)) = false := decide_eq_false c3
    clear c3
    simp only [Option.some.injEq] at H
    obtain rfl := H
    obtain ⟨Ao12, co12, eo12⟩ := Kd.S_slice HO_0.out
    subst eo12
    go_wp2
    go_ret
    exact ⟨rfl, HB.out, HK.out⟩

end Go.Proofs.Ytgblbmbdadjicaa.Print
