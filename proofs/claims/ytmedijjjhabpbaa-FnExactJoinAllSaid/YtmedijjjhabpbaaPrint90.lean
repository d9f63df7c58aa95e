import Derived.Test.YtmedijjjhabpbaaPrint0
import Derived.Test.YtmedijjjhabpbaaPrint2
import Derived.Test.YtmedijjjhabpbaaPrint6
import Derived.Test.YtmedijjjhabpbaaPrint7
import Derived.Test.YtmedijjjhabpbaaPrint14
import Derived.Test.YtmedijjjhabpbaaPrint16
import Derived.Test.YtmedijjjhabpbaaPrint17
import Derived.Test.YtmedijjjhabpbaaPrint18
namespace Go.Proofs.Ytmedijjjhabpbaa.Print
open Go.RowKit Go.Proofs.YtmedijjjhabpbaaW.PrintWords Go.Proofs.YtmedijjjhabpbaaW.PrintLast Go.Proofs.YtmedijjjhabpbaaW.PrintMore
attribute [local go_sem] max2_int min2_int max_two min_two max_three min_three max_four min_four
set_option linter.unusedVariables false
set_option linter.unusedSimpArgs false
/-! ### laws_FnExactJoinAll: function 3 -/
def laws_FnExactJoinAll.f (k : Nat) (l0 : List (List S61)) : Option Bool := (laws_szPlaceSS.f k l0 1048576).bind fun t1 => if t1 < 0 then some true else ((laws_toPlaceSS.f k l0).bind fun xs => (spec_JoinAll.f k xs).bind fun s => (impl_JoinAll.f k xs).bind fun g => if g.2 = s.2 then ((laws_eqPlaceSS.f k g.1 s.1).bind fun e1 => if e1 = true then ((laws_eqPlaceSS.f k xs xs).bind fun e2 => if e2 = true then ((laws_markPlaceSS.f k xs 1).bind fun m1 => if m1.1 < 0 then none else ((laws_markPlaceSS.f k g.1 1).bind fun m2 => (laws_heldPlaceSS.f k m2.2 1).bind fun q => if q < 0 then none else (if q = m2.1 then some true else none))) else none) else none) else none)
def laws_FnExactJoinAll.Pure : Prop := ∀ (l0 : List (List S61)), wfS (wfS wf61) l0 → l0.length * 24 ≤ 140737488351232 → ∃ k, laws_FnExactJoinAll.f k l0 = some true
set_option maxHeartbeats 8000000 in
theorem g_S_low {W : World} {N N0 : Nat} {v : Value} {xs : List (List S49)} (h : Kd.S (Kd.slice 49 k49) 34 W N (fun _ => True) v xs) (hb : N0 ≤ N) : Kd.S (Kd.slice 49 k49) 34 W N0 (fun k => N ≤ k ∧ k < W.heap.size) v xs :=
 Kd.S_lower (Kd.S_mono (Kd.S_bound h) (fun k hk => ⟨hk.2.1, hk.2.2.1⟩)) hb
set_option maxHeartbeats 8000000 in
set_option maxRecDepth 100000 in
theorem laws_FnExactJoinAll.calls (k : Nat) (A0 : Option Addr) (c0 : Nat) (l0 : List (List S61)) (r : Bool) (w : World) (hr0 : Kd.C (Kd.slice 61 k61) w A0 l0.length l0) (hc0 : l0.length ≤ c0) (h : laws_FnExactJoinAll.f k l0 = some r) :
  Calls Try.prog 3 #[.slice A0 l0.length c0] w fun e w' => e = .returned (.bool r) ∧ Below w.heap.size w w' := by
 have HR0 := Aside0.mk hr0
 have HC0 := Aside0.mk hc0
 clear hr0 hc0
 unfold laws_FnExactJoinAll.f at h
 obtain ⟨t1, ht1, h⟩ := Option.bind_eq_some_iff.mp h
 have F1 := Aside0.mk ht1
 clear ht1
 by_cases c1 : t1 < 0
 · rw [if_pos c1] at h
   cases h
   have c1b : decide (t1 < 0) = true := decide_eq_true c1
   clear c1
   go_enter Try.func3, Try.ntmps3
   go_wp2_with (first | (go_at_call 5; (with_reducible refine (laws_szPlaceSS.calls k A0 c0 l0 1048576 t1 _ ?side1 ?side2 F1.out).mono ?_); (case side1 => exact HR0.out); (case side2 => exact HC0.out); rintro e w1 ⟨rfl, ⟨⟨n1, rfl⟩⟩⟩))
   go_ret
   exact ⟨rfl, pw_below_drewN (Below.refl _ _) _⟩
 rw [if_neg c1] at h
 have c1b : decide (t1 < 0) = false := decide_eq_false c1
 obtain ⟨xs, hxs, h1⟩ := Option.bind_eq_some_iff.mp h
 clear h
 obtain ⟨⟨s1, s2⟩, hs, h2⟩ := Option.bind_eq_some_iff.mp h1
 clear h1
 obtain ⟨⟨g1, g2⟩, hg, h3⟩ := Option.bind_eq_some_iff.mp h2
 clear h2
 by_cases c2 : g2 = s2
 · have h : ((laws_eqPlaceSS.f k g1 s1).bind fun e1 => if e1 = true then ((laws_eqPlaceSS.f k xs xs).bind fun e2 => if e2 = true then ((laws_markPlaceSS.f k xs 1).bind fun m1 => if m1.1 < 0 then none else ((laws_markPlaceSS.f k g1 1).bind fun m2 => (laws_heldPlaceSS.f k m2.2 1).bind fun q => if q < 0 then none else (if q = m2.1 then some true else none))) else none) else none) = some r := by
    have h4 : (if g2 = s2 then _ else none) = some r := h3
    rw [if_pos c2] at h4
    exact h4
   clear h3
   subst c2
   obtain ⟨e1, he1, h⟩ := Option.bind_eq_some_iff.mp h
   cases e1 with
   | false => rw [if_neg (by decide)] at h; cases h
   | true =>
    rw [if_pos rfl] at h
    obtain ⟨e2, he2, h⟩ := Option.bind_eq_some_iff.mp h
    cases e2 with
    | false => rw [if_neg (by decide)] at h; cases h
    | true =>
     rw [if_pos rfl] at h
     obtain ⟨⟨m1, y1⟩, hm1, h⟩ := Option.bind_eq_some_iff.mp h
     dsimp only at h
     by_cases c3 : m1 < 0
     · rw [if_pos c3] at h; cases h
     rw [if_neg c3] at h
     have c3b : decide (m1 < 0) = false := decide_eq_false c3
     obtain ⟨⟨m2, y2⟩, hm2, h⟩ := Option.bind_eq_some_iff.mp h
     dsimp only at h
     obtain ⟨q, hq, h⟩ := Option.bind_eq_some_iff.mp h
     by_cases c4 : q < 0
     · rw [if_pos c4] at h; cases h
     rw [if_neg c4] at h
     have c4b : decide (q < 0) = false := decide_eq_false c4
     by_cases c5 : q = m2
     · rw [if_pos c5] at h
       cases h
       have c5b : (q != m2) = false := by rw [c5]; exact bne_self_eq_false m2
       have c6b : (g2 != g2) = false := bne_self_eq_false g2
       have F2 := Aside0.mk hxs
       have F3 := Aside0.mk hs
       have F4 := Aside0.mk hg
       have F5 := Aside0.mk he1
       have F6 := Aside0.mk he2
       have F7 := Aside0.mk hm1
       have F8 := Aside0.mk hm2
       have F9 := Aside0.mk hq
       clear hxs hs hg he1 he2 hm1 hm2 hq c1 c3 c4 c5
       go_enter Try.func3, Try.ntmps3
       go_upto_region 5 with (first | (go_at_call 5; (with_reducible refine (laws_szPlaceSS.calls k A0 c0 l0 1048576 t1 _ ?side1 ?side2 F1.out).mono ?_); (case side1 => exact HR0.out); (case side2 => exact HC0.out); rintro e w1 ⟨rfl, ⟨⟨n1, rfl⟩⟩⟩; have HB1 := Aside0.mk (pw_below_drewN (Below.refl w.heap.size w) n1)))
       go_upto_region 6 with (first | (go_at_call 7; (with_reducible refine (laws_toPlaceSS.calls k A0 c0 l0 xs _ ?side1 ?side2 F2.out).mono ?_); (case side1 => exact Kd.C_below HR0.out HB1.out); (case side2 => exact HC0.out); rintro e w2 ⟨v2, rfl, hs2, hb2⟩; obtain ⟨A2, c2, e2⟩ := Kd.S_slice hs2; subst e2; have HS2 := Aside0.mk hs2; have HB2 := Aside0.mk (below_step HB1.out hb2); clear hs2 hb2) | (go_at_call 6; (with_reducible refine (spec_JoinAll.calls k A2 c2 xs s1 g2 _ ?side1 ?side2 F3.out).mono ?_); (case side1 => exact (Kd.S_reads' HS2.out).2.2); (case side2 => exact (Kd.S_reads' HS2.out).2.1); rintro e w3 ⟨v4, rfl, hs3, hb3⟩; obtain ⟨A4, c4, e4⟩ := Kd.S_slice hs3; subst e4; have HB3 := Aside0.mk (below_step HB2.out hb3); have HS4 := Aside0.mk (Kd.S_mono (g_S_low hs3 HB2.out.size) (fun k hk => hk.2)); clear hs3 hb3))
       go_upto_region 7 with (first | (go_at_call 7; (with_reducible refine (laws_toPlaceSS.calls k A0 c0 l0 xs _ ?side1 ?side2 F2.out).mono ?_); (case side1 => exact Kd.C_below HR0.out HB3.out); (case side2 => exact HC0.out); rintro e w4 ⟨v6, rfl, hs6, hb6⟩; obtain ⟨A6, c6, e6⟩ := Kd.S_slice hs6; subst e6; have HS6 := Aside0.mk (g_S_low hs6 HB3.out.size); have H34 := Aside0.mk hb6.size; have H44 := Aside0.mk (Kd.S_below HS4.out hb6); have HB4 := Aside0.mk (below_step HB3.out hb6); clear hs6 hb6))
       go_upto_region 8 with (first | (go_at_call 8; (with_reducible refine (impl_JoinAll.calls k A6 c6 xs g1 g2 _ ?side1 ?side2 F4.out).mono ?_); (case side1 => exact (Kd.S_reads' HS6.out).2.2); (case side2 => exact (Kd.S_reads' HS6.out).2.1); rintro e w5 ⟨v7, rfl, hs7, hb7⟩; obtain ⟨A7, c7, e7⟩ := Kd.S_slice hs7; subst e7; have HS7 := Aside0.mk (Kd.S_mono (g_S_low hs7 HB4.out.size) (fun k hk => hk.1)); have H45 := Aside0.mk (Kd.S_below H44.out hb7); have H65 := Aside0.mk (Kd.S_below HS6.out hb7); have HB5 := Aside0.mk (below_step HB4.out hb7); clear hs7 hb7))
       go_upto_region 10 with (first | (go_at_call 9; (with_reducible refine (laws_eqPlaceSS.calls k A7 c7 g1 A4 c4 s1 true _ ?side1 ?side2 ?side3 ?side4 F5.out).mono ?_); (case side1 => exact (Kd.S_reads' HS7.out).2.2); (case side2 => exact (Kd.S_reads' HS7.out).2.1); (case side3 => exact (Kd.S_reads' H45.out).2.2); (case side4 => exact (Kd.S_reads' H45.out).2.1); rintro e w6 ⟨rfl, hb8⟩; have H46 := Aside0.mk (Kd.S_below H45.out hb8); have H66 := Aside0.mk (Kd.S_below H65.out hb8); have H76 := Aside0.mk (Kd.S_below HS7.out hb8); have HB6 := Aside0.mk (below_step HB5.out hb8); clear hb8))
       go_upto_region 12 with (first | (go_at_call 7; (with_reducible refine (laws_toPlaceSS.calls k A0 c0 l0 xs _ ?side1 ?side2 F2.out).mono ?_); (case side1 => exact Kd.C_below HR0.out HB6.out); (case side2 => exact HC0.out); rintro e w7 ⟨v9, rfl, hs9, hb9⟩; obtain ⟨A9, c9, e9⟩ := Kd.S_slice hs9; subst e9; have HS9 := Aside0.mk hs9; have H47 := Aside0.mk (Kd.S_below H46.out hb9); have H67 := Aside0.mk (Kd.S_below H66.out hb9); have H77 := Aside0.mk (Kd.S_below H76.out hb9); have HB7 := Aside0.mk (below_step HB6.out hb9); clear hs9 hb9) | (go_at_call 9; (with_reducible refine (laws_eqPlaceSS.calls k A6 c6 xs A9 c9 xs true _ ?side1 ?side2 ?side3 ?side4 F6.out).mono ?_); (case side1 => exact (Kd.S_reads' H67.out).2.2); (case side2 => exact (Kd.S_reads' H67.out).2.1); (case side3 => exact (Kd.S_reads' HS9.out).2.2); (case side4 => exact (Kd.S_reads' HS9.out).2.1); rintro e w8 ⟨rfl, hb8⟩; have H48 := Aside0.mk (Kd.S_below H47.out hb8); have H68 := Aside0.mk (Kd.S_below H67.out hb8); have H78 := Aside0.mk (Kd.S_below H77.out hb8); have HB8 := Aside0.mk (below_step HB7.out hb8); clear hb8))
       go_upto_region 14 with (first | (go_at_call 10; (with_reducible refine (laws_markPlaceSS.calls k (fun k_ => w3.heap.size ≤ k_ ∧ k_ < w4.heap.size) _ xs 1 m1 y1 w _ ?side1 ?side2 F7.out).mono ?_); (case side2 => exact H68.out); (case side1 => exact HB8.out); rintro e w9 ⟨rfl, _, hb9, hk9⟩; have H49 := Aside0.mk (Kd.S_kept H48.out hk9 (fun k_ hk_ hs_ => Nat.lt_irrefl _ (Nat.lt_of_lt_of_le hk_ hs_.1))); have H79 := Aside0.mk (Kd.S_kept H78.out hk9 (fun k_ hk_ hs_ => Nat.lt_irrefl _ (Nat.lt_of_lt_of_le hs_.2 hk_))); have HB9 := Aside0.mk hb9; clear hb9 hk9))
       go_upto_region 16 with (first | (go_at_call 9; (with_reducible refine (laws_eqPlaceSS.calls k A7 c7 g1 A4 c4 s1 true _ ?side1 ?side2 ?side3 ?side4 F5.out).mono ?_); (case side1 => exact (Kd.S_reads' H79.out).2.2); (case side2 => exact (Kd.S_reads' H79.out).2.1); (case side3 => exact (Kd.S_reads' H49.out).2.2); (case side4 => exact (Kd.S_reads' H49.out).2.1); rintro e w10 ⟨rfl, hb8⟩; have H4a := Aside0.mk (Kd.S_below H49.out hb8); have H7a := Aside0.mk (Kd.S_below H79.out hb8); have HBa := Aside0.mk (below_step HB9.out hb8); clear hb8))
       go_upto_region 18 with (first | (go_at_call 10; (with_reducible refine (laws_markPlaceSS.calls k (fun k_ => w4.heap.size ≤ k_) _ g1 1 m2 y2 w _ ?side1 ?side2 F8.out).mono ?_); (case side2 => exact H7a.out); (case side1 => exact HBa.out); rintro e w11 ⟨rfl, hs11, hb11, hk11⟩; have H4b := Aside0.mk (Kd.S_kept H4a.out hk11 (fun k_ hk_ hs_ => Nat.lt_irrefl _ (Nat.lt_of_lt_of_le hk_ (Nat.le_trans H34.out hs_)))); have H7b := Aside0.mk hs11; have HBb := Aside0.mk hb11; clear hs11 hb11 hk11))
       have hy7 := (Kd.S_reads' H7b.out).1
       rw [hy7] at H7b ⊢
       clear hy7
       go_upto_region 20 with (first | (go_at_call 11; (with_reducible refine (laws_heldPlaceSS.calls k A7 c7 y2 1 q _ ?side1 ?side2 F9.out).mono ?_); (case side1 => exact (Kd.S_reads' H7b.out).2.2); (case side2 => exact (Kd.S_reads' H7b.out).2.1); rintro e w12 ⟨rfl, ⟨⟨n12, rfl⟩⟩⟩))
       go_upto_region 24 with (fail)
       go_upto_region 25 with (first | (go_at_call 7; (with_reducible refine (laws_toPlaceSS.calls k A0 c0 l0 xs _ ?side1 ?side2 F2.out).mono ?_); (case side1 => exact Kd.C_below HR0.out (pw_below_drewN HBb.out _)); (case side2 => exact HC0.out); rintro e w13 ⟨v13, rfl, hs13, hb13⟩; obtain ⟨A13, c13, e13⟩ := Kd.S_slice hs13; subst e13; have HSd := Aside0.mk hs13; have H4d := Aside0.mk (Kd.S_below (Kd.S_drewN H4b.out n12) hb13); have H7d := Aside0.mk (Kd.S_below (Kd.S_drewN H7b.out n12) hb13); have HBd := Aside0.mk (below_step (pw_below_drewN HBb.out n12) hb13); clear hs13 hb13) | (go_at_call 8; (with_reducible refine (impl_JoinAll.calls k A13 c13 xs g1 g2 _ ?side1 ?side2 F4.out).mono ?_); (case side1 => exact (Kd.S_reads' HSd.out).2.2); (case side2 => exact (Kd.S_reads' HSd.out).2.1); rintro e w14 ⟨v14, rfl, hs14, hb14⟩; obtain ⟨A14, c14, e14⟩ := Kd.S_slice hs14; subst e14; have HSe := Aside0.mk hs14; have H4e := Aside0.mk (Kd.S_below H4d.out hb14); have H7e := Aside0.mk (Kd.S_below H7d.out hb14); have HBe := Aside0.mk (below_step HBd.out hb14); clear hs14 hb14))
       go_upto_region 27 with (first | (go_at_call 9; (with_reducible refine (laws_eqPlaceSS.calls k A14 c14 g1 A4 c4 s1 true _ ?side1 ?side2 ?side3 ?side4 F5.out).mono ?_); (case side1 => exact (Kd.S_reads' HSe.out).2.2); (case side2 => exact (Kd.S_reads' HSe.out).2.1); (case side3 => exact (Kd.S_reads' H4e.out).2.2); (case side4 => exact (Kd.S_reads' H4e.out).2.1); rintro e w15 ⟨rfl, hb8⟩; have H7f := Aside0.mk (Kd.S_below H7e.out hb8); have HBf := Aside0.mk (below_step HBe.out hb8); clear hb8))
       go_wp2_with (first | (go_at_call 11; (with_reducible refine (laws_heldPlaceSS.calls k A7 c7 y2 1 q _ ?side1 ?side2 F9.out).mono ?_); (case side1 => exact (Kd.S_reads' H7f.out).2.2); (case side2 => exact (Kd.S_reads' H7f.out).2.1); rintro e w16 ⟨rfl, ⟨⟨n16, rfl⟩⟩⟩))
       go_ret
       exact ⟨rfl, pw_below_drewN HBf.out _⟩
     · rw [if_neg c5] at h; cases h
 · have h4 : (if g2 = s2 then _ else none) = some r := h3
   rw [if_neg c2] at h4
   cases h4

end Go.Proofs.Ytmedijjjhabpbaa.Print
