-- Printed by a program of this session out of the translation; not trusted: Lean checks it.
-- SQUEEZED
import Derived.Test.YtmedijjjhabpbaaPrint0
import Derived.Test.YtmedijjjhabpbaaPrint5
import Derived.Test.YtmedijjjhabpbaaPrint8
import Derived.Test.YtmedijjjhabpbaaPrint9
import Derived.Test.YtmedijjjhabpbaaPrint13
namespace Go.Proofs.Ytmedijjjhabpbaa.Print
open Go.RowKit Go.Proofs.YtmedijjjhabpbaaW.PrintWords Go.Proofs.YtmedijjjhabpbaaW.PrintLast Go.Proofs.YtmedijjjhabpbaaW.PrintMore
attribute [local go_sem] max2_int min2_int max_two min_two max_three min_three max_four min_four   -- for this text's walks alone
set_option linter.unusedVariables false
set_option linter.unusedSimpArgs false

/-! ### impl_JoinAll: function 8 -/
def impl_JoinAll.l0 : Nat → List (List S49) → Option (List (List S49))
 | 0, _ => none
 | k + 1, xs => (impl_joinFirst.f k xs).bind fun t => if t.2 = true then impl_JoinAll.l0 k t.1 else some t.1
def impl_JoinAll.f (k : Nat) (l0 : List (List S49)) : Option (List (List S49) × Int) := (impl_chainsCode.f k l0).bind fun t => if t = 0 then (if l0.length < 1000 then (if g_short l0 = true then ((impl_JoinAll.l0 k l0).bind fun r => some (r, 0)) else none) else none) else some ([], t)
theorem impl_JoinAll.mono_l : ∀ k y0, LeO (impl_JoinAll.l0 k y0) (impl_JoinAll.l0 (k + 1) y0)
 | 0, _ => fun r h => by simp [impl_JoinAll.l0] at h
 | k + 1, y0 => by
  unfold impl_JoinAll.l0
  exact LeO.bind (impl_joinFirst.mono _ _) (fun _ => LeO.ite (impl_JoinAll.mono_l k _) (LeO.refl _))
theorem impl_JoinAll.mono : ∀ a0 k, LeO (impl_JoinAll.f k a0) (impl_JoinAll.f (k + 1) a0) := by
 intro a0 k
 unfold impl_JoinAll.f
 repeat' first
 | exact impl_JoinAll.mono_l _ _
 | exact impl_chainsCode.mono _ _
 | exact LeO.refl _
 | exact LeO.none _
 | refine LeO.ite ?_ ?_
 | refine LeO.bind ?_ (fun _ => ?_)
set_option maxHeartbeats 8000000 in
set_option maxRecDepth 100000 in
theorem impl_JoinAll.calls (k : Nat) (A0 : Option Addr) (c0 : Nat) (l0 : List (List S49)) (r1 : List (List S49)) (r2 : Int) (w : World) (hr0 : Kd.C (Kd.slice 49 k49) w A0 l0.length l0) (hc0 : l0.length ≤ c0) (h : impl_JoinAll.f k l0 = some (r1, r2)) :
  Calls Try.prog 8 #[.slice A0 l0.length c0] w fun e w' => ∃ v0_ : Value, e = .returned (.tuple #[v0_, .int .i64 r2]) ∧ Kd.S (Kd.slice 49 k49) 34 w' w.heap.size (fun _ => True) v0_ r1 ∧ Below w.heap.size w w' := by
 have HR0 := Aside0.mk hr0
 have HC0 := Aside0.mk hc0
 clear hr0 hc0
 unfold impl_JoinAll.f at h
 obtain ⟨t, ht, H⟩ := Option.bind_eq_some_iff.mp h
 have A1 := Aside0.mk ht
 clear h ht
 by_cases c1 : t = 0
 · rw [if_pos c1] at H
   have c1b : (t != 0) = false := by rw [c1]; rfl
   by_cases c2 : l0.length < 1000
   · rw [if_pos c2] at H
     by_cases c3 : g_short l0 = true
     · rw [if_pos c3] at H
       obtain ⟨rr, hl, H⟩ := Option.bind_eq_some_iff.mp H
       cases H
       have HL := Aside0.mk hl
       have C2 := Aside0.mk c2
       have C3 := Aside0.mk c3
       clear hl c1 c2 c3
       go_enter Try.func8, Try.ntmps8
       go_wp2_with (first | (go_at_call 24; (with_reducible refine (impl_chainsCode.calls k A0 c0 l0 t _ ?side1 ?side2 A1.out).mono ?_); (case side1 => exact HR0.out); (case side2 => exact HC0.out); rintro e w4 ⟨rfl, hb4⟩; have HB := Aside0.mk hb4; clear hb4))
       go_loopg [5, 17] l0.length (fun d v5 v17 w' => ∃ (x : Int), v17 = .int .i64 x ∧ Aside0 (0 ≤ x ∧ x + (d : Int) = (l0.length : Int)) ∧ Aside0 (Kd.S (Kd.slice 49 k49) 34 w' w.heap.size (fun _ => True) v5 (l0.take x.toNat)) ∧ Aside0 (Below w.heap.size w w'))
       case atStart => exact ⟨0, by first | rfl | (simp; done), ⟨by omega⟩, ⟨g_S_new _ w.heap.size HB.out.size⟩, ⟨below_alloc HB.out _⟩⟩
       case round =>
        clear HB c1b
        obtain ⟨x, rfl, HI, HS, HB⟩ := hrel
        by_cases c4 : x < (l0.length : Int)
        · have c4b : decide (x < (l0.length : Int)) = true := decide_eq_true c4
          cases gk with
          | zero => exact absurd HI.out.2 (by omega)
          | succ d1 =>
           have x0 : 0 ≤ x := HI.out.1
           have HT := Aside0.mk (show impl_Place_25.f (g_row l0 x) = some (g_row l0 x) by unfold impl_Place_25.f; rw [Option.bind_some, if_pos (by have := g_short_at C3.out x x0 c4; simpa using this)]; rfl)
           have HN := Aside0.mk (g_next x l0.length d1 x0 c4 C2.out HI.out.2)
           have HK := Aside0.mk (g_take_row l0 x x0 c4)
           have HLn := Aside0.mk (show (l0.take x.toNat).length ≤ 1000 from Nat.le_trans (List.length_take_le' ..) (Nat.le_of_lt C2.out))
           obtain ⟨ad, A2, cc2, ea, hx, lx, Cx⟩ := g_atL HR0.out x x0 c4
           cases ea
           have hx' := (HB.out.cell (World.block_lt_of_cell? w _ hx)).trans hx
           have CX := Aside0.mk Cx
           have LX := Aside0.mk lx
           have x0t := eq_true x0
           have c4t := eq_true c4
           clear hx lx Cx x0 c4
           go_wp2_with (first | (go_at_call 25; (with_reducible refine (impl_Place_25.calls _ _ (g_row l0 x) (g_row l0 x) _ ?side1 ?side2 HT.out).mono ?_); (case side1 => exact (Kd.C_below CX.out HB.out)); (case side2 => exact LX.out); rintro e w5 ⟨vx, rfl, ho5, hb5⟩; obtain ⟨A5, c5, e5⟩ := Kd.R_slice ho5; subst e5; have HF := Aside0.mk (g_S_fresh HS.out ho5 hb5); have HX := Aside0.mk (show Kd.R k49 49 w5 wr.heap.size (fun _ => True) (.slice A5 (g_row l0 x).length c5) (g_row l0 x) from ho5); have HB5 := Aside0.mk (below_step HB.out hb5); clear ho5 hb5) | ((with_reducible refine gate_builtin (b := .append) (xs := #[.tmp 21, .tmp 24]) rfl ?_); at_builtin; refine Kd.S_append (Kd.slice 49 k49) (w0 := w) w.heap.size rfl (.tmp 21) (.tmp 24) 24 34 (.slice none 0 0) 24 rfl Try.underlying24 info34 rfl (by decide) (by omega) u5 (l0.take x.toNat) (g_row l0 x) [.slice A5 (g_row l0 x).length c5] (fun _ => True) (fun k_ => some k_ = (.slice A5 (g_row l0 x).length c5 : Value).ownBlock) rfl rfl (Kd.M_row (Kd.R_tight rfl (Kd.R_lower HX.out HB.out.size))) (fun k_ hk_ => ⟨trivial, HF.out.2 k_ hk_⟩) (fun _ _ => trivial) HF.out.1 HB5.out HB5.out.size (by have := HLn.out; omega) ?_; intro v6 w6 ho6 hb6 _ _; have HS6 := Aside0.mk ho6; have HB6 := Aside0.mk hb6; clear ho6 hb6))
           go_roundg d1
           case measure => omega
           case rel => exact ⟨wrap64 (x + 1), by first | rfl | (simp; done), ⟨HN.out.1⟩, ⟨by rw [HN.out.2, HK.out]; exact HS6.out⟩, HB6⟩
        · have c4b : decide (x < (l0.length : Int)) = false := decide_eq_false c4
          have HA := Aside0.mk (show l0.take x.toNat = l0 from List.take_of_length_le (by have := HI.out; omega))
          clear c4
          rw [HA.out] at HS
          go_wp2
          go_loopg [5, 8] k (fun kq v5 v8 w' => ∃ (b : Bool) (ys : List (List S49)), v8 = .bool b ∧ Aside0 ((if b = true then impl_JoinAll.l0 kq ys else some ys) = some r1) ∧ Aside0 (kq ≤ k) ∧ Aside0 (Kd.S (Kd.slice 49 k49) 34 w' w.heap.size (fun _ => True) v5 ys) ∧ Aside0 (Below w.heap.size w w'))
          case atStart => exact ⟨true, l0, rfl, ⟨by rw [if_pos rfl]; exact HL.out⟩, ⟨Nat.le_refl _⟩, HS, HB⟩
          case round =>
           clear HS HB HL HA c4b
           obtain ⟨b, ys, rfl, HQ, HK1, HS, HB⟩ := hrel
           cases b with
           | true =>
            have H := HQ.out
            rw [if_pos rfl] at H
            cases gk with
            | zero => exact absurd H (by simp [impl_JoinAll.l0])
            | succ k1 =>
             simp only [impl_JoinAll.l0] at H
             obtain ⟨⟨t1, t2⟩, hj, H⟩ := Option.bind_eq_some_iff.mp H
             have HJ := Aside0.mk hj
             have H' := Aside0.mk H
             clear hj H HQ
             go_wp2_with (first | (go_at_call 26; (with_reducible refine (impl_joinFirst.calls k1 _ ys t1 t2 w _ HB.out HS.out HJ.out).mono ?_); rintro e w8 ⟨v8, rfl, hs8, hb8⟩; have HS8 := Aside0.mk hs8; have HB8 := Aside0.mk hb8; clear hs8 hb8))
             go_roundg k1
             case measure => have := HK1.out; omega
             case rel => exact ⟨t2, t1, by first | rfl | (simp; done), H', ⟨by have := HK1.out; omega⟩, HS8, HB8⟩
           | false =>
            have H := HQ.out
            rw [if_neg (by decide)] at H
            cases H
            clear HQ
            go_wp2
            go_ret2
            exact ⟨_, rfl, HS.out, HB.out⟩
     · rw [if_neg c3] at H
       cases H
   · rw [if_neg c2] at H
     cases H
 · rw [if_neg c1] at H
   cases H
   have c1b : (r2 != 0) = true := by rw [bne_iff_ne]; exact c1
   go_enter Try.func8, Try.ntmps8
   go_wp2_with (first | (go_at_call 24; (with_reducible refine (impl_chainsCode.calls k A0 c0 l0 r2 _ ?side1 ?side2 A1.out).mono ?_); (case side1 => exact HR0.out); (case side2 => exact HC0.out); rintro e w4 ⟨rfl, hb4⟩; have HB := Aside0.mk hb4; clear hb4))
   repeat (go_quiet (fail); try go_wp2)
   go_ret2
   exact ⟨_, rfl, Kd.S_nil _ _ _ _ _, HB.out⟩

/-! ### laws_eqPlace: function 46 -/
def laws_eqPlace.f (a0_0 : Int) (a0_1 : Int) (a1_0 : Int) (a1_1 : Int) : Option (Bool) := if a0_0 = a1_0 then (if a0_1 = a1_1 then (some true) else (some false)) else (some false)
set_option maxHeartbeats 8000000 in
set_option maxRecDepth 100000 in
theorem laws_eqPlace.calls (a0_0 : Int) (a0_1 : Int) (a1_0 : Int) (a1_1 : Int) (r : Bool) (w : World) (h : laws_eqPlace.f a0_0 a0_1 a1_0 a1_1 = some r) :
    Calls Try.prog 46 #[.agg #[.int .i64 a0_0, .int .i64 a0_1], .agg #[.int .i64 a1_0, .int .i64 a1_1]] w fun e w' => e = .returned (.bool r) ∧ Below w.heap.size w w' := by
  have hu49 := Try.underlying49
  have HB := Aside0.mk (Below.refl w.heap.size w)
  have H : (if a0_0 = a1_0 then (if a0_1 = a1_1 then (some true) else (some false)) else (some false)) = some r := h
  clear h
  by_cases c3 : a0_0 = a1_0
  · rw [if_pos c3] at H
    have c3b0 : (a0_0 == a1_0) = true := beq_iff_eq.mpr c3
    have c3b1 : (a0_0 != a1_0) = false := bne_eq_false_iff_eq.mpr c3
    clear c3
    by_cases c4 : a0_1 = a1_1
    · rw [if_pos c4] at H
      have c4b0 : (a0_1 == a1_1) = true := beq_iff_eq.mpr c4
      have c4b1 : (a0_1 != a1_1) = false := bne_eq_false_iff_eq.mpr c4
      clear c4
      obtain rfl := Option.some.inj H
      go_enter Try.func46, Try.ntmps46
      go_wp2_with (first | ((with_reducible refine gate_dst (N := 2) rfl ?_); refine box_event ?hg (N := 2) ?hd (cs := #[.int .i64 a0_0, .int .i64 a0_1]) (t := 49) ?hr ?_; (case hd => rfl); (case hg => rfl); (case hr => first | (go_simp; done) | (go_simp; rfl)); intro gb320 hg w5 hbox hb; have n0_ := Aside0.mk (below_step (bw_ HB.out) hb); have n1_ := Aside0.mk (hbox); have n2_ := Aside0.mk ((ge_ hg (bw_ HB.out))); have n3_ := Aside0.mk ((ge_ hg (bw_ HB.out))); clear HB; have HB := n0_; have BK320 := n1_; have GW320 := n2_; have GE320 := n3_; clear n0_ n1_ n2_ n3_; clear hb hbox hg) | ((with_reducible refine gate_dst (N := 3) rfl ?_); refine box_event ?hg (N := 3) ?hd (cs := #[.int .i64 a1_0, .int .i64 a1_1]) (t := 49) ?hr ?_; (case hd => rfl); (case hg => rfl); (case hr => first | (go_simp; done) | (go_simp; rfl)); intro gb321 hg w6 hbox hb; have n0_ := Aside0.mk (blk_below (bk_ BK320.out) hb); have n1_ := Aside0.mk (below_step (bwg_ GE320.out HB.out) hb); have n2_ := Aside0.mk (hbox); have n3_ := Aside0.mk ((by rw [hg]; exact (below_size (bwg_ GE320.out HB.out)) : w.heap.size ≤ gb321)); have n4_ := Aside0.mk ((by rw [hg]; exact (below_size (bwg_ GE320.out HB.out)) : w.heap.size ≤ gb321)); have n5_ := Aside0.mk ((ne1_ hg (bk_ BK320.out))); have n6_ := Aside0.mk ((ne2_ hg (bk_ BK320.out))); clear BK320; clear HB; have BK320 := n0_; have HB := n1_; have BK321 := n2_; have GW321 := n3_; have GE321 := n4_; have NB320_321 := n5_; have NB321_320 := n6_; clear n0_ n1_ n2_ n3_ n4_ n5_ n6_; clear hb hbox hg; have hnb7 := NB320_321.out; have hnc7 := NB321_320.out; have hcz8_0 : w6.cell? ⟨gb320, 0, none⟩ = some (.int .i64 a0_0) := (blk_cell BK320.out 0).trans rfl; have hcz8_1 : w6.cell? ⟨gb320, 1, none⟩ = some (.int .i64 a0_1) := (blk_cell BK320.out 1).trans rfl; have hfz8_0 := blk_frozen BK320.out 0; have hfz8_1 := blk_frozen BK320.out 1; have hcz9_0 : w6.cell? ⟨gb321, 0, none⟩ = some (.int .i64 a1_0) := (blk_cell BK321.out 0).trans rfl; have hcz9_1 : w6.cell? ⟨gb321, 1, none⟩ = some (.int .i64 a1_1) := (blk_cell BK321.out 1).trans rfl; have hfz9_0 := blk_frozen BK321.out 0; have hfz9_1 := blk_frozen BK321.out 1))
      go_ret
      exact ⟨by first | rfl | (simp [errW_none, errW_some] <;> rfl) | (simp [*, errW_none, errW_some] <;> rfl), by repeat (first | (with_reducible first | exact HB.out | apply below_alloc | apply pw_below_drewN | apply below_drew1 | refine below_set ?_ GE320.out | refine below_set ?_ GE321.out) | exact HB.out)⟩
    · rw [if_neg c4] at H
      have c4b0 : (a0_1 == a1_1) = false := beq_eq_false_iff_ne.mpr c4
      have c4b1 : (a0_1 != a1_1) = true := bne_iff_ne.mpr c4
      obtain rfl := Option.some.inj H
      go_enter Try.func46, Try.ntmps46
      go_wp2_with (first | ((with_reducible refine gate_dst (N := 2) rfl ?_); refine box_event ?hg (N := 2) ?hd (cs := #[.int .i64 a0_0, .int .i64 a0_1]) (t := 49) ?hr ?_; (case hd => rfl); (case hg => rfl); (case hr => first | (go_simp; done) | (go_simp; rfl)); intro gb320 hg w10 hbox hb; have n0_ := Aside0.mk (below_step (bw_ HB.out) hb); have n1_ := Aside0.mk (hbox); have n2_ := Aside0.mk ((ge_ hg (bw_ HB.out))); have n3_ := Aside0.mk ((ge_ hg (bw_ HB.out))); clear HB; have HB := n0_; have BK320 := n1_; have GW320 := n2_; have GE320 := n3_; clear n0_ n1_ n2_ n3_; clear hb hbox hg) | ((with_reducible refine gate_dst (N := 3) rfl ?_); refine box_event ?hg (N := 3) ?hd (cs := #[.int .i64 a1_0, .int .i64 a1_1]) (t := 49) ?hr ?_; (case hd => rfl); (case hg => rfl); (case hr => first | (go_simp; done) | (go_simp; rfl)); intro gb321 hg w11 hbox hb; have n0_ := Aside0.mk (blk_below (bk_ BK320.out) hb); have n1_ := Aside0.mk (below_step (bwg_ GE320.out HB.out) hb); have n2_ := Aside0.mk (hbox); have n3_ := Aside0.mk ((by rw [hg]; exact (below_size (bwg_ GE320.out HB.out)) : w.heap.size ≤ gb321)); have n4_ := Aside0.mk ((by rw [hg]; exact (below_size (bwg_ GE320.out HB.out)) : w.heap.size ≤ gb321)); have n5_ := Aside0.mk ((ne1_ hg (bk_ BK320.out))); have n6_ := Aside0.mk ((ne2_ hg (bk_ BK320.out))); clear BK320; clear HB; have BK320 := n0_; have HB := n1_; have BK321 := n2_; have GW321 := n3_; have GE321 := n4_; have NB320_321 := n5_; have NB321_320 := n6_; clear n0_ n1_ n2_ n3_ n4_ n5_ n6_; clear hb hbox hg; have hnb12 := NB320_321.out; have hnc12 := NB321_320.out; have hcz13_0 : w11.cell? ⟨gb320, 0, none⟩ = some (.int .i64 a0_0) := (blk_cell BK320.out 0).trans rfl; have hcz13_1 : w11.cell? ⟨gb320, 1, none⟩ = some (.int .i64 a0_1) := (blk_cell BK320.out 1).trans rfl; have hfz13_0 := blk_frozen BK320.out 0; have hfz13_1 := blk_frozen BK320.out 1; have hcz14_0 : w11.cell? ⟨gb321, 0, none⟩ = some (.int .i64 a1_0) := (blk_cell BK321.out 0).trans rfl; have hcz14_1 : w11.cell? ⟨gb321, 1, none⟩ = some (.int .i64 a1_1) := (blk_cell BK321.out 1).trans rfl; have hfz14_0 := blk_frozen BK321.out 0; have hfz14_1 := blk_frozen BK321.out 1))
      go_ret
      exact ⟨by first | rfl | (simp [errW_none, errW_some] <;> rfl) | (simp [*, errW_none, errW_some] <;> rfl), by repeat (first | (with_reducible first | exact HB.out | apply below_alloc | apply pw_below_drewN | apply below_drew1 | refine below_set ?_ GE320.out | refine below_set ?_ GE321.out) | exact HB.out)⟩
  · rw [if_neg c3] at H
    have c3b0 : (a0_0 == a1_0) = false := beq_eq_false_iff_ne.mpr c3
    have c3b1 : (a0_0 != a1_0) = true := bne_iff_ne.mpr c3
    obtain rfl := Option.some.inj H
    go_enter Try.func46, Try.ntmps46
    go_wp2_with (first | ((with_reducible refine gate_dst (N := 2) rfl ?_); refine box_event ?hg (N := 2) ?hd (cs := #[.int .i64 a0_0, .int .i64 a0_1]) (t := 49) ?hr ?_; (case hd => rfl); (case hg => rfl); (case hr => first | (go_simp; done) | (go_simp; rfl)); intro gb320 hg w15 hbox hb; have n0_ := Aside0.mk (below_step (bw_ HB.out) hb); have n1_ := Aside0.mk (hbox); have n2_ := Aside0.mk ((ge_ hg (bw_ HB.out))); have n3_ := Aside0.mk ((ge_ hg (bw_ HB.out))); clear HB; have HB := n0_; have BK320 := n1_; have GW320 := n2_; have GE320 := n3_; clear n0_ n1_ n2_ n3_; clear hb hbox hg) | ((with_reducible refine gate_dst (N := 3) rfl ?_); refine box_event ?hg (N := 3) ?hd (cs := #[.int .i64 a1_0, .int .i64 a1_1]) (t := 49) ?hr ?_; (case hd => rfl); (case hg => rfl); (case hr => first | (go_simp; done) | (go_simp; rfl)); intro gb321 hg w16 hbox hb; have n0_ := Aside0.mk (blk_below (bk_ BK320.out) hb); have n1_ := Aside0.mk (below_step (bwg_ GE320.out HB.out) hb); have n2_ := Aside0.mk (hbox); have n3_ := Aside0.mk ((by rw [hg]; exact (below_size (bwg_ GE320.out HB.out)) : w.heap.size ≤ gb321)); have n4_ := Aside0.mk ((by rw [hg]; exact (below_size (bwg_ GE320.out HB.out)) : w.heap.size ≤ gb321)); have n5_ := Aside0.mk ((ne1_ hg (bk_ BK320.out))); have n6_ := Aside0.mk ((ne2_ hg (bk_ BK320.out))); clear BK320; clear HB; have BK320 := n0_; have HB := n1_; have BK321 := n2_; have GW321 := n3_; have GE321 := n4_; have NB320_321 := n5_; have NB321_320 := n6_; clear n0_ n1_ n2_ n3_ n4_ n5_ n6_; clear hb hbox hg; have hnb17 := NB320_321.out; have hnc17 := NB321_320.out; have hcz18_0 : w16.cell? ⟨gb320, 0, none⟩ = some (.int .i64 a0_0) := (blk_cell BK320.out 0).trans rfl; have hcz18_1 : w16.cell? ⟨gb320, 1, none⟩ = some (.int .i64 a0_1) := (blk_cell BK320.out 1).trans rfl; have hfz18_0 := blk_frozen BK320.out 0; have hfz18_1 := blk_frozen BK320.out 1; have hcz19_0 : w16.cell? ⟨gb321, 0, none⟩ = some (.int .i64 a1_0) := (blk_cell BK321.out 0).trans rfl; have hcz19_1 : w16.cell? ⟨gb321, 1, none⟩ = some (.int .i64 a1_1) := (blk_cell BK321.out 1).trans rfl; have hfz19_0 := blk_frozen BK321.out 0; have hfz19_1 := blk_frozen BK321.out 1))
    go_ret
    exact ⟨by first | rfl | (simp [errW_none, errW_some] <;> rfl) | (simp [*, errW_none, errW_some] <;> rfl), by repeat (first | (with_reducible first | exact HB.out | apply below_alloc | apply pw_below_drewN | apply below_drew1 | refine below_set ?_ GE320.out | refine below_set ?_ GE321.out) | exact HB.out)⟩

end Go.Proofs.Ytmedijjjhabpbaa.Print
