-- Printed by a program of this session out of the translation; not trusted: Lean checks it.
import Derived.Test.YtcjkklkmlooinaaPrint0
import Derived.Test.YtcjkklkmlooinaaShRep
import Derived.Laws.CopyOwn
import Derived.Deep.RegionLaw
namespace Go.Proofs.Ytcjkklkmlooinaa.Print
open Go.RowKit Go.Proofs.YtcjkklkmlooinaaW.PrintWords Go.Proofs.YtcjkklkmlooinaaW.PrintLast Go.Proofs.YtcjkklkmlooinaaW.PrintMore
attribute [local go_sem] max2_int min2_int max_two min_two max_three min_three max_four min_four   -- for this text's walks alone
set_option linter.unusedVariables false
set_option linter.unusedSimpArgs false

-- imports: Derived.Test.YtcjkklkmlooinaaShRep
-- imports: Derived.Laws.CopyOwn
-- imports: Derived.Deep.RegionLaw
/-! ### slices_Repeat_int64_int64: function 43 -/
def slices_Repeat_int64_int64.f (l0 : List Int) (a1 : Int) : Option (List Int) := if l0.length = 1 ∧ 1 ≤ a1 ∧ a1 ≤ 1000 then some (List.replicate a1.toNat (rd l0 0)) else none
def g_rc (x : Int) (m n : Nat) (rest : List Value) : List Value := List.replicate m (.int .i64 x) ++ (List.replicate (n - m) (.int .i64 0) ++ rest)
set_option maxHeartbeats 8000000 in
theorem g_rc_splice (x : Int) (m c n : Nat) (rest : List Value) (hc : m + c ≤ n) : splice (g_rc x m n rest) m (List.replicate c (.int .i64 x)) = g_rc x (m + c) n rest := by
 unfold splice g_rc
 rw [List.take_left' (by simp), List.length_replicate, ← List.append_assoc, List.replicate_append_replicate]
 congr 1
 rw [List.drop_append, List.drop_eq_nil_of_le (by rw [List.length_replicate]; omega), List.nil_append, List.length_replicate, Nat.add_sub_cancel_left, List.drop_append_of_le_length (by rw [List.length_replicate]; omega), List.drop_replicate, show n - m - c = n - (m + c) by omega]
set_option maxHeartbeats 8000000 in
theorem g_rc_of {W : World} {base : Nat} {v : Value} {n : Nat} (x : Int) (hR : Kd.R (Kd.int .i64) 2 W base (fun _ => True) v (List.replicate n 0)) (hn : 1 ≤ n) :
  ∃ g cap rest, v = .slice (some ⟨g, 0, none⟩) n cap ∧ base ≤ g ∧ n ≤ cap ∧ cap ≤ maxLen ∧ W.heap[g]? = some (.cells (g_rc x 0 n rest).toArray 2 (0, 0)) ∧ (g_rc x 0 n rest).length = cap := by
 have hown := Kd.own_of_R (enc := Value.int .i64) (h1 := fun _ => rfl) hR
 rw [List.length_replicate] at hown
 rcases hown.2 with ⟨_, h0⟩ | ⟨g, cap, cur, hv, hb, hg, hnc, hm, hs, ht⟩
 · omega
 · have e : g_rc x 0 n (cur.toList.drop n) = cur.toList := by
     unfold g_rc
     rw [List.replicate_zero, List.nil_append, Nat.sub_zero]
     rw [Nat.mul_one] at ht
     have : (List.replicate n (Value.int .i64 0)) = cur.toList.take n := by
       rw [ht]; unfold encs; rw [List.map_replicate]
     rw [this, List.take_append_drop]
   refine ⟨g, cap, cur.toList.drop n, hv, hb, hnc, hm, ?_, ?_⟩
   · rw [e]; exact hg
   · rw [e]; simpa using hs
set_option maxHeartbeats 8000000 in
theorem g_rc_to {W : World} {base g n cap : Nat} {rest : List Value} (x : Int) (hb : base ≤ g) (hnc : n ≤ cap) (hm : cap ≤ maxLen) (hg : W.heap[g]? = some (.cells (g_rc x n n rest).toArray 2 (0, 0))) (hl : (g_rc x n n rest).length = cap) :
  Kd.R (Kd.int .i64) 2 W base (fun _ => True) (.slice (some ⟨g, 0, none⟩) n cap) (List.replicate n x) := by
 refine Kd.R_of_own (enc := Value.int .i64) (h1 := fun _ => rfl) ?_ (fun _ _ => trivial)
 rw [List.length_replicate]
 refine ⟨by simp [encs], .inr ⟨g, cap, _, rfl, hb, hg, hnc, hm, by simpa using hl, ?_⟩⟩
 unfold g_rc encs
 rw [Nat.mul_one, List.map_replicate]
 exact List.take_left' (by simp)
set_option maxHeartbeats 8000000 in
theorem g_src1 {W : World} {ad : Addr} {u : Value} (h : W.cell? (ad.add (Int.toNat 0)) = some u) : ∀ j v, (List.replicate 1 u)[j]? = some v → W.cell? (ad.add j) = some v := by
 intro j v hj
 cases j with
 | zero =>
   have e : u = v := by simpa using hj
   rw [← e]; exact h
 | succ j => simp at hj
set_option maxHeartbeats 8000000 in
theorem g_srcs {W : World} {g m c n cap : Nat} {x : Int} {rest : List Value} (h : W.heap[g]? = some (.cells (g_rc x m n rest).toArray 2 (0, 0))) (hc : c ≤ m) : ∀ j v, (List.replicate c (Value.int .i64 x))[j]? = some v → W.cell? ((⟨g, 0, none⟩ : Addr).add j) = some v := by
 intro j v hj
 have hjc : j < c := by
   have := (List.getElem?_eq_some_iff.1 hj).1
   simpa using this
 rw [List.getElem?_replicate, if_pos hjc] at hj
 have e : (⟨g, 0, none⟩ : Addr).add j = ⟨g, j, none⟩ := by
   simp [Addr.add]
   try (intro h; exact h.symm)
 rw [e]
 simp only [World.cell?, h]
 have e2 : (g_rc x m n rest)[j]? = some (.int .i64 x) := by
   unfold g_rc
   rw [List.getElem?_append_left (by rw [List.length_replicate]; omega), List.getElem?_replicate, if_pos (by omega)]
 simp [e2, hj]
set_option maxHeartbeats 8000000 in
theorem g_rc_len (x : Int) (m n : Nat) (rest : List Value) (h : m ≤ n) : (g_rc x m n rest).length = n + rest.length := by
 unfold g_rc; simp; omega
set_option maxHeartbeats 8000000 in
set_option maxRecDepth 100000 in
theorem slices_Repeat_int64_int64.calls (A0 : Option Addr) (c0 : Nat) (l0 : List Int) (a1 : Int) (r : List Int) (w : World) (hr0 : Kd.C (Kd.int .i64) w A0 l0.length l0) (hc0 : l0.length ≤ c0) (h : slices_Repeat_int64_int64.f l0 a1 = some r) :
  Calls Try.prog 43 #[.slice A0 l0.length c0, .int .i64 a1] w fun e w' => ∃ v0_ : Value, e = .returned (v0_) ∧ Kd.R (Kd.int .i64) 2 w' w.heap.size (fun _ => True) v0_ r ∧ Below w.heap.size w w' := by
 unfold slices_Repeat_int64_int64.f at h
 by_cases hp : l0.length = 1 ∧ 1 ≤ a1 ∧ a1 ≤ 1000
 · rw [if_pos hp] at h
   obtain rfl := Option.some.inj h
   obtain ⟨hl, h1, h2⟩ := hp
   obtain ⟨x, rfl⟩ : ∃ x, l0 = [x] := List.length_eq_one_iff.1 hl
   obtain ⟨n, rfl⟩ : ∃ n : Nat, a1 = (n : Int) := ⟨a1.toNat, by omega⟩
   obtain ⟨ad, e, hx⟩ := Kd.at_int hr0 0 (by omega) (by simp)
   cases e
   have hx0 : rd [x] 0 = x := rfl
   rw [hx0] at hx
   have hmul : ∀ w : World, Calls Try.prog 67 #[.int .u64 1, .int .u64 (n : Int)] w fun e w' => e = .returned (.tuple #[.int .u64 0, .int .u64 (n : Int)]) ∧ w' = w := fun w => by
     have h := Any.bits_Mul Try.laysMul 1 n (by decide) (by omega) w
     rw [show 1 * n / 18446744073709551616 = 0 by omega, show 1 * n % 18446744073709551616 = n by omega] at h
     exact h
   have HX := Aside0.mk hx
   have HN := Aside0.mk (show 1 ≤ n ∧ n ≤ 1000 by omega)
   have e1 : (IntKind.u64.wrap (n : Int)) = (n : Int) := by simp [IntKind.wrap, IntKind.bits, IntKind.signed]; omega
   have e2 : (IntKind.i64.wrap (n : Int)) = (n : Int) := by rw [IntKind.wrap_i64]; omega
   have p1 : ((n : Int) < 0) = False := eq_false (by omega)
   have p2 : ((n : Int) > 9223372036854775807) = False := eq_false (by omega)
   have p3 : ((9223372036854775807 : Int) < (n : Int)) = False := eq_false (by omega)
   have HB := Aside0.mk (Below.refl w.heap.size w)
   clear hr0 hc0 h hl h1 h2 hx hx0
   go_enter Try.func43, Try.ntmps43
   have hsz : (Try.prog.info? 2).map (·.size) = some 1 := by kernel_rfl
   go_wp2_with (first
    | (go_at_call 67; (with_reducible refine (hmul _).mono ?_); rintro e w' ⟨rfl, hw_⟩; rw [hw_]; clear hw_)
    | ((with_reducible refine gate_dst (N := 30) rfl ?_); refine Kd.R_make (Kd.int .i64) _ 2 rfl (N := 30) rfl 27 _ _ rfl (n : Int) rfl rfl Try.underlying27 (.int .i64 0) 8 info2 rfl (by decide) (by omega) 0 (ok := fun _ => True) (okp := fun _ => True) rfl (fun _ hk => hk) trivial (by omega) (by have := HN.out; omega) (Below.refl _ _) (Nat.le_refl _) ?_; intro v1 w1 hR hb hg_ hnew_; rw [Int.toNat_natCast] at hR; (obtain ⟨g, cap, rest, rfl, hbg, hnc, hcm, hg0, hlen⟩ := g_rc_of x hR HN.out.1); have HG0 := Aside0.mk hg0; have HL := Aside0.mk hlen; have HBG := Aside0.mk hbg; have HNC := Aside0.mk hnc; have HCM := Aside0.mk hcm; have HB1 := Aside0.mk hb; have HSRC := Aside0.mk ((hb.cell (World.block_lt_of_cell? w _ HX.out)).trans HX.out); clear hR hg_ hnew_ hg0 hlen hbg hnc hcm hb)
    | ((with_reducible refine gate_builtin (b := .copy) (xs := #[.tmp 31, .tmp 32]) rfl ?_); refine wpList_copy_splice rfl (.tmp 31) (.tmp 32) 27 27 rfl 2 Try.underlying27 hsz _ _ _ _ _ _ rfl rfl g 0 (g_rc x 0 n rest) 2 HG0.out (List.replicate 1 (.int .i64 x)) ?cn ?cp ?cf ?c1 w.heap.size w HB1.out HBG.out ?_; (case cn => rw [List.length_replicate]; exact (Nat.min_eq_left HN.out.1).symm); (case cp => exact fun _ => ⟨rfl, ad, rfl, g_src1 HSRC.out⟩); (case cf => rw [g_rc_len _ _ _ _ (Nat.zero_le _)]; have := HN.out.1; simp; omega); (case c1 => intro v hv; rw [(List.mem_replicate.1 hv).2]; rfl); intro w2 hG2 hB2; have HG2 := Aside0.mk ((g_rc_splice x 0 1 n rest (by have := HN.out; omega)) ▸ hG2.out); have HB2 := Aside0.mk hB2; clear hG2 hB2))
   clear hmul HG0 HB1 HSRC
   go_loopg [8] n (fun d v8 w' => ∃ m : Nat, v8 = .int .i64 (m : Int) ∧ Aside0 (1 ≤ m ∧ m ≤ n ∧ n ≤ m + d) ∧ Aside0 (w'.heap[g]? = some (.cells (g_rc x m n rest).toArray 2 (0, 0))) ∧ Aside0 (Below w.heap.size w w'))
   case atStart => exact ⟨1, rfl, ⟨⟨Nat.le_refl _, HN.out.1, by have := HN.out; omega⟩⟩, HG2, HB2⟩
   case round =>
    clear HG2 HB2
    obtain ⟨m, rfl, HI, HG, HB3⟩ := hrel
    by_cases c1 : m < n
    · have q1 : ((m : Int) < (n : Int)) = True := eq_true (by omega)
      have q2 : ((m : Int) < 0) = False := eq_false (by omega)
      have q3 : ((n : Int) < (m : Int)) = False := eq_false (by omega)
      have q4 : ((m : Int) ≤ (n : Int)) = True := eq_true (by omega)
      have q5 : ((0 : Int) ≤ (m : Int)) = True := eq_true (by omega)
      have q6 : (m = n) = False := eq_false (by omega)
      have q7 : (m ≤ n) = True := eq_true (by omega)
      cases gk with
      | zero => exact absurd HI.out.2.2 (by omega)
      | succ k1 =>
      obtain ⟨c, hc⟩ : ∃ c, c = min m (n - m) := ⟨_, rfl⟩
      have hmin : m + c ≤ n := by have := Nat.min_le_right m (n - m); rw [← hc] at this; omega
      have hmin1 : 1 ≤ c := by rw [hc]; exact Nat.le_min.2 ⟨HI.out.1, by omega⟩
      have HS := Aside0.mk (g_rc_splice x m c n rest hmin)
      have HF := Aside0.mk (show m + (List.replicate c (Value.int .i64 x)).length ≤ (g_rc x m n rest).length by rw [List.length_replicate, g_rc_len x m n rest (by omega)]; omega)
      have HM := Aside0.mk hmin
      have HM1 := Aside0.mk hmin1
      have HCC := Aside0.mk hc
      have hw : IntKind.i64.wrap ((m : Int) + (c : Int)) = ((m + c : Nat) : Int) := by rw [IntKind.wrap_i64]; have := HN.out; omega
      have q8 : ((m : Int) ≤ (cap : Int)) = True := eq_true (by have := HNC.out; omega)
      have q9 : ((cap : Int) < (m : Int)) = False := eq_false (by have := HNC.out; omega)
      have q10 : (m = cap) = False := eq_false (by have := HNC.out; omega)
      have q12 : (cap = m) = False := eq_false (by have := HNC.out; omega)
      have q11 : ((m : Int) = (cap : Int)) = False := eq_false (by have := HNC.out; omega)
      have HSR := Aside0.mk (g_srcs (cap := cap) HG.out (show c ≤ m by rw [hc]; exact Nat.min_le_left _ _))
      have QN := Aside0.mk (show cap ≠ m by have := HNC.out; omega)
      clear hmin hmin1 hc
      go_wp2
      go_region_law (refine step_copy_splice rfl (.tmp 41) (.tmp 44) 27 27 rfl 2 Try.underlying27 hsz (some ⟨g, m, none⟩) (some ⟨g, 0, none⟩) (n - m) (cap - m) m cap (by (simp [Act.eval, Act.put]); (try exact fun h_ => absurd h_ QN.out)) (by simp [Act.eval, Act.put]) g m (g_rc x m n rest) 2 HG.out (List.replicate c (.int .i64 x)) (by rw [List.length_replicate]; exact HCC.out) (fun _ => ⟨rfl, _, rfl, HSR.out⟩) HF.out (fun v hv => by rw [(List.mem_replicate.1 hv).2]; rfl) w.heap.size w (by first | exact HB3.out | exact below_drew1 HB3.out) HBG.out ?_; intro w4 hG4 hB4; have HG4 := Aside0.mk (HS.out ▸ hG4.out); have HB4 := Aside0.mk hB4; clear hG4 hB4)
      go_wp2
      go_roundg k1
      case measure => omega
      case rel => exact ⟨m + c, by first | rfl | (rw [Int.natCast_add]), ⟨by have := HI.out; have := HM.out; have := HM1.out; omega⟩, HG4, HB4⟩
    · have hmn : m = n := by have := HI.out; omega
      subst hmn
      have q1 : ((m : Int) < (m : Int)) = False := eq_false (by omega)
      go_wp2
      go_ret
      exact ⟨_, rfl, g_rc_to x HBG.out HNC.out HCM.out HG.out (by rw [g_rc_len _ _ _ _ (Nat.le_refl _), ← HL.out, g_rc_len _ _ _ _ (Nat.zero_le _)]), HB3.out⟩
 · rw [if_neg hp] at h; cases h

/-! ### slices_Index_int64_int64: function 68 -/
def slices_Index_int64_int64.l0 : Nat → List Int → Int → Int → Int → Option (Int)
  | 0, _, _, _, _ => none
  | k + 1, x0, x1, x7, x8 => if x8 < x7 then (if 0 ≤ x8 then (if x8 < (x0.length : Int) then (if x1 = (rd x0 x8) then (some x8) else (slices_Index_int64_int64.l0 k x0 x1 x7 (wrap64 (x8 + 1)))) else (none)) else (none)) else (some (-1))
def slices_Index_int64_int64.f (k : Nat) (l0 : List Int) (a1 : Int) : Option (Int) := slices_Index_int64_int64.l0 k l0 a1 (l0.length : Int) 0
theorem slices_Index_int64_int64.mono_l : ∀ k, (∀ y0 y1 y2 y3, LeO (slices_Index_int64_int64.l0 k y0 y1 y2 y3) (slices_Index_int64_int64.l0 (k + 1) y0 y1 y2 y3))
  | 0 => fun _ _ _ _ r h => by simp [slices_Index_int64_int64.l0] at h
  | k + 1 => by
    have ih0 := slices_Index_int64_int64.mono_l k
    · intro y0 y1 y2 y3
      unfold slices_Index_int64_int64.l0
      repeat' first
      | (with_reducible exact ih0 _ _ _ _)
      | (with_reducible exact LeO.refl _)
      | (with_reducible exact LeO.none _)
      | (with_reducible refine LeO.ite ?_ ?_)
      | (with_reducible refine LeO.bind ?_ (fun _ => ?_))
      | exact ih0 _ _ _ _
      | exact LeO.none _
      | refine LeO.ite ?_ ?_
      | refine LeO.bind ?_ (fun _ => ?_)
theorem slices_Index_int64_int64.mono : ∀ a0 a1 k, LeO (slices_Index_int64_int64.f k a0 a1) (slices_Index_int64_int64.f (k + 1) a0 a1) := by
  intro a0 a1 k
  have ih0 := slices_Index_int64_int64.mono_l k
  unfold slices_Index_int64_int64.f
  repeat' first
      | (with_reducible exact ih0 _ _ _ _)
      | (with_reducible exact LeO.refl _)
      | (with_reducible exact LeO.none _)
      | (with_reducible refine LeO.ite ?_ ?_)
      | (with_reducible refine LeO.bind ?_ (fun _ => ?_))
      | exact ih0 _ _ _ _
      | exact LeO.none _
      | refine LeO.ite ?_ ?_
      | refine LeO.bind ?_ (fun _ => ?_)
set_option maxHeartbeats 8000000 in
set_option maxRecDepth 100000 in
theorem slices_Index_int64_int64.calls (k : Nat) (A0 : Option Addr) (c0 : Nat) (l0 : List Int) (a1 : Int) (r : Int) (w : World) (hr0 : Kd.C (Kd.int .i64) w A0 l0.length l0) (hc0 : l0.length ≤ c0) (h : slices_Index_int64_int64.f k l0 a1 = some r) :
    Calls Try.prog 68 #[.slice A0 l0.length c0, .int .i64 a1] w fun e w' => e = .returned (.int .i64 r) ∧ Drawn0 w w' := by
  have HR0 := Aside0.mk hr0
  have HC0 := Aside0.mk hc0
  clear hr0 hc0
  have H : (slices_Index_int64_int64.l0 k l0 a1 (l0.length : Int) 0) = some r := h
  clear h
  have H' := Aside0.mk H
  clear H
  go_enter Try.func68, Try.ntmps68
  go_wp2
  go_loopg [8] k (fun kq v8 w' => ∃ (x8_1 : Int), v8 = .int .i64 x8_1 ∧ Aside0 (slices_Index_int64_int64.l0 kq l0 a1 (l0.length : Int) x8_1 = some r) ∧ Aside0 (kq ≤ k) ∧ Drawn0 w w')
  case atStart => exact ⟨(0), (by first | rfl | (simp; done) | (simp [*]; done)), H', ⟨Nat.le_refl _⟩, by repeat (first | exact Drawn0.refl _ | apply Drawn0.step)⟩
  case round =>
    clear H'
    try clear p2
    obtain ⟨x8_1, rfl, HA, HK1, ⟨m1, rfl⟩⟩ := hrel
    cases gk with
    | zero => exact absurd HA.out (by simp [slices_Index_int64_int64.l0])
    | succ k1 =>
      have H := HA.out
      clear HA
      simp only [slices_Index_int64_int64.l0] at H
      by_cases c3 : x8_1 < (l0.length : Int)
      · rw [if_pos c3] at H
        have c3b0 : decide (x8_1 < (l0.length : Int)) = true := decide_eq_true c3
        clear c3
        by_cases c4 : 0 ≤ x8_1
        · rw [if_pos c4] at H
          have c4b0 : decide (0 ≤ x8_1) = true := decide_eq_true c4
          clear c4
          by_cases c5 : x8_1 < (l0.length : Int)
          · rw [if_pos c5] at H
            have c5b0 : decide (x8_1 < (l0.length : Int)) = true := decide_eq_true c5
            clear c5
            by_cases c6 : a1 = (rd l0 x8_1)
            · rw [if_pos c6] at H
              have c6b0 : (a1 == (rd l0 x8_1)) = true := beq_iff_eq.mpr c6
              have c6b1 : (a1 != (rd l0 x8_1)) = false := bne_eq_false_iff_eq.mpr c6
              clear c6
              obtain rfl := Option.some.inj H
              have p191 : 0 ≤ (x8_1 : Int) := od_
              have q191 : x8_1 < (l0.length : Int) := od_
              obtain ⟨ad191, e191, hx191_0⟩ := Kd.at_int HR0.out x8_1 p191 q191
              cases e191
              replace p191 := eq_true p191
              replace q191 := eq_true q191
              go_wp2
              go_ret
              exact ⟨by first | rfl | (simp; done) | (simp [*]; done), by repeat (first | exact Drawn0.refl _ | apply Drawn0.step)⟩
            · rw [if_neg c6] at H
              have c6b0 : (a1 == (rd l0 x8_1)) = false := beq_eq_false_iff_ne.mpr c6
              have c6b1 : (a1 != (rd l0 x8_1)) = true := bne_iff_ne.mpr c6
              have H' := Aside0.mk H
              clear H
              have p191 : 0 ≤ (x8_1 : Int) := od_
              have q191 : x8_1 < (l0.length : Int) := od_
              obtain ⟨ad191, e191, hx191_0⟩ := Kd.at_int HR0.out x8_1 p191 q191
              cases e191
              replace p191 := eq_true p191
              replace q191 := eq_true q191
              go_wp2
              go_roundg k1
              case measure => have := HK1.out; omega
              case rel => exact ⟨(wrap64 (x8_1 + 1)), (by first | rfl | (simp; done) | (simp [*]; done)), H', ⟨by have := HK1.out; omega⟩, by repeat (first | exact Drawn0.refl _ | apply Drawn0.step)⟩
          · rw [if_neg c5] at H
            exact absurd H (by simp)
        · rw [if_neg c4] at H
          exact absurd H (by simp)
      · rw [if_neg c3] at H
        have c3b0 : decide (x8_1 < (l0.length : Int)) = false := decide_eq_false c3
        clear c3
        obtain rfl := Option.some.inj H
        go_wp2
        go_ret
        exact ⟨by first | rfl | (simp; done) | (simp [*]; done), by repeat (first | exact Drawn0.refl _ | apply Drawn0.step)⟩

/-! ### slices_Contains_int64_int64: function 44 -/
def slices_Contains_int64_int64.f (k : Nat) (l0 : List Int) (a1 : Int) : Option (Bool) := (slices_Index_int64_int64.f k l0 a1).bind fun t192 => (some (decide (t192 ≥ 0)))
theorem slices_Contains_int64_int64.mono : ∀ a0 a1 k, LeO (slices_Contains_int64_int64.f k a0 a1) (slices_Contains_int64_int64.f (k + 1) a0 a1) := by
  intro a0 a1 k
  unfold slices_Contains_int64_int64.f
  repeat' first
      | (with_reducible exact slices_Index_int64_int64.mono _ _ _)
      | (with_reducible exact LeO.refl _)
      | (with_reducible exact LeO.none _)
      | (with_reducible refine LeO.ite ?_ ?_)
      | (with_reducible refine LeO.bind ?_ (fun _ => ?_))
      | exact slices_Index_int64_int64.mono _ _ _
      | exact LeO.none _
      | refine LeO.ite ?_ ?_
      | refine LeO.bind ?_ (fun _ => ?_)
set_option maxHeartbeats 8000000 in
set_option maxRecDepth 100000 in
theorem slices_Contains_int64_int64.calls (k : Nat) (A0 : Option Addr) (c0 : Nat) (l0 : List Int) (a1 : Int) (r : Bool) (w : World) (hr0 : Kd.C (Kd.int .i64) w A0 l0.length l0) (hc0 : l0.length ≤ c0) (h : slices_Contains_int64_int64.f k l0 a1 = some r) :
    Calls Try.prog 44 #[.slice A0 l0.length c0, .int .i64 a1] w fun e w' => e = .returned (.bool r) ∧ Drawn0 w w' := by
  have HR0 := Aside0.mk hr0
  have HC0 := Aside0.mk hc0
  clear hr0 hc0
  have H : ((slices_Index_int64_int64.f k l0 a1).bind fun t192 => (some (decide (t192 ≥ 0)))) = some r := h
  clear h
  replace H := Option.bind_eq_some_iff.mp H
  obtain ⟨t192, A30, H⟩ := H
  replace H : (some (decide (t192 ≥ 0))) = some r := H
  have A3 := Aside0.mk A30
  clear A30
  obtain rfl := Option.some.inj H
  go_enter Try.func44, Try.ntmps44
  go_wp2_with (first | ((with_reducible refine gate_callee (f := 68) rfl ?_); refine goesL_ (some 7) rfl rfl Try.func68 (by kernel_rfl) rfl #[.slice A0 l0.length c0, .int .i64 a1] rfl (by (try simp only [List.map_toArray, List.map_cons, List.map_nil]); first | done | rfl | (simp only [List.length_drop, List.length_take]; rfl)) ?_; (with_reducible refine (slices_Index_int64_int64.calls k _ _ l0 a1 t192 _ ?side1 ?side2 A3.out).mono ?_); (case side1 => repeat (first | exact HR0.out | (with_reducible refine Kd.C_alloc ?_ _) | (with_reducible refine Kd.C_drewN ?_ _) | (with_reducible refine Kd.C_drew ?_))); (case side2 => exact HC0.out); rintro e w' ⟨rfl, ⟨nd, rfl⟩⟩; refine ⟨_, rfl, ?_⟩))
  go_ret
  exact ⟨by first | rfl | (simp; done) | (simp [*]; done), by repeat (first | exact Drawn0.refl _ | apply Drawn0.step)⟩

end Go.Proofs.Ytcjkklkmlooinaa.Print
