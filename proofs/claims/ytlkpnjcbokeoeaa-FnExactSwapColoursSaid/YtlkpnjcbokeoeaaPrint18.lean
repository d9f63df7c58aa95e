-- Printed by a program of this session out of the translation; not trusted: Lean checks it.
import Derived.Test.YtlkpnjcbokeoeaaPrint0
namespace Go.Proofs.Ytlkpnjcbokeoeaa.Print
open Go.RowKit Go.Proofs.YtlkpnjcbokeoeaaW.PrintWords Go.Proofs.YtlkpnjcbokeoeaaW.PrintLast Go.Proofs.YtlkpnjcbokeoeaaW.PrintMore
attribute [local go_sem] max2_int min2_int max_two min_two max_three min_three max_four min_four   -- for this text's walks alone
set_option linter.unusedVariables false
set_option linter.unusedSimpArgs false

/-! ### impl_firstClash: function 61 -/
def g_okB (l1 : List Int) (b : S55) : Bool := decide ((0 ≤ b.f0 ∧ b.f0 < (l1.length : Int)) ∧ 0 ≤ b.f1 ∧ b.f1 < (l1.length : Int))
def g_ffrom (l1 : List Int) : List S55 → Int → Int
 | [], _ => -1
 | b :: bs, i => if rd l1 b.f0 = rd l1 b.f1 then i else g_ffrom l1 bs (i + 1)
def impl_firstClash.f (l0 : List S55) (l1 : List Int) : Option Int := if l0.all (g_okB l1) = true then some (g_ffrom l1 l0 0) else none
set_option maxHeartbeats 8000000 in
set_option maxRecDepth 100000 in
theorem g_fc1.calls (a b : Int) (pa : Addr) (A1 : Option Addr) (c1 : Nat) (l1 : List Int) (w : World) (hp : w.cell? pa = some (.slice A1 l1.length c1)) (hr1 : Kd.C (Kd.int .i64) w A1 l1.length l1) (ha0 : 0 ≤ a) (ha1 : a < (l1.length : Int)) (hb0 : 0 ≤ b) (hb1 : b < (l1.length : Int)) :
  Calls Try.prog 86 #[.agg #[.int .i64 a, .int .i64 b], .pointer (some pa)] w fun e w' => e = .returned (.bool (rd l1 a == rd l1 b)) ∧ Below w.heap.size w w' := by
 have hu := Try.underlying55
 have HB := Aside0.mk (Below.refl w.heap.size w)
 obtain ⟨ad, e, hx⟩ := Kd.at_int hr1 a ha0 ha1
 cases e
 obtain ⟨ad2, e, hy⟩ := Kd.at_int hr1 b hb0 hb1
 cases e
 have HB1 : Aside0 (Below w.heap.size w (w.alloc (Obj.cells #[Value.int IntKind.i64 a, Value.int IntKind.i64 b] 55))) := ⟨by apply below_alloc; exact HB.out⟩
 have HP0 : Aside0 ((w.alloc (Obj.cells #[Value.int IntKind.i64 a, Value.int IntKind.i64 b] 55)).cell? pa = _) := ⟨(HB1.out.cell (World.block_lt_of_cell? w _ hp)).trans hp⟩
 have HP1 : Aside0 ((w.alloc (Obj.cells #[Value.int IntKind.i64 a, Value.int IntKind.i64 b] 55)).cell? ⟨w.heap.size, 0, none⟩ = _) := ⟨by rw [World.cell?_alloc_at _ _ _ _ rfl]⟩
 have HP2 : Aside0 ((w.alloc (Obj.cells #[Value.int IntKind.i64 a, Value.int IntKind.i64 b] 55)).cell? ⟨w.heap.size, 1, none⟩ = _) := ⟨by rw [World.cell?_alloc_at _ _ _ _ rfl]⟩
 have HP3 : Aside0 ((w.alloc (Obj.cells #[Value.int IntKind.i64 a, Value.int IntKind.i64 b] 55)).cell? _ = _) := ⟨(HB1.out.cell (World.block_lt_of_cell? w _ hx)).trans hx⟩
 have HP4 : Aside0 ((w.alloc (Obj.cells #[Value.int IntKind.i64 a, Value.int IntKind.i64 b] 55)).cell? _ = _) := ⟨(HB1.out.cell (World.block_lt_of_cell? w _ hy)).trans hy⟩
 replace ha0 := eq_true ha0
 replace ha1 := eq_true ha1
 replace hb0 := eq_true hb0
 replace hb1 := eq_true hb1
 go_enter Try.func86, Try.ntmps86
 go_wp2
 refine start_ (n := 12) (S := fun w' => w'.cell? pa = some (.slice (some ad) l1.length c1) ∧ w'.cell? ⟨w.heap.size, 0, none⟩ = some (.int .i64 a) ∧ w'.cell? ⟨w.heap.size, 1, none⟩ = some (.int .i64 b) ∧ w'.cell? (ad.add a.toNat) = some (.int .i64 (rd l1 a)) ∧ w'.cell? (ad.add b.toNat) = some (.int .i64 (rd l1 b))) (ds := []) #[false, false, false, false, false, false, false, false, false, false, false, false] (by kernel_rfl) rfl rfl ⟨HP0.out, HP1.out, HP2.out, HP3.out, HP4.out⟩ (fun hHeld => ?_)
 refine pure_ (i := 1) (N := some 5) (v := ?_) (a' := ?_) #[false, true, false, false, false, false, false, false, false, false, false, false] rfl rfl (by kernel_rfl) (fun _ _ _ h => h) (Or.inl ⟨by rfl, ?_⟩) ?_ ?_
 rotate_left
 · intro w'
   go_simp
   with_reducible rfl
 rotate_left
 · simp only [Act.put, List.setIfInBounds_toArray, List.set_cons_zero, List.set_cons_succ, i64_w, i32_w]
   rfl
 refine pure_ (i := 6) (N := some 10) (v := ?_) (a' := ?_) #[false, true, false, false, false, false, true, false, false, false, false, false] rfl rfl (by kernel_rfl) (fun _ _ _ h => h) (Or.inl ⟨by rfl, ?_⟩) ?_ ?_
 rotate_left
 · intro w'
   go_simp
   with_reducible rfl
 rotate_left
 · simp only [Act.put, List.setIfInBounds_toArray, List.set_cons_zero, List.set_cons_succ, i64_w, i32_w]
   rfl
 refine take_ (i := 0) (N := some 4) (v := ?_) (a' := ?_) #[true, true, false, false, false, false, true, false, false, false, false, false] rfl rfl (by kernel_rfl) (fun _ _ _ h => h) (Or.inl ⟨by rfl, ?_⟩) hHeld ?_ ?_
 rotate_left
 · rintro w' ⟨s0, s1, s2, s3, s4⟩
   go_simp
   with_reducible rfl
 rotate_left
 · simp only [Act.put, List.setIfInBounds_toArray, List.set_cons_zero, List.set_cons_succ, i64_w, i32_w]
   rfl
 refine take_ (i := 2) (N := some 6) (v := ?_) (a' := ?_) #[true, true, true, false, false, false, true, false, false, false, false, false] rfl rfl (by kernel_rfl) (fun _ _ _ h => h) (Or.inl ⟨by rfl, ?_⟩) hHeld ?_ ?_
 rotate_left
 · rintro w' ⟨s0, s1, s2, s3, s4⟩
   go_simp
   with_reducible rfl
 rotate_left
 · simp only [Act.put, List.setIfInBounds_toArray, List.set_cons_zero, List.set_cons_succ, i64_w, i32_w]
   rfl
 refine pure_ (i := 3) (N := some 7) (v := ?_) (a' := ?_) #[true, true, true, true, false, false, true, false, false, false, false, false] rfl rfl (by kernel_rfl) (fun _ _ _ h => h) (Or.inl ⟨by rfl, ?_⟩) ?_ ?_
 rotate_left
 · intro w'
   go_simp
   with_reducible rfl
 rotate_left
 · simp only [Act.put, List.setIfInBounds_toArray, List.set_cons_zero, List.set_cons_succ, i64_w, i32_w]
   rfl
 refine take_ (i := 4) (N := some 8) (v := ?_) (a' := ?_) #[true, true, true, true, true, false, true, false, false, false, false, false] rfl rfl (by kernel_rfl) (fun _ _ _ h => h) (Or.inl ⟨by rfl, ?_⟩) hHeld ?_ ?_
 rotate_left
 · rintro w' ⟨s0, s1, s2, s3, s4⟩
   go_simp
   with_reducible rfl
 rotate_left
 · simp only [Act.put, List.setIfInBounds_toArray, List.set_cons_zero, List.set_cons_succ, i64_w, i32_w]
   rfl
 refine take_ (i := 5) (N := some 9) (v := ?_) (a' := ?_) #[true, true, true, true, true, true, true, false, false, false, false, false] rfl rfl (by kernel_rfl) (fun _ _ _ h => h) (Or.inl ⟨by rfl, ?_⟩) hHeld ?_ ?_
 rotate_left
 · rintro w' ⟨s0, s1, s2, s3, s4⟩
   go_simp
   with_reducible rfl
 rotate_left
 · simp only [Act.put, List.setIfInBounds_toArray, List.set_cons_zero, List.set_cons_succ, i64_w, i32_w]
   rfl
 refine take_ (i := 7) (N := some 11) (v := ?_) (a' := ?_) #[true, true, true, true, true, true, true, true, false, false, false, false] rfl rfl (by kernel_rfl) (fun _ _ _ h => h) (Or.inl ⟨by rfl, ?_⟩) hHeld ?_ ?_
 rotate_left
 · rintro w' ⟨s0, s1, s2, s3, s4⟩
   go_simp
   with_reducible rfl
 rotate_left
 · simp only [Act.put, List.setIfInBounds_toArray, List.set_cons_zero, List.set_cons_succ, i64_w, i32_w]
   rfl
 refine pure_ (i := 8) (N := some 12) (v := ?_) (a' := ?_) #[true, true, true, true, true, true, true, true, true, false, false, false] rfl rfl (by kernel_rfl) (fun _ _ _ h => h) (Or.inl ⟨by rfl, ?_⟩) ?_ ?_
 rotate_left
 · intro w'
   go_simp
   with_reducible rfl
 rotate_left
 · simp only [Act.put, List.setIfInBounds_toArray, List.set_cons_zero, List.set_cons_succ, i64_w, i32_w]
   rfl
 refine take_ (i := 9) (N := some 13) (v := ?_) (a' := ?_) #[true, true, true, true, true, true, true, true, true, true, false, false] rfl rfl (by kernel_rfl) (fun _ _ _ h => h) (Or.inl ⟨by rfl, ?_⟩) hHeld ?_ ?_
 rotate_left
 · rintro w' ⟨s0, s1, s2, s3, s4⟩
   go_simp
   with_reducible rfl
 rotate_left
 · simp only [Act.put, List.setIfInBounds_toArray, List.set_cons_zero, List.set_cons_succ, i64_w, i32_w]
   rfl
 refine pure_ (i := 10) (N := some 14) (v := ?_) (a' := ?_) #[true, true, true, true, true, true, true, true, true, true, true, false] rfl rfl (by kernel_rfl) (fun _ _ _ h => h) (Or.inl ⟨by rfl, ?_⟩) ?_ ?_
 rotate_left
 · intro w'
   go_simp
   with_reducible rfl
 rotate_left
 · simp only [Act.put, List.setIfInBounds_toArray, List.set_cons_zero, List.set_cons_succ, i64_w, i32_w]
   rfl
 refine pure_ (i := 11) (N := some 3) (v := ?_) (a' := ?_) #[true, true, true, true, true, true, true, true, true, true, true, true] rfl rfl (by kernel_rfl) (fun _ _ _ h => h) (Or.inl ⟨by rfl, ?_⟩) ?_ ?_
 rotate_left
 · intro w'
   go_simp
   with_reducible rfl
 rotate_left
 · simp only [Act.put, List.setIfInBounds_toArray, List.set_cons_zero, List.set_cons_succ, i64_w, i32_w]
   rfl
 refine done_ (by kernel_rfl) ?_
 try go_wp2
 go_ret
 exact ⟨rfl, by repeat (first | exact HB1.out | apply below_drew1 | apply pw_below_drewN | apply below_alloc)⟩
theorem g_ffrom_step (l1 : List Int) (l0 : List S55) (x : Int) (h0 : 0 ≤ x) (h1 : x < (l0.length : Int)) : g_ffrom l1 (l0.drop x.toNat) x = if rd l1 (rd_T55 l0 x).f0 = rd l1 (rd_T55 l0 x).f1 then x else g_ffrom l1 (l0.drop (x.toNat + 1)) (x + 1) := by
 have h : x.toNat < l0.length := by omega
 have e : rd_T55 l0 x = l0[x.toNat] := by unfold rd_T55; rw [List.getD_eq_getElem?_getD, List.getElem?_eq_getElem h]; rfl
 rw [List.drop_eq_getElem_cons h, e]
 rfl
theorem g_okB_at (l1 : List Int) (l0 : List S55) (ho : l0.all (g_okB l1) = true) (x : Int) (h0 : 0 ≤ x) (h1 : x < (l0.length : Int)) : (0 ≤ (rd_T55 l0 x).f0 ∧ (rd_T55 l0 x).f0 < (l1.length : Int)) ∧ 0 ≤ (rd_T55 l0 x).f1 ∧ (rd_T55 l0 x).f1 < (l1.length : Int) := by
 have h : x.toNat < l0.length := by omega
 have e : rd_T55 l0 x = l0[x.toNat] := by unfold rd_T55; rw [List.getD_eq_getElem?_getD, List.getElem?_eq_getElem h]; rfl
 rw [e]
 exact of_decide_eq_true (List.all_eq_true.1 ho _ (List.getElem_mem h))
theorem g_w64 (x : Int) (n : Nat) (h0 : 0 ≤ x) (h1 : x < (n : Int)) (hn : n ≤ 9223372036854775807) : wrap64 (x + 1) = x + 1 := by unfold wrap64; omega
set_option maxHeartbeats 8000000 in
set_option maxRecDepth 100000 in
theorem g_fcIdx.calls (A0 : Option Addr) (c0 : Nat) (l0 : List S55) (pa : Addr) (A1 : Option Addr) (c1 : Nat) (l1 : List Int) (w : World) (hr0 : Kd.C k55 w A0 l0.length l0) (hc0 : l0.length ≤ c0) (hp : Aside0 (w.cell? pa = some (.slice A1 l1.length c1))) (hr1 : Kd.C (Kd.int .i64) w A1 l1.length l1) (ho : l0.all (g_okB l1) = true) :
  Calls Try.prog 85 #[.slice A0 l0.length c0, .func (.func 86) #[] #[.pointer (some pa)]] w fun e w' => e = .returned (.int .i64 (g_ffrom l1 l0 0)) ∧ Below w.heap.size w w' := by
 have hu55 := Try.underlying55
 have HR0 := Aside0.mk hr0
 have HR1 := Aside0.mk hr1
 have HC0 := Aside0.mk hc0
 have HL := Aside0.mk hr0.2.1
 have HA := Aside0.mk ho
 clear hr0 hc0 hr1 ho
 have HB := Aside0.mk (Below.refl w.heap.size w)
 go_enter Try.func85, Try.ntmps85
 go_wp2
 go_loopg [8] l0.length (fun d v8 w' => ∃ (x : Int), v8 = .int .i64 x ∧ Aside0 (0 ≤ x ∧ x + (d : Int) = (l0.length : Int)) ∧ Aside0 (g_ffrom l1 (l0.drop x.toNat) x = g_ffrom l1 l0 0) ∧ Aside0 (Below w.heap.size w w'))
 case atStart => exact ⟨0, rfl, ⟨by omega⟩, ⟨rfl⟩, ⟨by repeat (first | exact HB.out | apply below_alloc | apply pw_below_drewN | apply below_drew1)⟩⟩
 case round =>
  clear HB
  obtain ⟨x, rfl, HI, HF, HB⟩ := hrel
  by_cases c3 : x < (l0.length : Int)
  ·have p0 : 0 ≤ x := HI.out.1
   have HO := Aside0.mk (g_okB_at l1 l0 HA.out x p0 c3)
   have hst := Aside0.mk ((g_ffrom_step l1 l0 x p0 c3).symm.trans HF.out)
   have hw := Aside0.mk (g_w64 x l0.length p0 c3 HL.out)
   obtain ⟨ad121, e121, hx121_0, hx121_1⟩ := at_T55 HR0.out x p0 c3
   cases e121
   replace hx121_0 := (HB.out.cell (World.block_lt_of_cell? w _ hx121_0)).trans hx121_0
   replace hx121_1 := (HB.out.cell (World.block_lt_of_cell? w _ hx121_1)).trans hx121_1
   have c3b0 : decide (x < (l0.length : Int)) = true := decide_eq_true c3
   replace p0 := eq_true p0
   replace c3 := eq_true c3
   cases gk with
   | zero => exact absurd HI.out.2 (by have := of_eq_true c3; omega)
   | succ k1 =>
   by_cases c7 : rd l1 (rd_T55 l0 x).f0 = rd l1 (rd_T55 l0 x).f1
   ·have hr := hst.out
    rw [if_pos c7] at hr
    have hr' := Aside0.mk hr
    have c7b0 : (rd l1 (rd_T55 l0 x).f0 == rd l1 (rd_T55 l0 x).f1) = true := beq_iff_eq.mpr c7
    clear c7 hr
    go_wp2_with (first | (go_at_call 86; (with_reducible refine (g_fc1.calls ((rd_T55 l0 x).f0) ((rd_T55 l0 x).f1) pa A1 c1 l1 _ ((HB.out.cell (World.block_lt_of_cell? w _ hp.out)).trans hp.out) (Kd.C_below HR1.out HB.out) HO.out.1.1 HO.out.1.2 HO.out.2.1 HO.out.2.2).mono ?_); rintro e w8 ⟨rfl, hb⟩; have n0_ := Aside0.mk (below_step (by repeat (first | (with_reducible first | exact HB.out | apply below_alloc | apply pw_below_drewN | apply below_drew1) | exact HB.out)) hb); clear HB; have HB := n0_; clear n0_; (try clear hb)))
    go_ret
    exact ⟨by rw [← hr'.out]; rfl, (by repeat (first | (with_reducible first | exact HB.out | apply below_alloc | apply pw_below_drewN | apply below_drew1) | exact HB.out))⟩
   ·have hr := hst.out
    rw [if_neg c7] at hr
    have hr' := Aside0.mk hr
    have c7b0 : (rd l1 (rd_T55 l0 x).f0 == rd l1 (rd_T55 l0 x).f1) = false := beq_eq_false_iff_ne.mpr c7
    clear c7 hr
    go_wp2_with (first | (go_at_call 86; (with_reducible refine (g_fc1.calls ((rd_T55 l0 x).f0) ((rd_T55 l0 x).f1) pa A1 c1 l1 _ ((HB.out.cell (World.block_lt_of_cell? w _ hp.out)).trans hp.out) (Kd.C_below HR1.out HB.out) HO.out.1.1 HO.out.1.2 HO.out.2.1 HO.out.2.2).mono ?_); rintro e w8 ⟨rfl, hb⟩; have n0_ := Aside0.mk (below_step (by repeat (first | (with_reducible first | exact HB.out | apply below_alloc | apply pw_below_drewN | apply below_drew1) | exact HB.out)) hb); clear HB; have HB := n0_; clear n0_; (try clear hb)))
    go_roundg k1
    case measure => have := HI.out; omega
    case rel => exact ⟨x + 1, by rw [hw.out], ⟨by have := HI.out; omega⟩, ⟨by rw [show (x + 1).toNat = x.toNat + 1 by have := HI.out; omega]; exact hr'.out⟩, ⟨(by repeat (first | (with_reducible first | exact HB.out | apply below_alloc | apply pw_below_drewN | apply below_drew1) | exact HB.out))⟩⟩
  ·have c3b0 : decide (x < (l0.length : Int)) = false := decide_eq_false c3
   have hr' := Aside0.mk (show g_ffrom l1 l0 0 = -1 by rw [← HF.out, List.drop_eq_nil_of_le (by have := HI.out; omega)]; rfl)
   clear c3
   go_wp2
   go_ret
   exact ⟨by rw [hr'.out]; rfl, (by repeat (first | (with_reducible first | exact HB.out | apply below_alloc | apply pw_below_drewN | apply below_drew1) | exact HB.out))⟩
set_option maxHeartbeats 8000000 in
set_option maxRecDepth 100000 in
theorem impl_firstClash.calls (A0 : Option Addr) (c0 : Nat) (l0 : List S55) (A1 : Option Addr) (c1 : Nat) (l1 : List Int) (r : Int) (w : World) (hr0 : Kd.C k55 w A0 l0.length l0) (hc0 : l0.length ≤ c0) (hr1 : Kd.C (Kd.int .i64) w A1 l1.length l1) (hc1 : l1.length ≤ c1) (h : impl_firstClash.f l0 l1 = some r) :
  Calls Try.prog 61 #[.slice A0 l0.length c0, .slice A1 l1.length c1] w fun e w' => e = .returned (.int .i64 r) ∧ Below w.heap.size w w' := by
 have HR0 := Aside0.mk hr0
 have HR1 := Aside0.mk hr1
 have HC0 := Aside0.mk hc0
 have HC1 := Aside0.mk hc1
 clear hr0 hc0 hr1 hc1
 unfold impl_firstClash.f at h
 by_cases ho : l0.all (g_okB l1) = true
 ·rw [if_pos ho] at h
  obtain rfl := Option.some.inj h
  clear h
  have HA := Aside0.mk ho
  clear ho
  have HB := Aside0.mk (Below.refl w.heap.size w)
  have HB1 : Aside0 (Below w.heap.size w (w.alloc (Obj.cells #[Value.slice A1 l1.length c1] 33))) := ⟨by apply below_alloc; exact HB.out⟩
  have HP0 : Aside0 ((w.alloc (Obj.cells #[Value.slice A1 l1.length c1] 33)).cell? ⟨w.heap.size, 0, none⟩ = some (.slice A1 l1.length c1)) := ⟨by rw [World.cell?_alloc_at _ _ _ _ rfl]; rfl⟩
  go_enter Try.func61, Try.ntmps61
  go_wp2_with (first | (go_at_call 85; (with_reducible refine (g_fcIdx.calls A0 c0 l0 ⟨w.heap.size, 0, none⟩ A1 c1 l1 _ (Kd.C_below HR0.out HB1.out) HC0.out HP0 (Kd.C_below HR1.out HB1.out) HA.out).mono ?_); rintro e w8 ⟨rfl, hb⟩; have n0_ := Aside0.mk (below_step HB1.out hb); clear HB; have HB := n0_; clear n0_))
  go_ret
  exact ⟨rfl, (by repeat (first | (with_reducible first | exact HB.out | apply below_alloc | apply pw_below_drewN | apply below_drew1) | exact HB.out))⟩
 ·rw [if_neg ho] at h
  cases h

end Go.Proofs.Ytlkpnjcbokeoeaa.Print
