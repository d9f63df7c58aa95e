-- Printed by a program of this session out of the translation; not trusted: Lean checks it.
-- SQUEEZED
import Derived.Test.YtmedijjjhabpbaaPrint0
import Derived.Test.YtmedijjjhabpbaaPrint2
import Derived.Test.YtmedijjjhabpbaaPrint4
namespace Go.Proofs.Ytmedijjjhabpbaa.Print
open Go.RowKit Go.Proofs.YtmedijjjhabpbaaW.PrintWords Go.Proofs.YtmedijjjhabpbaaW.PrintLast Go.Proofs.YtmedijjjhabpbaaW.PrintMore
attribute [local go_sem] max2_int min2_int max_two min_two max_three min_three max_four min_four   -- for this text's walks alone
set_option linter.unusedVariables false
set_option linter.unusedSimpArgs false

/-! ### spec_l10Next: function 22 -/
def g_row (xs : List (List S49)) (i : Int) : List S49 := xs.getD i.toNat []
def g_short (xs : List (List S49)) : Bool := xs.all fun x => decide (x.length < 8796093022208)
def g_bld (xs : List (List S49)) (i c : Int) (x : List S49) : Nat → List (List S49)
 | 0 => []
 | j + 1 => if (j : Int) = i then g_bld xs i c x j ++ [x] else if (j : Int) = c then g_bld xs i c x j else g_bld xs i c x j ++ [g_row xs (j : Int)]
mutual
def spec_l10Next.l0 : Nat → List (List S49) → Int → Option (List (List S49) × Bool)
 | 0, _, _ => none
 | k + 1, xs, i => if i < (xs.length : Int) then spec_l10Next.l1 k xs i (wrap64 (i + 1)) else some ([], false)
def spec_l10Next.l1 : Nat → List (List S49) → Int → Int → Option (List (List S49) × Bool)
 | 0, _, _, _ => none
 | k + 1, xs, i, c => if c < (xs.length : Int) then (if (0 ≤ i ∧ i < c) ∧ (xs.length < 1000 ∧ g_short xs = true) then ((spec_l10Closed.f (g_row xs i)).bind fun t1 => (if t1 = true then spec_l10Next.l1 k xs i (wrap64 (c + 1)) else ((spec_l10Closed.f (g_row xs c)).bind fun t2 => (if t2 = true then spec_l10Next.l1 k xs i (wrap64 (c + 1)) else ((spec_l10Join.f k (g_row xs i) (g_row xs c)).bind fun j => (if j.2 = true then ((spec_l07Ok.f k j.1).bind fun t3 => (if t3 = true then some (g_bld xs i c j.1 xs.length, true) else spec_l10Next.l1 k xs i (wrap64 (c + 1)))) else spec_l10Next.l1 k xs i (wrap64 (c + 1)))))))) else none) else spec_l10Next.l0 k xs (wrap64 (i + 1))
end
def spec_l10Next.f (k : Nat) (xs : List (List S49)) : Option (List (List S49) × Bool) := spec_l10Next.l0 k xs 0
theorem spec_l10Next.mono_l : ∀ k, (∀ y0 y1, LeO (spec_l10Next.l0 k y0 y1) (spec_l10Next.l0 (k + 1) y0 y1)) ∧ (∀ y0 y1 y2, LeO (spec_l10Next.l1 k y0 y1 y2) (spec_l10Next.l1 (k + 1) y0 y1 y2))
 | 0 => ⟨fun _ _ r h => by simp [spec_l10Next.l0] at h, fun _ _ _ r h => by simp [spec_l10Next.l1] at h⟩
 | k + 1 => by
  obtain ⟨ih0, ih1⟩ := spec_l10Next.mono_l k
  refine ⟨?_, ?_⟩
  · intro y0 y1
    unfold spec_l10Next.l0
    repeat' first
    | exact ih1 _ _ _
    | exact LeO.refl _
    | exact LeO.none _
    | refine LeO.ite ?_ ?_
  · intro y0 y1 y2
    unfold spec_l10Next.l1
    repeat' first
    | exact ih0 _ _
    | exact ih1 _ _ _
    | exact spec_l10Join.mono _ _ _
    | exact spec_l07Ok.mono _ _
    | exact LeO.refl _
    | exact LeO.none _
    | refine LeO.ite ?_ ?_
    | refine LeO.bind ?_ (fun _ => ?_)
theorem spec_l10Next.mono : ∀ a0 k, LeO (spec_l10Next.f k a0) (spec_l10Next.f (k + 1) a0) := fun a0 k => (spec_l10Next.mono_l k).1 a0 0
set_option maxHeartbeats 8000000 in
theorem g_atL {w : World} {A : Option Addr} {n : Nat} {xs : List (List S49)} (h : Kd.C (Kd.slice 49 k49) w A n xs) (i : Int) (h0 : 0 ≤ i) (h1 : i < n) : ∃ ad A2 c2, A = some ad ∧ w.cell? (ad.add i.toNat) = some (.slice A2 (g_row xs i).length c2) ∧ (g_row xs i).length ≤ c2 ∧ Kd.C k49 w A2 (g_row xs i).length (g_row xs i) := by
 obtain ⟨ad, c, e, _, hK, hc0⟩ := Kd.C_get h ([] : List S49) i h0 h1
 obtain ⟨A2, c2, rfl, hl, hC⟩ := hK
 have hc : ∀ j u, [Value.slice A2 (g_row xs i).length c2][j]? = some u → w.cell? (ad.add (i.toNat * 1 + j)) = some u := hc0
 exact ⟨ad, A2, c2, e, by have := hc 0 _ rfl; rwa [Nat.mul_one, Nat.add_zero] at this, hl, hC⟩
theorem g_one {c : List Value} (h : c.length = 1) : ∃ a, c = [a] := by
 cases c with
 | nil => cases h
 | cons a l =>
  cases l with
  | nil => exact ⟨a, rfl⟩
  | cons b l => simp at h
theorem g_nat_eq (c : Int) (h : 0 ≤ c) : ((c.toNat : Nat) : Int) = c := by omega
theorem g_nat_lt (c : Int) (n : Nat) (h0 : 0 ≤ c) (h1 : c < (n : Int)) : c.toNat < n := by omega
theorem g_nat_succ (c : Int) (n : Nat) (h0 : 0 ≤ c) (h1 : c < (n : Int)) (hn : n ≤ 9223372036854775807) : ((c.toNat + 1 : Nat) : Int) = wrap64 (c + 1) := by unfold wrap64; omega
theorem g_at0 (g j : Nat) : (⟨g, 0, none⟩ : Addr).add j = ⟨g, j, none⟩ := by
 simp [Addr.add]
 intro h
 exact h.symm
theorem g_short_at {xs : List (List S49)} (h : g_short xs = true) (i : Int) (h0 : 0 ≤ i) (h1 : i < (xs.length : Int)) : (g_row xs i).length < 8796093022208 := by
 have hi : i.toNat < xs.length := by omega
 have e : g_row xs i = xs[i.toNat] := by unfold g_row; rw [List.getD_eq_getElem?_getD, List.getElem?_eq_getElem hi]; rfl
 rw [e]
 exact of_decide_eq_true (List.all_eq_true.1 h _ (List.getElem_mem hi))
theorem g_take_row (xs : List (List S49)) (i : Int) (h0 : 0 ≤ i) (h1 : i < (xs.length : Int)) : xs.take (i.toNat + 1) = xs.take i.toNat ++ [g_row xs i] := by
 have hi : i.toNat < xs.length := by omega
 have e : g_row xs i = xs[i.toNat] := by unfold g_row; rw [List.getD_eq_getElem?_getD, List.getElem?_eq_getElem hi]; rfl
 rw [e, List.take_succ_eq_append_getElem hi]
theorem g_next (x : Int) (n d : Nat) (h0 : 0 ≤ x) (h1 : x < (n : Int)) (hn : n < 1000) (h : x + ((d + 1 : Nat) : Int) = (n : Int)) : (0 ≤ wrap64 (x + 1) ∧ wrap64 (x + 1) + (d : Int) = (n : Int)) ∧ (wrap64 (x + 1)).toNat = x.toNat + 1 := by unfold wrap64; omega
theorem g_S_new (W : World) (base : Nat) (hb : base ≤ W.heap.size) : Kd.S (Kd.slice 49 k49) 34 (W.alloc (.cells #[] 34)) base (fun _ => True) (.slice (some ⟨W.heap.size, 0, none⟩) 0 0) [] :=
 ⟨fun _ => 0, fun _ _ => trivial, [], ⟨by simp, .inr ⟨W.heap.size, 0, #[], rfl, hb, blk_new W _, by simp, by simp [maxLen], by simp, by simp⟩⟩, Reps.none _ _⟩
/-- Rows of rows of the call's own, and a row that was made behind them: they are apart. -/
theorem g_S_fresh {W W2 : World} {base : Nat} {v vx : Value} {ok : Nat → Prop} {x : List S49} {xs : List (List S49)} (h : Kd.S (Kd.slice 49 k49) 34 W base ok v xs) (hr : Kd.R k49 49 W2 W.heap.size (fun _ => True) vx x) (hb : Below W.heap.size W W2) :
  Kd.S (Kd.slice 49 k49) 34 W2 base (fun k => ok k ∧ ¬ (some k = vx.ownBlock)) v xs ∧ ∀ k, some k = vx.ownBlock → some k ≠ v.ownBlock := by
 refine ⟨Kd.S_mono (Kd.S_old h hb) (fun k hk => ⟨hk.1, fun e => ?_⟩), fun k hk e => ?_⟩
 · have h1 := Kd.R_base hr k e.symm
   have h2 := hk.2
   omega
 · have h1 := Kd.R_base hr k hk.symm
   have h2 := Kd.R_lt (Kd.S_R h) k e.symm
   omega
theorem g_S_ok {W : World} {base : Nat} {ok : Nat → Prop} (hb : base ≤ W.heap.size) (hok : ok W.heap.size) : Kd.S (Kd.slice 49 k49) 34 (W.alloc (.cells #[] 34)) base ok (.slice (some ⟨W.heap.size, 0, none⟩) 0 0) [] :=
 ⟨fun _ => 0, fun k hk => by simp [Value.ownBlock] at hk; subst hk; exact hok, [], ⟨by simp, .inr ⟨W.heap.size, 0, #[], rfl, hb, blk_new W _, by simp, by simp [maxLen], by simp, by simp⟩⟩, Reps.none _ _⟩
theorem g_R_new (W : World) (base : Nat) (hb : base ≤ W.heap.size) : Kd.R k49 49 (W.alloc (.cells #[] 49)) base (fun _ => True) (.slice (some ⟨W.heap.size, 0, none⟩) 0 0) [] :=
 ⟨fun _ _ => trivial, [], ⟨by simp, .inr ⟨W.heap.size, 0, #[], rfl, hb, blk_new W _, by simp, by simp [maxLen], by simp, by simp⟩⟩, Reps.none _ _⟩
/-- The new list, and the joined row as long as it is not in it. -/
structure g_NX (w W : World) (vx vo : Value) (x : List S49) (ys : List (List S49)) (p : Prop) : Prop where
 s : Kd.S (Kd.slice 49 k49) 34 W w.heap.size (fun k => p → some k ≠ vx.ownBlock) vo ys
 x : Kd.R k49 49 W w.heap.size (fun k => some k = vx.ownBlock) vx x
 b : Below w.heap.size w W
theorem g_NX.imp {w W : World} {vx vo : Value} {x : List S49} {ys : List (List S49)} {p p2 : Prop} (h : g_NX w W vx vo x ys p) (hp : p2 → p) : g_NX w W vx vo x ys p2 :=
 ⟨Kd.S_mono h.s (fun _ hk q => hk (hp q)), h.x, h.b⟩
theorem g_NX.out_ne {w W : World} {vx vo : Value} {x : List S49} {ys : List (List S49)} {p : Prop} (h : g_NX w W vx vo x ys p) (hp : p) (k : Nat) (hk : some k = vx.ownBlock) : some k ≠ vo.ownBlock := fun e => by
 obtain ⟨f, hok, _⟩ := h.s
 exact hok k e.symm hp hk
theorem g_ty_ne {w W : World} {vx vo : Value} {x : List S49} {ys : List (List S49)} {p : Prop} (h : g_NX w W vx vo x ys p) (k : Nat) (hk : some k = vx.ownBlock) : some k ≠ vo.ownBlock := fun e => by
 obtain ⟨c1, h1⟩ := Kd.R_typed h.x k hk.symm
 obtain ⟨c2, h2⟩ := Kd.R_typed (Kd.S_R h.s) k e.symm
 rw [h1] at h2
 injection h2 with h2
 injection h2 with _ h2
 exact absurd h2 (by decide)
theorem g_NX.app {w W W2 : World} {vx vo vo2 : Value} {x : List S49} {ys ys2 : List (List S49)} {p p2 : Prop} (h : g_NX w W vx vo x ys p) (hs : Kd.S (Kd.slice 49 k49) 34 W2 w.heap.size (fun k => p2 → some k ≠ vx.ownBlock) vo2 ys2) (hg : W.grownBy W2 vo.ownBlock) (hb : Below w.heap.size w W2) : g_NX w W2 vx vo2 x ys2 p2 :=
 ⟨hs, Kd.R_step h.x (fun k hk hlt => hg.block k hlt (g_ty_ne h k hk)), hb⟩
theorem g_NX.below_ {w W W2 : World} {vx vo : Value} {x : List S49} {ys : List (List S49)} {p : Prop} (h : g_NX w W vx vo x ys p) (hb : Below W.heap.size W W2) : g_NX w W2 vx vo x ys p := ⟨Kd.S_below h.s hb, Kd.R_below h.x hb, below_step h.b hb⟩
theorem g_nat1 (j : Int) (n d : Nat) (h0 : 0 ≤ j) (h1 : j < (n : Int)) (hn : n < 1000) (h : j + ((d + 1 : Nat) : Int) = (n : Int)) : (0 ≤ wrap64 (j + 1) ∧ wrap64 (j + 1) + (d : Int) = (n : Int)) ∧ (wrap64 (j + 1)).toNat = j.toNat + 1 ∧ wrap64 (j + 1) = j + 1 := by unfold wrap64; omega
theorem g_bld_len (xs : List (List S49)) (i c : Int) (x : List S49) : ∀ j, (g_bld xs i c x j).length ≤ j
 | 0 => Nat.le_refl _
 | j + 1 => by
  have h := g_bld_len xs i c x j
  unfold g_bld
  split
  · rw [List.length_append, List.length_singleton]; omega
  · split
    · omega
    · rw [List.length_append, List.length_singleton]; omega
theorem g_bld_step (xs : List (List S49)) (i c : Int) (x : List S49) (j : Int) (h : 0 ≤ j) : g_bld xs i c x (j.toNat + 1) = (if j = i then g_bld xs i c x j.toNat ++ [x] else if j = c then g_bld xs i c x j.toNat else g_bld xs i c x j.toNat ++ [g_row xs j]) := by
 have e : ((j.toNat : Nat) : Int) = j := g_nat_eq j h
 show (if ((j.toNat : Nat) : Int) = i then _ else if ((j.toNat : Nat) : Int) = c then _ else _ ++ [g_row xs ((j.toNat : Nat) : Int)]) = _
 rw [e]
theorem g_room (n j m : Nat) (h : n ≤ j) (hj : j < m) (hm : m < 1000) : (n + 1) * 24 ≤ 140737488355328 := by omega
theorem g_room2 (m : Nat) (h : m < 8796093022208) : (([] : List S49).length + m) * 16 ≤ 140737488355328 := by simp; omega
theorem g_past (j i z : Int) (h : z = j + 1) (e : j = i) : ¬ z ≤ i := by omega
theorem g_back1 (j i z : Int) (h : z = j + 1) (e : z ≤ i) : j ≤ i := by omega
theorem g_end (j : Int) (n d : Nat) (h0 : 0 ≤ j) (h1 : ¬ j < (n : Int)) (h : j + (d : Int) = (n : Int)) : j.toNat = n := by omega
set_option maxHeartbeats 8000000 in
set_option maxRecDepth 100000 in
theorem spec_l10Next.calls (k : Nat) (A0 : Option Addr) (c0 : Nat) (l0 : List (List S49)) (r1 : List (List S49)) (r2 : Bool) (w : World) (hr0 : Kd.C (Kd.slice 49 k49) w A0 l0.length l0) (hc0 : l0.length ≤ c0) (h : spec_l10Next.f k l0 = some (r1, r2)) :
  Calls Try.prog 22 #[.slice A0 l0.length c0] w fun e w' => ∃ v0_ : Value, e = .returned (.tuple #[v0_, .bool r2]) ∧ Kd.S (Kd.slice 49 k49) 34 w' w.heap.size (fun _ => True) v0_ r1 ∧ Below w.heap.size w w' := by
 have HR0 := Aside0.mk hr0
 have HC0 := Aside0.mk hc0
 have H' := Aside0.mk (show spec_l10Next.l0 k l0 0 = some (r1, r2) from h)
 have HB := Aside0.mk (Below.refl w.heap.size w)
 clear hr0 hc0 h
 go_enter Try.func22, Try.ntmps22
 go_wp2
 go_loopg [4] k (fun kq v4 w' => ∃ (i : Int), v4 = .int .i64 i ∧ Aside0 (spec_l10Next.l0 kq l0 i = some (r1, r2)) ∧ Aside0 (kq ≤ k) ∧ Aside0 (Below w.heap.size w w'))
 case atStart => exact ⟨0, by first | rfl | (simp; done), H', ⟨Nat.le_refl _⟩, HB⟩
 case round =>
  clear H' HB
  obtain ⟨i, rfl, HA, HK1, HB⟩ := hrel
  cases gk with
  | zero => exact absurd HA.out (by simp [spec_l10Next.l0])
  | succ k1 =>
   have H := HA.out
   clear HA
   simp only [spec_l10Next.l0] at H
   by_cases c1 : i < (l0.length : Int)
   · rw [if_pos c1] at H
     have c1b : decide (i < (l0.length : Int)) = true := decide_eq_true c1
     have H' := Aside0.mk H
     clear H c1
     go_wp2
     go_loopg [5] k1 (fun kq v5 w' => ∃ (c : Int), v5 = .int .i64 c ∧ Aside0 (spec_l10Next.l1 kq l0 i c = some (r1, r2)) ∧ Aside0 (kq ≤ k1) ∧ Aside0 (Below w.heap.size w w'))
     case atStart => exact ⟨_, by first | rfl | (simp; done), H', ⟨Nat.le_refl _⟩, HB⟩
     case round =>
      clear H' HB c1b
      obtain ⟨c, rfl, HA, HK2, HB⟩ := hrel
      cases gk with
      | zero => exact absurd HA.out (by simp [spec_l10Next.l1])
      | succ k2 =>
       have H := HA.out
       clear HA
       simp only [spec_l10Next.l1] at H
       by_cases c2 : c < (l0.length : Int)
       · rw [if_pos c2] at H
         have c2b : decide (c < (l0.length : Int)) = true := decide_eq_true c2
         by_cases c3 : (0 ≤ i ∧ i < c) ∧ (l0.length < 1000 ∧ g_short l0 = true)
         · rw [if_pos c3] at H
           obtain ⟨⟨i0, ic⟩, hn, hsh⟩ := c3
           have i1 : i < (l0.length : Int) := Int.lt_trans ic c2
           have q0 : 0 ≤ c := Int.le_trans i0 (Int.le_of_lt ic)
           obtain ⟨adl, A1, cc1, ea1, hi, li, Ci⟩ := g_atL HR0.out i i0 i1
           cases ea1
           obtain ⟨ad2, A2, cc2, ea2, hc, lc, Cc⟩ := g_atL HR0.out c q0 c2
           cases ea2
           have hi' := (HB.out.cell (World.block_lt_of_cell? w _ hi)).trans hi
           have hc' := (HB.out.cell (World.block_lt_of_cell? w _ hc)).trans hc
           have HI := Aside0.mk hi'
           have HC := Aside0.mk hc'
           have LI := Aside0.mk li
           have LC := Aside0.mk lc
           have CI := Aside0.mk (Kd.C_below Ci HB.out)
           have CC := Aside0.mk (Kd.C_below Cc HB.out)
           have IC := Aside0.mk ic
           have HN := Aside0.mk hn
           have HSH := Aside0.mk hsh
           have I0 := Aside0.mk i0
           have i0t := eq_true i0
           have i1t := eq_true i1
           have q0t := eq_true q0
           have c2t := eq_true c2
           clear hi hc li lc Ci Cc i0 i1 q0 c2 ic hn hsh
           obtain ⟨t1, ht1, H⟩ := Option.bind_eq_some_iff.mp H
           have T1 := Aside0.mk ht1
           clear ht1
           cases t1 with
           | true =>
            rw [if_pos rfl] at H
            have H' := Aside0.mk H
            clear H
            go_wp2_with (first | (go_at_call 38; (with_reducible refine (spec_l10Closed.calls A1 cc1 (g_row l0 i) true _ ?side1 ?side2 T1.out).mono ?_); (case side1 => repeat (first | exact CI.out | (with_reducible refine Kd.C_drewN ?_ _) | (with_reducible refine Kd.C_drew ?_))); (case side2 => exact LI.out); rintro e w4 ⟨rfl, ⟨⟨n1, rfl⟩⟩⟩))
            go_roundg k2
            case measure => have := HK1.out; have := HK2.out; omega
            case rel => exact ⟨wrap64 (c + 1), by first | rfl | (simp; done), H', ⟨by have := HK2.out; omega⟩, ⟨(by repeat (first | exact HB.out | apply pw_below_drewN | apply below_drew1))⟩⟩
           | false =>
            rw [if_neg (by decide)] at H
            obtain ⟨t2, ht2, H⟩ := Option.bind_eq_some_iff.mp H
            have T2 := Aside0.mk ht2
            clear ht2
            cases t2 with
            | true =>
             rw [if_pos rfl] at H
             have H' := Aside0.mk H
             clear H
             go_wp2_with (first | (go_at_call 38; (with_reducible refine (spec_l10Closed.calls A1 cc1 (g_row l0 i) false _ ?side1 ?side2 T1.out).mono ?_); (case side1 => repeat (first | exact CI.out | (with_reducible refine Kd.C_drewN ?_ _) | (with_reducible refine Kd.C_drew ?_))); (case side2 => exact LI.out); rintro e w4 ⟨rfl, ⟨⟨n1, rfl⟩⟩⟩) | (go_at_call 38; (with_reducible refine (spec_l10Closed.calls A2 cc2 (g_row l0 c) true _ ?side1 ?side2 T2.out).mono ?_); (case side1 => repeat (first | exact CC.out | (with_reducible refine Kd.C_drewN ?_ _) | (with_reducible refine Kd.C_drew ?_))); (case side2 => exact LC.out); rintro e w4 ⟨rfl, ⟨⟨n2, rfl⟩⟩⟩))
             go_roundg k2
             case measure => have := HK1.out; have := HK2.out; omega
             case rel => exact ⟨wrap64 (c + 1), by first | rfl | (simp; done), H', ⟨by have := HK2.out; omega⟩, ⟨(by repeat (first | exact HB.out | apply pw_below_drewN | apply below_drew1))⟩⟩
            | false =>
             rw [if_neg (by decide)] at H
             obtain ⟨⟨j1, j2⟩, hj, H⟩ := Option.bind_eq_some_iff.mp H
             have HJ := Aside0.mk hj
             clear hj
             dsimp only at H
             go_wp2_with (first | (go_at_call 38; (with_reducible refine (spec_l10Closed.calls A1 cc1 (g_row l0 i) false _ ?side1 ?side2 T1.out).mono ?_); (case side1 => repeat (first | exact CI.out | (with_reducible refine Kd.C_drewN ?_ _) | (with_reducible refine Kd.C_drew ?_))); (case side2 => exact LI.out); rintro e w4 ⟨rfl, ⟨⟨n1, rfl⟩⟩⟩) | (go_at_call 38; (with_reducible refine (spec_l10Closed.calls A2 cc2 (g_row l0 c) false _ ?side1 ?side2 T2.out).mono ?_); (case side1 => repeat (first | exact CC.out | (with_reducible refine Kd.C_drewN ?_ _) | (with_reducible refine Kd.C_drew ?_))); (case side2 => exact LC.out); rintro e w4 ⟨rfl, ⟨⟨n2, rfl⟩⟩⟩))
             refine start_ (n := 14) (S := fun w' => w'.cell? (adl.add i.toNat) = some (.slice A1 (g_row l0 i).length cc1) ∧ w'.cell? (adl.add c.toNat) = some (.slice A2 (g_row l0 c).length cc2)) (ds := []) #[false, false, false, false, false, false, false, false, false, false, false, false, false, false] (by kernel_rfl) rfl rfl ⟨(show World.cell? (World.drew _) _ = _ from HI.out), (show World.cell? (World.drew _) _ = _ from HC.out)⟩ (fun hHeld => ?_)
             refine pure_ (i := 0) (N := some 37) (v := ?_) (a' := ?_) #[true, false, false, false, false, false, false, false, false, false, false, false, false, false] rfl rfl (by kernel_rfl) (fun _ _ _ h => h) (Or.inl ⟨by rfl, ?_⟩) ?_ ?_
             rotate_left
             · intro w'
               go_simp
               with_reducible rfl
             rotate_left
             · simp only [Act.put, List.setIfInBounds_toArray, List.set_cons_zero, List.set_cons_succ, i64_w, i32_w]
               rfl
             refine pure_ (i := 1) (N := some 38) (v := ?_) (a' := ?_) #[true, true, false, false, false, false, false, false, false, false, false, false, false, false] rfl rfl (by kernel_rfl) (fun _ _ _ h => h) (Or.inl ⟨by rfl, ?_⟩) ?_ ?_
             rotate_left
             · intro w'
               go_simp
               with_reducible rfl
             rotate_left
             · simp only [Act.put, List.setIfInBounds_toArray, List.set_cons_zero, List.set_cons_succ, i64_w, i32_w]
               rfl
             refine pure_ (i := 2) (N := some 39) (v := ?_) (a' := ?_) #[true, true, true, false, false, false, false, false, false, false, false, false, false, false] rfl rfl (by kernel_rfl) (fun _ _ _ h => h) (Or.inl ⟨by rfl, ?_⟩) ?_ ?_
             rotate_left
             · intro w'
               go_simp
               with_reducible rfl
             rotate_left
             · simp only [Act.put, List.setIfInBounds_toArray, List.set_cons_zero, List.set_cons_succ, i64_w, i32_w]
               rfl
             refine pure_ (i := 4) (N := some 41) (v := ?_) (a' := ?_) #[true, true, true, false, true, false, false, false, false, false, false, false, false, false] rfl rfl (by kernel_rfl) (fun _ _ _ h => h) (Or.inl ⟨by rfl, ?_⟩) ?_ ?_
             rotate_left
             · intro w'
               go_simp
               with_reducible rfl
             rotate_left
             · simp only [Act.put, List.setIfInBounds_toArray, List.set_cons_zero, List.set_cons_succ, i64_w, i32_w]
               rfl
             refine pure_ (i := 5) (N := some 42) (v := ?_) (a' := ?_) #[true, true, true, false, true, true, false, false, false, false, false, false, false, false] rfl rfl (by kernel_rfl) (fun _ _ _ h => h) (Or.inl ⟨by rfl, ?_⟩) ?_ ?_
             rotate_left
             · intro w'
               go_simp
               with_reducible rfl
             rotate_left
             · simp only [Act.put, List.setIfInBounds_toArray, List.set_cons_zero, List.set_cons_succ, i64_w, i32_w]
               rfl
             refine pure_ (i := 6) (N := some 43) (v := ?_) (a' := ?_) #[true, true, true, false, true, true, true, false, false, false, false, false, false, false] rfl rfl (by kernel_rfl) (fun _ _ _ h => h) (Or.inl ⟨by rfl, ?_⟩) ?_ ?_
             rotate_left
             · intro w'
               go_simp
               with_reducible rfl
             rotate_left
             · simp only [Act.put, List.setIfInBounds_toArray, List.set_cons_zero, List.set_cons_succ, i64_w, i32_w]
               rfl
             refine take_ (i := 3) (N := some 40) (v := ?_) (a' := ?_) #[true, true, true, true, true, true, true, false, false, false, false, false, false, false] rfl rfl (by kernel_rfl) (fun _ _ _ h => h) (Or.inl ⟨by rfl, ?_⟩) hHeld ?_ ?_
             rotate_left
             · rintro w' ⟨s0, s1⟩
               go_simp
               with_reducible rfl
             rotate_left
             · simp only [Act.put, List.setIfInBounds_toArray, List.set_cons_zero, List.set_cons_succ, i64_w, i32_w]
               rfl
             refine take_ (i := 7) (N := some 44) (v := ?_) (a' := ?_) #[true, true, true, true, true, true, true, true, false, false, false, false, false, false] rfl rfl (by kernel_rfl) (fun _ _ _ h => h) (Or.inl ⟨by rfl, ?_⟩) hHeld ?_ ?_
             rotate_left
             · rintro w' ⟨s0, s1⟩
               go_simp
               with_reducible rfl
             rotate_left
             · simp only [Act.put, List.setIfInBounds_toArray, List.set_cons_zero, List.set_cons_succ, i64_w, i32_w]
               rfl
             refine one_ (i := 8) (N := some 45) #[true, true, true, true, true, true, true, true, true, false, false, false, false, false] rfl rfl (by kernel_rfl) (by decide) (fun K hK => ?_)
             refine goes_ Try.func39 (by kernel_rfl) rfl #[.slice A1 (g_row l0 i).length cc1, .slice A2 (g_row l0 c).length cc2] (by rfl) rfl rfl (by simp only [List.map_toArray, List.map_cons, List.map_nil]; rfl) ?_
             with_reducible refine (spec_l10Join.calls k2 _ _ (g_row l0 i) _ _ (g_row l0 c) j1 j2 _ (Kd.C_drew (Kd.C_drewN CI.out _)) LI.out (Kd.C_drew (Kd.C_drewN CC.out _)) LC.out HJ.out).mono ?_
             rintro e w5 ⟨v5, rfl, hr5, hb5⟩
             refine ⟨_, rfl, ?_⟩
             have HR5 := Aside0.mk (show Kd.R k49 49 w5 wr.heap.size (fun _ => True) v5 j1 from hr5)
             have HB5 := Aside0.mk (show Below wr.heap.size wr w5 from below_step (below_drew1 (pw_below_drewN (Below.refl wr.heap.size wr) _)) hb5)
             clear hr5 hb5
             refine hK.out _ _ ⟨((Below.cell HB5.out (World.block_lt_of_cell? wr _ HI.out)).trans HI.out), ((Below.cell HB5.out (World.block_lt_of_cell? wr _ HC.out)).trans HC.out)⟩ (fun hHeld => ?_)
             clear hK K
             refine norm_ (a' := ?_) ?_ ?_
             rotate_left
             · show Act.put _ (some 45) _ = _
               simp only [Act.put, List.setIfInBounds_toArray, List.set_cons_zero, List.set_cons_succ, i64_w, i32_w]
               rfl
             refine pure_ (i := 9) (N := some 36) (v := ?_) (a' := ?_) #[true, true, true, true, true, true, true, true, true, true, false, false, false, false] rfl rfl (by kernel_rfl) (fun _ _ _ h => h) (Or.inl ⟨by rfl, ?_⟩) ?_ ?_
             rotate_left
             · intro w'
               go_simp
               with_reducible rfl
             rotate_left
             · simp only [Act.put, List.setIfInBounds_toArray, List.set_cons_zero, List.set_cons_succ, i64_w, i32_w]
               rfl
             refine pure_ (i := 10) (N := some 46) (v := ?_) (a' := ?_) #[true, true, true, true, true, true, true, true, true, true, true, false, false, false] rfl rfl (by kernel_rfl) (fun _ _ _ h => h) (Or.inl ⟨by rfl, ?_⟩) ?_ ?_
             rotate_left
             · intro w'
               go_simp
               with_reducible rfl
             rotate_left
             · simp only [Act.put, List.setIfInBounds_toArray, List.set_cons_zero, List.set_cons_succ, i64_w, i32_w]
               rfl
             refine pure_ (i := 11) (N := some 47) (v := ?_) (a' := ?_) #[true, true, true, true, true, true, true, true, true, true, true, true, false, false] rfl rfl (by kernel_rfl) (fun _ _ _ h => h) (Or.inl ⟨by rfl, ?_⟩) ?_ ?_
             rotate_left
             · intro w'
               go_simp
               with_reducible rfl
             rotate_left
             · simp only [Act.put, List.setIfInBounds_toArray, List.set_cons_zero, List.set_cons_succ, i64_w, i32_w]
               rfl
             refine pure_ (i := 12) (N := some 6) (v := ?_) (a' := ?_) #[true, true, true, true, true, true, true, true, true, true, true, true, true, false] rfl rfl (by kernel_rfl) (fun _ _ _ h => h) (Or.inl ⟨by rfl, ?_⟩) ?_ ?_
             rotate_left
             · intro w'
               go_simp
               with_reducible rfl
             rotate_left
             · simp only [Act.put, List.setIfInBounds_toArray, List.set_cons_zero, List.set_cons_succ, i64_w, i32_w]
               rfl
             refine pure_ (i := 13) (N := some 7) (v := ?_) (a' := ?_) #[true, true, true, true, true, true, true, true, true, true, true, true, true, true] rfl rfl (by kernel_rfl) (fun _ _ _ h => h) (Or.inl ⟨by rfl, ?_⟩) ?_ ?_
             rotate_left
             · intro w'
               go_simp
               with_reducible rfl
             rotate_left
             · simp only [Act.put, List.setIfInBounds_toArray, List.set_cons_zero, List.set_cons_succ, i64_w, i32_w]
               rfl
             refine done_ (by kernel_rfl) ?_
             obtain ⟨A5, c5_, e5⟩ := Kd.R_slice HR5.out
             subst e5
             have HBW := Aside0.mk (below_step HB.out HB5.out)
             cases j2 with
             | false =>
              rw [if_neg (by decide)] at H
              have H' := Aside0.mk H
              clear H
              go_wp2
              go_roundg k2
              case measure => have := HK1.out; have := HK2.out; omega
              case rel => exact ⟨wrap64 (c + 1), by first | rfl | (simp; done), H', ⟨by have := HK2.out; omega⟩, ⟨HBW.out⟩⟩
             | true =>
              rw [if_pos rfl] at H
              obtain ⟨t3, ht3, H⟩ := Option.bind_eq_some_iff.mp H
              have T3 := Aside0.mk ht3
              clear ht3
              cases t3 with
              | false =>
               rw [if_neg (by decide)] at H
               have H' := Aside0.mk H
               clear H
               go_wp2_with (first | (go_at_call 37; (with_reducible refine (spec_l07Ok.calls k2 _ _ j1 false _ ?side1 ?side2 T3.out).mono ?_); (case side1 => exact (Kd.R_reads' HR5.out).2.2); (case side2 => exact (Kd.R_reads' HR5.out).2.1); rintro e w6 ⟨rfl, ⟨⟨n3, rfl⟩⟩⟩))
               go_roundg k2
               case measure => have := HK1.out; have := HK2.out; omega
               case rel => exact ⟨wrap64 (c + 1), by first | rfl | (simp; done), H', ⟨by have := HK2.out; omega⟩, ⟨(pw_below_drewN HBW.out _)⟩⟩
              | true =>
               rw [if_pos rfl] at H
               cases H
               have HX5 := Aside0.mk (show Kd.R k49 49 w5 w.heap.size (fun k => some k = (.slice A5 j1.length c5_ : Value).ownBlock) (.slice A5 j1.length c5_ : Value) j1 from Kd.R_lower (Kd.R_tight rfl HR5.out) HB.out.size)
               go_wp2_with (first | (go_at_call 37; (with_reducible refine (spec_l07Ok.calls k2 _ _ j1 true _ ?side1 ?side2 T3.out).mono ?_); (case side1 => exact (Kd.R_reads' HR5.out).2.2); (case side2 => exact (Kd.R_reads' HR5.out).2.1); rintro e w6 ⟨rfl, ⟨⟨n3, rfl⟩⟩⟩))
               go_loopg [8, 9] l0.length (fun d v8 v9 w' => ∃ (j : Int), v9 = .int .i64 j ∧ Aside0 (0 ≤ j ∧ j + (d : Int) = (l0.length : Int)) ∧ Aside0 (g_NX w w' (.slice A5 j1.length c5_ : Value) v8 j1 (g_bld l0 i c j1 j.toNat) (j ≤ i)))
               case atStart => exact ⟨0, by first | rfl | (simp; done), ⟨by omega⟩, ⟨⟨g_S_ok (W := w5.drewN n3) HBW.out.size (fun _ e => Nat.lt_irrefl _ (Kd.R_lt HX5.out w5.heap.size e.symm)), Kd.R_alloc (Kd.R_drewN HX5.out n3) _, below_alloc (pw_below_drewN HBW.out n3) _⟩⟩⟩
               case round =>
                clear HI HC CI CC LI LC HB HB5 HBW HX5 HR5 i0t i1t q0t c2t
                obtain ⟨j, rfl, HJJ, NX⟩ := hrel
                by_cases c6 : j < (l0.length : Int)
                · have c6b : decide (j < (l0.length : Int)) = true := decide_eq_true c6
                  cases gk with
                  | zero => exact absurd HJJ.out.2 (by omega)
                  | succ d1 =>
                   have j0 : 0 ≤ j := HJJ.out.1
                   have HZ := Aside0.mk (g_nat1 j l0.length d1 j0 c6 HN.out HJJ.out.2)
                   have HBL := Aside0.mk (g_bld_step l0 i c j1 j j0)
                   have HRM := Aside0.mk (g_room _ j.toNat l0.length (g_bld_len l0 i c j1 j.toNat) (g_nat_lt j _ j0 c6) HN.out)
                   by_cases c7 : j = i
                   · have c7b : (j == i) = true := beq_iff_eq.mpr c7
                     have hbl := HBL.out
                     rw [if_pos c7] at hbl
                     have HB2 := Aside0.mk hbl
                     have HP := Aside0.mk (g_past j i _ HZ.out.2.2 c7)
                     have HE := Aside0.mk (Int.le_of_eq c7)
                     clear hbl HBL c6 c7 j0
                     go_wp2_with (first | ((with_reducible refine gate_builtin (b := .append) (xs := #[.tmp 65, .tmp 67]) rfl ?_); at_builtin; refine Kd.S_append (Kd.slice 49 k49) (w0 := w) w.heap.size rfl (.tmp 65) (.tmp 67) 24 34 (.slice none 0 0) 24 rfl Try.underlying24 info34 rfl (by decide) (by omega) u8 (g_bld l0 i c j1 j.toNat) j1 [.slice A5 j1.length c5_] (fun k_ => wrap64 (j + 1) ≤ i → some k_ ≠ (.slice A5 j1.length c5_ : Value).ownBlock) (fun k_ => some k_ = (.slice A5 j1.length c5_ : Value).ownBlock) rfl rfl (Kd.M_row NX.out.x) (fun k_ hk_ => ⟨fun hle => absurd hle HP.out, NX.out.out_ne HE.out k_ hk_⟩) (fun _ _ hle => absurd hle HP.out) (Kd.S_mono NX.out.s (fun k_ hk_ => ⟨fun hle => absurd hle HP.out, fun e => hk_ HE.out e⟩)) NX.out.b (Below.size NX.out.b) HRM.out ?_; intro v6 w6 ho6 hb6 hg6 _; have HS6 := Aside0.mk (NX.out.app ho6 hg6 hb6); clear ho6 hb6 hg6))
                     go_roundg d1
                     case measure => omega
                     case rel => exact ⟨wrap64 (j + 1), by first | rfl | (simp; done), ⟨HZ.out.1⟩, ⟨by rw [HZ.out.2.1, HB2.out]; exact HS6.out⟩⟩
                   · have c7b : (j == i) = false := beq_eq_false_iff_ne.mpr c7
                     have hbl := HBL.out
                     rw [if_neg c7] at hbl
                     by_cases c8 : j = c
                     · have c8b : (j != c) = false := by rw [c8]; exact bne_self_eq_false c
                       rw [if_pos c8] at hbl
                       have HB2 := Aside0.mk hbl
                       clear hbl HBL c6 c7 c8 j0
                       go_wp2
                       go_roundg d1
                       case measure => omega
                       case rel => exact ⟨wrap64 (j + 1), by first | rfl | (simp; done), ⟨HZ.out.1⟩, ⟨by rw [HZ.out.2.1, HB2.out]; exact (NX.out.imp (g_back1 j i _ HZ.out.2.2))⟩⟩
                     · have c8b : (j != c) = true := by rw [bne_iff_ne]; exact c8
                       rw [if_neg c8] at hbl
                       have HB2 := Aside0.mk hbl
                       obtain ⟨ad3, A3, cc3, ea3, hj, lj, Cj⟩ := g_atL HR0.out j j0 c6
                       cases ea3
                       have hj' := (NX.out.b.cell (World.block_lt_of_cell? w _ hj)).trans hj
                       have hj2 : (wr.alloc (.cells #[] 49)).cell? (adl.add j.toNat) = some (.slice A3 (g_row l0 j).length cc3) := ((below_alloc (Below.refl wr.heap.size wr) (.cells #[] 49)).cell (World.block_lt_of_cell? wr _ hj')).trans hj'
                       have CJ := Aside0.mk (Kd.C_below Cj NX.out.b)
                       have HSJ := Aside0.mk (g_room2 _ (g_short_at HSH.out j j0 c6))
                       have j0t := eq_true j0
                       have c6t := eq_true c6
                       clear hbl HBL hj lj Cj c6 c7 c8 j0
                       go_wp2_with (first | ((with_reducible refine gate_builtin (b := .append) (xs := #[.tmp 73, .tmp 77]) rfl ?_); at_builtin; refine Kd.R_append_rows k49 (w0 := wr) wr.heap.size rfl (.tmp 73) (.tmp 77) 34 49 (.agg #[(.int .i64 0), (.int .i64 0)]) 16 rfl Try.underlying34 info49 rfl (by decide) (by omega) (.slice (some ⟨wr.heap.size, 0, none⟩) 0 0) [] (g_row l0 j) A3 (g_row l0 j).length cc3 (fun _ => True) (fun _ => False) rfl rfl (g_R_new wr wr.heap.size (Nat.le_refl _)) (Kd.C_alloc CJ.out _) (fun _ _ h => h) (fun _ h => h.elim) (fun _ _ => trivial) (below_alloc (Below.refl _ _) _) (by simp) HSJ.out ?_; intro v7 w7 ho7 hb7 _ _; rw [List.nil_append] at ho7; obtain ⟨A7, c7_, e7⟩ := Kd.R_slice ho7; subst e7; have HX7 := Aside0.mk ho7; have HB7 := Aside0.mk hb7; have HF := Aside0.mk (g_S_fresh NX.out.s ho7 hb7); clear ho7 hb7) | ((with_reducible refine gate_builtin (b := .append) (xs := #[.tmp 72, .tmp 79]) rfl ?_); at_builtin; refine Kd.S_append (Kd.slice 49 k49) (w0 := w) w.heap.size rfl (.tmp 72) (.tmp 79) 24 34 (.slice none 0 0) 24 rfl Try.underlying24 info34 rfl (by decide) (by omega) u8 (g_bld l0 i c j1 j.toNat) (g_row l0 j) [.slice A7 (g_row l0 j).length c7_] (fun k_ => wrap64 (j + 1) ≤ i → some k_ ≠ (.slice A5 j1.length c5_ : Value).ownBlock) (fun k_ => some k_ = (.slice A7 (g_row l0 j).length c7_ : Value).ownBlock) rfl rfl (Kd.M_row (Kd.R_tight rfl (Kd.R_lower HX7.out NX.out.b.size))) (fun k_ hk_ => ⟨fun _ e => Nat.lt_irrefl _ (Nat.lt_of_le_of_lt (Kd.R_base HX7.out k_ hk_.symm) (Kd.R_lt NX.out.x k_ e.symm)), HF.out.2 k_ hk_⟩) (fun k_ hk_ _ e => Nat.lt_irrefl _ (Nat.lt_of_le_of_lt (Nat.le_trans HB7.out.size hk_) (Kd.R_lt NX.out.x k_ e.symm))) (Kd.S_mono HF.out.1 (fun k_ hk_ => ⟨fun hle => hk_.1 (g_back1 j i _ HZ.out.2.2 hle), hk_.2⟩)) (below_step NX.out.b HB7.out) (Below.size (below_step NX.out.b HB7.out)) HRM.out ?_; intro v6 w6 ho6 hb6 hg6 _; have HS6 := Aside0.mk ((NX.out.below_ HB7.out).app ho6 hg6 hb6); clear ho6 hb6 hg6))
                       go_roundg d1
                       case measure => omega
                       case rel => exact ⟨wrap64 (j + 1), by first | rfl | (simp; done), ⟨HZ.out.1⟩, ⟨by rw [HZ.out.2.1, HB2.out]; exact HS6.out⟩⟩
                · have c6b : decide (j < (l0.length : Int)) = false := decide_eq_false c6
                  have HA := Aside0.mk (g_end j l0.length _ HJJ.out.1 c6 HJJ.out.2)
                  clear c6
                  rw [HA.out] at NX
                  go_wp2
                  go_ret2
                  exact ⟨_, rfl, Kd.S_mono NX.out.s (fun _ _ => trivial), NX.out.b⟩
         · rw [if_neg c3] at H
           cases H
       · rw [if_neg c2] at H
         have c2b : decide (c < (l0.length : Int)) = false := decide_eq_false c2
         have H' := Aside0.mk H
         clear H c2
         go_wp2
         go_roundg k2
         case measure => have := HK1.out; have := HK2.out; omega
         case rel => exact ⟨wrap64 (i + 1), by first | rfl | (simp; done), H', ⟨by have := HK1.out; have := HK2.out; omega⟩, HB⟩
   · rw [if_neg c1] at H
     have c1b : decide (i < (l0.length : Int)) = false := decide_eq_false c1
     clear c1
     cases H
     go_wp2
     go_ret2
     exact ⟨_, rfl, Kd.S_nil _ _ _ _ _, HB.out⟩

end Go.Proofs.Ytmedijjjhabpbaa.Print
