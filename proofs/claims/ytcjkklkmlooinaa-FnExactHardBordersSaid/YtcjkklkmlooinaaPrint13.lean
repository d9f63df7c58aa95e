-- Printed by a program of this session out of the translation; not trusted: Lean checks it.
-- SHRUNK
-- NILFIX
import Derived.Test.YtcjkklkmlooinaaPrint0
namespace Go.Proofs.Ytcjkklkmlooinaa.Print
open Go.RowKit Go.Proofs.YtcjkklkmlooinaaW.PrintWords Go.Proofs.YtcjkklkmlooinaaW.PrintLast Go.Proofs.YtcjkklkmlooinaaW.PrintMore
attribute [local go_sem] max2_int min2_int max_two min_two max_three min_three max_four min_four   -- for this text's walks alone
set_option linter.unusedVariables false
set_option linter.unusedSimpArgs false

/-! ### spec_l00Own: function 45 -/
def spec_l00Own.f (l0 : List Int) : Option (List Int) := (some (([] : List Int) : List Int)).bind fun y213 => (if y213.length + l0.length < 17592186044416 then (some (y213 ++ l0)) else (none))
set_option maxHeartbeats 8000000 in
set_option maxRecDepth 100000 in
theorem spec_l00Own.calls (A0 : Option Addr) (c0 : Nat) (l0 : List Int) (r : List Int) (w : World) (hr0 : Kd.C (Kd.int .i64) w A0 l0.length l0) (hc0 : l0.length ≤ c0) (h : spec_l00Own.f l0 = some r) :
  Calls Try.prog 45 #[.slice A0 l0.length c0] w fun e w' => ∃ v0_ : Value, e = .returned (v0_) ∧ Kd.R (Kd.int .i64) 2 w' w.heap.size (fun _ => True) v0_ r ∧ Below w.heap.size w w' := by
 have HR0 := Aside0.mk hr0
 have HC0 := Aside0.mk hc0
 clear hr0 hc0
 have HB := Aside0.mk (Below.refl w.heap.size w)
 have H : ((some (([] : List Int) : List Int)).bind fun y213 => (if y213.length + l0.length < 17592186044416 then (some (y213 ++ l0)) else (none))) = some r := h
 clear h
 obtain ⟨y213, hy213⟩ : ∃ y_ : List Int, y_ = (([] : List Int)) := ⟨_, rfl⟩
 replace H : (if y213.length + l0.length < 17592186044416 then (some (y213 ++ l0)) else (none)) = some r := by first | (rw [hy213]; with_reducible exact H) | (have H2_ := (Option.bind_some _ _).symm.trans H; rw [hy213]; with_reducible exact H2_) | (have H2_ := (Option.bind_some _ _).symm.trans H; with_reducible exact H2_) | with_reducible exact H | (rw [hy213]; exact H) | exact H
 have Ny213 := Aside0.mk hy213
 clear hy213
 by_cases c2 : y213.length + l0.length < 17592186044416
 ·rw [if_pos c2] at H
  have LMc2 := Aside0.mk c2
  clear c2
  obtain ⟨y216, hy216⟩ : ∃ y_ : List Int, y_ = (y213 ++ l0) := ⟨_, rfl⟩
  replace H : (some y216) = some r := by first | (rw [hy216]; with_reducible exact H) | (have H2_ := (Option.bind_some _ _).symm.trans H; rw [hy216]; with_reducible exact H2_) | (have H2_ := (Option.bind_some _ _).symm.trans H; with_reducible exact H2_) | with_reducible exact H | (rw [hy216]; exact H) | exact H
  have Ny216 := Aside0.mk hy216
  clear hy216
  obtain rfl := Option.some.inj H
  go_enter Try.func45, Try.ntmps45
  go_wp2_with (first | ((with_reducible refine gate_dst (N := 3) rfl ?_); refine Kd.R_lit (Kd.int .i64) _ 2 ?hg (N := 3) ?hd (xs := ([] : List Int)) (inner := []) (ok := fun _ => True) (okp := fun _ => True) ?hr ?hp (fun _ hk => hk) trivial (Below.refl _ _) (Nat.le_refl _) (by simp) ?_; (case hd => rfl); (case hg => rfl); (case hr => first | (go_simp; done) | (go_simp; rfl)); (case hp => exact (Reps.none _ _)); intro v214 w3 ho4 hb hg_ hnew_; clear hg_ hnew_; (first | rw [← Ny213.out] at ho4 | (simp only [Int.reduceToNat] at ho4; rw [← Ny213.out] at ho4)); have n0_ := Aside0.mk (Kd.R_lower ho4 (below_size (by repeat (first | (with_reducible first | exact HB.out | apply below_alloc | apply pw_below_drewN | apply below_drew1) | exact HB.out)))); have n1_ := Aside0.mk (below_step (by repeat (first | (with_reducible first | exact HB.out | apply below_alloc | apply pw_below_drewN | apply below_drew1) | exact HB.out)) hb); clear HB; have HO215 := n0_; have HB := n1_; clear n0_ n1_; clear hb ho4) | ((with_reducible refine gate_builtin (b := .append) (xs := #[.tmp 3, .tmp 4]) rfl ?_); at_builtin; refine Kd.R_append_rows (Kd.int .i64) (w0 := w) w.heap.size rfl (.tmp 3) (.tmp 4) 27 2 (.int .i64 0) 8 rfl Try.underlying27 info2 rfl (by decide) (by omega) v214 y213 l0 _ _ _ (fun _ => True) (fun _ => False) rfl rfl ?aO ?aR (fun _ _ h => h) (fun _ h => h.elim) ?aF ?aB ?aS ?aL ?_; (case aR => repeat (first | exact (Kd.C_below HR0.out HB.out) | (with_reducible refine Kd.C_alloc ?_ _) | (with_reducible refine Kd.C_drewN ?_ _) | (with_reducible refine Kd.C_drew ?_))); (case aB => exact (by repeat (first | (with_reducible first | exact HB.out | apply below_alloc | apply pw_below_drewN | apply below_drew1) | exact HB.out))); (case aF => exact (fun _ _ => trivial)); (case aO => exact (by (with_reducible repeat (first | apply Kd.R_alloc | apply Kd.R_drewN | apply Kd.R_drew)); exact HO215.out)); (case aS => exact (below_size (by repeat (first | (with_reducible first | exact HB.out | apply below_alloc | apply pw_below_drewN | apply below_drew1) | exact HB.out)))); (case aL => have := LMc2.out; omega); intro v217 w5 ho hb hg hat; rw [← Ny216.out] at ho; have n0_ := Aside0.mk (hb); have n1_ := Aside0.mk (ho); clear HB; clear HO215; have HB := n0_; have HO218 := n1_; clear n0_ n1_; clear ho hb hg hat))
  go_ret
  exact ⟨_, by first | rfl | (simp [errW_none, errW_some] <;> rfl) | (simp [*, errW_none, errW_some] <;> rfl), by (with_reducible repeat (first | apply Kd.R_alloc | apply Kd.R_drewN | apply Kd.R_drew)); exact HO218.out, by repeat (first | (with_reducible first | exact HB.out | apply below_alloc | apply pw_below_drewN | apply below_drew1) | exact HB.out)⟩
 ·rw [if_neg c2] at H
  exact absurd H (by simp)

/-- A state of type 95 at block g of W; what its slices lead to came in by w0. -/
def IsS95 (w0 W : World) (g : Nat) (f0 : Int) (f1 : List (S58)) (f2 : Int) (f3 : List Int) (f4 : Bool) : Prop := ∃ A1 c1, ∃ A3 c3, W.heap[g]? = some (.cells #[.int .i64 f0, .slice A1 f1.length c1, .int .i64 f2, .slice A3 f3.length c3, .bool f4] 95 (0, 0)) ∧ w0.heap.size ≤ g ∧ Kd.C k58 w0 A1 f1.length f1 ∧ (Kd.C (Kd.int .i64) w0 A3 f3.length f3 ∧ (f3 = [] → A3 = none ∧ c3 = 0))
theorem IsS95.grown {w0 W : World} {g : Nat} {f0 : Int} {f1 : List (S58)} {f2 : Int} {f3 : List Int} {f4 : Bool} {W1 : World} {row : Option Nat} (h : IsS95 w0 W g f0 f1 f2 f3 f4) (hw : W.grownBy W1 row) (hne : some g ≠ row) : IsS95 w0 W1 g f0 f1 f2 f3 f4 := by
 obtain ⟨A1, c1, A3, c3, hb, hg, hr1, hr3⟩ := h
 exact ⟨A1, c1, A3, c3, blk_grown hb hw hne, hg, hr1, hr3⟩
theorem IsS95.own_neN {w0 W : World} {g : Nat} {f0 : Int} {f1 : List (S58)} {f2 : Int} {f3 : List Int} {f4 : Bool} {α : Type} {d : Kd α} {e : Nat} {base : Nat} {ok : Nat → Prop} {v : Value} {xs : List α} (h : IsS95 w0 W g f0 f1 f2 f3 f4) (ho : Kd.N d e W base ok v xs) (ht : e ≠ 95) : some g ≠ v.ownBlock := by
 obtain ⟨A1, c1, A3, c3, hb, hg, hr1, hr3⟩ := h
 exact Kd.N_ne ho hb ht
theorem IsS95.fresh {w0 W : World} {g : Nat} {f0 : Int} {f1 : List (S58)} {f2 : Int} {f3 : List Int} {f4 : Bool} (h : IsS95 w0 W g f0 f1 f2 f3 f4) : ∀ k, W.heap.size ≤ k → k ≠ g := by
 obtain ⟨A1, c1, A3, c3, hb, hg, hr1, hr3⟩ := h
 exact Kd.freshB hb
theorem IsS95.kept {w0 W : World} {g : Nat} {f0 : Int} {f1 : List (S58)} {f2 : Int} {f3 : List Int} {f4 : Bool} {W1 : World} {S : Nat → Prop} (h : IsS95 w0 W g f0 f1 f2 f3 f4) (hk : Kept W W1 S) (hne : ¬ S g) : IsS95 w0 W1 g f0 f1 f2 f3 f4 := by
 obtain ⟨A1, c1, A3, c3, hb, hg, hr1, hr3⟩ := h
 exact ⟨A1, c1, A3, c3, blk_kept hb hk hne, hg, hr1, hr3⟩
theorem IsS95.below {w0 W : World} {g : Nat} {f0 : Int} {f1 : List (S58)} {f2 : Int} {f3 : List Int} {f4 : Bool} {W1 : World} (h : IsS95 w0 W g f0 f1 f2 f3 f4) (hw : Below W.heap.size W W1) : IsS95 w0 W1 g f0 f1 f2 f3 f4 := h.grown (grown_of_below hw none) (by simp)
theorem IsS95.alloc {w0 W : World} {g : Nat} {f0 : Int} {f1 : List (S58)} {f2 : Int} {f3 : List Int} {f4 : Bool} (h : IsS95 w0 W g f0 f1 f2 f3 f4) (o : Obj) : IsS95 w0 (W.alloc o) g f0 f1 f2 f3 f4 := h.below (below_alloc (Below.refl _ _) o)
theorem IsS95.drewN {w0 W : World} {g : Nat} {f0 : Int} {f1 : List (S58)} {f2 : Int} {f3 : List Int} {f4 : Bool} (h : IsS95 w0 W g f0 f1 f2 f3 f4) (m : Nat) : IsS95 w0 (W.drewN m) g f0 f1 f2 f3 f4 := h
theorem IsS95.drew {w0 W : World} {g : Nat} {f0 : Int} {f1 : List (S58)} {f2 : Int} {f3 : List Int} {f4 : Bool} (h : IsS95 w0 W g f0 f1 f2 f3 f4) : IsS95 w0 W.drew g f0 f1 f2 f3 f4 := h
theorem IsS95.at_ {w0 W : World} {g : Nat} {f0 : Int} {f1 : List (S58)} {f2 : Int} {f3 : List Int} {f4 : Bool} {w' : World} {m : Nat} (hq : W.drewN m = w') (h : IsS95 w0 W g f0 f1 f2 f3 f4) : IsS95 w0 w' g f0 f1 f2 f3 f4 := by subst hq; exact IsS95.drewN h m
theorem IsS95.apart {w0 W : World} {g : Nat} {f0 : Int} {f1 : List (S58)} {f2 : Int} {f3 : List Int} {f4 : Bool} {α : Type} {d : Kd α} {e : Nat} {base : Nat} {ok : Nat → Prop} {v : Value} {xs : List α} (h : IsS95 w0 W g f0 f1 f2 f3 f4) (ho : d.R e W base ok v xs) (ht : ∀ q, q ∈ e :: d.E → q ≠ 95) : d.R e W base (fun k => ok k ∧ k ≠ g) v xs := by
 obtain ⟨A1, c1, A3, c3, hb, hg, hr1, hr3⟩ := h
 exact Kd.R_types ho hb ht
theorem IsS95.own_ne {w0 W : World} {g : Nat} {f0 : Int} {f1 : List (S58)} {f2 : Int} {f3 : List Int} {f4 : Bool} {α : Type} {d : Kd α} {e : Nat} {base : Nat} {ok : Nat → Prop} {v : Value} {xs : List α} (h : IsS95 w0 W g f0 f1 f2 f3 f4) (ho : d.R e W base ok v xs) (ht : e ≠ 95) : some g ≠ v.ownBlock := by
 obtain ⟨A1, c1, A3, c3, hb, hg, hr1, hr3⟩ := h
 exact Kd.R_ne ho hb ht
theorem IsS95.apartQ {w0 W : World} {g : Nat} {f0 : Int} {f1 : List (S58)} {f2 : Int} {f3 : List Int} {f4 : Bool} {α : Type} {d : Kd α} {e : Nat} {base : Nat} {ok : Nat → Prop} {v : Value} {xs : List α} (h : IsS95 w0 W g f0 f1 f2 f3 f4) (ho : d.Q e W base ok v xs) (ht : ∀ q, q ∈ e :: d.E → q ≠ 95) : d.Q e W base (fun k => ok k ∧ k ≠ g) v xs := by
 obtain ⟨A1, c1, A3, c3, hb, hg, hr1, hr3⟩ := h
 exact Kd.Q_types ho hb ht
theorem IsS95.own_neQ {w0 W : World} {g : Nat} {f0 : Int} {f1 : List (S58)} {f2 : Int} {f3 : List Int} {f4 : Bool} {α : Type} {d : Kd α} {e : Nat} {base : Nat} {ok : Nat → Prop} {v : Value} {xs : List α} (h : IsS95 w0 W g f0 f1 f2 f3 f4) (ho : d.Q e W base ok v xs) (ht : e ≠ 95) : some g ≠ v.ownBlock := by
 obtain ⟨A1, c1, A3, c3, hb, hg, hr1, hr3⟩ := h
 exact Kd.Q_ne ho hb ht
theorem IsS95.apartS {w0 W : World} {g : Nat} {f0 : Int} {f1 : List (S58)} {f2 : Int} {f3 : List Int} {f4 : Bool} {α : Type} {d : Kd α} {e : Nat} {base : Nat} {ok : Nat → Prop} {v : Value} {xs : List α} (h : IsS95 w0 W g f0 f1 f2 f3 f4) (ho : d.S e W base ok v xs) (ht : ∀ q, q ∈ e :: d.E → q ≠ 95) : d.S e W base (fun k => ok k ∧ k ≠ g) v xs := by
 obtain ⟨A1, c1, A3, c3, hb, hg, hr1, hr3⟩ := h
 exact Kd.S_types ho hb ht
theorem IsS95.own_neS {w0 W : World} {g : Nat} {f0 : Int} {f1 : List (S58)} {f2 : Int} {f3 : List Int} {f4 : Bool} {α : Type} {d : Kd α} {e : Nat} {base : Nat} {ok : Nat → Prop} {v : Value} {xs : List α} (h : IsS95 w0 W g f0 f1 f2 f3 f4) (ho : d.S e W base ok v xs) (ht : e ≠ 95) : some g ≠ v.ownBlock := by
 obtain ⟨A1, c1, A3, c3, hb, hg, hr1, hr3⟩ := h
 exact Kd.S_ne ho hb ht
theorem IsS95.lt {w0 W : World} {g : Nat} {f0 : Int} {f1 : List (S58)} {f2 : Int} {f3 : List Int} {f4 : Bool} (h : IsS95 w0 W g f0 f1 f2 f3 f4) : g < W.heap.size := by
 obtain ⟨A1, c1, A3, c3, hb, hg, hr1, hr3⟩ := h
 exact blk_lt hb
theorem IsS95.ge {w0 W : World} {g : Nat} {f0 : Int} {f1 : List (S58)} {f2 : Int} {f3 : List Int} {f4 : Bool} (h : IsS95 w0 W g f0 f1 f2 f3 f4) : w0.heap.size ≤ g := by
 obtain ⟨A1, c1, A3, c3, hb, hg, hr1, hr3⟩ := h
 exact hg
theorem IsS95.ne_blk {w0 W : World} {g : Nat} {f0 : Int} {f1 : List (S58)} {f2 : Int} {f3 : List Int} {f4 : Bool} {a : Nat} {cs : Array Value} {t : TypeId} {fr : Nat × Nat} (h : IsS95 w0 W g f0 f1 f2 f3 f4) (hb2 : W.heap[a]? = some (.cells cs t fr)) (ht : t ≠ 95) : g ≠ a := by
 obtain ⟨A1, c1, A3, c3, hb, hg, hr1, hr3⟩ := h
 rintro rfl
 rw [hb] at hb2
 injection hb2 with hb2
 injection hb2 with _ ht2
 exact ht ht2.symm
theorem IsS95.far {w0 W : World} {g : Nat} {f0 : Int} {f1 : List (S58)} {f2 : Int} {f3 : List Int} {f4 : Bool} {p : Addr} (h : IsS95 w0 W g f0 f1 f2 f3 f4) (hne : g ≠ p.block) (u : Value) : IsS95 w0 (W.setCell p u) g f0 f1 f2 f3 f4 := by
 obtain ⟨A1, c1, A3, c3, hb, hg, hr1, hr3⟩ := h
 exact ⟨A1, c1, A3, c3, blk_far hb hne u, hg, hr1, hr3⟩
theorem cellS95_0 {W : World} {g : Nat} {A1 : Option Addr} {c1 : Nat} {A3 : Option Addr} {c3 : Nat} {f0 : Int} {f1 : List (S58)} {f2 : Int} {f3 : List Int} {f4 : Bool} (h : W.heap[g]? = some (.cells #[.int .i64 f0, .slice A1 f1.length c1, .int .i64 f2, .slice A3 f3.length c3, .bool f4] 95 (0, 0))) : W.cell? ⟨g, 0, none⟩ = some (.int .i64 f0) := (blk_cell h 0).trans rfl
theorem IsS95.set_0 {w0 W : World} {g : Nat} {f0 : Int} {f1 : List (S58)} {f2 : Int} {f3 : List Int} {f4 : Bool} (h : IsS95 w0 W g f0 f1 f2 f3 f4) (x : Int) : IsS95 w0 (W.setCell ⟨g, 0, none⟩ (.int .i64 x)) g x f1 f2 f3 f4 := by
 obtain ⟨A1, c1, A3, c3, hb, hg, hr1, hr3⟩ := h
 exact ⟨A1, c1, A3, c3, by simpa using blk_set hb 0 (.int .i64 x), hg, hr1, hr3⟩
theorem cellS95_1 {W : World} {g : Nat} {A1 : Option Addr} {c1 : Nat} {A3 : Option Addr} {c3 : Nat} {f0 : Int} {f1 : List (S58)} {f2 : Int} {f3 : List Int} {f4 : Bool} (h : W.heap[g]? = some (.cells #[.int .i64 f0, .slice A1 f1.length c1, .int .i64 f2, .slice A3 f3.length c3, .bool f4] 95 (0, 0))) : W.cell? ⟨g, 1, none⟩ = some (.slice A1 f1.length c1) := (blk_cell h 1).trans rfl
theorem cellS95_2 {W : World} {g : Nat} {A1 : Option Addr} {c1 : Nat} {A3 : Option Addr} {c3 : Nat} {f0 : Int} {f1 : List (S58)} {f2 : Int} {f3 : List Int} {f4 : Bool} (h : W.heap[g]? = some (.cells #[.int .i64 f0, .slice A1 f1.length c1, .int .i64 f2, .slice A3 f3.length c3, .bool f4] 95 (0, 0))) : W.cell? ⟨g, 2, none⟩ = some (.int .i64 f2) := (blk_cell h 2).trans rfl
theorem IsS95.set_2 {w0 W : World} {g : Nat} {f0 : Int} {f1 : List (S58)} {f2 : Int} {f3 : List Int} {f4 : Bool} (h : IsS95 w0 W g f0 f1 f2 f3 f4) (x : Int) : IsS95 w0 (W.setCell ⟨g, 2, none⟩ (.int .i64 x)) g f0 f1 x f3 f4 := by
 obtain ⟨A1, c1, A3, c3, hb, hg, hr1, hr3⟩ := h
 exact ⟨A1, c1, A3, c3, by simpa using blk_set hb 2 (.int .i64 x), hg, hr1, hr3⟩
theorem cellS95_3 {W : World} {g : Nat} {A1 : Option Addr} {c1 : Nat} {A3 : Option Addr} {c3 : Nat} {f0 : Int} {f1 : List (S58)} {f2 : Int} {f3 : List Int} {f4 : Bool} (h : W.heap[g]? = some (.cells #[.int .i64 f0, .slice A1 f1.length c1, .int .i64 f2, .slice A3 f3.length c3, .bool f4] 95 (0, 0))) : W.cell? ⟨g, 3, none⟩ = some (.slice A3 f3.length c3) := (blk_cell h 3).trans rfl
theorem cellS95_4 {W : World} {g : Nat} {A1 : Option Addr} {c1 : Nat} {A3 : Option Addr} {c3 : Nat} {f0 : Int} {f1 : List (S58)} {f2 : Int} {f3 : List Int} {f4 : Bool} (h : W.heap[g]? = some (.cells #[.int .i64 f0, .slice A1 f1.length c1, .int .i64 f2, .slice A3 f3.length c3, .bool f4] 95 (0, 0))) : W.cell? ⟨g, 4, none⟩ = some (.bool f4) := (blk_cell h 4).trans rfl
theorem IsS95.set_4 {w0 W : World} {g : Nat} {f0 : Int} {f1 : List (S58)} {f2 : Int} {f3 : List Int} {f4 : Bool} (h : IsS95 w0 W g f0 f1 f2 f3 f4) (x : Bool) : IsS95 w0 (W.setCell ⟨g, 4, none⟩ (.bool x)) g f0 f1 f2 f3 x := by
 obtain ⟨A1, c1, A3, c3, hb, hg, hr1, hr3⟩ := h
 exact ⟨A1, c1, A3, c3, by simpa using blk_set hb 4 (.bool x), hg, hr1, hr3⟩
theorem IsS95.new (w0 W : World) (A1 : Option Addr) (c1 : Nat) (A3 : Option Addr) (c3 : Nat) (f0 : Int) (f1 : List (S58)) (f2 : Int) (f3 : List Int) (f4 : Bool) (hB : Below w0.heap.size w0 W) (hr1 : Kd.C k58 w0 A1 f1.length f1) (hr3 : (Kd.C (Kd.int .i64) w0 A3 f3.length f3 ∧ (f3 = [] → A3 = none ∧ c3 = 0))) : IsS95 w0 (W.alloc (.cells #[.int .i64 f0, .slice A1 f1.length c1, .int .i64 f2, .slice A3 f3.length c3, .bool f4] 95)) W.heap.size f0 f1 f2 f3 f4 := ⟨A1, c1, A3, c3, by simpa using heap_alloc_new W _, hB.size, hr1, hr3⟩

/-! ### spec_l09W_free: function 83 -/
def spec_l09W_free.l0 : Nat → List Int → Int → Int → Int → Int → List (S58) → Int → List Int → Bool → Option (Bool × Int × Int × Bool)
 | 0, _, _, _, _, _, _, _, _, _ => none
 | k + 1, x1, x2, x7, x8, x1000, x1001, x1002, x1003, x1004 => if x8 < (x1001.length : Int) then (if 0 ≤ x8 then (if ((rd_T58 x1001 x8).f1) = x7 then (if 0 ≤ ((rd_T58 x1001 x8).f0) then (if ((rd_T58 x1001 x8).f0) < (x1.length : Int) then (if (rd x1 ((rd_T58 x1001 x8).f0)) = x2 then (some (false, x1000, x1002, x1004)) else (spec_l09W_free.l0 k x1 x2 x7 (wrap64 (x8 + 1)) x1000 x1001 x1002 x1003 x1004)) else (none)) else (none)) else (spec_l09W_free.l0 k x1 x2 x7 (wrap64 (x8 + 1)) x1000 x1001 x1002 x1003 x1004)) else (none)) else (some (true, x1000, x1002, x1004))
def spec_l09W_free.f (k : Nat) (s0_0 : Int) (s0_1 : List (S58)) (s0_2 : Int) (s0_3 : List Int) (s0_4 : Bool) (l1 : List Int) (a2 : Int) : Option (Bool × Int × Int × Bool) := spec_l09W_free.l0 k l1 a2 (l1.length : Int) 0 s0_0 s0_1 s0_2 s0_3 s0_4
theorem spec_l09W_free.mono_l : ∀ k, (∀ y0 y1 y2 y3 y4 y5 y6 y7 y8, LeO (spec_l09W_free.l0 k y0 y1 y2 y3 y4 y5 y6 y7 y8) (spec_l09W_free.l0 (k + 1) y0 y1 y2 y3 y4 y5 y6 y7 y8))
 | 0 => fun _ _ _ _ _ _ _ _ _ r h => by simp [spec_l09W_free.l0] at h
 | k + 1 => by
  have ih0 := spec_l09W_free.mono_l k
  ·intro y0 y1 y2 y3 y4 y5 y6 y7 y8
   unfold spec_l09W_free.l0
   repeat' first
   | (with_reducible exact ih0 _ _ _ _ _ _ _ _ _)
   | (with_reducible exact LeO.refl _)
   | (with_reducible exact LeO.none _)
   | (with_reducible refine LeO.ite ?_ ?_)
   | (with_reducible refine LeO.bind ?_ (fun _ => ?_))
   | exact ih0 _ _ _ _ _ _ _ _ _
   | exact LeO.none _
   | refine LeO.ite ?_ ?_
   | refine LeO.bind ?_ (fun _ => ?_)
theorem spec_l09W_free.mono : ∀ a0 a1 a2 a3 a4 a5 a6 k, LeO (spec_l09W_free.f k a0 a1 a2 a3 a4 a5 a6) (spec_l09W_free.f (k + 1) a0 a1 a2 a3 a4 a5 a6) := by
 intro a0 a1 a2 a3 a4 a5 a6 k
 have ih0 := spec_l09W_free.mono_l k
 unfold spec_l09W_free.f
 repeat' first
   | (with_reducible exact ih0 _ _ _ _ _ _ _ _ _)
   | (with_reducible exact LeO.refl _)
   | (with_reducible exact LeO.none _)
   | (with_reducible refine LeO.ite ?_ ?_)
   | (with_reducible refine LeO.bind ?_ (fun _ => ?_))
   | exact ih0 _ _ _ _ _ _ _ _ _
   | exact LeO.none _
   | refine LeO.ite ?_ ?_
   | refine LeO.bind ?_ (fun _ => ?_)
set_option maxHeartbeats 8000000 in
set_option maxRecDepth 100000 in
theorem spec_l09W_free.calls (k : Nat) (g : Nat) (s0_0 : Int) (s0_1 : List (S58)) (s0_2 : Int) (s0_3 : List Int) (s0_4 : Bool) (A1 : Option Addr) (c1 : Nat) (l1 : List Int) (a2 : Int) (r1 : Bool) (r2 : Int) (r3 : Int) (r4 : Bool) (w0 w : World) (hI : IsS95 w0 w g s0_0 s0_1 s0_2 s0_3 s0_4) (hB : Below w0.heap.size w0 w) (hr1 : Kd.C (Kd.int .i64) w A1 l1.length l1) (hc1 : l1.length ≤ c1) (hf1 : ∀ ad, A1 = some ad → 0 < l1.length → ad.block ≠ g) (h : spec_l09W_free.f k s0_0 s0_1 s0_2 s0_3 s0_4 l1 a2 = some (r1, r2, r3, r4)) :
  Calls Try.prog 83 #[.pointer (some ⟨g, 0, none⟩), .slice A1 l1.length c1, .int .i64 a2] w fun e w' => e = .returned (.bool r1) ∧ IsS95 w0 w' g r2 s0_1 r3 s0_3 r4 ∧ Below w0.heap.size w0 w' ∧ KeepBut w w' g none := by
 have HR1 := Aside0.mk hr1
 have HC1 := Aside0.mk hc1
 clear hr1 hc1
 have HI0 := Aside0.mk hI
 have HK := Aside0.mk (KeepBut.refl w g none)
 have HL := Aside0.mk hB.size
 clear hI
 have HW0 := Aside0.mk hB.size
 have HB := Aside0.mk hB
 clear hB
 have H : (spec_l09W_free.l0 k l1 a2 (l1.length : Int) 0 s0_0 s0_1 s0_2 s0_3 s0_4) = some (r1, r2, r3, r4) := h
 clear h
 have H' := Aside0.mk H
 clear H
 go_enter Try.func83, Try.ntmps83
 go_wp2
 go_loopg [8] k (fun kq v8 w' => ∃ (x8_1 : Int), v8 = .int .i64 x8_1 ∧ Aside0 (spec_l09W_free.l0 kq l1 a2 (l1.length : Int) x8_1 s0_0 s0_1 s0_2 s0_3 s0_4 = some (r1, r2, r3, r4)) ∧ Aside0 (kq ≤ k) ∧ Aside0 (IsS95 w0 w' g s0_0 s0_1 s0_2 s0_3 s0_4) ∧ Aside0 (KeepBut w w' g none) ∧ Aside0 (Below w0.heap.size w0 w'))
 case atStart => exact ⟨(0), (by first | rfl | (simp; done) | (simp [*]; done)), H', ⟨Nat.le_refl _⟩, ⟨by repeat (first | (with_reducible first | exact HI0.out | apply IsS95.alloc | apply IsS95.drewN | apply IsS95.drew | apply IsS95.set_0 | apply IsS95.set_2 | apply IsS95.set_4) | exact HI0.out)⟩, ⟨by repeat (first | (with_reducible first | exact HK.out | apply KeepBut.set_ | apply keep_drewN | apply keep_drew | apply keep_alloc) | exact HK.out)⟩, ⟨by repeat (first | (with_reducible first | exact HB.out | apply below_alloc | apply pw_below_drewN | apply below_drew1 | refine below_set ?_ (IsS95.ge HI0.out)) | exact HB.out)⟩⟩
 case round =>
  clear H'
  try clear c1
  try clear p2
  obtain ⟨x8_1, rfl, HA, HK1, HI0, HK, HB⟩ := hrel
  cases gk with
  | zero => exact absurd HA.out (by simp [spec_l09W_free.l0])
  | succ k1 =>
   have H := HA.out
   clear HA
   simp only [spec_l09W_free.l0] at H
   by_cases c4 : x8_1 < (s0_1.length : Int)
   ·rw [if_pos c4] at H
    have c4b0 : decide (x8_1 < (s0_1.length : Int)) = true := decide_eq_true c4
    clear c4
    by_cases c5 : 0 ≤ x8_1
    ·rw [if_pos c5] at H
     have c5b0 : decide (0 ≤ x8_1) = true := decide_eq_true c5
     clear c5
     by_cases c6 : ((rd_T58 s0_1 x8_1).f1) = (l1.length : Int)
     ·rw [if_pos c6] at H
      have c6b0 : (((rd_T58 s0_1 x8_1).f1) == (l1.length : Int)) = true := beq_iff_eq.mpr c6
      have c6b1 : (((rd_T58 s0_1 x8_1).f1) != (l1.length : Int)) = false := bne_eq_false_iff_eq.mpr c6
      clear c6
      by_cases c7 : 0 ≤ ((rd_T58 s0_1 x8_1).f0)
      ·rw [if_pos c7] at H
       have c7b0 : decide (0 ≤ ((rd_T58 s0_1 x8_1).f0)) = true := decide_eq_true c7
       clear c7
       by_cases c8 : ((rd_T58 s0_1 x8_1).f0) < (l1.length : Int)
       ·rw [if_pos c8] at H
        have c8b0 : decide (((rd_T58 s0_1 x8_1).f0) < (l1.length : Int)) = true := decide_eq_true c8
        clear c8
        by_cases c9 : (rd l1 ((rd_T58 s0_1 x8_1).f0)) = a2
        ·rw [if_pos c9] at H
         have c9b0 : ((rd l1 ((rd_T58 s0_1 x8_1).f0)) == a2) = true := beq_iff_eq.mpr c9
         have c9b1 : ((rd l1 ((rd_T58 s0_1 x8_1).f0)) != a2) = false := bne_eq_false_iff_eq.mpr c9
         clear c9
         simp only [Option.some.injEq, Prod.mk.injEq] at H
         obtain ⟨rfl, rfl, rfl, rfl⟩ := H
         obtain ⟨ASz10_1, cSz10_1, ASz10_3, cSz10_3, HGz10, hgz10, HSz10_1, HSz10_3⟩ := HI0.out
         have hcz10_0 := cellS95_0 HGz10
         have hcz10_1 := cellS95_1 HGz10
         have hcz10_2 := cellS95_2 HGz10
         have hcz10_3 := cellS95_3 HGz10
         have hcz10_4 := cellS95_4 HGz10
         have hfz10_0 := blk_frozen HGz10 0
         have hfz10_2 := blk_frozen HGz10 2
         have hfz10_4 := blk_frozen HGz10 4
         clear HGz10 hgz10
         have p219 : 0 ≤ (x8_1 : Int) := od_
         have q219 : x8_1 < (s0_1.length : Int) := od_
         obtain ⟨ad219, e219, hx219_0, hx219_1⟩ := at_T58 HSz10_1 x8_1 p219 q219
         cases e219
         replace hx219_0 := pw_cell_below HB.out hx219_0
         replace hx219_1 := pw_cell_below HB.out hx219_1
         replace p219 := eq_true p219
         replace q219 := eq_true q219
         have p220 : 0 ≤ (x8_1 : Int) := od_
         have q220 : x8_1 < (s0_1.length : Int) := od_
         obtain ⟨ad220, e220, hx220_0, hx220_1⟩ := at_T58 HSz10_1 x8_1 p220 q220
         obtain rfl : ad219 = ad220 := (by injection e220)
         replace hx220_0 := pw_cell_below HB.out hx220_0
         replace hx220_1 := pw_cell_below HB.out hx220_1
         replace p220 := eq_true p220
         replace q220 := eq_true q220
         have p221 : 0 ≤ (((rd_T58 s0_1 x8_1).f0) : Int) := od_
         have q221 : ((rd_T58 s0_1 x8_1).f0) < (l1.length : Int) := od_
         obtain ⟨ad221, e221, hx221_0⟩ := Kd.at_int HR1.out ((rd_T58 s0_1 x8_1).f0) p221 q221
         cases e221
         replace hx221_0 := keep_cell HK.out hx221_0 (by first | (rw [add_block]; exact hf1 _ rfl (by omega)) | exact hf1 _ rfl (by omega) | exact hf1 ad221 rfl (by omega))
         replace p221 := eq_true p221
         replace q221 := eq_true q221
         go_wp2
         go_ret
         exact ⟨by first | rfl | (simp [errW_none, errW_some] <;> rfl) | (simp [*, errW_none, errW_some] <;> rfl), by repeat (first | (with_reducible first | exact HI0.out | apply IsS95.alloc | apply IsS95.drewN | apply IsS95.drew | apply IsS95.set_0 | apply IsS95.set_2 | apply IsS95.set_4) | exact HI0.out), by repeat (first | (with_reducible first | exact HB.out | apply below_alloc | apply pw_below_drewN | apply below_drew1 | refine below_set ?_ (IsS95.ge HI0.out)) | exact HB.out), by repeat (first | (with_reducible first | exact HK.out | apply KeepBut.set_ | apply keep_drewN | apply keep_drew | apply keep_alloc) | exact HK.out)⟩
        ·rw [if_neg c9] at H
         have c9b0 : ((rd l1 ((rd_T58 s0_1 x8_1).f0)) == a2) = false := beq_eq_false_iff_ne.mpr c9
         have c9b1 : ((rd l1 ((rd_T58 s0_1 x8_1).f0)) != a2) = true := bne_iff_ne.mpr c9
         have H' := Aside0.mk H
         clear H
         obtain ⟨ASz11_1, cSz11_1, ASz11_3, cSz11_3, HGz11, hgz11, HSz11_1, HSz11_3⟩ := HI0.out
         have hcz11_0 := cellS95_0 HGz11
         have hcz11_1 := cellS95_1 HGz11
         have hcz11_2 := cellS95_2 HGz11
         have hcz11_3 := cellS95_3 HGz11
         have hcz11_4 := cellS95_4 HGz11
         have hfz11_0 := blk_frozen HGz11 0
         have hfz11_2 := blk_frozen HGz11 2
         have hfz11_4 := blk_frozen HGz11 4
         clear HGz11 hgz11
         have p219 : 0 ≤ (x8_1 : Int) := od_
         have q219 : x8_1 < (s0_1.length : Int) := od_
         obtain ⟨ad219, e219, hx219_0, hx219_1⟩ := at_T58 HSz11_1 x8_1 p219 q219
         cases e219
         replace hx219_0 := pw_cell_below HB.out hx219_0
         replace hx219_1 := pw_cell_below HB.out hx219_1
         replace p219 := eq_true p219
         replace q219 := eq_true q219
         have p220 : 0 ≤ (x8_1 : Int) := od_
         have q220 : x8_1 < (s0_1.length : Int) := od_
         obtain ⟨ad220, e220, hx220_0, hx220_1⟩ := at_T58 HSz11_1 x8_1 p220 q220
         obtain rfl : ad219 = ad220 := (by injection e220)
         replace hx220_0 := pw_cell_below HB.out hx220_0
         replace hx220_1 := pw_cell_below HB.out hx220_1
         replace p220 := eq_true p220
         replace q220 := eq_true q220
         have p221 : 0 ≤ (((rd_T58 s0_1 x8_1).f0) : Int) := od_
         have q221 : ((rd_T58 s0_1 x8_1).f0) < (l1.length : Int) := od_
         obtain ⟨ad221, e221, hx221_0⟩ := Kd.at_int HR1.out ((rd_T58 s0_1 x8_1).f0) p221 q221
         cases e221
         replace hx221_0 := keep_cell HK.out hx221_0 (by first | (rw [add_block]; exact hf1 _ rfl (by omega)) | exact hf1 _ rfl (by omega) | exact hf1 ad221 rfl (by omega))
         replace p221 := eq_true p221
         replace q221 := eq_true q221
         go_wp2
         go_roundg k1
         case measure => have := HK1.out; omega
         case rel => exact ⟨(wrap64 (x8_1 + 1)), (by first | rfl | (simp; done) | (simp [*]; done)), H', ⟨by have := HK1.out; omega⟩, ⟨by repeat (first | (with_reducible first | exact HI0.out | apply IsS95.alloc | apply IsS95.drewN | apply IsS95.drew | apply IsS95.set_0 | apply IsS95.set_2 | apply IsS95.set_4) | exact HI0.out)⟩, ⟨by repeat (first | (with_reducible first | exact HK.out | apply KeepBut.set_ | apply keep_drewN | apply keep_drew | apply keep_alloc) | exact HK.out)⟩, ⟨by repeat (first | (with_reducible first | exact HB.out | apply below_alloc | apply pw_below_drewN | apply below_drew1 | refine below_set ?_ (IsS95.ge HI0.out)) | exact HB.out)⟩⟩
       ·rw [if_neg c8] at H
        exact absurd H (by simp)
      ·rw [if_neg c7] at H
       exact absurd H (by simp)
     ·rw [if_neg c6] at H
      have c6b0 : (((rd_T58 s0_1 x8_1).f1) == (l1.length : Int)) = false := beq_eq_false_iff_ne.mpr c6
      have c6b1 : (((rd_T58 s0_1 x8_1).f1) != (l1.length : Int)) = true := bne_iff_ne.mpr c6
      have H' := Aside0.mk H
      clear H
      obtain ⟨ASz12_1, cSz12_1, ASz12_3, cSz12_3, HGz12, hgz12, HSz12_1, HSz12_3⟩ := HI0.out
      have hcz12_0 := cellS95_0 HGz12
      have hcz12_1 := cellS95_1 HGz12
      have hcz12_2 := cellS95_2 HGz12
      have hcz12_3 := cellS95_3 HGz12
      have hcz12_4 := cellS95_4 HGz12
      have hfz12_0 := blk_frozen HGz12 0
      have hfz12_2 := blk_frozen HGz12 2
      have hfz12_4 := blk_frozen HGz12 4
      clear HGz12 hgz12
      have p219 : 0 ≤ (x8_1 : Int) := od_
      have q219 : x8_1 < (s0_1.length : Int) := od_
      obtain ⟨ad219, e219, hx219_0, hx219_1⟩ := at_T58 HSz12_1 x8_1 p219 q219
      cases e219
      replace hx219_0 := pw_cell_below HB.out hx219_0
      replace hx219_1 := pw_cell_below HB.out hx219_1
      replace p219 := eq_true p219
      replace q219 := eq_true q219
      go_wp2
      go_roundg k1
      case measure => have := HK1.out; omega
      case rel => exact ⟨(wrap64 (x8_1 + 1)), (by first | rfl | (simp; done) | (simp [*]; done)), H', ⟨by have := HK1.out; omega⟩, ⟨by repeat (first | (with_reducible first | exact HI0.out | apply IsS95.alloc | apply IsS95.drewN | apply IsS95.drew | apply IsS95.set_0 | apply IsS95.set_2 | apply IsS95.set_4) | exact HI0.out)⟩, ⟨by repeat (first | (with_reducible first | exact HK.out | apply KeepBut.set_ | apply keep_drewN | apply keep_drew | apply keep_alloc) | exact HK.out)⟩, ⟨by repeat (first | (with_reducible first | exact HB.out | apply below_alloc | apply pw_below_drewN | apply below_drew1 | refine below_set ?_ (IsS95.ge HI0.out)) | exact HB.out)⟩⟩
    ·rw [if_neg c5] at H
     exact absurd H (by simp)
   ·rw [if_neg c4] at H
    have c4b0 : decide (x8_1 < (s0_1.length : Int)) = false := decide_eq_false c4
    clear c4
    simp only [Option.some.injEq, Prod.mk.injEq] at H
    obtain ⟨rfl, rfl, rfl, rfl⟩ := H
    obtain ⟨ASz13_1, cSz13_1, ASz13_3, cSz13_3, HGz13, hgz13, HSz13_1, HSz13_3⟩ := HI0.out
    have hcz13_0 := cellS95_0 HGz13
    have hcz13_1 := cellS95_1 HGz13
    have hcz13_2 := cellS95_2 HGz13
    have hcz13_3 := cellS95_3 HGz13
    have hcz13_4 := cellS95_4 HGz13
    have hfz13_0 := blk_frozen HGz13 0
    have hfz13_2 := blk_frozen HGz13 2
    have hfz13_4 := blk_frozen HGz13 4
    clear HGz13 hgz13
    go_wp2
    go_ret
    exact ⟨by first | rfl | (simp [errW_none, errW_some] <;> rfl) | (simp [*, errW_none, errW_some] <;> rfl), by repeat (first | (with_reducible first | exact HI0.out | apply IsS95.alloc | apply IsS95.drewN | apply IsS95.drew | apply IsS95.set_0 | apply IsS95.set_2 | apply IsS95.set_4) | exact HI0.out), by repeat (first | (with_reducible first | exact HB.out | apply below_alloc | apply pw_below_drewN | apply below_drew1 | refine below_set ?_ (IsS95.ge HI0.out)) | exact HB.out), by repeat (first | (with_reducible first | exact HK.out | apply KeepBut.set_ | apply keep_drewN | apply keep_drew | apply keep_alloc) | exact HK.out)⟩

end Go.Proofs.Ytcjkklkmlooinaa.Print
