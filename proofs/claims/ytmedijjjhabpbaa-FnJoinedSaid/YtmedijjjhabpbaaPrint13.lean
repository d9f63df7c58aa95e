-- Printed by a program of this session out of the translation; not trusted: Lean checks it.
-- SQUEEZED
import Derived.Test.YtmedijjjhabpbaaPrint0
import Derived.Test.YtmedijjjhabpbaaPrint5
import Derived.Test.YtmedijjjhabpbaaPrint12
import Derived.Test.YtmedijjjhabpbaaShDel
import Derived.Lib.OwnBridge
namespace Go.Proofs.Ytmedijjjhabpbaa.Print
open Go.RowKit Go.Proofs.YtmedijjjhabpbaaW.PrintWords Go.Proofs.YtmedijjjhabpbaaW.PrintLast Go.Proofs.YtmedijjjhabpbaaW.PrintMore
attribute [local go_sem] max2_int min2_int max_two min_two max_three min_three max_four min_four   -- for this text's walks alone
set_option linter.unusedVariables false
set_option linter.unusedSimpArgs false

-- imports: Derived.Test.YtmedijjjhabpbaaShDel
-- imports: Derived.Lib.OwnBridge
/-! ### impl_joinFirst: function 26 -/
mutual
def impl_joinFirst.l0 : Nat → List (List S49) → Int → Option (List (List S49) × Bool)
 | 0, _, _ => none
 | k + 1, xs, i => if i < (xs.length : Int) then impl_joinFirst.l1 k xs i (wrap64 (i + 1)) else some (xs, false)
def impl_joinFirst.l1 : Nat → List (List S49) → Int → Int → Option (List (List S49) × Bool)
 | 0, _, _, _ => none
 | k + 1, xs, i, c => if c < (xs.length : Int) then (if (0 ≤ i ∧ i < (xs.length : Int)) ∧ 0 ≤ c then ((impl_JoinTwo.f k (g_row xs i) (g_row xs c)).bind fun t => (if t.2 = 0 then some ((xs.set i.toNat t.1).eraseIdx c.toNat, true) else impl_joinFirst.l1 k xs i (wrap64 (c + 1)))) else none) else impl_joinFirst.l0 k xs (wrap64 (i + 1))
end
def impl_joinFirst.f (k : Nat) (xs : List (List S49)) : Option (List (List S49) × Bool) := impl_joinFirst.l0 k xs 0
theorem impl_joinFirst.mono_l : ∀ k, (∀ y0 y1, LeO (impl_joinFirst.l0 k y0 y1) (impl_joinFirst.l0 (k + 1) y0 y1)) ∧ (∀ y0 y1 y2, LeO (impl_joinFirst.l1 k y0 y1 y2) (impl_joinFirst.l1 (k + 1) y0 y1 y2))
 | 0 => ⟨fun _ _ r h => by simp [impl_joinFirst.l0] at h, fun _ _ _ r h => by simp [impl_joinFirst.l1] at h⟩
 | k + 1 => by
  obtain ⟨ih0, ih1⟩ := impl_joinFirst.mono_l k
  refine ⟨?_, ?_⟩
  · intro y0 y1
    unfold impl_joinFirst.l0
    repeat' first
    | exact ih1 _ _ _
    | exact LeO.refl _
    | exact LeO.none _
    | refine LeO.ite ?_ ?_
  · intro y0 y1 y2
    unfold impl_joinFirst.l1
    repeat' first
    | exact ih0 _ _
    | exact ih1 _ _ _
    | exact impl_JoinTwo.mono _ _ _
    | exact LeO.refl _
    | exact LeO.none _
    | refine LeO.ite ?_ ?_
    | refine LeO.bind ?_ (fun _ => ?_)
theorem impl_joinFirst.mono : ∀ a0 k, LeO (impl_joinFirst.f k a0) (impl_joinFirst.f (k + 1) a0) := fun a0 k => (impl_joinFirst.mono_l k).1 a0 0
set_option maxHeartbeats 8000000 in
/-- A row of the call's own is laid at place i of a row of rows. -/
theorem g_S_put {W : World} {base N g n cap : Nat} {v : Value} {x : List S49} {xs : List (List S49)} (h : Kd.S (Kd.slice 49 k49) 34 W base (fun k => True ∧ k < N) (.slice (some ⟨g, 0, none⟩) n cap) xs) (hr : Kd.R k49 49 W N (fun _ => True) v x) (hb : base ≤ N) (i : Int) (h0 : 0 ≤ i) (h1 : i < n) :
  Kd.S (Kd.slice 49 k49) 34 (W.setCell ⟨g, i.toNat, none⟩ v) base (fun _ => True) (.slice (some ⟨g, 0, none⟩) n cap) (xs.set i.toNat x) ∧ W.frozen? ⟨g, i.toNat, none⟩ = false ∧ base ≤ g := by
 have hgN : g < N := by
  obtain ⟨f, hok, _⟩ := h
  exact (hok g (by simp [Value.ownBlock])).2
 have hbN := Kd.R_base hr
 have h2 : Kd.S (Kd.slice 49 k49) 34 W base (fun k => True ∧ ¬ (some k = v.ownBlock)) (.slice (some ⟨g, 0, none⟩) n cap) xs := Kd.S_mono h (fun k hk => ⟨trivial, fun e => by have := hbN k e.symm; omega⟩)
 obtain ⟨oki, c, hcl, hM, hcc, hfr, hoki, hH⟩ := Kd.S_elem h2 ([] : List S49) i h0 h1
 have hcl : c.length = 1 := hcl
 obtain ⟨a, rfl⟩ := g_one hcl
 have hMx : (Kd.slice 49 k49).M W base (fun k => some k = v.ownBlock) x ([a].take 0 ++ [v] ++ [a].drop (0 + [v].length)) := Kd.M_row (Kd.R_tight rfl (Kd.R_lower hr hb))
 obtain ⟨q1, _⟩ := Kd.S_seg (okg := fun k => some k = v.ownBlock) (seg := [v]) (j := 0) hH h0 h1 (Nat.le_refl 1) hMx (fun k hk => .inr hk) (fun k hk => ⟨trivial, fun e => by have := hbN k hk.symm; omega⟩)
 have hf0 := hfr 0
 have e1 : i.toNat * (Kd.slice 49 k49).sz + 0 = i.toNat := Nat.mul_one _
 rw [e1] at q1 hf0
 exact ⟨q1, hf0, Kd.R_base (Kd.S_R h) g (by simp [Value.ownBlock])⟩
def g_encS (p : Option Addr × Nat × Nat) : Value := .slice p.1 p.2.1 p.2.2
theorem g_take1 {α : Type} (l : List α) (j : Nat) : (l.drop (j * 1)).take 1 = l[j]?.toList := by
 rw [Nat.mul_one]
 by_cases h : j < l.length
 · rw [List.drop_eq_getElem_cons h, List.getElem?_eq_getElem h]; rfl
 · rw [List.drop_of_length_le (by omega), List.getElem?_eq_none (by omega)]; rfl
theorem g_all_enc : ∀ (l : List Value), (∀ u ∈ l, ∃ p, u = g_encS p) → ∃ zs : List (Option Addr × Nat × Nat), l = zs.map g_encS
 | [], _ => ⟨[], rfl⟩
 | u :: l, h => by
  obtain ⟨p, e⟩ := h u (List.mem_cons_self ..)
  obtain ⟨zs, e2⟩ := g_all_enc l (fun x hx => h x (List.mem_cons_of_mem _ hx))
  exact ⟨p :: zs, by rw [e, e2]; rfl⟩
theorem g_put_other {enc : (Option Addr × Nat × Nat) → Value} {w : World} {g q : Nat} {d : Array (Option Addr × Nat × Nat)} {k : Nat} (h : k ≠ g) : (Go.Sort.putRow enc (Go.Sort.ahead w q) g 0 d).heap[k]? = w.heap[k]? := by
 have h2 : g ≠ k := fun e => h e.symm
 simp [Go.Sort.putRow, Go.Sort.mapBlock, Go.Sort.ahead, Array.getElem?_modify, h2]
set_option maxHeartbeats 8000000 in
set_option maxRecDepth 100000 in
/-- slices.Delete of one element: the rows that are left are still apart. -/
theorem g_del.calls (xs : List (List S49)) (g cap k : Nat) (w0 w : World) (hB : Below w0.heap.size w0 w) (hS : Kd.S (Kd.slice 49 k49) 34 w w0.heap.size (fun _ => True) (.slice (some ⟨g, 0, none⟩) xs.length cap) xs) (hk : k < xs.length) :
  Calls Try.prog 45 #[.slice (some ⟨g, 0, none⟩) xs.length cap, .int .i64 (k : Int), .int .i64 ((k + 1 : Nat) : Int)] w fun e w' => e = .returned (.slice (some ⟨g, 0, none⟩) (xs.length - 1) cap) ∧ Kd.S (Kd.slice 49 k49) 34 w' w0.heap.size (fun _ => True) (.slice (some ⟨g, 0, none⟩) (xs.length - 1) cap) (xs.eraseIdx k) ∧ Below w0.heap.size w0 w' := by
 obtain ⟨f, hok, inner, hown, hr⟩ := hS
 rw [List.length_zipIdx] at hown
 have hil : inner.length = xs.length := by have := hr.1; rw [List.length_zipIdx] at this; exact this.trans (Nat.mul_one _)
 have hall : ∀ u ∈ inner, ∃ p, u = g_encS p := by
  intro u hu
  obtain ⟨j, hj, e⟩ := List.mem_iff_getElem.1 hu
  have hjx : j < xs.length := by omega
  have hM := hr.2 j (xs[j], j) (by rw [List.getElem?_zipIdx, List.getElem?_eq_getElem hjx, Nat.zero_add]; rfl)
  obtain ⟨v, e1, hR⟩ := hM
  have e1 : (inner.drop (j * 1)).take 1 = [v] := e1
  rw [g_take1, List.getElem?_eq_getElem hj] at e1
  have e2 : inner[j] = v := by simpa using e1
  obtain ⟨A, c, e3⟩ := Kd.R_slice hR
  exact ⟨(A, _, c), by rw [← e, e2, e3]; rfl⟩
 obtain ⟨zs, rfl⟩ := g_all_enc inner hall
 rw [List.length_map] at hil
 have hown1 : w.ownsRow w0.heap.size 34 1 (.slice (some ⟨g, 0, none⟩) xs.length cap) xs.length (zs.map g_encS) := hown
 obtain ⟨g', cap', e2, hbg, hlt, hnc, hcm, hlen, hH⟩ := Lib.holds_of_ownsRow hown1 (by intro h; cases h)
 injection e2 with e2 _ e3
 injection e2 with e2
 injection e2 with e2
 subst e2
 subst e3
 obtain ⟨i0, hi0, hz0⟩ := Option.map_eq_some_iff.1 info34
 simp only [Prod.mk.injEq] at hz0
 have hmain := AnyE.slices_Delete Try.laysDel g_encS (fun _ => rfl) (none, 0, 0) Try.zeroValue34 i0 hi0 hz0.2.1 g 0 cap k (k + 1) zs.toArray w hH (by simp; omega) (by have : maxLen = 9223372036854775807 := rfl; omega) (by omega) (by simp; omega)
 have e5 : zs.toArray.size = xs.length := by simp; omega
 rw [e5] at hmain
 refine hmain.mono ?_
 rintro e w' ⟨rfl, q, rfl⟩
 have hn : xs.length - (k + 1 - k) = xs.length - 1 := by omega
 refine ⟨by rw [hn], ?_, Lib.below_putRow hB hbg⟩
 have hys : (zs.take k ++ zs.drop (k + 1) ++ List.replicate (k + 1 - k) ((none : Option Addr), 0, 0)).length = xs.length := by simp; omega
 have hown2 := Lib.ownsRow_putRow (q := q) (k := xs.length - 1) hown1 hys (by omega)
 have etk : (zs.take k ++ zs.drop (k + 1) ++ List.replicate (k + 1 - k) ((none : Option Addr), 0, 0)).take (xs.length - 1) = zs.eraseIdx k := by
  rw [List.take_append_of_le_length (by simp; omega), List.take_of_length_le (by simp; omega), List.eraseIdx_eq_take_drop_succ]
 rw [etk] at hown2
 refine Kd.S_erase (f := f) ⟨fun _ _ => trivial, (zs.eraseIdx k).map g_encS, ?_, ?_, fun j p hj => ?_⟩
 · rw [List.length_eraseIdx_of_lt (by rw [List.length_zipIdx]; exact hk), List.length_zipIdx]
   exact hown2
 · rw [List.length_map, List.length_eraseIdx_of_lt (by omega), List.length_eraseIdx_of_lt (by rw [List.length_zipIdx]; exact hk), List.length_zipIdx, hil]
   exact (Nat.mul_one _).symm
 · have hmv : ∀ j' : Nat, xs.zipIdx[j']? = some p → (zs.eraseIdx k)[j]? = zs[j']? → (Kd.tag f (Kd.slice 49 k49)).M (Go.Sort.putRow g_encS (Go.Sort.ahead w q) g 0 (zs.take k ++ zs.drop (k + 1) ++ List.replicate (k + 1 - k) ((none : Option Addr), 0, 0)).toArray) w0.heap.size (fun k_ => True ∧ some k_ ≠ (Value.slice (some ⟨g, 0, none⟩) (xs.length - 1) cap).ownBlock) p ((((zs.eraseIdx k).map g_encS).drop (j * (Kd.tag f (Kd.slice 49 k49)).sz)).take (Kd.tag f (Kd.slice 49 k49)).sz) := by
    intro j' hj' he
    have hM := hr.2 j' p hj'
    have ec : ((((zs.eraseIdx k).map g_encS).drop (j * (Kd.tag f (Kd.slice 49 k49)).sz)).take (Kd.tag f (Kd.slice 49 k49)).sz) = (((zs.map g_encS).drop (j' * (Kd.tag f (Kd.slice 49 k49)).sz)).take (Kd.tag f (Kd.slice 49 k49)).sz) := by
     show (((zs.eraseIdx k).map g_encS).drop (j * 1)).take 1 = ((zs.map g_encS).drop (j' * 1)).take 1
     rw [g_take1, g_take1, List.getElem?_map, List.getElem?_map, he]
    rw [ec]
    exact (Kd.tag f (Kd.slice 49 k49)).M_move (fun k_ hk_ => g_put_other (fun e => hk_.2 (by rw [e]; rfl))) hM
   rw [List.getElem?_eraseIdx] at hj
   by_cases hjk : j < k
   · rw [if_pos hjk] at hj
     exact hmv j hj (by rw [List.getElem?_eraseIdx, if_pos hjk])
   · rw [if_neg hjk] at hj
     exact hmv (j + 1) hj (by rw [List.getElem?_eraseIdx, if_neg hjk])
set_option maxHeartbeats 8000000 in
set_option maxRecDepth 100000 in
theorem impl_joinFirst.calls (k : Nat) (u : Value) (xs : List (List S49)) (r1 : List (List S49)) (r2 : Bool) (w0 w : World) (hB : Below w0.heap.size w0 w) (ho : Kd.S (Kd.slice 49 k49) 34 w w0.heap.size (fun _ => True) u xs) (h : impl_joinFirst.f k xs = some (r1, r2)) :
  Calls Try.prog 26 #[u] w fun e w' => ∃ v0_ : Value, e = .returned (.tuple #[v0_, .bool r2]) ∧ Kd.S (Kd.slice 49 k49) 34 w' w0.heap.size (fun _ => True) v0_ r1 ∧ Below w0.heap.size w0 w' := by
 obtain ⟨Ao, co, eu⟩ := Kd.S_slice ho
 subst eu
 have H' := Aside0.mk (show impl_joinFirst.l0 k xs 0 = some (r1, r2) from h)
 have HB := Aside0.mk hB
 have HO := Aside0.mk ho
 clear hB ho h
 go_enter Try.func26, Try.ntmps26
 go_wp2
 go_loopg [10] k (fun kq v10 w' => ∃ (i : Int), v10 = .int .i64 i ∧ Aside0 (impl_joinFirst.l0 kq xs i = some (r1, r2)) ∧ Aside0 (kq ≤ k) ∧ Aside0 (Kd.S (Kd.slice 49 k49) 34 w' w0.heap.size (fun _ => True) (.slice Ao xs.length co) xs) ∧ Aside0 (Below w0.heap.size w0 w'))
 case atStart => exact ⟨0, by first | rfl | (simp; done), H', ⟨Nat.le_refl _⟩, HO, HB⟩
 case round =>
  clear H' HO HB
  obtain ⟨i, rfl, HA, HK1, HO, HB⟩ := hrel
  cases gk with
  | zero => exact absurd HA.out (by simp [impl_joinFirst.l0])
  | succ k1 =>
   have H := HA.out
   clear HA
   simp only [impl_joinFirst.l0] at H
   by_cases c1 : i < (xs.length : Int)
   · rw [if_pos c1] at H
     have c1b : decide (i < (xs.length : Int)) = true := decide_eq_true c1
     have H' := Aside0.mk H
     clear H c1
     go_wp2
     go_loopg [5] k1 (fun kq v5 w' => ∃ (c : Int), v5 = .int .i64 c ∧ Aside0 (impl_joinFirst.l1 kq xs i c = some (r1, r2)) ∧ Aside0 (kq ≤ k1) ∧ Aside0 (Kd.S (Kd.slice 49 k49) 34 w' w0.heap.size (fun _ => True) (.slice Ao xs.length co) xs) ∧ Aside0 (Below w0.heap.size w0 w'))
     case atStart => exact ⟨_, by first | rfl | (simp; done), H', ⟨Nat.le_refl _⟩, HO, HB⟩
     case round =>
      clear H' HO HB c1b
      obtain ⟨c, rfl, HA, HK2, HO, HB⟩ := hrel
      cases gk with
      | zero => exact absurd HA.out (by simp [impl_joinFirst.l1])
      | succ k2 =>
       have H := HA.out
       clear HA
       simp only [impl_joinFirst.l1] at H
       by_cases c2 : c < (xs.length : Int)
       · rw [if_pos c2] at H
         have c2b : decide (c < (xs.length : Int)) = true := decide_eq_true c2
         by_cases c3 : (0 ≤ i ∧ i < (xs.length : Int)) ∧ 0 ≤ c
         · rw [if_pos c3] at H
           obtain ⟨⟨j1, j2⟩, ht, H⟩ := Option.bind_eq_some_iff.mp H
           dsimp only at H
           obtain ⟨⟨i0, i1⟩, q0⟩ := c3
           obtain ⟨g, cap, eg, hgb, hgl, _⟩ := Kd.S_form HO.out (by omega)
           injection eg with eg _ eg2
           subst eg
           subst eg2
           obtain ⟨ad1, A1, cc1, ea1, hi, li, Ci⟩ := g_atL (Kd.S_reads' HO.out).2.2 i i0 i1
           cases ea1
           obtain ⟨ad2, A2, cc2, ea2, hc, lc, Cc⟩ := g_atL (Kd.S_reads' HO.out).2.2 c q0 c2
           cases ea2
           rw [g_at0] at hi hc
           have HI := Aside0.mk hi
           have HC := Aside0.mk hc
           have LI := Aside0.mk li
           have LC := Aside0.mk lc
           have CI := Aside0.mk Ci
           have CC := Aside0.mk Cc
           have HT := Aside0.mk ht
           have I0 := Aside0.mk (And.intro i0 i1)
           have Q0 := Aside0.mk (And.intro q0 c2)
           have i0t := eq_true i0
           have i1t := eq_true i1
           have q0t := eq_true q0
           have c2t := eq_true c2
           clear hi hc li lc Ci Cc ht i0 i1 q0 c2 hgb hgl
           go_wp2
           refine start_ (n := 14) (S := fun w' => w'.cell? ⟨g, i.toNat, none⟩ = some (.slice A1 (g_row xs i).length cc1) ∧ w'.cell? ⟨g, c.toNat, none⟩ = some (.slice A2 (g_row xs c).length cc2)) (ds := []) #[false, false, false, false, false, false, false, false, false, false, false, false, false, false] (by kernel_rfl) rfl rfl ⟨(show wr.drew.cell? _ = _ from HI.out), (show wr.drew.cell? _ = _ from HC.out)⟩ (fun hHeld => ?_)
           refine pure_ (i := 0) (N := some 22) (v := ?_) (a' := ?_) #[true, false, false, false, false, false, false, false, false, false, false, false, false, false] rfl rfl (by kernel_rfl) (fun _ _ _ h => h) (Or.inl ⟨by rfl, ?_⟩) ?_ ?_
           rotate_left
           · intro w'
             go_simp
             with_reducible rfl
           rotate_left
           · simp only [Act.put, List.setIfInBounds_toArray, List.set_cons_zero, List.set_cons_succ, i64_w, i32_w]
             rfl
           refine pure_ (i := 1) (N := some 23) (v := ?_) (a' := ?_) #[true, true, false, false, false, false, false, false, false, false, false, false, false, false] rfl rfl (by kernel_rfl) (fun _ _ _ h => h) (Or.inl ⟨by rfl, ?_⟩) ?_ ?_
           rotate_left
           · intro w'
             go_simp
             with_reducible rfl
           rotate_left
           · simp only [Act.put, List.setIfInBounds_toArray, List.set_cons_zero, List.set_cons_succ, i64_w, i32_w]
             rfl
           refine pure_ (i := 2) (N := some 24) (v := ?_) (a' := ?_) #[true, true, true, false, false, false, false, false, false, false, false, false, false, false] rfl rfl (by kernel_rfl) (fun _ _ _ h => h) (Or.inl ⟨by rfl, ?_⟩) ?_ ?_
           rotate_left
           · intro w'
             go_simp
             with_reducible rfl
           rotate_left
           · simp only [Act.put, List.setIfInBounds_toArray, List.set_cons_zero, List.set_cons_succ, i64_w, i32_w]
             rfl
           refine pure_ (i := 4) (N := some 26) (v := ?_) (a' := ?_) #[true, true, true, false, true, false, false, false, false, false, false, false, false, false] rfl rfl (by kernel_rfl) (fun _ _ _ h => h) (Or.inl ⟨by rfl, ?_⟩) ?_ ?_
           rotate_left
           · intro w'
             go_simp
             with_reducible rfl
           rotate_left
           · simp only [Act.put, List.setIfInBounds_toArray, List.set_cons_zero, List.set_cons_succ, i64_w, i32_w]
             rfl
           refine pure_ (i := 5) (N := some 27) (v := ?_) (a' := ?_) #[true, true, true, false, true, true, false, false, false, false, false, false, false, false] rfl rfl (by kernel_rfl) (fun _ _ _ h => h) (Or.inl ⟨by rfl, ?_⟩) ?_ ?_
           rotate_left
           · intro w'
             go_simp
             with_reducible rfl
           rotate_left
           · simp only [Act.put, List.setIfInBounds_toArray, List.set_cons_zero, List.set_cons_succ, i64_w, i32_w]
             rfl
           refine pure_ (i := 6) (N := some 28) (v := ?_) (a' := ?_) #[true, true, true, false, true, true, true, false, false, false, false, false, false, false] rfl rfl (by kernel_rfl) (fun _ _ _ h => h) (Or.inl ⟨by rfl, ?_⟩) ?_ ?_
           rotate_left
           · intro w'
             go_simp
             with_reducible rfl
           rotate_left
           · simp only [Act.put, List.setIfInBounds_toArray, List.set_cons_zero, List.set_cons_succ, i64_w, i32_w]
             rfl
           refine take_ (i := 3) (N := some 25) (v := ?_) (a' := ?_) #[true, true, true, true, true, true, true, false, false, false, false, false, false, false] rfl rfl (by kernel_rfl) (fun _ _ _ h => h) (Or.inl ⟨by rfl, ?_⟩) hHeld ?_ ?_
           rotate_left
           · rintro w' ⟨s0, s1⟩
             go_simp
             with_reducible rfl
           rotate_left
           · simp only [Act.put, List.setIfInBounds_toArray, List.set_cons_zero, List.set_cons_succ, i64_w, i32_w]
             rfl
           refine take_ (i := 7) (N := some 29) (v := ?_) (a' := ?_) #[true, true, true, true, true, true, true, true, false, false, false, false, false, false] rfl rfl (by kernel_rfl) (fun _ _ _ h => h) (Or.inl ⟨by rfl, ?_⟩) hHeld ?_ ?_
           rotate_left
           · rintro w' ⟨s0, s1⟩
             go_simp
             with_reducible rfl
           rotate_left
           · simp only [Act.put, List.setIfInBounds_toArray, List.set_cons_zero, List.set_cons_succ, i64_w, i32_w]
             rfl
           refine one_ (i := 8) (N := some 30) #[true, true, true, true, true, true, true, true, true, false, false, false, false, false] rfl rfl (by kernel_rfl) (by decide) (fun K hK => ?_)
           refine goes_ Try.func15 (by kernel_rfl) rfl #[.slice A1 (g_row xs i).length cc1, .slice A2 (g_row xs c).length cc2] (by rfl) rfl rfl (by simp only [List.map_toArray, List.map_cons, List.map_nil]; rfl) ?_
           with_reducible refine (impl_JoinTwo.calls k2 _ _ (g_row xs i) _ _ (g_row xs c) j1 j2 _ (Kd.C_drew CI.out) LI.out (Kd.C_drew CC.out) LC.out HT.out).mono ?_
           rintro e w5 ⟨v5, rfl, hr5, hb5⟩
           refine ⟨_, rfl, ?_⟩
           have HR5 := Aside0.mk (show Kd.R k49 49 w5 wr.heap.size (fun _ => True) v5 j1 from hr5)
           have HB5 := Aside0.mk (show Below wr.heap.size wr w5 from below_step (below_drew1 (Below.refl wr.heap.size wr)) hb5)
           clear hr5 hb5
           refine hK.out _ _ ⟨((Below.cell HB5.out (World.block_lt_of_cell? wr _ HI.out)).trans HI.out), ((Below.cell HB5.out (World.block_lt_of_cell? wr _ HC.out)).trans HC.out)⟩ (fun hHeld => ?_)
           clear hK K
           refine norm_ (a' := ?_) ?_ ?_
           rotate_left
           · show Act.put _ (some 30) _ = _
             simp only [Act.put, List.setIfInBounds_toArray, List.set_cons_zero, List.set_cons_succ, i64_w, i32_w]
             rfl
           refine pure_ (i := 9) (N := some 21) (v := ?_) (a' := ?_) #[true, true, true, true, true, true, true, true, true, true, false, false, false, false] rfl rfl (by kernel_rfl) (fun _ _ _ h => h) (Or.inl ⟨by rfl, ?_⟩) ?_ ?_
           rotate_left
           · intro w'
             go_simp
             with_reducible rfl
           rotate_left
           · simp only [Act.put, List.setIfInBounds_toArray, List.set_cons_zero, List.set_cons_succ, i64_w, i32_w]
             rfl
           refine pure_ (i := 10) (N := some 31) (v := ?_) (a' := ?_) #[true, true, true, true, true, true, true, true, true, true, true, false, false, false] rfl rfl (by kernel_rfl) (fun _ _ _ h => h) (Or.inl ⟨by rfl, ?_⟩) ?_ ?_
           rotate_left
           · intro w'
             go_simp
             with_reducible rfl
           rotate_left
           · simp only [Act.put, List.setIfInBounds_toArray, List.set_cons_zero, List.set_cons_succ, i64_w, i32_w]
             rfl
           refine pure_ (i := 11) (N := some 32) (v := ?_) (a' := ?_) #[true, true, true, true, true, true, true, true, true, true, true, true, false, false] rfl rfl (by kernel_rfl) (fun _ _ _ h => h) (Or.inl ⟨by rfl, ?_⟩) ?_ ?_
           rotate_left
           · intro w'
             go_simp
             with_reducible rfl
           rotate_left
           · simp only [Act.put, List.setIfInBounds_toArray, List.set_cons_zero, List.set_cons_succ, i64_w, i32_w]
             rfl
           refine pure_ (i := 12) (N := some 6) (v := ?_) (a' := ?_) #[true, true, true, true, true, true, true, true, true, true, true, true, true, false] rfl rfl (by kernel_rfl) (fun _ _ _ h => h) (Or.inl ⟨by rfl, ?_⟩) ?_ ?_
           rotate_left
           · intro w'
             go_simp
             with_reducible rfl
           rotate_left
           · simp only [Act.put, List.setIfInBounds_toArray, List.set_cons_zero, List.set_cons_succ, i64_w, i32_w]
             rfl
           refine pure_ (i := 13) (N := some 7) (v := ?_) (a' := ?_) #[true, true, true, true, true, true, true, true, true, true, true, true, true, true] rfl rfl (by kernel_rfl) (fun _ _ _ h => h) (Or.inl ⟨by rfl, ?_⟩) ?_ ?_
           rotate_left
           · intro w'
             go_simp
             with_reducible rfl
           rotate_left
           · simp only [Act.put, List.setIfInBounds_toArray, List.set_cons_zero, List.set_cons_succ, i64_w, i32_w]
             rfl
           refine done_ (by kernel_rfl) ?_
           obtain ⟨A5, c5_, e5⟩ := Kd.R_slice HR5.out
           subst e5
           by_cases c5 : j2 = 0
           · rw [if_pos c5] at H
             cases H
             have c5b : (j2 == 0) = true := beq_iff_eq.mpr c5
             have hP := g_S_put (Kd.S_old HO.out HB5.out) HR5.out HB.out.size i I0.out.1 I0.out.2
             have hcs : w5.cell? ⟨g, i.toNat, none⟩ = some (.slice A1 (g_row xs i).length cc1) := ((Below.cell HB5.out (World.block_lt_of_cell? wr _ HI.out)).trans HI.out)
             have hfs := hP.2.1
             have HS6 := Aside0.mk hP.1
             have HB6 := Aside0.mk (show Below w0.heap.size w0 (w5.setCell ⟨g, i.toNat, none⟩ (.slice A5 j1.length c5_)) from below_set (below_step HB.out HB5.out) hP.2.2)
             have hdel := g_del.calls (xs.set i.toNat j1) g co c.toNat w0 _ HB6.out (by rw [List.length_set]; exact HS6.out) (by rw [List.length_set]; exact g_nat_lt c _ Q0.out.1 Q0.out.2)
             have hw := g_nat_succ c xs.length Q0.out.1 Q0.out.2 (Kd.S_reads' HO.out).2.2.2.1
             rw [List.length_set, hw, g_nat_eq c Q0.out.1] at hdel
             have HD := Aside0.mk hdel
             clear hP hdel hw c5
             go_wp2_with (first | (go_at_call 45; refine HD.out.mono ?_; rintro e w8 ⟨rfl, hs8, hb8⟩; have HS8 := Aside0.mk hs8; have HB8 := Aside0.mk hb8; clear hs8 hb8))
             go_ret2
             exact ⟨_, rfl, HS8.out, HB8.out⟩
           · rw [if_neg c5] at H
             have c5b : (j2 == 0) = false := beq_eq_false_iff_ne.mpr c5
             have H' := Aside0.mk H
             clear H c5
             go_wp2
             go_roundg k2
             case measure => have := HK1.out; have := HK2.out; omega
             case rel => exact ⟨wrap64 (c + 1), by first | rfl | (simp; done), H', ⟨by have := HK2.out; omega⟩, ⟨Kd.S_below HO.out HB5.out⟩, ⟨below_step HB.out HB5.out⟩⟩
         · rw [if_neg c3] at H
           cases H
       · rw [if_neg c2] at H
         have c2b : decide (c < (xs.length : Int)) = false := decide_eq_false c2
         have H' := Aside0.mk H
         clear H c2
         go_wp2
         go_roundg k2
         case measure => have := HK1.out; have := HK2.out; omega
         case rel => exact ⟨wrap64 (i + 1), by first | rfl | (simp; done), H', ⟨by have := HK1.out; have := HK2.out; omega⟩, HO, HB⟩
   · rw [if_neg c1] at H
     have c1b : decide (i < (xs.length : Int)) = false := decide_eq_false c1
     clear c1
     cases H
     go_wp2
     go_ret2
     exact ⟨_, rfl, HO.out, HB.out⟩

end Go.Proofs.Ytmedijjjhabpbaa.Print
