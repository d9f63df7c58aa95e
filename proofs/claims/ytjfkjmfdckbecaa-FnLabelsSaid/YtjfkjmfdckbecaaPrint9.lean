-- Printed by a program of this session out of the translation; not trusted: Lean checks it.
import Derived.Test.YtjfkjmfdckbecaaPrint0
import Derived.Test.YtjfkjmfdckbecaaPrint5
import Derived.Test.YtjfkjmfdckbecaaPrint7
import Derived.Test.YtjfkjmfdckbecaaShIns
import Derived.Lib.OwnBridge
namespace Go.Proofs.Ytjfkjmfdckbecaa.Print
open Go.RowKit Go.Proofs.YtjfkjmfdckbecaaW.PrintWords Go.Proofs.YtjfkjmfdckbecaaW.PrintLast Go.Proofs.YtjfkjmfdckbecaaW.PrintMore
attribute [local go_sem] max2_int min2_int max_two min_two max_three min_three max_four min_four   -- for this text's walks alone
set_option linter.unusedVariables false
set_option linter.unusedSimpArgs false

-- imports: Derived.Test.YtjfkjmfdckbecaaShIns
-- imports: Derived.Lib.OwnBridge
/-! ### impl_GreedyPlaces: function 9 -/
def g_clamp (n : Nat) (x : Int) : Int := if 0 ≤ x ∧ x < (n : Int) then x else 0
def g_cmpW (l0 : List S36) (x y : Int) : Int := wrap64 ((rd_T36 l0 (g_clamp l0.length y)).f3 - (rd_T36 l0 (g_clamp l0.length x)).f3)
def g_sortW (l0 : List S36) (y : List Int) : List Int := ((Go.Sort.insertionSort (ltOf (g_cmpW l0)) y.toArray 0 y.length).toList).map (g_clamp l0.length)
def g_up (n : Nat) : List Int := (List.range n).map (fun (j : Nat) => (j : Int))
mutual
def impl_GreedyPlaces.l2 : Nat → List S36 → List Int → List Int → Int → Option (List Int)
 | 0, _, _, _, _ => none
 | k + 1, l0, y, xp, j => if j < (y.length : Int) then (if 0 ≤ j then (if 0 ≤ rd y j then (if rd y j < (l0.length : Int) then impl_GreedyPlaces.l3 k l0 y xp j 0 else none) else none) else none) else some xp
def impl_GreedyPlaces.l3 : Nat → List S36 → List Int → List Int → Int → Int → Option (List Int)
 | 0, _, _, _, _, _ => none
 | k + 1, l0, y, xp, j, c => if c < ((rd_T36 l0 (rd y j)).f2.length : Int) then ((impl_overlaps.f k l0 xp (rd y j) c).bind fun t => (if t = true then impl_GreedyPlaces.l3 k l0 y xp j (wrap64 (c + 1)) else (if 0 ≤ rd y j then (if rd y j < (xp.length : Int) then impl_GreedyPlaces.l2 k l0 y (xp.set (rd y j).toNat c) (wrap64 (j + 1)) else none) else none))) else impl_GreedyPlaces.l2 k l0 y xp (wrap64 (j + 1))
end
def impl_GreedyPlaces.f (k : Nat) (l0 : List S36) : Option (List Int × Int) := (impl_ValidLabels.f k l0).bind fun t => (if t = true then (if l0.length < 20 then ((impl_GreedyPlaces.l2 k l0 (g_sortW l0 (g_up l0.length)) (List.replicate l0.length (-1)) 0).bind fun xp => some (xp, 0)) else none) else some ([], 1))
theorem impl_GreedyPlaces.mono_l : ∀ k, (∀ y0 y1 y2 y3, LeO (impl_GreedyPlaces.l2 k y0 y1 y2 y3) (impl_GreedyPlaces.l2 (k + 1) y0 y1 y2 y3)) ∧ (∀ y0 y1 y2 y3 y4, LeO (impl_GreedyPlaces.l3 k y0 y1 y2 y3 y4) (impl_GreedyPlaces.l3 (k + 1) y0 y1 y2 y3 y4))
 | 0 => ⟨fun _ _ _ _ r h => by simp [impl_GreedyPlaces.l2] at h, fun _ _ _ _ _ r h => by simp [impl_GreedyPlaces.l3] at h⟩
 | k + 1 => by
  obtain ⟨ih0, ih1⟩ := impl_GreedyPlaces.mono_l k
  refine ⟨?_, ?_⟩
  · intro y0 y1 y2 y3
    unfold impl_GreedyPlaces.l2
    repeat' first
    | exact ih1 _ _ _ _ _
    | exact LeO.refl _
    | exact LeO.none _
    | refine LeO.ite ?_ ?_
  · intro y0 y1 y2 y3 y4
    unfold impl_GreedyPlaces.l3
    repeat' first
    | exact ih0 _ _ _ _
    | exact ih1 _ _ _ _ _
    | exact impl_overlaps.mono _ _ _ _ _
    | exact LeO.refl _
    | exact LeO.none _
    | refine LeO.ite ?_ ?_
    | refine LeO.bind ?_ (fun _ => ?_)
theorem impl_GreedyPlaces.mono : ∀ a0 k, LeO (impl_GreedyPlaces.f k a0) (impl_GreedyPlaces.f (k + 1) a0) := by
 intro a0 k
 unfold impl_GreedyPlaces.f
 repeat' first
 | exact (impl_GreedyPlaces.mono_l k).1 _ _ _ _
 | exact impl_ValidLabels.mono _ _
 | exact LeO.refl _
 | exact LeO.none _
 | refine LeO.ite ?_ ?_
 | refine LeO.bind ?_ (fun _ => ?_)
set_option maxHeartbeats 8000000 in
theorem g_insInner_size (lt : Int → Int → Bool) (a : Nat) : ∀ (j : Nat) (d : Array Int), (Go.Sort.insInner lt a j d).size = d.size := by
 intro j
 induction j with
 | zero => intro d; rfl
 | succ j ih =>
  intro d
  unfold Go.Sort.insInner
  split
  · rw [ih]; simp [Go.Sort.swp]
  · rfl
theorem g_insOuter_size (lt : Int → Int → Bool) (a b : Nat) : ∀ (m i : Nat) (d : Array Int), b - i = m → (Go.Sort.insOuter lt a b i d).size = d.size := by
 intro m
 induction m with
 | zero =>
  intro i d h
  unfold Go.Sort.insOuter
  rw [if_neg (by omega)]
 | succ m ih =>
  intro i d h
  unfold Go.Sort.insOuter
  rw [if_pos (by omega), ih (i + 1) _ (by omega), g_insInner_size]
theorem g_insSize (lt : Int → Int → Bool) (d : Array Int) (a b : Nat) : (Go.Sort.insertionSort lt d a b).size = d.size := g_insOuter_size lt a b _ _ d rfl
theorem g_clamp_in {n : Nat} (hn : 0 < n) (x : Int) : 0 ≤ g_clamp n x ∧ g_clamp n x < (n : Int) := by
 unfold g_clamp
 split
 · assumption
 · omega
theorem g_clamp_id {n : Nat} {x : Int} (h : 0 ≤ x ∧ x < (n : Int)) : g_clamp n x = x := by unfold g_clamp; rw [if_pos h]
def g_encN (n : Nat) (x : Int) : Value := .int .i64 (g_clamp n x)
set_option maxHeartbeats 8000000 in
set_option maxRecDepth 100000 in
theorem g_cl.calls (x y : Int) (pa : Addr) (A0 : Option Addr) (c0 : Nat) (l0 : List S36) (W : World) (hp : W.cell? pa = some (.slice A0 l0.length c0)) (hr0 : Kd.C k36 W A0 l0.length l0) (x0 : 0 ≤ x) (x1 : x < (l0.length : Int)) (y0 : 0 ≤ y) (y1 : y < (l0.length : Int)) :
  Calls Try.prog 33 #[.int .i64 x, .int .i64 y, .pointer (some pa)] W fun e w' => e = .returned (.int .i64 (wrap64 ((rd_T36 l0 y).f3 - (rd_T36 l0 x).f3))) ∧ ∃ q, w' = W.drewN q := by
 have hu := Try.underlying36
 obtain ⟨ad, A2, c2, e, hx0, hx1, hx2, hx3, hl, hC⟩ := at_T36 hr0 x x0 x1
 cases e
 obtain ⟨ad2, A3, c3, e, hy0, hy1, hy2, hy3, hl2, hC2⟩ := at_T36 hr0 y y0 y1
 cases e
 clear hx0 hx1 hx2 hy0 hy1 hy2 hC hC2 hl hl2 hr0
 replace x0 := eq_true x0
 replace x1 := eq_true x1
 replace y0 := eq_true y0
 replace y1 := eq_true y1
 go_enter Try.func33, Try.ntmps33
 go_wp2
 repeat (go_quiet (fail); try go_wp2)
 go_ret
 exact ⟨rfl, by first | exact ⟨_, rfl⟩ | exact ⟨_, World.drewN_drewN _ _ _⟩⟩
theorem g_cmpReads (pa : Addr) (A0 : Option Addr) (c0 : Nat) (l0 : List S36) (w0 W : World) (blk size : Nat) (hB : Below w0.heap.size w0 W) (hb : w0.heap.size ≤ blk) (hbl : blk < W.heap.size) (hpb : pa.block ≠ blk) (hp : W.cell? pa = some (.slice A0 l0.length c0)) (hr0 : Kd.C k36 w0 A0 l0.length l0) (hn : 0 < l0.length) :
  CmpReads Try.prog 33 #[.pointer (some pa)] (g_encN l0.length) (g_cmpW l0) blk 0 size W := by
 intro m os dk hs x y
 obtain ⟨x0, x1⟩ := g_clamp_in hn x
 obtain ⟨y0, y1⟩ := g_clamp_in hn y
 have hB2 : Below w0.heap.size w0 (sortWorld (g_encN l0.length) W blk 0 m dk os) := by
  have h1 := Lib.below_putRow (enc := g_encN l0.length) (q := m) (d := dk) hB hb
  exact ⟨h1.os, h1.tape, h1.output, by have := h1.size; unfold sortWorld; rw [Go.Sort.size_grow]; omega, fun k hk => by unfold sortWorld; rw [Go.Sort.heap_grow_old _ os (by have := h1.size; omega)]; exact h1.block k hk⟩
 have hp2 : (sortWorld (g_encN l0.length) W blk 0 m dk os).cell? pa = some (.slice A0 l0.length c0) := by
  have hlt := World.block_lt_of_cell? W _ hp
  unfold sortWorld
  rw [Go.Sort.cell?_grow _ os pa (by rw [Go.Sort.size_putRow]; exact hlt), Go.Sort.cell?_putRow_other _ _ _ _ _ _ (.inl hpb)]
  exact hp
 exact g_cl.calls (g_clamp l0.length x) (g_clamp l0.length y) pa A0 c0 l0 _ hp2 (Kd.C_below hr0 hB2) x0 x1 y0 y1
theorem g_sort_one (base : Nat) (y : List Int) (pa : Addr) (A0 : Option Addr) (c0 : Nat) (l0 : List S36) (w0 W : World) (g cap : Nat) (hown : W.ownsRow base 3 1 (.slice (some ⟨g, 0, none⟩) y.length cap) y.length (y.map (Value.int .i64))) (hbase : w0.heap.size ≤ base) (hB : Below w0.heap.size w0 W) (hp : W.cell? pa = some (.slice A0 l0.length c0)) (hpb : pa.block ≠ g) (hr0 : Kd.C k36 w0 A0 l0.length l0) (hy : ∀ x ∈ y, 0 ≤ x ∧ x < (l0.length : Int)) (hn : 0 < l0.length) (hl : y.length < 4611686018427387904) :
  Calls Try.prog 60 #[.slice (some ⟨g, 0, none⟩) y.length cap, .int .i64 0, .int .i64 y.length, .func (.func 33) #[] #[.pointer (some pa)]] W fun e w' => e = .returned (.tuple #[]) ∧ w'.ownsRow base 3 1 (.slice (some ⟨g, 0, none⟩) y.length cap) y.length ((g_sortW l0 y).map (Value.int .i64)) ∧ Below base W w' ∧ W.grownBy w' (some g) := by
 have e1 : y.map (Value.int .i64) = y.map (g_encN l0.length) := List.map_congr_left fun x hx => by unfold g_encN; rw [g_clamp_id (hy x hx)]
 rw [e1] at hown
 obtain ⟨g', cap', e2, hbg, hlt, hnc, hcm, hlen, hH⟩ := Lib.holds_of_ownsRow (zs := y) hown (by intro h; cases h)
 cases e2
 have hcr := g_cmpReads pa A0 c0 l0 w0 W g y.toArray.size hB (Nat.le_trans hbase hbg) hlt hpb hp hr0 hn
 have h := Any.insertionSortCmpFunc_one Try.laysIns (g_encN l0.length) (fun _ => rfl) (g_cmpW l0) 33 #[.pointer (some pa)] g 0 cap 0 y.length y.toArray W (fun _ _ => by simp [callFunc]; rfl) hcr hH (Nat.zero_le _) (by simp) (by simpa using hl)
 rw [show y.toArray.size = y.length by simp] at h
 refine Calls.mono h ?_
 rintro e w' ⟨rfl, q, rfl⟩
 have hsz : (Go.Sort.insertionSort (ltOf (g_cmpW l0)) y.toArray 0 y.length).toList.length = y.length := by rw [Array.length_toList, g_insSize]; simp
 have h1 := Lib.ownsRow_putRow (q := q) (k := y.length) (ys := (Go.Sort.insertionSort (ltOf (g_cmpW l0)) y.toArray 0 y.length).toList) hown hsz (Nat.le_refl _)
 rw [List.take_of_length_le (Nat.le_of_eq hsz), Array.toArray_toList] at h1
 refine ⟨rfl, ?_, ?_, ?_⟩
 · unfold g_sortW
   rw [List.map_map]
   exact h1
 · have := Lib.below_putRow (enc := g_encN l0.length) (q := q) (d := Go.Sort.insertionSort (ltOf (g_cmpW l0)) y.toArray 0 y.length) (Below.refl base W) hbg
   exact this
 · refine ⟨rfl, rfl, rfl, by simp [Go.Sort.putRow, Go.Sort.mapBlock], fun k hk hne => ?_⟩
   have : g ≠ k := fun e => hne (by rw [e])
   show (Go.Sort.putRow _ W g 0 _).heap[k]? = _
   simp [Go.Sort.putRow, Go.Sort.mapBlock, Array.getElem?_modify, this]
theorem g_sortW_nil (l0 : List S36) : g_sortW l0 [] = [] := by
 unfold g_sortW Go.Sort.insertionSort Go.Sort.insOuter
 simp
set_option maxHeartbeats 8000000 in
set_option maxRecDepth 100000 in
theorem g_sort_nil (A : Option Addr) (c : Nat) (pa : Addr) (W : World) :
  Calls Try.prog 60 #[.slice A 0 c, .int .i64 0, .int .i64 0, .func (.func 33) #[] #[.pointer (some pa)]] W fun e w' => e = .returned (.tuple #[]) ∧ w' = W := by
 go_enter Try.func60, Try.ntmps60
 go_wp2
 go_loopg [8] 0 (fun d v8 w' => v8 = .int .i64 1 ∧ w' = W)
 case atStart => exact ⟨rfl, rfl⟩
 case round =>
  obtain ⟨rfl, rfl⟩ := hrel
  go_wp2
  go_end0
  exact ⟨rfl, rfl⟩
theorem g_sort_any (base : Nat) (v : Value) (y : List Int) (pa : Addr) (A0 : Option Addr) (c0 : Nat) (l0 : List S36) (w0 W : World) (hR : Kd.R (Kd.int .i64) 3 W base (fun _ => True) v y) (hbase : w0.heap.size ≤ base) (hB : Below w0.heap.size w0 W) (hp : W.cell? pa = some (.slice A0 l0.length c0)) (hpb : ∀ k, v.ownBlock = some k → pa.block ≠ k) (hr0 : Kd.C k36 w0 A0 l0.length l0) (hy : ∀ x ∈ y, 0 ≤ x ∧ x < (l0.length : Int)) (hl : y.length < 4611686018427387904) :
  Calls Try.prog 60 #[v, .int .i64 0, .int .i64 y.length, .func (.func 33) #[] #[.pointer (some pa)]] W fun e w' => e = .returned (.tuple #[]) ∧ Kd.R (Kd.int .i64) 3 w' base (fun _ => True) v (g_sortW l0 y) ∧ Below base W w' ∧ W.grownBy w' v.ownBlock := by
 by_cases hn : y = []
 · subst hn
   obtain ⟨A, c, e⟩ := Kd.R_slice hR
   subst e
   refine (g_sort_nil A c pa W).mono ?_
   rintro e w' ⟨rfl, rfl⟩
   rw [g_sortW_nil]
   exact ⟨rfl, hR, Below.refl _ _, World.grownBy.refl _ _⟩
 · have hpos : 0 < y.length := List.length_pos_iff.2 hn
   obtain ⟨g, cap, e, _⟩ := Kd.R_form hR hpos
   subst e
   have hln : 0 < l0.length := by
    obtain ⟨x, hx⟩ := List.exists_mem_of_ne_nil y hn
    have := hy x hx
    omega
   have hown := Kd.own_of_R (enc := Value.int .i64) (h1 := fun _ => rfl) hR
   refine (g_sort_one base y pa A0 c0 l0 w0 W g cap hown hbase hB hp (hpb g rfl) hr0 hy hln hl).mono ?_
   rintro e w' ⟨rfl, h1, h2, h3⟩
   have hsl : (g_sortW l0 y).length = y.length := by unfold g_sortW; rw [List.length_map, Array.length_toList, g_insSize]; simp
   exact ⟨rfl, Kd.R_of_own (enc := Value.int .i64) (h1 := fun _ => rfl) (by rw [hsl]; exact h1) (fun _ _ => trivial), h2, h3⟩
set_option maxHeartbeats 8000000 in
set_option maxRecDepth 100000 in
theorem g_stable.calls (base : Nat) (v : Value) (y : List Int) (pa : Addr) (A0 : Option Addr) (c0 : Nat) (l0 : List S36) (w0 W : World) (hR : Kd.R (Kd.int .i64) 3 W base (fun _ => True) v y) (hbase : w0.heap.size ≤ base) (hB : Below w0.heap.size w0 W) (hp : W.cell? pa = some (.slice A0 l0.length c0)) (hpb : ∀ k, v.ownBlock = some k → pa.block ≠ k) (hr0 : Kd.C k36 w0 A0 l0.length l0) (hy : ∀ x ∈ y, 0 ≤ x ∧ x < (l0.length : Int)) (hl : y.length < 20) :
  Calls Try.prog 32 #[v, .func (.func 33) #[] #[.pointer (some pa)]] W fun e w' => e = .returned (.tuple #[]) ∧ Kd.R (Kd.int .i64) 3 w' base (fun _ => True) v (g_sortW l0 y) ∧ Below base W w' ∧ W.grownBy w' v.ownBlock := by
 have hcon := Aside0.mk (g_sort_any base v y pa A0 c0 l0 w0 W hR hbase hB hp hpb hr0 hy (by omega))
 obtain ⟨A, c, e⟩ := Kd.R_slice hR
 subst e
 have c1 : decide ((20 : Int) ≤ (y.length : Int)) = false := decide_eq_false (by omega)
 have c2 : decide ((20 : Int) < (y.length : Int)) = false := decide_eq_false (by omega)
 clear hR hbase hB hp hpb hr0 hy hl
 go_enter Try.func32, Try.ntmps32
 go_wp2
 go_loopg [7, 8] 0 (fun d v7 v8 w' => v7 = .int .i64 0 ∧ v8 = .int .i64 20 ∧ w' = W)
 case atStart => exact ⟨rfl, rfl, rfl⟩
 case round =>
  obtain ⟨rfl, rfl, rfl⟩ := hrel
  go_wp2_with (first | (go_at_call 60; (with_reducible refine hcon.out.mono ?_); rintro e w5 ⟨rfl, h1, h2, h3⟩; have H1 := Aside0.mk h1; have H2 := Aside0.mk h2; have H3 := Aside0.mk h3; clear h1 h2 h3))
  go_loopg [6, 7, 8, 9] 0 (fun d v6 v7 v8 v9 w' => v6 = .int .i64 20 ∧ w' = w5)
  case atStart => exact ⟨rfl, rfl⟩
  case round =>
   obtain ⟨rfl, rfl⟩ := hrel
   go_wp2
   go_end0
   go_wp2
   go_end0
   exact ⟨rfl, H1.out, H2.out, H3.out⟩
set_option maxHeartbeats 8000000 in
theorem g_typ {W : World} {k e e2 : Nat} (h1 : ∃ cells, W.heap[k]? = some (.cells cells e (0, 0))) (h2 : ∃ cells, W.heap[k]? = some (.cells cells e2 (0, 0))) : e = e2 := by
 obtain ⟨c1, h1⟩ := h1
 obtain ⟨c2, h2⟩ := h2
 rw [h1] at h2
 injection h2 with h2
 injection h2
structure GP (w W : World) (A0 : Option Addr) (n c0 : Nat) (vo : Value) (xo : List Int) (vp : Value) (xp : List Int) : Prop where
 below : Below w.heap.size w W
 box : W.heap[w.heap.size]? = some (.cells #[.slice A0 n c0] 24 (0, 0))
 o : Kd.R (Kd.int .i64) 3 W w.heap.size (fun k => some k = vo.ownBlock) vo xo
 p : Kd.R (Kd.int .i64) 2 W w.heap.size (fun k => some k = vp.ownBlock) vp xp
theorem GP.below_ {w W W2 : World} {A0 : Option Addr} {n c0 : Nat} {vo vp : Value} {xo xp : List Int} (h : GP w W A0 n c0 vo xo vp xp) (hb : Below W.heap.size W W2) : GP w W2 A0 n c0 vo xo vp xp := ⟨below_step h.below hb, blk_below h.box hb, Kd.R_below h.o hb, Kd.R_below h.p hb⟩
theorem GP.nob {w W : World} {A0 : Option Addr} {n c0 : Nat} {vo vp : Value} {xo xp : List Int} (h : GP w W A0 n c0 vo xo vp xp) : some w.heap.size ≠ vo.ownBlock := fun e => absurd (g_typ (Kd.R_typed h.o _ e.symm) ⟨_, h.box⟩) (by decide)
theorem GP.npb {w W : World} {A0 : Option Addr} {n c0 : Nat} {vo vp : Value} {xo xp : List Int} (h : GP w W A0 n c0 vo xo vp xp) : some w.heap.size ≠ vp.ownBlock := fun e => absurd (g_typ (Kd.R_typed h.p _ e.symm) ⟨_, h.box⟩) (by decide)
theorem GP.nop {w W : World} {A0 : Option Addr} {n c0 : Nat} {vo vp : Value} {xo xp : List Int} (h : GP w W A0 n c0 vo xo vp xp) : ∀ k, some k = vo.ownBlock → some k ≠ vp.ownBlock := fun k e e2 => absurd (g_typ (Kd.R_typed h.o _ e.symm) (Kd.R_typed h.p _ e2.symm)) (by decide)
theorem GP.order {w W W2 : World} {A0 : Option Addr} {n c0 : Nat} {vo vp vo2 : Value} {xo xp xo2 : List Int} {ok : Nat → Prop} (h : GP w W A0 n c0 vo xo vp xp) (ho : Kd.R (Kd.int .i64) 3 W2 w.heap.size ok vo2 xo2) (hb : Below w.heap.size w W2) (hg : W.grownBy W2 vo.ownBlock) : GP w W2 A0 n c0 vo2 xo2 vp xp :=
 ⟨hb, (hg.block _ (blk_lt h.box) h.nob).trans h.box, Kd.R_tight rfl ho, Kd.R_step h.p (fun k hk hlt => hg.block k hlt (fun e => h.nop k e hk))⟩
theorem GP.places {w W W2 : World} {A0 : Option Addr} {n c0 : Nat} {vo vp vp2 : Value} {xo xp xp2 : List Int} {ok : Nat → Prop} (h : GP w W A0 n c0 vo xo vp xp) (hp : Kd.R (Kd.int .i64) 2 W2 w.heap.size ok vp2 xp2) (hb : Below w.heap.size w W2) (hg : W.grownBy W2 vp.ownBlock) : GP w W2 A0 n c0 vo xo vp2 xp2 :=
 ⟨hb, (hg.block _ (blk_lt h.box) h.npb).trans h.box, Kd.R_step h.o (fun k hk hlt => hg.block k hlt (h.nop k hk)), Kd.R_tight rfl hp⟩
theorem g_gstart {w W2 w13 w14 : World} {A0 : Option Addr} {n c0 : Nat} {v13 v14 : Value} {ok ok2 : Nat → Prop} (hb : Below (w.alloc (.cells #[.slice A0 n c0] 24)).heap.size (w.alloc (.cells #[.slice A0 n c0] 24)) W2) (hb13 : Below W2.heap.size W2 w13) (ho13 : Kd.R (Kd.int .i64) 3 w13 W2.heap.size ok v13 []) (hb14 : Below w13.heap.size w13 w14) (ho14 : Kd.R (Kd.int .i64) 2 w14 w13.heap.size ok2 v14 []) : GP w w14 A0 n c0 v13 [] v14 [] := by
 have h1 := below_alloc (Below.refl w.heap.size w) (.cells #[.slice A0 n c0] 24)
 have h2 := below_step h1 hb
 have h3 := below_step h2 hb13
 have h4 := below_step h3 hb14
 exact ⟨h4, blk_below (blk_below (blk_below (blk_new w _) hb) hb13) hb14, Kd.R_below (Kd.R_lower (Kd.R_tight rfl ho13) h2.size) hb14, Kd.R_lower (Kd.R_tight rfl ho14) h3.size⟩
theorem below_trans_ {b : Nat} {w W W2 : World} (h : Below b w W) (h2 : Below b W W2) : Below b w W2 := h.trans h2
theorem g_up_succ (n : Nat) : g_up (n + 1) = g_up n ++ [(n : Int)] := by unfold g_up; rw [List.range_succ, List.map_append]; rfl
theorem g_up_in {n : Nat} : ∀ x ∈ g_up n, 0 ≤ x ∧ x < (n : Int) := by
 intro x hx
 unfold g_up at hx
 obtain ⟨j, hj, rfl⟩ := List.mem_map.1 hx
 have := List.mem_range.1 hj
 omega
theorem g_up_len (n : Nat) : (g_up n).length = n := by unfold g_up; simp
theorem g_rep_succ (n : Nat) : List.replicate (n + 1) (-1 : Int) = List.replicate n (-1) ++ [-1] := List.replicate_succ'
theorem g_info3 : (Try.prog.info? 3).map (fun i => (i.zero, i.size, i.bytes)) = some (some (.int .i64 0), 1, 8) := by kernel_rfl
theorem g_ov (k : Nat) (A0 : Option Addr) (c0 : Nat) (l0 : List S36) (A1 : Option Addr) (c1 m : Nat) (l1 : List Int) (a2 a3 : Int) (r : Bool) (w : World) (hm : m = l1.length) (hr0 : Kd.C k36 w A0 l0.length l0) (hc0 : l0.length ≤ c0) (hr1 : Kd.C (Kd.int .i64) w A1 l1.length l1) (hc1 : l1.length ≤ c1) (h : impl_overlaps.f k l0 l1 a2 a3 = some r) :
  Calls Try.prog 31 #[.slice A0 l0.length c0, .slice A1 m c1, .int .i64 a2, .int .i64 a3] w fun e w' => e = .returned (.bool r) ∧ Below w.heap.size w w' := by
 subst hm
 exact impl_overlaps.calls k A0 c0 l0 A1 c1 l1 a2 a3 r w hr0 hc0 hr1 hc1 h
set_option maxHeartbeats 8000000 in
set_option maxRecDepth 100000 in
theorem impl_GreedyPlaces.calls (k : Nat) (A0 : Option Addr) (c0 : Nat) (l0 : List S36) (r1 : List Int) (r2 : Int) (w : World) (hr0 : Kd.C k36 w A0 l0.length l0) (hc0 : l0.length ≤ c0) (h : impl_GreedyPlaces.f k l0 = some (r1, r2)) :
  Calls Try.prog 9 #[.slice A0 l0.length c0] w fun e w' => ∃ v0_ : Value, e = .returned (.tuple #[v0_, .int .i64 r2]) ∧ Kd.R (Kd.int .i64) 2 w' w.heap.size (fun _ => True) v0_ r1 ∧ Below w.heap.size w w' := by
 have hu36 := Try.underlying36
 have HR0 := Aside0.mk hr0
 have HC0 := Aside0.mk hc0
 clear hr0 hc0
 have HB1 := Aside0.mk (below_alloc (Below.refl w.heap.size w) (.cells #[Value.slice A0 l0.length c0] 24))
 unfold impl_GreedyPlaces.f at h
 obtain ⟨t, ht, H⟩ := Option.bind_eq_some_iff.mp h
 have A1 := Aside0.mk ht
 clear h ht
 cases t with
 | false =>
  rw [if_neg (by decide)] at H
  cases H
  go_enter Try.func9, Try.ntmps9
  go_wp2_with (first | (go_at_call 27; (with_reducible refine (impl_ValidLabels.calls k A0 c0 l0 false _ ?side1 ?side2 A1.out).mono ?_); (case side1 => exact Kd.C_alloc HR0.out _); (case side2 => exact HC0.out); rintro e w4 ⟨rfl, hb⟩; have HB2 := Aside0.mk (below_step HB1.out hb); clear hb))
  go_ret2
  exact ⟨_, rfl, Kd.R_nil _ _ _ _ _, HB2.out⟩
 | true =>
  rw [if_pos rfl] at H
  by_cases c1 : l0.length < 20
  · rw [if_pos c1] at H
    obtain ⟨xr, H2, hx⟩ := Option.bind_eq_some_iff.mp H
    clear H
    have H := H2
    clear H2
    injection hx with hx
    injection hx with hx1 hx2
    subst hx1
    subst hx2
    obtain ⟨y, hy⟩ : ∃ y, y = g_sortW l0 (g_up l0.length) := ⟨_, rfl⟩
    obtain ⟨x0, hx0⟩ : ∃ x0, x0 = List.replicate l0.length (-1 : Int) := ⟨_, rfl⟩
    rw [← hy, ← hx0] at H
    have HY := Aside0.mk hy
    have HX0 := Aside0.mk hx0
    have H' := Aside0.mk H
    have C1 := Aside0.mk c1
    clear H c1 hy hx0
    go_enter Try.func9, Try.ntmps9
    go_wp2_with (first | (go_at_call 27; (with_reducible refine (impl_ValidLabels.calls k A0 c0 l0 true _ ?side1 ?side2 A1.out).mono ?_); (case side1 => exact Kd.C_alloc HR0.out _); (case side2 => exact HC0.out); rintro e w4 ⟨rfl, hb⟩; have HB2 := Aside0.mk hb; have HBX := blk_below (blk_new w (.cells #[Value.slice A0 l0.length c0] 24)) hb; have hcx : w4.cell? ⟨w.heap.size, 0, none⟩ = some (.slice A0 l0.length c0) := blk_cell HBX 0; clear hb) | ((with_reducible refine gate_dst (N := 13) rfl ?_); refine Kd.R_lit (Kd.int .i64) _ 3 ?hg (N := 13) ?hd (xs := ([] : List Int)) (inner := []) (ok := fun _ => True) (okp := fun _ => True) ?hr ?hp (fun _ hk => hk) trivial (Below.refl _ _) (Nat.le_refl _) (by simp) ?_; (case hd => rfl); (case hg => rfl); (case hr => first | (go_simp; done) | (go_simp; rfl)); (case hp => exact (Reps.none _ _)); intro v13 w13 ho hb hg_ hnew_; clear hg_ hnew_; have X13 := Aside0.mk ho; have B13 := Aside0.mk hb; clear ho hb) | ((with_reducible refine gate_dst (N := 14) rfl ?_); refine Kd.R_lit (Kd.int .i64) _ 2 ?hg (N := 14) ?hd (xs := ([] : List Int)) (inner := []) (ok := fun _ => True) (okp := fun _ => True) ?hr ?hp (fun _ hk => hk) trivial (Below.refl _ _) (Nat.le_refl _) (by simp) ?_; (case hd => rfl); (case hg => rfl); (case hr => first | (go_simp; done) | (go_simp; rfl)); (case hp => exact (Reps.none _ _)); intro v14 w14 ho hb hg_ hnew_; clear hg_ hnew_; have G := g_gstart HB2.out B13.out X13.out hb ho; have hcy : w14.cell? ⟨w.heap.size, 0, none⟩ = some (.slice A0 l0.length c0) := blk_cell G.box 0; clear ho hb hcx))
    clear HB2 B13 X13 HBX
    go_loopg [4, 5, 17] l0.length (fun d v4 v5 v17 w' => ∃ (x : Int) (i : Nat), v17 = .int .i64 x ∧ Aside0 (x = (i : Int) ∧ i + d = l0.length) ∧ GP w w' A0 l0.length c0 v4 (g_up i) v5 (List.replicate i (-1)))
    case atStart => exact ⟨0, 0, rfl, ⟨rfl, by omega⟩, G⟩
    case round =>
     clear G hcy
     obtain ⟨x, i, rfl, HI, G⟩ := hrel
     have hcx : wr.cell? ⟨w.heap.size, 0, none⟩ = some (.slice A0 l0.length c0) := blk_cell G.box 0
     by_cases c2 : x < (l0.length : Int)
     · have c2b : decide (x < (l0.length : Int)) = true := decide_eq_true c2
       cases gk with
       | zero => exact absurd HI.out.2 (by have := HI.out.1; omega)
       | succ k1 =>
        have HL := Aside0.mk (show (g_up i).length < 20 by rw [g_up_len]; have := C1.out; have := HI.out; omega)
        have HL2 := Aside0.mk (show (List.replicate i (-1 : Int)).length < 20 by rw [List.length_replicate]; have := C1.out; have := HI.out; omega)
        have HW := Aside0.mk (show wrap64 (x + 1) = ((i + 1 : Nat) : Int) by have := C1.out; have := HI.out; unfold wrap64; omega)
        have GA := Aside0.mk G
        clear c2 G
        go_wp2_with (first | ((with_reducible refine gate_builtin (b := .append) (xs := #[.tmp 20, .tmp 22]) rfl ?_); at_builtin; refine Kd.R_append (Kd.int .i64) (w0 := w) w.heap.size rfl (.tmp 20) (.tmp 22) 54 3 (.int .i64 0) 8 rfl Try.underlying54 g_info3 rfl (by decide) (by omega) u4 (g_up i) x [.int .i64 x] (fun _ => True) (fun _ => False) rfl rfl ?aP (fun _ hk => hk.elim) ?aF ?aO ?aB ?aS ?aL ?_; (case aP => exact rfl); (case aB => exact GA.out.below); (case aF => exact (fun _ _ => trivial)); (case aO => exact Kd.R_mono GA.out.o (fun _ _ => trivial)); (case aS => exact GA.out.below.size); (case aL => have := HL.out; omega); intro v23 w23 ho hb hg hat; have GO := Aside0.mk (GA.out.order ho hb hg); clear ho hb hg hat) | ((with_reducible refine gate_builtin (b := .append) (xs := #[.tmp 24, .tmp 25]) rfl ?_); at_builtin; refine Kd.R_append (Kd.int .i64) (w0 := w) w.heap.size rfl (.tmp 24) (.tmp 25) 26 2 (.int .i64 0) 8 rfl Try.underlying26 info2 rfl (by decide) (by omega) u5 (List.replicate i (-1)) (-1) [.int .i64 (-1)] (fun _ => True) (fun _ => False) rfl rfl ?aP (fun _ hk => hk.elim) ?aF ?aO ?aB ?aS ?aL ?_; (case aP => exact rfl); (case aB => exact GO.out.below); (case aF => exact (fun _ _ => trivial)); (case aO => exact Kd.R_mono GO.out.p (fun _ _ => trivial)); (case aS => exact GO.out.below.size); (case aL => have := HL2.out; omega); intro v26 w26 ho hb hg hat; have GQ := Aside0.mk (GO.out.places ho hb hg); clear ho hb hg hat hcx))
        go_roundg k1
        case measure => omega
        case rel => exact ⟨wrap64 (x + 1), i + 1, by first | rfl | (simp; done), ⟨HW.out, by have := HI.out; omega⟩, by rw [g_up_succ, g_rep_succ, ← HI.out.1]; exact GQ.out⟩
     · have c2b : decide (x < (l0.length : Int)) = false := decide_eq_false c2
       have hi : i = l0.length := by have := HI.out; omega
       subst hi
       have hsc := Aside0.mk (g_stable.calls w.heap.size u4 (g_up l0.length) ⟨w.heap.size, 0, none⟩ A0 c0 l0 w wr (Kd.R_mono G.o (fun _ _ => trivial)) (Nat.le_refl _) G.below hcx (fun k hk e => G.nob (by rw [hk]; exact congrArg some e)) HR0.out g_up_in (by rw [g_up_len]; exact C1.out))
       rw [← HY.out] at hsc
       rw [← HX0.out] at G
       have GA := Aside0.mk G
       clear c2 G
       go_wp2_with (first | (go_at_call 32; (with_reducible refine hsc.out.mono ?_); rintro e w30 ⟨rfl, h1, h2, h3⟩; have G := GA.out.order h1 (below_trans_ GA.out.below h2) h3; have hcz : w30.cell? ⟨w.heap.size, 0, none⟩ = some (.slice A0 l0.length c0) := blk_cell G.box 0; clear h1 h2 h3 hcx; obtain ⟨Ao, co, eo⟩ := Kd.R_slice G.o; subst eo; obtain ⟨Ap, cp, ep⟩ := Kd.R_slice G.p; subst ep))
       clear GA hsc
       go_loopg [33] k (fun kq v33 w' => ∃ (xp : List Int) (j : Int), v33 = .int .i64 j ∧ Aside0 (impl_GreedyPlaces.l2 kq l0 y xp j = some xr) ∧ Aside0 (kq ≤ k) ∧ GP w w' A0 l0.length c0 (.slice Ao y.length co) y (.slice Ap x0.length cp) xp)
       case atStart => exact ⟨x0, 0, rfl, H', ⟨Nat.le_refl _⟩, G⟩
       case round =>
        clear H' G hcz
        obtain ⟨xp, j, rfl, HA, HK1, G⟩ := hrel
        have hcx : wr.cell? ⟨w.heap.size, 0, none⟩ = some (.slice A0 l0.length c0) := blk_cell G.box 0
        cases gk with
        | zero => exact absurd HA.out (by simp [impl_GreedyPlaces.l2])
        | succ k1 =>
         have H := HA.out
         clear HA
         simp only [impl_GreedyPlaces.l2] at H
         by_cases c6 : j < (y.length : Int)
         · rw [if_pos c6] at H
           have c6b : decide (j < (y.length : Int)) = true := decide_eq_true c6
           by_cases c7 : 0 ≤ j
           · rw [if_pos c7] at H
             obtain ⟨ad, e, hxo⟩ := Kd.at_int (Kd.R_reads' G.o).2.2 j c7 c6
             cases e
             obtain ⟨i, hi⟩ : ∃ i, rd y j = i := ⟨_, rfl⟩
             rw [hi] at H hxo
             have HI := Aside0.mk hi
             clear hi
             by_cases c8 : 0 ≤ i
             · rw [if_pos c8] at H
               by_cases c9 : i < (l0.length : Int)
               · rw [if_pos c9] at H
                 have H' := Aside0.mk H
                 clear H
                 obtain ⟨adl, A2, cc2, e, hz0, hz1, hz2, hz3, hl2, hC2⟩ := at_T36 HR0.out i c8 c9
                 cases e
                 replace hz2 := (G.below.cell (World.block_lt_of_cell? w _ hz2)).trans hz2
                 have HG := Aside0.mk G
                 have c6t := eq_true c6
                 have c7t := eq_true c7
                 have c8t := eq_true c8
                 have c9t := eq_true c9
                 clear hz0 hz1 hz3 hl2 hC2 G
                 go_wp2
                 go_loopg [43] k1 (fun kq v43 w' => ∃ (c : Int), v43 = .int .i64 c ∧ Aside0 (impl_GreedyPlaces.l3 kq l0 y xp j c = some xr) ∧ Aside0 (kq ≤ k1) ∧ GP w w' (some adl) l0.length c0 (.slice (some ad) y.length co) y (.slice Ap x0.length cp) xp)
                 case atStart => exact ⟨0, rfl, H', ⟨Nat.le_refl _⟩, HG.out⟩
                 case round =>
                  clear H' HG hxo hz2 hcx c6t c7t c6b
                  obtain ⟨c, rfl, HA, HK2, G⟩ := hrel
                  have hcx : wr.cell? ⟨w.heap.size, 0, none⟩ = some (.slice (some adl) l0.length c0) := blk_cell G.box 0
                  cases gk with
                  | zero => exact absurd HA.out (by simp [impl_GreedyPlaces.l3])
                  | succ k2 =>
                   have H := HA.out
                   clear HA
                   simp only [impl_GreedyPlaces.l3] at H
                   rw [HI.out] at H
                   by_cases c20 : c < ((rd_T36 l0 i).f2.length : Int)
                   · rw [if_pos c20] at H
                     have c20b : decide (c < ((rd_T36 l0 i).f2.length : Int)) = true := decide_eq_true c20
                     obtain ⟨t, ht, H⟩ := Option.bind_eq_some_iff.mp H
                     have hR := Kd.R_reads' G.p
                     have hov := Aside0.mk (g_ov k2 (some adl) c0 l0 Ap cp x0.length xp i c t wr hR.1 (Kd.C_below HR0.out G.below) HC0.out hR.2.2 (by have := hR.1; have := hR.2.1; omega) ht)
                     have HG := Aside0.mk G
                     clear ht hR G c20
                     cases t with
                     | true =>
                      rw [if_pos rfl] at H
                      have H' := Aside0.mk H
                      clear H
                      go_wp2_with (first | (go_at_call 31; (with_reducible refine hov.out.mono ?_); rintro e w5 ⟨rfl, hb⟩; have G := HG.out.below_ hb; clear hb hcx))
                      go_roundg k2
                      case measure => have := HK1.out; have := HK2.out; omega
                      case rel => exact ⟨wrap64 (c + 1), by first | rfl | (simp; done), H', ⟨by have := HK2.out; omega⟩, G⟩
                     | false =>
                      rw [if_neg (by decide), if_pos c8] at H
                      by_cases c21 : i < (xp.length : Int)
                      · rw [if_pos c21] at H
                        have H' := Aside0.mk H
                        have C21 := Aside0.mk c21
                        clear H c21
                        go_wp2_with (first | (go_at_call 31; (with_reducible refine hov.out.mono ?_); rintro e w5 ⟨rfl, hb⟩; have G := HG.out.below_ hb; clear hb hcx hov HG; have hlen := (Kd.R_reads' G.p).1; obtain ⟨gp, capp, ep, hgb, hgl, hgc⟩ := Kd.R_form G.p (by have := C21.out; omega); injection ep with e1 e2 e3; subst e1; subst e3; have hin : i < (x0.length : Int) := (by have := C21.out; rw [hlen]; exact this); obtain ⟨hs0, hs1⟩ := Kd.R_celln 0 G.p i c8 hin; have hput := Kd.R_putg G.p i c; have GN := Aside0.mk (G.places hput.1 (below_set (g := gp) (j := i.toNat) G.below hgb) hput.2); have hint := eq_true hin; clear hin hput G hgc hlen e2))
                        go_roundg k2
                        case measure => have := HK1.out; have := HK2.out; omega
                        case rel => exact ⟨_, wrap64 (j + 1), by first | rfl | (simp; done), H', ⟨by have := HK1.out; have := HK2.out; omega⟩, GN.out⟩
                      · rw [if_neg c21] at H
                        cases H
                   · rw [if_neg c20] at H
                     have c20b : decide (c < ((rd_T36 l0 i).f2.length : Int)) = false := decide_eq_false c20
                     have H' := Aside0.mk H
                     have HG := Aside0.mk G
                     clear H c20 G
                     go_wp2
                     go_roundg k2
                     case measure => have := HK1.out; have := HK2.out; omega
                     case rel => exact ⟨xp, wrap64 (j + 1), by first | rfl | (simp; done), H', ⟨by have := HK1.out; have := HK2.out; omega⟩, HG.out⟩
               · rw [if_neg c9] at H
                 cases H
             · rw [if_neg c8] at H
               cases H
           · rw [if_neg c7] at H
             cases H
         · rw [if_neg c6] at H
           have c6b : decide (j < (y.length : Int)) = false := decide_eq_false c6
           cases H
           have HG := Aside0.mk G
           clear c6 G
           go_wp2
           go_ret2
           exact ⟨_, rfl, Kd.R_mono HG.out.p (fun _ _ => trivial), HG.out.below⟩
  · rw [if_neg c1] at H
    cases H

end Go.Proofs.Ytjfkjmfdckbecaa.Print
