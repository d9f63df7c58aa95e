-- Printed by a program of this session out of the translation; not trusted: Lean checks it.
import Derived.Test.YtjfkjmfdckbecaaPrint0
import Derived.Test.YtjfkjmfdckbecaaPrint5
import Derived.Test.YtjfkjmfdckbecaaPrint6
import Derived.Test.YtjfkjmfdckbecaaPrint7
import Derived.Lib.AppendZeros
import Derived.Laws.EntriesVeiled
namespace Go.Proofs.Ytjfkjmfdckbecaa.Print
open Go.RowKit Go.Proofs.YtjfkjmfdckbecaaW.PrintWords Go.Proofs.YtjfkjmfdckbecaaW.PrintLast Go.Proofs.YtjfkjmfdckbecaaW.PrintMore
attribute [local go_sem] max2_int min2_int max_two min_two max_three min_three max_four min_four   -- for this text's walks alone
set_option linter.unusedVariables false
set_option linter.unusedSimpArgs false

-- imports: Derived.Lib.AppendZeros
-- imports: Derived.Laws.EntriesVeiled
/-! ### impl_BestPlaces: function 8 -/
mutual
def impl_BestPlaces.l0 : Nat → List S36 → List Int → Int → List Int → Int → Option (List Int × Int)
 | 0, _, _, _, _, _ => none
 | k + 1, s0, l1, c, b, m => if c < ((rd_T36 s0 (l1.length : Int)).f2.length : Int) then ((impl_overlaps.f k s0 l1 (l1.length : Int) c).bind fun t => (if t = true then impl_BestPlaces.l0 k s0 l1 (wrap64 (c + 1)) b m else ((impl_BestPlaces.l1 k s0 (l1 ++ [c]) b m).bind fun bm => impl_BestPlaces.l0 k s0 l1 (wrap64 (c + 1)) bm.1 bm.2))) else some (b, m)
def impl_BestPlaces.l1 : Nat → List S36 → List Int → List Int → Int → Option (List Int × Int)
 | 0, _, _, _, _ => none
 | k + 1, s0, l1, b, m => if (l1.length : Int) = (s0.length : Int) then ((impl_weightPlaced.f k s0 l1).bind fun t => (if t > m then (if l1.length < 1000 then some (l1, t) else none) else some (b, m))) else (if l1.length < 1000 then (if (l1.length : Int) < (s0.length : Int) then impl_BestPlaces.l0 k s0 l1 (-1) b m else none) else none)
end
def impl_BestPlaces.f (k : Nat) (l0 : List S36) : Option (List Int × Int × Int) := (impl_ValidLabels.f k l0).bind fun t => if t = true then ((impl_BestPlaces.l1 k l0 [] [] (-1)).bind fun bm => some (bm.1, bm.2, 0)) else some ([], 0, 1)
theorem impl_BestPlaces.mono_l : ∀ k, (∀ y0 y1 y2 y3, LeO (impl_BestPlaces.l1 k y0 y1 y2 y3) (impl_BestPlaces.l1 (k + 1) y0 y1 y2 y3)) ∧ (∀ y0 y1 y2 y3 y4, LeO (impl_BestPlaces.l0 k y0 y1 y2 y3 y4) (impl_BestPlaces.l0 (k + 1) y0 y1 y2 y3 y4))
 | 0 => ⟨fun _ _ _ _ r h => by simp [impl_BestPlaces.l1] at h, fun _ _ _ _ _ r h => by simp [impl_BestPlaces.l0] at h⟩
 | k + 1 => by
  obtain ⟨ih0, ih1⟩ := impl_BestPlaces.mono_l k
  refine ⟨?_, ?_⟩
  · intro y0 y1 y2 y3
    unfold impl_BestPlaces.l1
    repeat' first
    | exact ih0 _ _ _ _
    | exact ih1 _ _ _ _ _
    | exact impl_weightPlaced.mono _ _ _
    | exact LeO.refl _
    | exact LeO.none _
    | refine LeO.ite ?_ ?_
    | refine LeO.bind ?_ (fun _ => ?_)
  · intro y0 y1 y2 y3 y4
    unfold impl_BestPlaces.l0
    repeat' first
    | exact ih0 _ _ _ _
    | exact ih1 _ _ _ _ _
    | exact impl_overlaps.mono _ _ _ _ _
    | exact LeO.refl _
    | exact LeO.none _
    | refine LeO.ite ?_ ?_
    | refine LeO.bind ?_ (fun _ => ?_)
theorem impl_BestPlaces.mono : ∀ a0 k, LeO (impl_BestPlaces.f k a0) (impl_BestPlaces.f (k + 1) a0) := by
 intro a0 k
 unfold impl_BestPlaces.f
 repeat' first
 | exact (impl_BestPlaces.mono_l k).1 _ _ _ _
 | exact impl_ValidLabels.mono _ _
 | exact LeO.refl _
 | exact LeO.none _
 | refine LeO.ite ?_ ?_
 | refine LeO.bind ?_ (fun _ => ?_)
set_option maxHeartbeats 8000000 in
def g_own (w : World) (base : Nat) (u : Value) (l : List Int) : Prop := w.ownsRow base 2 1 u l.length (encs (Value.int .i64) l)
theorem g_own_R {w : World} {base : Nat} {u : Value} {l : List Int} (h : g_own w base u l) : Kd.R (Kd.int .i64) 2 w base (fun _ => True) u l := Kd.R_of_own (h1 := fun _ => rfl) h (fun _ _ => trivial)
theorem g_own_of {w : World} {base : Nat} {ok : Nat → Prop} {u : Value} {l : List Int} (h : Kd.R (Kd.int .i64) 2 w base ok u l) : g_own w base u l := Kd.own_of_R (h1 := fun _ => rfl) h
/-- One number is appended to an own row: what was owned stays a row with its numbers, and the new row lies in the same block, or in a new one. -/
theorem g_append (w : World) (ty : TypeId) (base : Nat) (u : Value) (n : Nat) (xs : List Value) (x : Value) (hown : w.ownsRow base 2 1 u n xs) (a : Addr) (ha : w.cell? a = some x) (h1 : x.oneCell' = true) (hn : n + 1 < 8796093022208) (hbase : base ≤ w.heap.size) :
  ∃ v' w', (Builtin.append_ #[26, 26] ty #[u, .slice (some a) 1 1]).run Try.prog w = .ok v' w' ∧ w'.ownsRow base 2 1 v' (n + 1) (xs ++ [x]) ∧ w'.ownsRow base 2 1 u n xs ∧ w.grownBy w' u.ownBlock ∧ ((∃ g cap, u = .slice (some ⟨g, 0, none⟩) n cap ∧ v' = .slice (some ⟨g, 0, none⟩) (n + 1) cap) ∨ ∃ b cap, v' = .slice (some ⟨b, 0, none⟩) (n + 1) cap ∧ w.heap.size ≤ b) := by
 obtain ⟨i, hi, hzz⟩ := Option.map_eq_some_iff.1 info2
 simp only [Prod.mk.injEq] at hzz
 obtain ⟨hz0, hz1, hz2⟩ := hzz
 have hz1' : i.size = 1 := hz1
 have hz2' : i.bytes = 8 := hz2
 have hadd : a.add 0 = a := Addr.add_zero' a
 have hnews : ∀ j v, [x][j]? = some v → w.cell? (a.add j) = some v := by
  intro j v hj
  cases j with
  | zero => simp at hj; subst hj; rw [hadd]; exact ha
  | succ j => simp at hj
 have hxl : xs.length = n := by have := hown.1; omega
 have fresh : ∀ (old : Nat) (olds : List Value), olds.length = n → olds = xs → (w.drew.alloc (.cells (olds.toArray ++ [x].toArray ++ Builtin.zeroCells (Value.int .i64 0).cells (grownCap w (n + 1) old 2 - (n + 1))) 2)).ownsRow base 2 1 (.slice (some ⟨w.heap.size, 0, none⟩) (n + 1) (grownCap w (n + 1) old 2)) (n + 1) (xs ++ [x]) := by
  intro old olds hol e
  subst e
  have hge := grownCap_ge w (n + 1) old 2
  have hcm : grownCap w (n + 1) old 2 ≤ maxLen := grownCap_le_maxLen w (n + 1) old 2 (by unfold maxLen; omega)
  refine ⟨by simp [hol], .inr ⟨w.heap.size, _, _, rfl, hbase, heap_alloc_new w.drew _, hge, hcm, ?_, ?_⟩⟩
  · simp only [Array.size_append, List.size_toArray, size_zeroCells]
    show _ + 1 + _ * 1 = _
    omega
  · simp only [Array.toList_append, List.append_assoc]
    rw [← List.append_assoc, show (n + 1) * 1 = (olds ++ [x]).length by simp [hol]]
    exact List.take_left
 have hgrow : ∀ (o : Obj) (row : Option Nat), w.grownBy (w.drew.alloc o) row := fun o row => ⟨rfl, rfl, rfl, by simp, fun k hk _ => Below.heap_alloc w.drew o k hk⟩
 have hkeep : ∀ (o : Obj), (w.drew.alloc o).ownsRow base 2 1 u n xs := fun o => hown.kept (hgrow o none) (by cases u.ownBlock <;> simp)
 rcases hown.2 with ⟨rfl, rfl⟩ | ⟨g, cap, cur, rfl, hbg, hg, hnc, hcm, hcs, htake⟩
 · have hx : xs = [] := List.eq_nil_of_length_eq_zero hxl
   subst hx
   have hr := run_append_nil (P := Try.prog) w 26 ty 2 i (.int .i64 0) Try.underlying26 hi hz0 a 1 1 [x] (by rw [hz1']; rfl) hnews (by omega) (by omega) (by rw [hz2']; omega)
   have hf := fresh 0 [] rfl rfl
   simp only [Nat.zero_add, List.nil_append, Array.empty_append] at hf ⊢
   exact ⟨_, _, hr, hf, hkeep _, hgrow _ _, .inr ⟨_, _, rfl, Nat.le_refl _⟩⟩
 · by_cases hroom : n + 1 ≤ cap
   · have hfit : n * i.size + [x].length ≤ cur.size := by rw [hz1', hcs]; simp; omega
     have hr := run_append_room (P := Try.prog) w 26 ty 2 i Try.underlying26 hi g n cap cur hg a 1 1 [x] (by rw [hz1']; rfl) hnews (by intro v hv; simp at hv; subst hv; exact h1) hroom hfit
     rw [hz1'] at hr
     have hcs' : cur.size = cap := by rw [hcs]; omega
     have ht : cur.toList.take (n * 1) = xs := htake
     have hsz : (cur.toList.take (n * 1) ++ [x] ++ cur.toList.drop (n * 1 + [x].length)).toArray.size = cap * 1 := by
      simp only [List.size_toArray, List.length_append, List.length_take, List.length_drop, Array.length_toList, List.length_singleton]
      omega
     refine ⟨_, _, hr, ⟨by simp [hxl], .inr ⟨g, cap, _, rfl, hbg, setRow_heap w g cur _ 2 _ hg, hroom, hcm, hsz, ?_⟩⟩, ⟨hown.1, .inr ⟨g, cap, _, rfl, hbg, setRow_heap w g cur _ 2 _ hg, hnc, hcm, hsz, ?_⟩⟩, ⟨rfl, rfl, rfl, by simp, fun k _ hk => setRow_other w g k _ (fun e => hk (by simp [Value.ownBlock, e]))⟩, .inl ⟨g, cap, rfl, rfl⟩⟩
     · rw [ht, show (n + 1) * 1 = (xs ++ [x]).length by simp [hxl]]
       exact List.take_left
     · rw [ht, List.append_assoc, show n * 1 = xs.length by omega]
       exact List.take_left
   · have holds : ∀ j v, xs[j]? = some v → w.cell? ((⟨g, 0, none⟩ : Addr).add j) = some v := hown.cells (g := g) rfl
     have hr := run_append_grow (P := Try.prog) w 26 ty 2 i (.int .i64 0) Try.underlying26 hi hz0 ⟨g, 0, none⟩ n cap xs (by rw [hz1', hxl]; omega) holds a 1 1 [x] (by rw [hz1']; rfl) hnews (by omega) (by omega) (growslice_fits (by omega) (by rw [hz2']; omega))
     exact ⟨_, _, hr, fresh cap xs hxl rfl, hkeep _, hgrow _ _, .inr ⟨_, _, rfl, Nat.le_refl _⟩⟩
theorem g_pre {w : World} {base : Nat} {g n cap : Nat} {xs : List Value} {x : Value} (h : w.ownsRow base 2 1 (.slice (some ⟨g, 0, none⟩) (n + 1) cap) (n + 1) (xs ++ [x])) (hx : xs.length = n) : w.ownsRow base 2 1 (.slice (some ⟨g, 0, none⟩) n cap) n xs := by
 refine ⟨by omega, ?_⟩
 rcases h.2 with ⟨h, _⟩ | ⟨g', cap', cur, he, hbg, hg, hnc, hcm, hcs, htake⟩
 · cases h
 · injection he with h1 h2 h3
   injection h1 with h1
   injection h1 with h1
   subst h1
   subst h3
   refine .inr ⟨g, cap, cur, rfl, hbg, hg, by omega, hcm, hcs, ?_⟩
   have := congrArg (List.take n) htake
   rw [List.take_take, List.take_append_of_le_length (by omega), List.take_of_length_le (by omega : xs.length ≤ n)] at this
   rw [← this]
   congr 1
   omega
theorem g_keep_set {w w1 : World} {g : Nat} {row : Option Nat} (h : KeepBut w w1 g row) (i : Nat) (u : Value) : KeepBut w (w1.setCell ⟨g, i, none⟩ u) g row :=
 ⟨by have := h.1; simp only [World.setCell, Array.size_modify]; exact this, fun j hj hg hr => (Below.heap_setCell w1 ⟨g, i, none⟩ u j hg).trans (h.2 j hj hg hr)⟩
theorem g_own_set {W : World} {base g : Nat} {v : Value} {b : List Int} (ho : g_own W base v b) (h : v.ownBlock ≠ some g) (i : Nat) (u : Value) : g_own (W.setCell ⟨g, i, none⟩ u) base v b :=
 own_move ho (fun k hk => Below.heap_setCell W ⟨g, i, none⟩ u k (fun e => h (by rw [hk, e])))
theorem g_own_weaken {W : World} {base base' : Nat} {v : Value} {b : List Int} (h : g_own W base v b) (hb : base' ≤ base) : g_own W base' v b := own_weaken h hb
theorem g_own_neT {W : World} {base g T : Nat} {v : Value} {b : List Int} {cs : Array Value} (hT : T ≠ 2) (hg : W.heap[g]? = some (.cells cs T (0, 0))) (ho : g_own W base v b) : v.ownBlock ≠ some g := fun e => by
 obtain ⟨cells, hc⟩ := own_typed ho g e
 rw [hc] at hg
 injection hg with hg
 injection hg with _ hg
 exact hT hg.symm
theorem g_own_below {base : Nat} {W W2 : World} {v : Value} {b : List Int} (h : g_own W base v b) (hb : Below W.heap.size W W2) : g_own W2 base v b := pw_own_below h hb
theorem g_blk_grown {W W2 : World} {g : Nat} {row : Option Nat} {o : Obj} (h : W.heap[g]? = some o) (hg : W.grownBy W2 row) (hne : some g ≠ row) : W2.heap[g]? = some o := (hg.block g (blk_lt h) hne).trans h
/-- The function value of the search: what it has captured. -/
def g_fv (gp gl gm gb gf : Nat) : Value := .func (.func 28) #[] #[.pointer (some ⟨gp, 0, none⟩), .pointer (some ⟨gl, 0, none⟩), .pointer (some ⟨gm, 0, none⟩), .pointer (some ⟨gb, 0, none⟩), .pointer (some ⟨gf, 0, none⟩)]
/-- The captured variables lie apart. -/
structure g_BD (base gp gl gm gb gf : Nat) : Prop where
 p : base ≤ gp
 m : base ≤ gm
 b : base ≤ gb
 pl : gp ≠ gl
 pm : gp ≠ gm
 pb : gp ≠ gb
 pf : gp ≠ gf
 ml : gm ≠ gl
 mb : gm ≠ gb
 mf : gm ≠ gf
 bl : gb ≠ gl
 bf : gb ≠ gf
/-- The captured variables: the places, the labels, the greatest weight, the best places, the search itself. -/
structure g_BS (base gp gl gm gb gf : Nat) (A0 : Option Addr) (n c0 : Nat) (W : World) (vp vb : Value) (l1 b : List Int) (m : Int) : Prop where
 hp : W.heap[gp]? = some (.cells #[vp] 26 (0, 0))
 hl : W.heap[gl]? = some (.cells #[.slice A0 n c0] 24 (0, 0))
 hm : W.heap[gm]? = some (.cells #[.int .i64 m] 2 (0, 0))
 hb : W.heap[gb]? = some (.cells #[vb] 26 (0, 0))
 hf : W.heap[gf]? = some (.cells #[g_fv gp gl gm gb gf] 1 (0, 0))
 op : g_own W base vp l1
 ob : g_own W base vb b
 npm : vp.ownBlock ≠ some gm
 nbm : vb.ownBlock ≠ some gm
 npb : ∀ k, vb.ownBlock = some k → vp.ownBlock ≠ some k
section
variable {base gp gl gm gb gf : Nat} {A0 : Option Addr} {n c0 : Nat} {W W2 : World} {vp vb : Value} {l1 b : List Int} {m : Int}
theorem g_BS.below (h : g_BS base gp gl gm gb gf A0 n c0 W vp vb l1 b m) (hb : Below W.heap.size W W2) : g_BS base gp gl gm gb gf A0 n c0 W2 vp vb l1 b m :=
 ⟨blk_below h.hp hb, blk_below h.hl hb, blk_below h.hm hb, blk_below h.hb hb, blk_below h.hf hb, g_own_below h.op hb, g_own_below h.ob hb, h.npm, h.nbm, h.npb⟩
/-- The row of places is appended to, and the new row is laid into the variable. -/
theorem g_BS.push (D : g_BD base gp gl gm gb gf) (h : g_BS base gp gl gm gb gf A0 n c0 W vp vb l1 b m) {v : Value} {l2 : List Int} (hg : W.grownBy W2 vp.ownBlock) (ho : g_own W2 base v l2) (hat : v.ownBlock = vp.ownBlock ∨ ∃ k, v.ownBlock = some k ∧ W.heap.size ≤ k) : g_BS base gp gl gm gb gf A0 n c0 (W2.setCell ⟨gp, 0, none⟩ v) v vb l2 b m := by
 have e0 : some gp ≠ vp.ownBlock := fun e => g_own_neT (by decide) h.hp h.op e.symm
 have e1 : some gl ≠ vp.ownBlock := fun e => g_own_neT (by decide) h.hl h.op e.symm
 have e2 : some gm ≠ vp.ownBlock := fun e => h.npm e.symm
 have e3 : some gb ≠ vp.ownBlock := fun e => g_own_neT (by decide) h.hb h.op e.symm
 have e4 : some gf ≠ vp.ownBlock := fun e => g_own_neT (by decide) h.hf h.op e.symm
 have hp2 := g_blk_grown h.hp hg e0
 have hb2 := g_blk_grown h.hb hg e3
 have ob2 : g_own W2 base vb b := own_other h.ob hg (by
  cases hk : vb.ownBlock with
  | none => exact .inl rfl
  | some k => exact .inr (fun e => h.npb k hk e.symm))
 refine ⟨blk_put hp2 0 v rfl, blk_far (g_blk_grown h.hl hg e1) D.pl.symm v, blk_far (g_blk_grown h.hm hg e2) D.pm.symm v, blk_far hb2 D.pb.symm v, blk_far (g_blk_grown h.hf hg e4) D.pf.symm v, g_own_set ho (g_own_neT (by decide) hp2 ho) 0 v, g_own_set ob2 (g_own_neT (by decide) hp2 ob2) 0 v, ?_, h.nbm, ?_⟩
 · rcases hat with hat | ⟨k, hk, hle⟩
   · rw [hat]; exact h.npm
   · rw [hk]; intro e; injection e with e; have := blk_lt h.hm; omega
 · intro k hk
   rcases hat with hat | ⟨k2, hk2, hle⟩
   · rw [hat]; exact h.npb k hk
   · rw [hk2]; intro e; injection e with e; have := own_lt h.ob k hk; omega
/-- A prefix of the row of places is laid into the variable. -/
theorem g_BS.back (D : g_BD base gp gl gm gb gf) (h : g_BS base gp gl gm gb gf A0 n c0 W vp vb l1 b m) {v : Value} {l2 : List Int} (ho : g_own W base v l2) (hat : v.ownBlock = vp.ownBlock) : g_BS base gp gl gm gb gf A0 n c0 (W.setCell ⟨gp, 0, none⟩ v) v vb l2 b m :=
 h.push D (World.grownBy.refl W _) ho (.inl hat)
/-- New best places, and their weight. -/
theorem g_BS.best (D : g_BD base gp gl gm gb gf) (h : g_BS base gp gl gm gb gf A0 n c0 W vp vb l1 b m) {v : Value} {b2 : List Int} (ho : g_own W base v b2) (hm : v.ownBlock ≠ some gm) (hp : ∀ k, v.ownBlock = some k → vp.ownBlock ≠ some k) (t : Int) : g_BS base gp gl gm gb gf A0 n c0 ((W.setCell ⟨gb, 0, none⟩ v).setCell ⟨gm, 0, none⟩ (.int .i64 t)) vp v l1 b2 t := by
 have nb : ∀ {u : Value} {y : List Int}, g_own W base u y → u.ownBlock ≠ some gb := fun hu => g_own_neT (by decide) h.hb hu
 exact ⟨blk_far (blk_far h.hp D.pb v) D.pm _, blk_far (blk_far h.hl D.bl.symm v) D.ml.symm _, blk_put (blk_far h.hm D.mb v) 0 _ rfl, blk_far (blk_put h.hb 0 v rfl) D.mb.symm _, blk_far (blk_far h.hf D.bf.symm v) D.mf.symm _,
  g_own_set (g_own_set h.op (nb h.op) 0 v) h.npm 0 _, g_own_set (g_own_set ho (nb ho) 0 v) hm 0 _, h.npm, hm, hp⟩
end
theorem g_own_cons {W : World} {base : Nat} {v : Value} {l : List Int} {x : Int} (h : g_own W base v (l ++ [x])) : ∃ g cap, v = .slice (some ⟨g, 0, none⟩) (l.length + 1) cap ∧ l.length + 1 ≤ cap ∧ g_own W base (.slice (some ⟨g, 0, none⟩) l.length cap) l := by
 have h' := h
 unfold g_own encs at h
 rw [List.map_append, List.length_append] at h
 rcases h.2 with ⟨_, h2⟩ | ⟨g, cap, cur, e, _, _, hle, _⟩
 · simp at h2
 · subst e
   exact ⟨g, cap, rfl, hle, by unfold g_own encs; exact g_pre h (by simp)⟩
theorem g_BS.append {gp gl gm gb gf : Nat} {A0 : Option Addr} {n c0 : Nat} {W w0 : World} {vp vb : Value} {l1 b : List Int} {m : Int} (D : g_BD w0.heap.size gp gl gm gb gf) (h : g_BS w0.heap.size gp gl gm gb gf A0 n c0 W vp vb l1 b m) (hB : Below w0.heap.size w0 W) (hn : l1.length + 1 < 8796093022208) (x : Int) :
  ∃ A6 c6 w6, (Builtin.append_ #[26, 26] 26 #[vp, .slice (some ⟨W.heap.size, 0, none⟩) 1 1]).run Try.prog (W.alloc (.cells #[.int .i64 x] 2)) = .ok (.slice A6 (l1.length + 1) c6) w6 ∧ w6.cell? ⟨gp, 0, none⟩ = some vp ∧ w6.frozen? ⟨gp, 0, none⟩ = false ∧ g_BS w0.heap.size gp gl gm gb gf A0 n c0 (w6.setCell ⟨gp, 0, none⟩ (.slice A6 (l1.length + 1) c6)) (.slice A6 (l1.length + 1) c6) vb (l1 ++ [x]) b m ∧ Below w0.heap.size w0 (w6.setCell ⟨gp, 0, none⟩ (.slice A6 (l1.length + 1) c6)) := by
 have ho : W.ownsRow w0.heap.size 2 1 vp l1.length (encs (Value.int .i64) l1) := h.op
 obtain ⟨v6, w6, hr6, hv6, hu6, hg6, hd6⟩ := g_append (W.alloc (.cells #[.int .i64 x] 2)) 26 w0.heap.size vp l1.length _ (.int .i64 x) (ho.alloc _) ⟨W.heap.size, 0, none⟩ (blk_cell (heap_alloc_new W _) 0) rfl hn (Nat.le_trans hB.size (by simp))
 have hV : g_own w6 w0.heap.size v6 (l1 ++ [x]) := by
  unfold g_own encs
  rw [List.map_append, List.length_append]
  exact hv6
 have hA := h.below (below_alloc (Below.refl W.heap.size W) (.cells #[.int .i64 x] 2))
 have hat : v6.ownBlock = vp.ownBlock ∨ ∃ k, v6.ownBlock = some k ∧ (W.alloc (.cells #[.int .i64 x] 2)).heap.size ≤ k := by
  rcases hd6 with ⟨g, cap, hu, hv⟩ | ⟨k, cap, hv, hle⟩
  · rw [hu, hv]; exact .inl rfl
  · rw [hv]; exact .inr ⟨k, rfl, hle⟩
 have hgp : some gp ≠ vp.ownBlock := fun e => g_own_neT (by decide) h.hp h.op e.symm
 have hp6 := g_blk_grown hA.hp hg6 hgp
 have hS := hA.push D hg6 hV hat
 have hB6 : Below w0.heap.size w0 w6 := (hB.alloc hB.size _).grown hg6 (by have := hB.size; simp; omega) (own_base h.op)
 obtain ⟨A6, c6, e6⟩ := Kd.R_slice (g_own_R hV)
 rw [List.length_append, List.length_singleton] at e6
 subst e6
 exact ⟨A6, c6, w6, hr6, blk_cell hp6 0, blk_frozen hp6 0, hS, below_set hB6 D.p⟩
set_option maxHeartbeats 8000000 in
set_option maxRecDepth 100000 in
theorem g_bp.calls (w0 : World) (A0 : Option Addr) (c0 : Nat) (s0 : List S36) (hc0 : Kd.C k36 w0 A0 s0.length s0) (hn0 : s0.length ≤ c0) (gp gl gm gb gf : Nat) (D : g_BD w0.heap.size gp gl gm gb gf) (k : Nat) : ∀ (l1 b : List Int) (m : Int) (r : List Int × Int) (w : World) (hS : ∃ vp vb, g_BS w0.heap.size gp gl gm gb gf A0 s0.length c0 w vp vb l1 b m) (hB : Below w0.heap.size w0 w) (h : impl_BestPlaces.l1 k s0 l1 b m = some r),
  Calls Try.prog 28 #[.pointer (some ⟨gp, 0, none⟩), .pointer (some ⟨gl, 0, none⟩), .pointer (some ⟨gm, 0, none⟩), .pointer (some ⟨gb, 0, none⟩), .pointer (some ⟨gf, 0, none⟩)] w fun e w' => e = .returned (.tuple #[]) ∧ (∃ vp vb, g_BS w0.heap.size gp gl gm gb gf A0 s0.length c0 w' vp vb l1 r.1 r.2) ∧ Below w0.heap.size w0 w' := by
 have HR0 := Aside0.mk hc0
 have HN0 := Aside0.mk hn0
 clear hc0 hn0
 induction k using Nat.strongRecOn with
 | _ k ih =>
 intro l1 b m r w hS hB h
 cases k with
 | zero => exact absurd h (by simp [impl_BestPlaces.l1])
 | succ k =>
 simp only [impl_BestPlaces.l1] at h
 obtain ⟨vp, vb, hS⟩ := hS
 obtain ⟨Ao, co, eu⟩ := Kd.R_slice (g_own_R hS.op)
 subst eu
 have HS := Aside0.mk hS
 have HB := Aside0.mk hB
 have hcp : w.cell? ⟨gp, 0, none⟩ = some (.slice Ao l1.length co) := blk_cell hS.hp 0
 have hcl : w.cell? ⟨gl, 0, none⟩ = some (.slice A0 s0.length c0) := blk_cell hS.hl 0
 have hcm : w.cell? ⟨gm, 0, none⟩ = some (.int .i64 m) := blk_cell hS.hm 0
 clear hS hB
 by_cases c5 : (l1.length : Int) = (s0.length : Int)
 · rw [if_pos c5] at h
   obtain ⟨t, Aw, h⟩ := Option.bind_eq_some_iff.1 h
   have AW := Aside0.mk Aw
   have c5b0 : ((l1.length : Int) == (s0.length : Int)) = true := beq_iff_eq.mpr c5
   clear Aw
   by_cases c6 : t > m
   · rw [if_pos c6] at h
     by_cases c7 : l1.length < 1000
     · rw [if_pos c7] at h
       cases h
       have HC := Aside0.mk (show slices_Clone_int64_int64.f l1 = some l1 by unfold slices_Clone_int64_int64.f; rw [Option.bind_some, if_pos (by simp; omega)]; rfl)
       have c6b0 : decide (t > m) = true := decide_eq_true c6
       have c6b1 : decide (m < t) = true := decide_eq_true c6
       clear c6 c7
       go_enter Try.func28, Try.ntmps28
       go_wp2_with (first | (go_at_call 29; (with_reducible refine (impl_weightPlaced.calls k _ _ s0 _ _ l1 t _ ?side1 ?side2 ?side3 ?side4 AW.out).mono ?_); (case side1 => exact (Kd.C_below HR0.out HB.out)); (case side2 => exact HN0.out); (case side3 => exact (Kd.R_reads' (g_own_R HS.out.op)).2.2); (case side4 => exact (Kd.R_reads' (g_own_R HS.out.op)).2.1); rintro e w4 ⟨rfl, ⟨⟨nd, rfl⟩⟩⟩) | (go_at_call 30; (with_reducible refine (slices_Clone_int64_int64.calls _ _ l1 l1 _ ?side1 ?side2 HC.out).mono ?_); (case side1 => exact (Kd.R_reads' (g_own_R HS.out.op)).2.2); (case side2 => exact (Kd.R_reads' (g_own_R HS.out.op)).2.1); rintro e w5 ⟨v5, rfl, ho5, hb5⟩; obtain ⟨A5, c5_, e5⟩ := Kd.R_slice ho5; subst e5; have HO5 := Aside0.mk (show g_own w5 w.heap.size (.slice A5 l1.length c5_) l1 from g_own_of ho5); have HB5 := Aside0.mk (show Below w.heap.size w w5 from below_step (pw_below_drewN (Below.refl w.heap.size w) nd) hb5); have HS5 := Aside0.mk (HS.out.below HB5.out); have hcb5 : w5.cell? ⟨gb, 0, none⟩ = some vb := blk_cell HS5.out.hb 0; have hfb5 := blk_frozen HS5.out.hb 0; have hm5 := blk_far (p := ⟨gb, 0, none⟩) HS5.out.hm D.mb (.slice A5 l1.length c5_); have hcm5 : (w5.setCell ⟨gb, 0, none⟩ (.slice A5 l1.length c5_)).cell? ⟨gm, 0, none⟩ = some (.int .i64 m) := blk_cell hm5 0; have hfm5 := blk_frozen hm5 0; clear ho5 hb5 hm5))
       (try simp only [Exit.inBlock, Exit.then])
       refine bodyPost_ret (results_none rfl _ _ _) rfl ?_
       refine ⟨by first | rfl | simp, ⟨_, _, HS5.out.best D (g_own_weaken HO5.out HB.out.size) ?_ ?_ t⟩, below_set (below_set (below_step HB.out HB5.out) D.b) D.m⟩
       · intro e
         have h1 := own_base HO5.out gm e
         have h2 := blk_lt HS.out.hm
         omega
       · intro kk hk e
         have h1 := own_base HO5.out kk hk
         have h2 := own_lt HS.out.op kk e
         omega
     · rw [if_neg c7] at h
       cases h
   · rw [if_neg c6] at h
     cases h
     have c6b0 : decide (t > m) = false := decide_eq_false c6
     have c6b1 : decide (m < t) = false := decide_eq_false c6
     clear c6
     go_enter Try.func28, Try.ntmps28
     go_wp2_with (first | (go_at_call 29; (with_reducible refine (impl_weightPlaced.calls k _ _ s0 _ _ l1 t _ ?side1 ?side2 ?side3 ?side4 AW.out).mono ?_); (case side1 => exact (Kd.C_below HR0.out HB.out)); (case side2 => exact HN0.out); (case side3 => exact (Kd.R_reads' (g_own_R HS.out.op)).2.2); (case side4 => exact (Kd.R_reads' (g_own_R HS.out.op)).2.1); rintro e w4 ⟨rfl, ⟨⟨nd, rfl⟩⟩⟩))
     (try simp only [Exit.inBlock, Exit.then])
     refine bodyPost_ret (results_none rfl _ _ _) rfl ?_
     exact ⟨by first | rfl | simp, ⟨_, _, HS.out.below (pw_below_drewN (Below.refl _ _) _)⟩, pw_below_drewN HB.out _⟩
 · rw [if_neg c5] at h
   have c5b0 : ((l1.length : Int) == (s0.length : Int)) = false := beq_eq_false_iff_ne.mpr c5
   by_cases c7 : l1.length < 1000
   · rw [if_pos c7] at h
     by_cases c8 : (l1.length : Int) < (s0.length : Int)
     · rw [if_pos c8] at h
       have H' := Aside0.mk h
       have LM := Aside0.mk (show l1.length + 1 < 8796093022208 by omega)
       have l0_ : (0 : Int) ≤ (l1.length : Int) := by omega
       obtain ⟨adl, A2, cc2, e, hv0, hv1, hv2, hv3, hl2, hC2⟩ := at_T36 HR0.out (l1.length : Int) l0_ c8
       cases e
       simp only [Int.toNat_natCast] at hv0 hv1 hv2 hv3
       have HW2 := Aside0.mk hv2
       have HL2 := Aside0.mk hl2
       have c8t := eq_true c8
       have l0t := eq_true l0_
       clear h hv0 hv1 hv2 hv3 hl2 hC2 c5 c7 c8 l0_
       go_enter Try.func28, Try.ntmps28
       go_wp2
       go_loopg [7] k (fun kq v7 w' => ∃ (c : Int) (b1 : List Int) (m1 : Int), v7 = .int .i64 c ∧ Aside0 (impl_BestPlaces.l0 kq s0 l1 c b1 m1 = some r) ∧ Aside0 (kq ≤ k) ∧ Aside0 (∃ vp vb, g_BS w0.heap.size gp gl gm gb gf (some adl) s0.length c0 w' vp vb l1 b1 m1) ∧ Aside0 (Below w0.heap.size w0 w'))
       case atStart => exact ⟨-1, b, m, by first | rfl | (simp; done), H', ⟨Nat.le_refl _⟩, ⟨⟨_, _, HS.out⟩⟩, HB⟩
       case round =>
        clear H' HS HB hcp hcl hcm
        obtain ⟨c, b1, m1, rfl, HA, HK1, HSx, HBr⟩ := hrel
        obtain ⟨vpr, vbr, hSr⟩ := HSx.out
        obtain ⟨Ar, cr, er⟩ := Kd.R_slice (g_own_R hSr.op)
        subst er
        have HSr := Aside0.mk hSr
        have hcp : wr.cell? ⟨gp, 0, none⟩ = some (.slice Ar l1.length cr) := blk_cell hSr.hp 0
        have hcl : wr.cell? ⟨gl, 0, none⟩ = some (.slice (some adl) s0.length c0) := blk_cell hSr.hl 0
        clear hSr HSx
        have hw2 := ((HBr.out.cell (World.block_lt_of_cell? w0 _ HW2.out)).trans HW2.out)
        cases gk with
        | zero => exact absurd HA.out (by simp [impl_BestPlaces.l0])
        | succ k1 =>
         have H := HA.out
         clear HA
         simp only [impl_BestPlaces.l0] at H
         by_cases c9 : c < ((rd_T36 s0 (l1.length : Int)).f2.length : Int)
         · rw [if_pos c9] at H
           have c9b0 : decide (c < ((rd_T36 s0 (l1.length : Int)).f2.length : Int)) = true := decide_eq_true c9
           obtain ⟨t, Af, H⟩ := Option.bind_eq_some_iff.1 H
           have AF := Aside0.mk Af
           clear Af c9
           by_cases ct : t = true
           · subst ct
             rw [if_pos rfl] at H
             have H' := Aside0.mk H
             clear H
             go_wp2_with (first | (go_at_call 31; (with_reducible refine (impl_overlaps.calls k1 _ _ s0 _ _ l1 (l1.length : Int) c true _ ?side1 ?side2 ?side3 ?side4 AF.out).mono ?_); (case side1 => exact (Kd.C_below HR0.out HBr.out)); (case side2 => exact HN0.out); (case side3 => exact (Kd.R_reads' (g_own_R HSr.out.op)).2.2); (case side4 => exact (Kd.R_reads' (g_own_R HSr.out.op)).2.1); rintro e w5 ⟨rfl, hb5⟩; have HB5 := Aside0.mk (below_step HBr.out hb5); have HS5 := Aside0.mk (HSr.out.below hb5); have hcp5 : w5.cell? ⟨gp, 0, none⟩ = some (.slice Ar l1.length cr) := blk_cell HS5.out.hp 0; clear hb5))
             go_roundg k1
             case measure => have := HK1.out; omega
             case rel => exact ⟨(wrap64 (c + 1)), b1, m1, (by first | rfl | (simp; done) | (simp [*]; done)), H', ⟨by have := HK1.out; omega⟩, ⟨⟨_, _, HS5.out⟩⟩, HB5⟩
           · replace ct := Bool.eq_false_iff.mpr ct
             subst ct
             rw [if_neg (by decide)] at H
             obtain ⟨r2, Aw, H⟩ := Option.bind_eq_some_iff.1 H
             have AW := Aside0.mk Aw
             have H' := Aside0.mk H
             clear H Aw
             go_wp2_with (first | (go_at_call 31; (with_reducible refine (impl_overlaps.calls k1 _ _ s0 _ _ l1 (l1.length : Int) c false _ ?side1 ?side2 ?side3 ?side4 AF.out).mono ?_); (case side1 => exact (Kd.C_below HR0.out HBr.out)); (case side2 => exact HN0.out); (case side3 => exact (Kd.R_reads' (g_own_R HSr.out.op)).2.2); (case side4 => exact (Kd.R_reads' (g_own_R HSr.out.op)).2.1); rintro e w5 ⟨rfl, hb5⟩; have HB5 := Aside0.mk (below_step HBr.out hb5); have HS5 := Aside0.mk (HSr.out.below hb5); have hcp5 : w5.cell? ⟨gp, 0, none⟩ = some (.slice Ar l1.length cr) := blk_cell HS5.out.hp 0; clear hb5) | ((with_reducible refine gate_builtin (b := .append) (xs := #[.tmp 39, .tmp 41]) rfl ?_); at_builtin; obtain ⟨A6, c6, w6, hr6, hcp6, hfp6, hS6, hB6⟩ := g_BS.append D HS5.out HB5.out LM.out c; refine Lib.wpList_append_run _ rfl (.tmp 39) (.tmp 41) 26 26 rfl _ _ rfl rfl _ _ hr6 ?_; have HS6 := Aside0.mk hS6; have HB6 := Aside0.mk hB6; have hcf6 : (w6.setCell ⟨gp, 0, none⟩ (.slice A6 (l1.length + 1) c6)).cell? ⟨gf, 0, none⟩ = some (.func (.func 28) #[] #[.pointer (some ⟨gp, 0, none⟩), .pointer (some ⟨gl, 0, none⟩), .pointer (some ⟨gm, 0, none⟩), .pointer (some ⟨gb, 0, none⟩), .pointer (some ⟨gf, 0, none⟩)]) := blk_cell hS6.hf 0; clear hr6 hS6 hB6) | (go_at_call 28; refine (ih k1 (by have := HK1.out; omega) (l1 ++ [c]) b1 m1 r2 _ ⟨_, _, HS6.out⟩ HB6.out AW.out).mono ?_; rintro e w8 ⟨rfl, ⟨vp8, vb8, hs8⟩, hb8⟩; obtain ⟨g8, cap8, e8, hle8, ho8⟩ := g_own_cons hs8.op; subst e8; have HS8 := Aside0.mk hs8; have HO8 := Aside0.mk ho8; have HB8 := Aside0.mk hb8; have hcp8 : w8.cell? ⟨gp, 0, none⟩ = some (.slice (some ⟨g8, 0, none⟩) (l1.length + 1) cap8) := blk_cell hs8.hp 0; have hfp8 := blk_frozen hs8.hp 0; have hle8t := eq_true (show (l1.length : Int) ≤ (cap8 : Int) by omega); clear hs8 ho8 hb8 hle8))
             go_roundg k1
             case measure => have := HK1.out; omega
             case rel => exact ⟨(wrap64 (c + 1)), r2.1, r2.2, (by first | rfl | (simp; done) | (simp [*]; done)), H', ⟨by have := HK1.out; omega⟩, ⟨⟨_, _, HS8.out.back D HO8.out rfl⟩⟩, ⟨below_set HB8.out D.p⟩⟩
         · rw [if_neg c9] at H
           have c9b0 : decide (c < ((rd_T36 s0 (l1.length : Int)).f2.length : Int)) = false := decide_eq_false c9
           clear c9
           cases H
           go_wp2
           go_end0
           exact ⟨by first | rfl | simp, ⟨_, _, HSr.out⟩, HBr.out⟩
     · rw [if_neg c8] at h
       exact absurd h (by simp)
   · rw [if_neg c7] at h
     exact absurd h (by simp)
theorem g_six (w : World) (a b c d e f : Obj) : ((((((w.alloc a).alloc b).alloc c).alloc d).alloc e).alloc f).heap[w.heap.size]? = some a ∧ ((((((w.alloc a).alloc b).alloc c).alloc d).alloc e).alloc f).heap[w.heap.size + 1]? = some b ∧ ((((((w.alloc a).alloc b).alloc c).alloc d).alloc e).alloc f).heap[w.heap.size + 1 + 1]? = some c ∧ ((((((w.alloc a).alloc b).alloc c).alloc d).alloc e).alloc f).heap[w.heap.size + 1 + 1 + 1]? = some d ∧ ((((((w.alloc a).alloc b).alloc c).alloc d).alloc e).alloc f).heap[w.heap.size + 1 + 1 + 1 + 1]? = some e ∧ ((((((w.alloc a).alloc b).alloc c).alloc d).alloc e).alloc f).heap[w.heap.size + 1 + 1 + 1 + 1 + 1]? = some f := by
 have n0 := blk_new w a
 have n1 := blk_new (w.alloc a) b
 have n2 := blk_new ((w.alloc a).alloc b) c
 have n3 := blk_new (((w.alloc a).alloc b).alloc c) d
 have n4 := blk_new ((((w.alloc a).alloc b).alloc c).alloc d) e
 have n5 := blk_new (((((w.alloc a).alloc b).alloc c).alloc d).alloc e) f
 have s : ∀ (W : World) (o : Obj), (W.alloc o).heap.size = W.heap.size + 1 := fun W o => by simp
 simp only [s] at n1 n2 n3 n4 n5
 exact ⟨blk_alloc (blk_alloc (blk_alloc (blk_alloc (blk_alloc n0 _) _) _) _) _, blk_alloc (blk_alloc (blk_alloc (blk_alloc n1 _) _) _) _, blk_alloc (blk_alloc (blk_alloc n2 _) _) _, blk_alloc (blk_alloc n3 _) _, blk_alloc n4 _, n5⟩
theorem g_own0 {W : World} {base k : Nat} (h : W.heap[k]? = some (.cells #[] 2 (0, 0))) (hb : base ≤ k) : g_own W base (.slice (some ⟨k, 0, none⟩) 0 0) [] :=
 ⟨by simp [encs], .inr ⟨k, 0, #[], rfl, hb, h, by simp, by simp [maxLen], by simp, by simp [encs]⟩⟩
theorem g_new_BS (w w4 : World) (A0 : Option Addr) (n c0 : Nat) (hL : w4.heap[w.heap.size]? = some (.cells #[.slice A0 n c0] 24 (0, 0))) : g_BD w.heap.size (w4.heap.size + 1 + 1 + 1 + 1) w.heap.size (w4.heap.size + 1 + 1 + 1) (w4.heap.size + 1 + 1) (w4.heap.size + 1 + 1 + 1 + 1 + 1) ∧ g_BS w.heap.size (w4.heap.size + 1 + 1 + 1 + 1) w.heap.size (w4.heap.size + 1 + 1 + 1) (w4.heap.size + 1 + 1) (w4.heap.size + 1 + 1 + 1 + 1 + 1) A0 n c0 (((((((w4.alloc (.cells #[] 2)).alloc (.cells #[] 2)).alloc (.cells #[.slice (some ⟨w4.heap.size, 0, none⟩) 0 0] 26)).alloc (.cells #[.int .i64 (-1)] 2)).alloc (.cells #[.slice (some ⟨w4.heap.size + 1, 0, none⟩) 0 0] 26)).alloc (.cells #[g_fv (w4.heap.size + 1 + 1 + 1 + 1) w.heap.size (w4.heap.size + 1 + 1 + 1) (w4.heap.size + 1 + 1) (w4.heap.size + 1 + 1 + 1 + 1 + 1)] 1))) (.slice (some ⟨w4.heap.size + 1, 0, none⟩) 0 0) (.slice (some ⟨w4.heap.size, 0, none⟩) 0 0) [] [] (-1) := by
 have hlt := blk_lt hL
 obtain ⟨n0, n1, n2, n3, n4, n5⟩ := g_six w4 (.cells #[] 2) (.cells #[] 2) (.cells #[.slice (some ⟨w4.heap.size, 0, none⟩) 0 0] 26) (.cells #[.int .i64 (-1)] 2) (.cells #[.slice (some ⟨w4.heap.size + 1, 0, none⟩) 0 0] 26) (.cells #[g_fv (w4.heap.size + 1 + 1 + 1 + 1) w.heap.size (w4.heap.size + 1 + 1 + 1) (w4.heap.size + 1 + 1) (w4.heap.size + 1 + 1 + 1 + 1 + 1)] 1)
 refine ⟨⟨by omega, by omega, by omega, by omega, by omega, by omega, by omega, by omega, by omega, by omega, by omega, by omega⟩, ?_⟩
 refine ⟨n4, blk_alloc (blk_alloc (blk_alloc (blk_alloc (blk_alloc (blk_alloc hL _) _) _) _) _) _, n3, n2, n5, g_own0 n1 (by omega), g_own0 n0 (by omega), ?_, ?_, ?_⟩
 · intro e; simp [Value.ownBlock] at e <;> omega
 · intro e; simp [Value.ownBlock] at e <;> omega
 · intro k hk e; simp [Value.ownBlock] at hk e <;> omega
set_option maxHeartbeats 8000000 in
set_option maxRecDepth 100000 in
theorem impl_BestPlaces.calls (k : Nat) (A0 : Option Addr) (c0 : Nat) (l0 : List S36) (r1 : List Int) (r2 : Int) (r3 : Int) (w : World) (hr0 : Kd.C k36 w A0 l0.length l0) (hc0 : l0.length ≤ c0) (h : impl_BestPlaces.f k l0 = some (r1, r2, r3)) :
  Calls Try.prog 8 #[.slice A0 l0.length c0] w fun e w' => ∃ v0_ : Value, e = .returned (.tuple #[v0_, .int .i64 r2, .int .i64 r3]) ∧ Kd.R (Kd.int .i64) 2 w' w.heap.size (fun _ => True) v0_ r1 ∧ Below w.heap.size w w' := by
 have HR0 := Aside0.mk hr0
 have HC0 := Aside0.mk hc0
 clear hr0 hc0
 unfold impl_BestPlaces.f at h
 obtain ⟨t, ht, H⟩ := Option.bind_eq_some_iff.mp h
 have A1 := Aside0.mk ht
 clear h ht
 have HB0 := Aside0.mk (show Below w.heap.size w (w.alloc (.cells #[.slice A0 l0.length c0] 24)) from below_alloc (Below.refl _ _) _)
 have HL0 := Aside0.mk (heap_alloc_new w (.cells #[.slice A0 l0.length c0] 24))
 have hcl0 : (w.alloc (.cells #[.slice A0 l0.length c0] 24)).cell? ⟨w.heap.size, 0, none⟩ = some (.slice A0 l0.length c0) := blk_cell HL0.out 0
 cases t with
 | false =>
  rw [if_neg (by decide)] at H
  cases H
  go_enter Try.func8, Try.ntmps8
  go_wp2_with (first | (go_at_call 27; (with_reducible refine (impl_ValidLabels.calls k A0 c0 l0 false _ ?side1 ?side2 A1.out).mono ?_); (case side1 => exact Kd.C_below HR0.out HB0.out); (case side2 => exact HC0.out); rintro e w4 ⟨rfl, hb4⟩; have HB4 := Aside0.mk (below_step HB0.out hb4); have HL4 := Aside0.mk (blk_below HL0.out hb4); clear hb4))
  go_ret3
  exact ⟨_, rfl, Kd.R_nil _ _ _ _ _, HB4.out⟩
 | true =>
  rw [if_pos rfl] at H
  obtain ⟨bm, hw, H⟩ := Option.bind_eq_some_iff.mp H
  cases H
  have HW := Aside0.mk hw
  clear hw
  go_enter Try.func8, Try.ntmps8
  go_wp2_with (first | (go_at_call 27; (with_reducible refine (impl_ValidLabels.calls k A0 c0 l0 true _ ?side1 ?side2 A1.out).mono ?_); (case side1 => exact Kd.C_below HR0.out HB0.out); (case side2 => exact HC0.out); rintro e w4 ⟨rfl, hb4⟩; have HB4 := Aside0.mk (below_step HB0.out hb4); have HL4 := Aside0.mk (blk_below HL0.out hb4); clear hb4; have HBZ := Aside0.mk (show Below w.heap.size w (((((((w4.alloc (.cells #[] 2)).alloc (.cells #[] 2)).alloc (.cells #[.slice (some ⟨w4.heap.size, 0, none⟩) 0 0] 26)).alloc (.cells #[.int .i64 (-1)] 2)).alloc (.cells #[.slice (some ⟨w4.heap.size + 1, 0, none⟩) 0 0] 26)).alloc (.cells #[g_fv (w4.heap.size + 1 + 1 + 1 + 1) w.heap.size (w4.heap.size + 1 + 1 + 1) (w4.heap.size + 1 + 1) (w4.heap.size + 1 + 1 + 1 + 1 + 1)] 1))) from below_alloc (below_alloc (below_alloc (below_alloc (below_alloc (below_alloc HB4.out _) _) _) _) _) _); have HN := Aside0.mk (g_new_BS w w4 A0 l0.length c0 HL4.out)) | (go_at_call 28; refine (g_bp.calls w A0 c0 l0 HR0.out HC0.out _ _ _ _ _ HN.out.1 k [] [] (-1) bm _ ⟨_, _, HN.out.2⟩ HBZ.out HW.out).mono ?_; rintro e w8 ⟨rfl, ⟨vp8, vb8, hs8⟩, hb8⟩; obtain ⟨A8, c8, e8⟩ := Kd.R_slice (g_own_R hs8.ob); subst e8; have HO8 := Aside0.mk (g_own_R hs8.ob); have HB8 := Aside0.mk hb8; have hcb8 : w8.cell? ⟨w4.heap.size + 1 + 1, 0, none⟩ = some (.slice A8 bm.1.length c8) := blk_cell hs8.hb 0; have hcm8 : w8.cell? ⟨w4.heap.size + 1 + 1 + 1, 0, none⟩ = some (.int .i64 bm.2) := blk_cell hs8.hm 0; clear hs8 hb8))
  repeat (go_quiet (fail); try go_wp2)
  go_ret3
  exact ⟨_, by first | rfl | simp, by (with_reducible repeat (first | apply Kd.R_alloc | apply Kd.R_drewN | apply Kd.R_drew)); exact HO8.out, by repeat (first | (with_reducible first | exact HB8.out | apply below_alloc | apply pw_below_drewN | apply below_drew1) | exact HB8.out)⟩

end Go.Proofs.Ytjfkjmfdckbecaa.Print
