-- Printed by a program of this session out of the translation; not trusted: Lean checks it.
import Derived.Test.YtacbacbmomhjoaaDoorPrint0
import Derived.Test.YtacbacbmomhjoaaDoorPrint7
import Derived.Test.YtacbacbmomhjoaaDoorPrint8
import Derived.Maps.OwnOps
import Derived.DeepKeys4
namespace Go.Proofs.YtacbacbmomhjoaaDoor.Print
open Go.RowKit Go.Proofs.YtacbacbmomhjoaaDoorW.PrintWords Go.Proofs.YtacbacbmomhjoaaDoorW.PrintLast Go.Proofs.YtacbacbmomhjoaaDoorW.PrintMore
attribute [local go_sem] max2_int min2_int max_two min_two max_three min_three max_four min_four   -- for this text's walks alone
set_option linter.unusedVariables false
set_option linter.unusedSimpArgs false

-- imports: Derived.Maps.OwnOps
-- imports: Derived.DeepKeys4
/-! ### impl_partsOf: function 15 -/
def g_wf (c : S43) : Bool := (Lit.int .i64 c.f0).wf && (Lit.int .i64 c.f1).wf
def g_same (a b : S43) : Bool := a.f0 == b.f0 && a.f1 == b.f1
def g_has (ms : List S43) (c : S43) : Bool := ms.any (g_same c)
mutual
def impl_partsOf.l0 : Nat → List ByteArray → Int → List S43 → Int → List S43 → Int → Option Int
 | 0, _, _, _, _, _, _ => none
 | k + 1, x0, x1, t, x5, ms, i => if i < (t.length : Int) then (if 0 ≤ i then (if g_wf (rd_T43 t i) = true then (if g_has ms (rd_T43 t i) = true then impl_partsOf.l0 k x0 x1 t x5 ms (wrap64 (i + 1)) else impl_partsOf.l1 k x0 x1 t (wrap64 (x5 + 1)) i (ms ++ [rd_T43 t i]) [rd_T43 t i]) else none) else none) else some x5
def impl_partsOf.l1 : Nat → List ByteArray → Int → List S43 → Int → Int → List S43 → List S43 → Option Int
 | 0, _, _, _, _, _, _, _ => none
 | k + 1, x0, x1, t, x5, i, ms, q => if 0 < (q.length : Int) then ((impl_nextTo.f x0 (rd_T43 q 0).f0 (rd_T43 q 0).f1).bind fun t2 => impl_partsOf.l2 k x0 x1 t x5 i ms (q.drop 1) t2 0) else impl_partsOf.l0 k x0 x1 t x5 ms (wrap64 (i + 1))
def impl_partsOf.l2 : Nat → List ByteArray → Int → List S43 → Int → Int → List S43 → List S43 → List S43 → Int → Option Int
 | 0, _, _, _, _, _, _, _, _, _ => none
 | k + 1, x0, x1, t, x5, i, ms, q, t2, j => if j < (t2.length : Int) then (if 0 ≤ j then (if 0 ≤ (rd_T43 t2 j).f0 then (if (rd_T43 t2 j).f0 < (x0.length : Int) then (if 0 ≤ (rd_T43 t2 j).f1 then (if (rd_T43 t2 j).f1 < ((rdOf ByteArray.empty x0 ((rd_T43 t2 j).f0)).size : Int) then (if g_wf (rd_T43 t2 j) = true then (if bt (rdOf ByteArray.empty x0 ((rd_T43 t2 j).f0)) ((rd_T43 t2 j).f1) = x1 then (if g_has ms (rd_T43 t2 j) = true then impl_partsOf.l2 k x0 x1 t x5 i ms q t2 (wrap64 (j + 1)) else (if q.length < 8796093022207 then impl_partsOf.l2 k x0 x1 t x5 i (ms ++ [rd_T43 t2 j]) (q ++ [rd_T43 t2 j]) t2 (wrap64 (j + 1)) else none)) else impl_partsOf.l2 k x0 x1 t x5 i ms q t2 (wrap64 (j + 1))) else none) else none) else none) else none) else none) else none) else impl_partsOf.l1 k x0 x1 t x5 i ms q
end
def impl_partsOf.f (k : Nat) (l0 : List ByteArray) (a1 : Int) : Option Int := (impl_cellsWith.f k l0 a1).bind fun t => impl_partsOf.l0 k l0 a1 t 0 [] 0
theorem impl_partsOf.mono_l : ∀ k, (∀ y0 y1 y2 y3 y4 y5, LeO (impl_partsOf.l0 k y0 y1 y2 y3 y4 y5) (impl_partsOf.l0 (k + 1) y0 y1 y2 y3 y4 y5)) ∧ (∀ y0 y1 y2 y3 y4 y5 y6, LeO (impl_partsOf.l1 k y0 y1 y2 y3 y4 y5 y6) (impl_partsOf.l1 (k + 1) y0 y1 y2 y3 y4 y5 y6)) ∧ (∀ y0 y1 y2 y3 y4 y5 y6 y7 y8, LeO (impl_partsOf.l2 k y0 y1 y2 y3 y4 y5 y6 y7 y8) (impl_partsOf.l2 (k + 1) y0 y1 y2 y3 y4 y5 y6 y7 y8))
 | 0 => ⟨fun _ _ _ _ _ _ r h => by simp [impl_partsOf.l0] at h, fun _ _ _ _ _ _ _ r h => by simp [impl_partsOf.l1] at h, fun _ _ _ _ _ _ _ _ _ r h => by simp [impl_partsOf.l2] at h⟩
 | k + 1 => by
  obtain ⟨ih0, ih1, ih2⟩ := impl_partsOf.mono_l k
  refine ⟨?_, ?_, ?_⟩
  · intro y0 y1 y2 y3 y4 y5
    unfold impl_partsOf.l0
    repeat' first
    | exact ih0 _ _ _ _ _ _
    | exact ih1 _ _ _ _ _ _ _
    | exact LeO.refl _
    | exact LeO.none _
    | refine LeO.ite ?_ ?_
  · intro y0 y1 y2 y3 y4 y5 y6
    unfold impl_partsOf.l1
    repeat' first
    | exact ih0 _ _ _ _ _ _
    | exact ih2 _ _ _ _ _ _ _ _ _
    | exact LeO.refl _
    | exact LeO.none _
    | refine LeO.ite ?_ ?_
    | refine LeO.bind ?_ (fun _ => ?_)
  · intro y0 y1 y2 y3 y4 y5 y6 y7 y8
    unfold impl_partsOf.l2
    repeat' first
    | exact ih1 _ _ _ _ _ _ _
    | exact ih2 _ _ _ _ _ _ _ _ _
    | exact LeO.refl _
    | exact LeO.none _
    | refine LeO.ite ?_ ?_
theorem impl_partsOf.mono : ∀ a0 a1 k, LeO (impl_partsOf.f k a0 a1) (impl_partsOf.f (k + 1) a0 a1) := by
 intro a0 a1 k
 unfold impl_partsOf.f
 exact LeO.bind (impl_cellsWith.mono _ _ _) (fun _ => (impl_partsOf.mono_l k).1 _ _ _ _ _ _)
set_option maxHeartbeats 8000000 in
theorem g_uM : Tryd.prog.underlying 39 = some (.map 43 4) := by kernel_rfl
theorem g_z4 (w : World) : (zeroValue 4).run Tryd.prog w = .ok (.bool false) w := by kernel_rfl
theorem g_laid : laidOutB Tryd.prog = true := by kernel_rfl
theorem g_wide : (match Tryd.prog.underlying 43 with | some (.array _ _) | some (.struct _) => true | _ => false) = true := by kernel_rfl
theorem g_rowC : (43 : TypeId) < Tryd.prog.types.size := of_decide_eq_true (by kernel_rfl)
theorem g_law : Maps.Keyed Tryd.prog 43 := Maps.Keyed.of_law (deep_law_laid g_laid (m := 2) (by omega) g_rowC (by kernel_rfl) g_wide)
theorem g_kt : Tryd.prog.keyType 43 = true := by kernel_rfl
theorem g_cC : Tryd.prog.cellsOf 43 = 2 := by kernel_rfl
theorem g_cI : Tryd.prog.cellsOf 3 = 1 := by kernel_rfl
theorem g_uI : Tryd.prog.underlying 3 = some (.int .i64) := by kernel_rfl
def g_cv (c : S43) : Value := .agg #[.int .i64 c.f0, .int .i64 c.f1]
theorem g_kl (n : Nat) {a b : Int} (h0 : (Lit.int .i64 a).wf = true) (h1 : (Lit.int .i64 b).wf = true) : Tryd.prog.keyLits (n + 2) 43 [.int .i64 a, .int .i64 b] = some [.int .i64 a, .int .i64 b] := by
 have e1 : ∀ x : Int, (Lit.int .i64 x).wf = true → Tryd.prog.keyLits (n + 1) 3 [.int .i64 x] = some [.int .i64 x] := by
  intro x hx
  simp only [Program.keyLits, g_uI]
  rw [if_pos ⟨trivial, hx⟩]
 unfold Program.keyLits
 rw [Tryd.underlying43]
 simp [g_cC, g_cI, e1 a h0, e1 b h1]
theorem g_key {c : S43} (h : g_wf c = true) : ∃ l, keyOf Tryd.prog 43 (g_cv c) = some l := by
 have h0 : (Lit.int .i64 c.f0).wf = true := by unfold g_wf at h; simp only [Bool.and_eq_true] at h; exact h.1
 have h1 : (Lit.int .i64 c.f1).wf = true := by unfold g_wf at h; simp only [Bool.and_eq_true] at h; exact h.2
 refine ⟨.string (keyBytes [.int .i64 c.f0, .int .i64 c.f1]), ?_⟩
 unfold keyOf
 rw [Tryd.underlying43]
 have hf : (g_cv c).formed Tryd.prog 43 = true := by simp [g_cv, Value.formed, Tryd.underlying43, g_cC]
 obtain ⟨n, hn⟩ : ∃ n, Tryd.prog.types.size + 1 = n + 2 := ⟨Tryd.prog.types.size - 1, by have h : 43 < Tryd.prog.types.size := g_rowC; omega⟩
 rw [hn]
 show (if (Tryd.prog.keyType 43 && (g_cv c).formed Tryd.prog 43) = true then (Tryd.prog.keyLits (n + 2) 43 [.int .i64 c.f0, .int .i64 c.f1]).map (fun ls => Lit.string (keyBytes ls)) else none) = _
 rw [g_kt, hf, g_kl n h0 h1]
 rfl
/-- The map's block behind these stores. -/
def g_ent (p : S43 × Nat) : MapEntry := ⟨g_cv p.1, .bool true, p.2⟩
def g_obj (ms : List S43) : Obj := .map (ms.zipIdx.map g_ent).toArray ms.length
theorem g_cv_inj {a b : S43} : g_cv a = g_cv b ↔ g_same a b = true := by
 unfold g_cv g_same
 constructor
 · intro h
   injection h with h
   simp at h
   simp [h.1, h.2]
 · intro h
   simp at h
   rw [h.1, h.2]
theorem g_wfs {ms : List S43} (h : ms.all g_wf = true) : ∀ e ∈ (ms.zipIdx.map g_ent), ∃ l, keyOf Tryd.prog 43 e.key = some l := by
 intro e he
 obtain ⟨p, hp, rfl⟩ := List.mem_map.1 he
 have h2 := List.fst_mem_of_mem_zipIdx hp
 exact g_key (List.all_eq_true.1 h _ h2)
theorem g_find {ms : List S43} (h : ms.all g_wf = true) {c : S43} (hc : g_wf c = true) (w : World) :
  (g_has ms c = false ∧ (Instr.findKey 43 (g_cv c) (ms.zipIdx.map g_ent)).run Tryd.prog w = .ok none w) ∨ (g_has ms c = true ∧ ∃ j, (Instr.findKey 43 (g_cv c) (ms.zipIdx.map g_ent)).run Tryd.prog w = .ok (some (j, .bool true)) w) := by
 obtain ⟨l, hl⟩ := g_key hc
 rcases g_law.find w hl _ (g_wfs h) with ⟨h1, h2⟩ | ⟨j, e, h1, h2, h3⟩
 · left
   refine ⟨?_, h1⟩
   unfold g_has
   rw [List.any_eq_false]
   intro p hp
   obtain ⟨i, hi, ei⟩ := List.getElem_of_mem hp
   have := h2 (g_ent (p, i)) (List.mem_map.2 ⟨(p, i), by rw [← ei]; exact List.mk_mem_zipIdx_iff_getElem?.2 (List.getElem?_eq_getElem hi), rfl⟩)
   intro hs
   exact this (g_cv_inj.2 hs).symm
 · right
   have hm := List.mem_of_getElem? h2
   obtain ⟨p, hp, rfl⟩ := List.mem_map.1 hm
   refine ⟨?_, j, h1⟩
   unfold g_has
   exact List.any_eq_true.2 ⟨p.1, List.fst_mem_of_mem_zipIdx hp, g_cv_inj.1 h3.symm⟩
theorem g_look {w : World} {gm : Nat} {ms : List S43} (hm : w.heap[gm]? = some (g_obj ms)) (h : ms.all g_wf = true) {c : S43} (hc : g_wf c = true) :
  (Instr.lookup 39 (.map (some gm)) (g_cv c) false).run Tryd.prog w = .ok (.bool (g_has ms c)) w := by
 obtain ⟨l, hl⟩ := g_key hc
 rcases g_find h hc w with ⟨e, h1⟩ | ⟨e, j, h1⟩
 · rw [e]
   simp [Instr.lookup, run_underlying g_uM, MapKept.run_getObj_map hm, g_law.check w _ hl, h1, g_z4, Result.andThen]
 · rw [e]
   simp [Instr.lookup, run_underlying g_uM, MapKept.run_getObj_map hm, g_law.check w _ hl, h1, Result.andThen]
theorem g_upd {w : World} {gm : Nat} {ms : List S43} (hm : w.heap[gm]? = some (g_obj ms)) (h : ms.all g_wf = true) {c : S43} (hc : g_wf c = true) (hn : g_has ms c = false) :
  (Instr.mapUpdate 39 (.map (some gm)) (g_cv c) (.bool true)).run Tryd.prog w = .ok () (ChangeMaps.setBlock w gm (g_obj (ms ++ [c]))) := by
 obtain ⟨l, hl⟩ := g_key hc
 rcases g_find h hc w with ⟨e, h1⟩ | ⟨e, j, h1⟩
 · have eo : g_obj (ms ++ [c]) = .map ((ms.zipIdx.map g_ent).toArray.push ⟨g_cv c, .bool true, ms.length⟩) (ms.length + 1) := by
     unfold g_obj
     rw [List.zipIdx_append, List.map_append]
     simp [g_ent]
   rw [eo]
   simp [Instr.mapUpdate, run_underlying g_uM, MapKept.run_getObj_map hm, g_law.check w false hl, h1, MapKept.run_setObj_map _ hm, Result.andThen, ChangeMaps.setBlock]
 · rw [hn] at e; cases e
/-- What the call has made: the map behind the stores ms, and the row of the cells. -/
structure G1 (w W : World) (ms : List S43) (tv : Value) (t : List S43) : Prop where
 below : Below w.heap.size w W
 map : W.heap[w.heap.size]? = some (g_obj ms)
 wf : ms.all g_wf = true
 row : Kd.R k43 43 W w.heap.size (fun k => some k = tv.ownBlock) tv t
theorem G1.below_ {w W W2 : World} {ms t : List S43} {tv : Value} (h : G1 w W ms tv t) (hb : Below W.heap.size W W2) : G1 w W2 ms tv t := ⟨below_step h.below hb, blk_below h.map hb, h.wf, Kd.R_below h.row hb⟩
theorem g_off {W : World} {k gm : Nat} {ms : List S43} (hm : W.heap[gm]? = some (g_obj ms)) (h : ∃ cells, W.heap[k]? = some (.cells cells 43 (0, 0))) : k ≠ gm := by
 rintro rfl
 obtain ⟨cells, hc⟩ := h
 rw [hm] at hc
 cases hc
theorem G1.off {w W : World} {ms t : List S43} {tv : Value} (h : G1 w W ms tv t) : ∀ k, tv.ownBlock = some k → k ≠ w.heap.size := fun k hk => g_off h.map (Kd.R_typed h.row k hk)
theorem g_set {w W : World} {ms : List S43} (hb : Below w.heap.size w W) (hm : W.heap[w.heap.size]? = some (g_obj ms)) (o : Obj) : Below w.heap.size w (ChangeMaps.setBlock W w.heap.size o) :=
 ⟨hb.os, hb.tape, hb.output, by rw [show (ChangeMaps.setBlock W w.heap.size o).heap.size = W.heap.size by simp [ChangeMaps.setBlock]]; exact hb.size, fun k hk => (ChangeMaps.heap_setBlock_other hm o (Nat.ne_of_lt hk)).trans (hb.block k hk)⟩
theorem G1.put {w W : World} {ms t : List S43} {tv : Value} (h : G1 w W ms tv t) (ms' : List S43) (hw : ms'.all g_wf = true) : G1 w (ChangeMaps.setBlock W w.heap.size (g_obj ms')) ms' tv t :=
 ⟨g_set h.below h.map _, ChangeMaps.heap_setBlock_same h.map _, hw, Kd.R_step h.row (fun k hk _ => ChangeMaps.heap_setBlock_other h.map _ (h.off k hk.symm))⟩
structure G2 (w W : World) (ms : List S43) (tv : Value) (t : List S43) (qv : Value) (q : List S43) : Prop where
 g1 : G1 w W ms tv t
 q : Kd.Q k43 43 W w.heap.size (fun k => some k = qv.ownBlock) qv q
 ne : ∀ k, tv.ownBlock = some k → some k ≠ qv.ownBlock
theorem G2.below_ {w W W2 : World} {ms t q : List S43} {tv qv : Value} (h : G2 w W ms tv t qv q) (hb : Below W.heap.size W W2) : G2 w W2 ms tv t qv q := ⟨h.g1.below_ hb, Kd.Q_below h.q hb, h.ne⟩
theorem G2.put {w W : World} {ms t q : List S43} {tv qv : Value} (h : G2 w W ms tv t qv q) (ms' : List S43) (hw : ms'.all g_wf = true) : G2 w (ChangeMaps.setBlock W w.heap.size (g_obj ms')) ms' tv t qv q :=
 ⟨h.g1.put ms' hw, Kd.Q_step h.q (fun k hk _ => ChangeMaps.heap_setBlock_other h.g1.map _ (g_off h.g1.map (Kd.Q_typed h.q k hk.symm))), h.ne⟩
theorem G1.lit {w W W2 : World} {ms t q : List S43} {tv qv : Value} {ok : Nat → Prop} (h : G1 w W ms tv t) (ho : Kd.R k43 43 W2 W.heap.size ok qv q) (hb : Below W.heap.size W W2) : G2 w W2 ms tv t qv q :=
 ⟨h.below_ hb, Kd.Q_of_R (Kd.R_lower (Kd.R_tight rfl ho) h.below.size), fun k hk e => by have h1 := Kd.R_lt h.row k hk; have h2 := Kd.R_base ho k e.symm; omega⟩
theorem G2.drop {w W : World} {ms t q : List S43} {tv : Value} {A : Option Addr} {n c : Nat} (h : G2 w W ms tv t (.slice A n c) q) (hk : 1 ≤ q.length) {v : Value} (hv : v = .slice (if c = 1 then A else A.map (·.add (1 * 2))) (n - 1) (c - 1)) : G2 w W ms tv t v (q.drop 1) := by
 have h2 := Kd.Q_drop h.q hk
 subst hv
 refine ⟨h.g1, Kd.Q_tight rfl h2, fun k hk2 e => h.ne k hk2 ?_⟩
 exact h2.1 k e.symm
structure G3 (w W : World) (ms : List S43) (tv : Value) (t : List S43) (qv : Value) (q : List S43) (uv : Value) (u : List S43) : Prop where
 g2 : G2 w W ms tv t qv q
 row : Kd.R k43 43 W w.heap.size (fun k => some k = uv.ownBlock) uv u
 ne : ∀ k, uv.ownBlock = some k → some k ≠ qv.ownBlock
theorem G3.below_ {w W W2 : World} {ms t q u : List S43} {tv qv uv : Value} (h : G3 w W ms tv t qv q uv u) (hb : Below W.heap.size W W2) : G3 w W2 ms tv t qv q uv u := ⟨h.g2.below_ hb, Kd.R_below h.row hb, h.ne⟩
theorem G3.put {w W : World} {ms t q u : List S43} {tv qv uv : Value} (h : G3 w W ms tv t qv q uv u) (ms' : List S43) (hw : ms'.all g_wf = true) : G3 w (ChangeMaps.setBlock W w.heap.size (g_obj ms')) ms' tv t qv q uv u :=
 ⟨h.g2.put ms' hw, Kd.R_step h.row (fun k hk _ => ChangeMaps.heap_setBlock_other h.g2.g1.map _ (g_off h.g2.g1.map (Kd.R_typed h.row k hk.symm))), h.ne⟩
theorem G2.more {w W W2 : World} {ms t q u : List S43} {tv qv uv : Value} {ok : Nat → Prop} (h : G2 w W ms tv t qv q) (ho : Kd.R k43 43 W2 W.heap.size ok uv u) (hb : Below W.heap.size W W2) : G3 w W2 ms tv t qv q uv u :=
 ⟨h.below_ hb, Kd.R_lower (Kd.R_tight rfl ho) h.g1.below.size, fun k hk e => by have h1 := Kd.Q_lt h.q k e.symm; have h2 := Kd.R_base ho k hk; omega⟩
theorem G3.app {w W W2 : World} {ms t q u q2 : List S43} {tv qv uv v1 : Value} {ok : Nat → Prop} (h : G3 w W ms tv t qv q uv u) (ho : Kd.Q k43 43 W2 w.heap.size ok v1 q2) (hb : Below w.heap.size w W2) (hg : W.grownBy W2 qv.ownBlock) (hat : v1.ownBlock = qv.ownBlock ∨ ∃ b, v1.ownBlock = some b ∧ W.heap.size ≤ b) : G3 w W2 ms tv t v1 q2 uv u := by
 have hgm : some w.heap.size ≠ qv.ownBlock := fun e => g_off h.g2.g1.map (Kd.Q_typed h.g2.q _ e.symm) rfl
 refine ⟨⟨⟨hb, ?_, h.g2.g1.wf, Kd.R_step h.g2.g1.row (fun k hk hlt => hg.block k hlt (h.g2.ne k hk.symm))⟩, Kd.Q_tight rfl ho, fun k hk e => ?_⟩, Kd.R_step h.row (fun k hk hlt => hg.block k hlt (h.ne k hk.symm)), fun k hk e => ?_⟩
 · exact (hg.block _ (blk_lt h.g2.g1.map) hgm).trans h.g2.g1.map
 · rcases hat with e2 | ⟨b, e2, hlt⟩
   · exact h.g2.ne k hk (e.trans e2)
   · rw [e2] at e
     have := Kd.R_lt h.g2.g1.row k hk
     injection e with e
     omega
 · rcases hat with e2 | ⟨b, e2, hlt⟩
   · exact h.ne k hk (e.trans e2)
   · rw [e2] at e
     have := Kd.R_lt h.row k hk
     injection e with e
     omega
theorem g_start {w w4 : World} {v : Value} {t : List S43} {ok : Nat → Prop} (ho : Kd.R k43 43 w4 (w.alloc (.map #[] 0)).heap.size ok v t) (hb : Below (w.alloc (.map #[] 0)).heap.size (w.alloc (.map #[] 0)) w4) : G1 w w4 [] v t :=
 ⟨below_step (below_alloc (Below.refl _ _) _) hb, (blk_below (blk_new w (.map #[] 0)) hb), rfl, Kd.R_lower (Kd.R_tight rfl ho) (below_alloc (Below.refl _ _) _).size⟩
theorem g_wpLook {P : Program} {W : World} {ops : Array Oper} {rest : List Oper} {o : Oper} {a : Act} {Q : Exit → Act → World → Prop} (φ : World → Prop) (hφ : φ W) (hg : o.guard = none) (m x : Operand) (t : TypeId) (hop : o.op = Op.lookup t m x false) (b : Nat) (key : Value) (v : Bool) (hm : a.eval m = .map (some b)) (hx : a.eval x = key)
  (hrun : ∀ W2, φ W2 → (Instr.lookup t (.map (some b)) key false).run P W2 = .ok (.bool v) W2) (hK : ∀ W2, φ W2 → wpList P ops Q rest (a.put o.dst (.bool v)) W2) : wpList P ops Q (o :: rest) a W := by
 refine wpList_plain hg fun K' hK' => ?_
 unfold Oper.wp
 simp [execOp, hop, hm, hx, hrun W hφ, Result.andThen]
 exact hK' _ _ (hK W hφ)
theorem g_wpUpd {P : Program} {W : World} {ops : Array Oper} {rest : List Oper} {o : Oper} {a : Act} {Q : Exit → Act → World → Prop} (ψ : World → Prop) (hg : o.guard = none) (m x y : Operand) (t : TypeId) (hop : o.op = Op.mapUpdate t m x y) (b : Nat) (key val : Value) (hm : a.eval m = .map (some b)) (hx : a.eval x = key) (hy : a.eval y = val)
  (W3 : World) (hrun : (Instr.mapUpdate t (.map (some b)) key val).run P W = .ok () W3) (hψ : ψ W3) (hK : ∀ W3, ψ W3 → wpList P ops Q rest (a.put o.dst undef) W3) : wpList P ops Q (o :: rest) a W := by
 refine wpList_plain hg fun K' hK' => ?_
 unfold Oper.wp
 simp [execOp, hop, hm, hx, hy, hrun, Result.andThen]
 exact hK' _ _ (hK W3 hψ)
theorem g_gateU {P : Program} {ops : Array Oper} {rest : List Oper} {o : Oper} {a : Act} {Q : Exit → Act → World → Prop} {W : World} {m x y : Operand} {t : TypeId} (_ho : o.op = Op.mapUpdate t m x y) (h : wpList P ops Q (o :: rest) a W) : wpList P ops Q (o :: rest) a W := h
set_option maxHeartbeats 8000000 in
set_option maxRecDepth 100000 in
theorem impl_partsOf.calls (k : Nat) (A0 : Option Addr) (c0 : Nat) (l0 : List ByteArray) (a1 : Int) (r : Int) (w : World) (hr0 : Kd.C Kd.string w A0 l0.length l0) (hc0 : l0.length ≤ c0) (h : impl_partsOf.f k l0 a1 = some r) :
  Calls Tryd.prog 15 #[.slice A0 l0.length c0, .int .u8 a1] w fun e w' => e = .returned (.int .i64 r) ∧ Below w.heap.size w w' := by
 have hu43 := Tryd.underlying43
 have HR0 := Aside0.mk hr0
 have HC0 := Aside0.mk hc0
 clear hr0 hc0
 unfold impl_partsOf.f at h
 obtain ⟨t, ht, H⟩ := Option.bind_eq_some_iff.mp h
 clear h
 have A3 := Aside0.mk ht
 clear ht
 have H' := Aside0.mk H
 clear H
 have hmm := @run_makeMap Tryd.prog
 go_enter Tryd.func15, Tryd.ntmps15
 go_wp2_with (first | (go_at_call 21; (with_reducible refine (impl_cellsWith.calls k _ _ l0 a1 t _ ?side1 ?side2 A3.out).mono ?_); (case side1 => exact Kd.C_alloc HR0.out _); (case side2 => exact HC0.out); rintro e w4 ⟨v295, rfl, ho0, hb⟩; have G := g_start ho0 hb; clear ho0 hb; obtain ⟨Ao5, co5, eo5⟩ := Kd.R_slice G.row; subst eo5))
 clear hmm
 go_loopg [5, 18] k (fun kq v5 v18 w' => ∃ (x5 x18 : Int) (ms : List S43), v5 = .int .i64 x5 ∧ v18 = .int .i64 x18 ∧ Aside0 (impl_partsOf.l0 kq l0 a1 t x5 ms x18 = some r) ∧ Aside0 (kq ≤ k) ∧ G1 w w' ms (.slice Ao5 t.length co5) t)
 case atStart => exact ⟨0, 0, [], rfl, rfl, H', ⟨Nat.le_refl _⟩, G⟩
 case round =>
  clear H' G
  obtain ⟨x5, x18, ms, rfl, rfl, HA, HK1, G⟩ := hrel
  cases gk with
  | zero => exact absurd HA.out (by simp [impl_partsOf.l0])
  | succ k1 =>
   have H := HA.out
   clear HA
   simp only [impl_partsOf.l0] at H
   by_cases c6 : x18 < (t.length : Int)
   · rw [if_pos c6] at H
     have c6b0 : decide (x18 < (t.length : Int)) = true := decide_eq_true c6
     by_cases c7 : 0 ≤ x18
     · rw [if_pos c7] at H
       have c7b0 : decide (0 ≤ x18) = true := decide_eq_true c7
       by_cases c8 : g_wf (rd_T43 t x18) = true
       · rw [if_pos c8] at H
         obtain ⟨ad, e, hx0, hx1⟩ := at_T43 (Kd.R_reads' G.row).2.2 x18 c7 c6
         cases e
         replace c6 := eq_true c6
         replace c7 := eq_true c7
         obtain ⟨c, hc⟩ : ∃ c, rd_T43 t x18 = c := ⟨_, rfl⟩
         rw [hc] at H hx0 hx1 c8
         have CW := Aside0.mk c8
         clear hc c8
         obtain ⟨m0, m1⟩ := c
         dsimp only at hx0 hx1
         have GB := G.below_ (below_alloc (Below.refl _ _) (Obj.cells #[Value.int IntKind.i64 m0, Value.int IntKind.i64 m1] 43))
         have hl : (Instr.lookup 39 (.map (some w.heap.size)) (.agg #[.int .i64 m0, .int .i64 m1]) false).run Tryd.prog (wr.alloc (Obj.cells #[Value.int IntKind.i64 m0, Value.int IntKind.i64 m1] 43)) = .ok (.bool (g_has ms ⟨m0, m1⟩)) (wr.alloc (Obj.cells #[Value.int IntKind.i64 m0, Value.int IntKind.i64 m1] 43)) := g_look GB.map GB.wf CW.out
         cases c9 : g_has ms ⟨m0, m1⟩ with
         | true =>
          rw [c9] at hl
          rw [if_pos c9] at H
          have H' := Aside0.mk H
          have GBA := Aside0.mk GB
          clear H GB G
          go_wp2
          go_roundg k1
          case measure => have := HK1.out; omega
          case rel => exact ⟨x5, wrap64 (x18 + 1), ms, rfl, by first | rfl | (simp; done), H', ⟨by have := HK1.out; omega⟩, GBA.out⟩
         | false =>
          rw [c9] at hl
          rw [if_neg (by rw [c9]; decide)] at H
          have H' := Aside0.mk H
          clear H
          obtain ⟨W2, hW2⟩ : ∃ W2, W2 = ChangeMaps.setBlock (wr.alloc (Obj.cells #[Value.int IntKind.i64 m0, Value.int IntKind.i64 m1] 43)) w.heap.size (g_obj (ms ++ [⟨m0, m1⟩])) := ⟨_, rfl⟩
          have hu : (Instr.mapUpdate 39 (.map (some w.heap.size)) (.agg #[.int .i64 m0, .int .i64 m1]) (.bool true)).run Tryd.prog (wr.alloc (Obj.cells #[Value.int IntKind.i64 m0, Value.int IntKind.i64 m1] 43)) = .ok () W2 := by rw [hW2]; exact g_upd GB.map GB.wf CW.out c9
          have hwf : (ms ++ [(⟨m0, m1⟩ : S43)]).all g_wf = true := by rw [List.all_append, GB.wf]; simpa using CW.out
          have GC : G1 w W2 (ms ++ [⟨m0, m1⟩]) (.slice (some ad) t.length co5) t := by rw [hW2]; exact GB.put _ hwf
          have hB2 : W2.heap[wr.heap.size]? = some (Obj.cells #[Value.int IntKind.i64 m0, Value.int IntKind.i64 m1] 43 (0, 0)) := by rw [hW2]; exact (ChangeMaps.heap_setBlock_other GB.map _ (Nat.ne_of_gt (blk_lt G.map))).trans (blk_new wr _)
          have hd0 : W2.cell? ⟨wr.heap.size, 0, none⟩ = some (.int .i64 m0) := blk_cell hB2 0
          have hd1 : W2.cell? ⟨wr.heap.size, 1, none⟩ = some (.int .i64 m1) := blk_cell hB2 1
          have GCA := Aside0.mk GC
          clear hW2 GB G hwf hB2 GC
          go_wp2_with (first | ((with_reducible refine gate_dst (N := 30) rfl ?_); refine Kd.R_lit k43 _ 43 ?hg (N := 30) ?hd (xs := [(⟨m0, m1⟩ : S43)]) (inner := [.int .i64 m0, .int .i64 m1]) (ok := fun _ => True) (okp := fun _ => True) ?hr ?hp (fun _ hk => hk) trivial (Below.refl _ _) (Nat.le_refl _) (by simp) ?_; (case hd => rfl); (case hg => rfl); (case hr => first | (go_simp; done) | (go_simp; rfl)); (case hp => exact (Reps.c2 (show Kd.M k43 _ _ _ (⟨m0, m1⟩ : S43) [.int .i64 m0, .int .i64 m1] from (k43_mkM _ _ _ (⟨m0, m1⟩ : S43))) (Reps.none _ _))); intro v9 w30 ho hb hg_ hnew_; clear hg_ hnew_; have GD := GCA.out.lit ho hb; clear ho hb hd0 hd1 hl hu))
          go_loopg [9] k1 (fun kq v9 w' => ∃ (ms2 q : List S43), Aside0 (impl_partsOf.l1 kq l0 a1 t (wrap64 (x5 + 1)) x18 ms2 q = some r) ∧ Aside0 (kq ≤ k1) ∧ G2 w w' ms2 (.slice (some ad) t.length co5) t v9 q)
          case atStart => exact ⟨_, _, H', ⟨Nat.le_refl _⟩, GD⟩
          case round =>
           clear H' GD GCA CW c9 hx0 hx1
           obtain ⟨ms2, q, HA, HK2, G⟩ := hrel
           cases gk with
           | zero => exact absurd HA.out (by simp [impl_partsOf.l1])
           | succ k2 =>
            have H := HA.out
            clear HA
            simp only [impl_partsOf.l1] at H
            obtain ⟨A9, c9, rfl, hle9⟩ := Kd.Q_slice G.q
            by_cases c20 : 0 < (q.length : Int)
            · rw [if_pos c20] at H
              obtain ⟨t2, ht2, H⟩ := Option.bind_eq_some_iff.mp H
              have A12 := Aside0.mk ht2
              have H' := Aside0.mk H
              clear ht2 H
              obtain ⟨ad9, e, hx0, hx1⟩ := at_T43 (Kd.Q_reads' G.q).2.2 0 (Int.le_refl 0) c20
              cases e
              rw [show ((0 : Int)).toNat = 0 from rfl, show 0 * 2 = 0 from rfl, Addr.add_zero'] at hx0 hx1
              obtain ⟨c, hc⟩ : ∃ c, rd_T43 q 0 = c := ⟨_, rfl⟩
              rw [hc] at hx0 hx1 A12
              clear hc
              obtain ⟨m2, m3⟩ := c
              dsimp only at hx0 hx1 A12
              have hq1 : (1 : Int) ≤ (q.length : Int) := c20
              obtain ⟨i0, hi0, _, hsz, _⟩ := info_parts info43
              have hcut := cut_from (P := Tryd.prog) 40 43 .i64 Tryd.underlying40 hi0 2 hsz (some ad9) q.length c9 1 (by decide) hq1
              have GE := G.drop (by omega) rfl
              obtain ⟨v10, hv10⟩ : ∃ v, v = Value.slice (if c9 = ((1 : Int)).toNat then (some ad9) else (some ad9 : Option Addr).map (·.add (((1 : Int)).toNat * 2))) (q.length - ((1 : Int)).toNat) (c9 - ((1 : Int)).toNat) := ⟨_, rfl⟩
              rw [← hv10] at hcut
              have GEA : Aside0 (G2 w _ ms2 (.slice (some ad) t.length co5) t v10 (q.drop 1)) := ⟨by rw [hv10]; exact GE⟩
              clear hv10 GE G hi0 hsz
              have c20b : decide (0 < (q.length : Int)) = true := decide_eq_true c20
              replace c20 := eq_true c20
              have GF := GEA.out.below_ (below_alloc (Below.refl _ _) (Obj.cells #[Value.int IntKind.i64 m2, Value.int IntKind.i64 m3] 43))
              clear GEA
              go_wp2_with (first | (go_at_call 22; (with_reducible refine (impl_nextTo.calls _ _ l0 m2 m3 t2 _ ?side1 ?side2 A12.out).mono ?_); (case side1 => exact Kd.C_below HR0.out GF.g1.below); (case side2 => exact HC0.out); rintro e w5 ⟨v6, rfl, ho, hb⟩; have GG := GF.more ho hb; clear ho hb GF hx0 hx1 hcut; obtain ⟨A6, cc6, e6⟩ := Kd.R_slice GG.row; subst e6))
              go_loopg [9, 43] k2 (fun kq v9 v43 w' => ∃ (ms3 q3 : List S43) (x43 : Int), v43 = .int .i64 x43 ∧ Aside0 (impl_partsOf.l2 kq l0 a1 t (wrap64 (x5 + 1)) x18 ms3 q3 t2 x43 = some r) ∧ Aside0 (kq ≤ k2) ∧ G3 w w' ms3 (.slice (some ad) t.length co5) t v9 q3 (.slice A6 t2.length cc6) t2)
              case atStart => exact ⟨_, _, 0, rfl, H', ⟨Nat.le_refl _⟩, GG⟩
              case round =>
               clear H' GG A12 c20 c20b hq1
               obtain ⟨ms3, q3, x43, rfl, HA, HK3, G⟩ := hrel
               cases gk with
               | zero => exact absurd HA.out (by simp [impl_partsOf.l2])
               | succ k3 =>
                have H := HA.out
                clear HA
                simp only [impl_partsOf.l2] at H
                by_cases c30 : x43 < (t2.length : Int)
                · rw [if_pos c30] at H
                  have c30b0 : decide (x43 < (t2.length : Int)) = true := decide_eq_true c30
                  by_cases c31 : 0 ≤ x43
                  · rw [if_pos c31] at H
                    obtain ⟨ad6, e, hx0, hx1⟩ := at_T43 (Kd.R_reads' G.row).2.2 x43 c31 c30
                    cases e
                    obtain ⟨c, hc⟩ : ∃ c, rd_T43 t2 x43 = c := ⟨_, rfl⟩
                    rw [hc] at H hx0 hx1
                    clear hc
                    obtain ⟨n0, n1⟩ := c
                    dsimp only at H hx0 hx1
                    by_cases c32 : 0 ≤ n0
                    · rw [if_pos c32] at H
                      by_cases c33 : n0 < (l0.length : Int)
                      · rw [if_pos c33] at H
                        by_cases c34 : 0 ≤ n1
                        · rw [if_pos c34] at H
                          by_cases c35 : n1 < ((rdOf ByteArray.empty l0 n0).size : Int)
                          · rw [if_pos c35] at H
                            by_cases c36 : g_wf (⟨n0, n1⟩ : S43) = true
                            · rw [if_pos c36] at H
                              have CW := Aside0.mk c36
                              clear c36
                              obtain ⟨ad3, e3, hx30⟩ := Kd.at_string HR0.out n0 c32 c33
                              cases e3
                              have GH := G.below_ (below_alloc (Below.refl _ _) (Obj.cells #[Value.int IntKind.i64 n0, Value.int IntKind.i64 n1] 43))
                              obtain ⟨W3, hW3⟩ : ∃ W3, W3 = wr.alloc (Obj.cells #[Value.int IntKind.i64 n0, Value.int IntKind.i64 n1] 43) := ⟨_, rfl⟩
                              have hB3 : W3.heap[wr.heap.size]? = some (Obj.cells #[Value.int IntKind.i64 n0, Value.int IntKind.i64 n1] 43 (0, 0)) := by rw [hW3]; exact blk_new wr _
                              rw [← hW3] at GH
                              have hx3 : W3.cell? (ad3.add n0.toNat) = some (.string (rdOf ByteArray.empty l0 n0)) := (GH.g2.g1.below.cell (World.block_lt_of_cell? w _ hx30)).trans hx30
                              have c30t := eq_true c30
                              have c31t := eq_true c31
                              have hc0 : W3.cell? ⟨wr.heap.size, 0, none⟩ = some (.int .i64 n0) := blk_cell hB3 0
                              have hc1 : W3.cell? ⟨wr.heap.size, 1, none⟩ = some (.int .i64 n1) := blk_cell hB3 1
                              have hmap := GH.g2.g1.map
                              have GHA := Aside0.mk GH
                              have HX := Aside0.mk (blk_lt G.g2.g1.map)
                              have BX := Aside0.mk hB3
                              have hlook0 : ∀ W, W.heap[w.heap.size]? = some (g_obj ms3) → (Instr.lookup 39 (.map (some w.heap.size)) (.agg #[.int .i64 n0, .int .i64 n1]) false).run Tryd.prog W = .ok (.bool (g_has ms3 ⟨n0, n1⟩)) W := fun W h => g_look h GHA.out.g2.g1.wf CW.out
                              have HK0 := Aside0.mk hlook0
                              clear hlook0 GH hB3 G
                              go_wp2
                              rw [← hW3]
                              clear hW3 hx0 hx1
                              generalize hgb : wr.heap.size = gb3 at hc0 hc1 HX BX ⊢
                              clear hgb
                              have c32t := eq_true c32
                              have c33t := eq_true c33
                              have c34t := eq_true c34
                              have c35t := eq_true c35
                              have hbt := bt_at (rdOf ByteArray.empty l0 n0) n1
                              by_cases c40 : bt (rdOf ByteArray.empty l0 n0) n1 = a1
                              · rw [if_pos c40] at H
                                have c40b : (bt (rdOf ByteArray.empty l0 n0) n1 == a1) = true := beq_iff_eq.mpr c40
                                cases c41 : g_has ms3 ⟨n0, n1⟩ with
                                | true =>
                                 rw [if_pos c41] at H
                                 have H' := Aside0.mk H
                                 have hlook := HK0.out
                                 rw [c41] at hlook
                                 clear H
                                 refine start_ (n := 16) (S := fun w' => w'.cell? ⟨gb3, 0, none⟩ = some (.int .i64 n0) ∧ w'.cell? ⟨gb3, 1, none⟩ = some (.int .i64 n1) ∧ w'.cell? (ad3.add n0.toNat) = some (.string (rdOf ByteArray.empty l0 n0)) ∧ w'.heap[w.heap.size]? = some (g_obj ms3)) (ds := []) #[false, false, false, false, false, false, false, false, false, false, false, false, false, false, false, false] (by kernel_rfl) rfl rfl ⟨hc0, hc1, hx3, hmap⟩ (fun hHeld => ?_)
                                 refine pure_ (i := 0) (N := some 47) (v := ?_) (a' := ?_) #[true, false, false, false, false, false, false, false, false, false, false, false, false, false, false, false] rfl rfl (by kernel_rfl) (fun _ _ _ h => h) (Or.inl ⟨by rfl, ?_⟩) ?_ ?_
                                 rotate_left
                                 · intro w'
                                   go_simp
                                   with_reducible rfl
                                 rotate_left
                                 · simp only [Act.put, List.setIfInBounds_toArray, List.set_cons_zero, List.set_cons_succ, i64_w, i32_w]
                                   rfl
                                 refine pure_ (i := 1) (N := some 48) (v := ?_) (a' := ?_) #[true, true, false, false, false, false, false, false, false, false, false, false, false, false, false, false] rfl rfl (by kernel_rfl) (fun _ _ _ h => h) (Or.inl ⟨by rfl, ?_⟩) ?_ ?_
                                 rotate_left
                                 · intro w'
                                   go_simp
                                   with_reducible rfl
                                 rotate_left
                                 · simp only [Act.put, List.setIfInBounds_toArray, List.set_cons_zero, List.set_cons_succ, i64_w, i32_w]
                                   rfl
                                 refine pure_ (i := 5) (N := some 52) (v := ?_) (a' := ?_) #[true, true, false, false, false, true, false, false, false, false, false, false, false, false, false, false] rfl rfl (by kernel_rfl) (fun _ _ _ h => h) (Or.inl ⟨by rfl, ?_⟩) ?_ ?_
                                 rotate_left
                                 · intro w'
                                   go_simp
                                   with_reducible rfl
                                 rotate_left
                                 · simp only [Act.put, List.setIfInBounds_toArray, List.set_cons_zero, List.set_cons_succ, i64_w, i32_w]
                                   rfl
                                 refine pure_ (i := 8) (N := some 55) (v := ?_) (a' := ?_) #[true, true, false, false, false, true, false, false, true, false, false, false, false, false, false, false] rfl rfl (by kernel_rfl) (fun _ _ _ h => h) (Or.inl ⟨by rfl, ?_⟩) ?_ ?_
                                 rotate_left
                                 · intro w'
                                   go_simp
                                   with_reducible rfl
                                 rotate_left
                                 · simp only [Act.put, List.setIfInBounds_toArray, List.set_cons_zero, List.set_cons_succ, i64_w, i32_w]
                                   rfl
                                 refine take_ (i := 2) (N := some 49) (v := ?_) (a' := ?_) #[true, true, true, false, false, true, false, false, true, false, false, false, false, false, false, false] rfl rfl (by kernel_rfl) (fun _ _ _ h => h) (Or.inl ⟨by rfl, ?_⟩) hHeld ?_ ?_
                                 rotate_left
                                 · rintro w' ⟨s0, s1, s2, s3⟩
                                   go_simp
                                   with_reducible rfl
                                 rotate_left
                                 · simp only [Act.put, List.setIfInBounds_toArray, List.set_cons_zero, List.set_cons_succ, i64_w, i32_w]
                                   rfl
                                 refine pure_ (i := 3) (N := some 50) (v := ?_) (a' := ?_) #[true, true, true, true, false, true, false, false, true, false, false, false, false, false, false, false] rfl rfl (by kernel_rfl) (fun _ _ _ h => h) (Or.inl ⟨by rfl, ?_⟩) ?_ ?_
                                 rotate_left
                                 · intro w'
                                   go_simp
                                   with_reducible rfl
                                 rotate_left
                                 · simp only [Act.put, List.setIfInBounds_toArray, List.set_cons_zero, List.set_cons_succ, i64_w, i32_w]
                                   rfl
                                 refine take_ (i := 4) (N := some 51) (v := ?_) (a' := ?_) #[true, true, true, true, true, true, false, false, true, false, false, false, false, false, false, false] rfl rfl (by kernel_rfl) (fun _ _ _ h => h) (Or.inl ⟨by rfl, ?_⟩) hHeld ?_ ?_
                                 rotate_left
                                 · rintro w' ⟨s0, s1, s2, s3⟩
                                   go_simp
                                   with_reducible rfl
                                 rotate_left
                                 · simp only [Act.put, List.setIfInBounds_toArray, List.set_cons_zero, List.set_cons_succ, i64_w, i32_w]
                                   rfl
                                 refine take_ (i := 6) (N := some 53) (v := ?_) (a' := ?_) #[true, true, true, true, true, true, true, false, true, false, false, false, false, false, false, false] rfl rfl (by kernel_rfl) (fun _ _ _ h => h) (Or.inl ⟨by rfl, ?_⟩) hHeld ?_ ?_
                                 rotate_left
                                 · rintro w' ⟨s0, s1, s2, s3⟩
                                   go_simp
                                   with_reducible rfl
                                 rotate_left
                                 · simp only [Act.put, List.setIfInBounds_toArray, List.set_cons_zero, List.set_cons_succ, i64_w, i32_w]
                                   rfl
                                 refine take_ (i := 7) (N := some 54) (v := ?_) (a' := ?_) #[true, true, true, true, true, true, true, true, true, false, false, false, false, false, false, false] rfl rfl (by kernel_rfl) (fun _ _ _ h => h) (Or.inl ⟨by rfl, ?_⟩) hHeld ?_ ?_
                                 rotate_left
                                 · rintro w' ⟨s0, s1, s2, s3⟩
                                   go_simp
                                   with_reducible rfl
                                 rotate_left
                                 · simp only [Act.put, List.setIfInBounds_toArray, List.set_cons_zero, List.set_cons_succ, i64_w, i32_w]
                                   rfl
                                 refine pure_ (i := 9) (N := some 56) (v := ?_) (a' := ?_) #[true, true, true, true, true, true, true, true, true, true, false, false, false, false, false, false] rfl rfl (by kernel_rfl) (fun _ _ _ h => h) (Or.inl ⟨by rfl, ?_⟩) ?_ ?_
                                 rotate_left
                                 · intro w'
                                   go_simp
                                   with_reducible rfl
                                 rotate_left
                                 · simp only [Act.put, List.setIfInBounds_toArray, List.set_cons_zero, List.set_cons_succ, i64_w, i32_w]
                                   rfl
                                 refine pure_ (i := 10) (N := some 57) (v := ?_) (a' := ?_) #[true, true, true, true, true, true, true, true, true, true, true, false, false, false, false, false] rfl rfl (by kernel_rfl) (fun _ _ _ h => h) (Or.inl ⟨by rfl, ?_⟩) ?_ ?_
                                 rotate_left
                                 · intro w'
                                   go_simp
                                   with_reducible rfl
                                 rotate_left
                                 · simp only [Act.put, List.setIfInBounds_toArray, List.set_cons_zero, List.set_cons_succ, i64_w, i32_w]
                                   rfl
                                 refine pure_ (i := 11) (N := some 58) (v := ?_) (a' := ?_) #[true, true, true, true, true, true, true, true, true, true, true, true, false, false, false, false] rfl rfl (by kernel_rfl) (fun _ _ _ h => h) (Or.inl ⟨by rfl, ?_⟩) ?_ ?_
                                 rotate_left
                                 · intro w'
                                   go_simp
                                   with_reducible rfl
                                 rotate_left
                                 · simp only [Act.put, List.setIfInBounds_toArray, List.set_cons_zero, List.set_cons_succ, i64_w, i32_w]
                                   rfl
                                 refine take_ (i := 12) (N := some 59) (v := ?_) (a' := ?_) #[true, true, true, true, true, true, true, true, true, true, true, true, true, false, false, false] rfl rfl (by kernel_rfl) (fun _ _ _ h => h) (Or.inl ⟨by rfl, ?_⟩) hHeld ?_ ?_
                                 rotate_left
                                 · rintro w' ⟨s0, s1, s2, s3⟩
                                   go_simp
                                   with_reducible rfl
                                 rotate_left
                                 · simp only [Act.put, List.setIfInBounds_toArray, List.set_cons_zero, List.set_cons_succ, i64_w, i32_w]
                                   rfl
                                 refine take_ (i := 13) (N := some 60) (v := ?_) (a' := ?_) #[true, true, true, true, true, true, true, true, true, true, true, true, true, true, false, false] rfl rfl (by kernel_rfl) (fun _ _ _ h => h) (Or.inl ⟨by rfl, ?_⟩) hHeld ?_ ?_
                                 rotate_left
                                 · rintro w' ⟨s0, s1, s2, s3⟩
                                   have hl3 := hlook w' s3
                                   go_simp
                                   with_reducible rfl
                                 rotate_left
                                 · simp only [Act.put, List.setIfInBounds_toArray, List.set_cons_zero, List.set_cons_succ, i64_w, i32_w]
                                   rfl
                                 refine pure_ (i := 14) (N := some 61) (v := ?_) (a' := ?_) #[true, true, true, true, true, true, true, true, true, true, true, true, true, true, true, false] rfl rfl (by kernel_rfl) (fun _ _ _ h => h) (Or.inl ⟨by rfl, ?_⟩) ?_ ?_
                                 rotate_left
                                 · intro w'
                                   go_simp
                                   with_reducible rfl
                                 rotate_left
                                 · simp only [Act.put, List.setIfInBounds_toArray, List.set_cons_zero, List.set_cons_succ, i64_w, i32_w]
                                   rfl
                                 refine pure_ (i := 15) (N := some 62) (v := ?_) (a' := ?_) #[true, true, true, true, true, true, true, true, true, true, true, true, true, true, true, true] rfl rfl (by kernel_rfl) (fun _ _ _ h => h) (Or.inl ⟨by rfl, ?_⟩) ?_ ?_
                                 rotate_left
                                 · intro w'
                                   go_simp
                                   with_reducible rfl
                                 rotate_left
                                 · simp only [Act.put, List.setIfInBounds_toArray, List.set_cons_zero, List.set_cons_succ, i64_w, i32_w]
                                   rfl
                                 refine done_ (by kernel_rfl) ?_
               
                                 have GI := GHA.out.below_ (below_drew (Below.refl W3.heap.size W3))
                                 clear hlook
                                 go_wp2
                                 go_roundg k3
                                 case measure => have := HK1.out; have := HK2.out; have := HK3.out; omega
                                 case rel => exact ⟨ms3, q3, wrap64 (x43 + 1), by first | rfl | (simp; done), H', ⟨by have := HK3.out; omega⟩, GI⟩
                                | false =>
                                 rw [if_neg (by rw [c41]; decide)] at H
                                 by_cases c42 : q3.length < 8796093022207
                                 · rw [if_pos c42] at H
                                   have H' := Aside0.mk H
                                   have LM := Aside0.mk c42
                                   have hlook := HK0.out
                                   rw [c41] at hlook
                                   clear H c42
                                   refine start_ (n := 16) (S := fun w' => w'.cell? ⟨gb3, 0, none⟩ = some (.int .i64 n0) ∧ w'.cell? ⟨gb3, 1, none⟩ = some (.int .i64 n1) ∧ w'.cell? (ad3.add n0.toNat) = some (.string (rdOf ByteArray.empty l0 n0)) ∧ w'.heap[w.heap.size]? = some (g_obj ms3)) (ds := []) #[false, false, false, false, false, false, false, false, false, false, false, false, false, false, false, false] (by kernel_rfl) rfl rfl ⟨hc0, hc1, hx3, hmap⟩ (fun hHeld => ?_)
                                   refine pure_ (i := 0) (N := some 47) (v := ?_) (a' := ?_) #[true, false, false, false, false, false, false, false, false, false, false, false, false, false, false, false] rfl rfl (by kernel_rfl) (fun _ _ _ h => h) (Or.inl ⟨by rfl, ?_⟩) ?_ ?_
                                   rotate_left
                                   · intro w'
                                     go_simp
                                     with_reducible rfl
                                   rotate_left
                                   · simp only [Act.put, List.setIfInBounds_toArray, List.set_cons_zero, List.set_cons_succ, i64_w, i32_w]
                                     rfl
                                   refine pure_ (i := 1) (N := some 48) (v := ?_) (a' := ?_) #[true, true, false, false, false, false, false, false, false, false, false, false, false, false, false, false] rfl rfl (by kernel_rfl) (fun _ _ _ h => h) (Or.inl ⟨by rfl, ?_⟩) ?_ ?_
                                   rotate_left
                                   · intro w'
                                     go_simp
                                     with_reducible rfl
                                   rotate_left
                                   · simp only [Act.put, List.setIfInBounds_toArray, List.set_cons_zero, List.set_cons_succ, i64_w, i32_w]
                                     rfl
                                   refine pure_ (i := 5) (N := some 52) (v := ?_) (a' := ?_) #[true, true, false, false, false, true, false, false, false, false, false, false, false, false, false, false] rfl rfl (by kernel_rfl) (fun _ _ _ h => h) (Or.inl ⟨by rfl, ?_⟩) ?_ ?_
                                   rotate_left
                                   · intro w'
                                     go_simp
                                     with_reducible rfl
                                   rotate_left
                                   · simp only [Act.put, List.setIfInBounds_toArray, List.set_cons_zero, List.set_cons_succ, i64_w, i32_w]
                                     rfl
                                   refine pure_ (i := 8) (N := some 55) (v := ?_) (a' := ?_) #[true, true, false, false, false, true, false, false, true, false, false, false, false, false, false, false] rfl rfl (by kernel_rfl) (fun _ _ _ h => h) (Or.inl ⟨by rfl, ?_⟩) ?_ ?_
                                   rotate_left
                                   · intro w'
                                     go_simp
                                     with_reducible rfl
                                   rotate_left
                                   · simp only [Act.put, List.setIfInBounds_toArray, List.set_cons_zero, List.set_cons_succ, i64_w, i32_w]
                                     rfl
                                   refine take_ (i := 2) (N := some 49) (v := ?_) (a' := ?_) #[true, true, true, false, false, true, false, false, true, false, false, false, false, false, false, false] rfl rfl (by kernel_rfl) (fun _ _ _ h => h) (Or.inl ⟨by rfl, ?_⟩) hHeld ?_ ?_
                                   rotate_left
                                   · rintro w' ⟨s0, s1, s2, s3⟩
                                     go_simp
                                     with_reducible rfl
                                   rotate_left
                                   · simp only [Act.put, List.setIfInBounds_toArray, List.set_cons_zero, List.set_cons_succ, i64_w, i32_w]
                                     rfl
                                   refine pure_ (i := 3) (N := some 50) (v := ?_) (a' := ?_) #[true, true, true, true, false, true, false, false, true, false, false, false, false, false, false, false] rfl rfl (by kernel_rfl) (fun _ _ _ h => h) (Or.inl ⟨by rfl, ?_⟩) ?_ ?_
                                   rotate_left
                                   · intro w'
                                     go_simp
                                     with_reducible rfl
                                   rotate_left
                                   · simp only [Act.put, List.setIfInBounds_toArray, List.set_cons_zero, List.set_cons_succ, i64_w, i32_w]
                                     rfl
                                   refine take_ (i := 4) (N := some 51) (v := ?_) (a' := ?_) #[true, true, true, true, true, true, false, false, true, false, false, false, false, false, false, false] rfl rfl (by kernel_rfl) (fun _ _ _ h => h) (Or.inl ⟨by rfl, ?_⟩) hHeld ?_ ?_
                                   rotate_left
                                   · rintro w' ⟨s0, s1, s2, s3⟩
                                     go_simp
                                     with_reducible rfl
                                   rotate_left
                                   · simp only [Act.put, List.setIfInBounds_toArray, List.set_cons_zero, List.set_cons_succ, i64_w, i32_w]
                                     rfl
                                   refine take_ (i := 6) (N := some 53) (v := ?_) (a' := ?_) #[true, true, true, true, true, true, true, false, true, false, false, false, false, false, false, false] rfl rfl (by kernel_rfl) (fun _ _ _ h => h) (Or.inl ⟨by rfl, ?_⟩) hHeld ?_ ?_
                                   rotate_left
                                   · rintro w' ⟨s0, s1, s2, s3⟩
                                     go_simp
                                     with_reducible rfl
                                   rotate_left
                                   · simp only [Act.put, List.setIfInBounds_toArray, List.set_cons_zero, List.set_cons_succ, i64_w, i32_w]
                                     rfl
                                   refine take_ (i := 7) (N := some 54) (v := ?_) (a' := ?_) #[true, true, true, true, true, true, true, true, true, false, false, false, false, false, false, false] rfl rfl (by kernel_rfl) (fun _ _ _ h => h) (Or.inl ⟨by rfl, ?_⟩) hHeld ?_ ?_
                                   rotate_left
                                   · rintro w' ⟨s0, s1, s2, s3⟩
                                     go_simp
                                     with_reducible rfl
                                   rotate_left
                                   · simp only [Act.put, List.setIfInBounds_toArray, List.set_cons_zero, List.set_cons_succ, i64_w, i32_w]
                                     rfl
                                   refine pure_ (i := 9) (N := some 56) (v := ?_) (a' := ?_) #[true, true, true, true, true, true, true, true, true, true, false, false, false, false, false, false] rfl rfl (by kernel_rfl) (fun _ _ _ h => h) (Or.inl ⟨by rfl, ?_⟩) ?_ ?_
                                   rotate_left
                                   · intro w'
                                     go_simp
                                     with_reducible rfl
                                   rotate_left
                                   · simp only [Act.put, List.setIfInBounds_toArray, List.set_cons_zero, List.set_cons_succ, i64_w, i32_w]
                                     rfl
                                   refine pure_ (i := 10) (N := some 57) (v := ?_) (a' := ?_) #[true, true, true, true, true, true, true, true, true, true, true, false, false, false, false, false] rfl rfl (by kernel_rfl) (fun _ _ _ h => h) (Or.inl ⟨by rfl, ?_⟩) ?_ ?_
                                   rotate_left
                                   · intro w'
                                     go_simp
                                     with_reducible rfl
                                   rotate_left
                                   · simp only [Act.put, List.setIfInBounds_toArray, List.set_cons_zero, List.set_cons_succ, i64_w, i32_w]
                                     rfl
                                   refine pure_ (i := 11) (N := some 58) (v := ?_) (a' := ?_) #[true, true, true, true, true, true, true, true, true, true, true, true, false, false, false, false] rfl rfl (by kernel_rfl) (fun _ _ _ h => h) (Or.inl ⟨by rfl, ?_⟩) ?_ ?_
                                   rotate_left
                                   · intro w'
                                     go_simp
                                     with_reducible rfl
                                   rotate_left
                                   · simp only [Act.put, List.setIfInBounds_toArray, List.set_cons_zero, List.set_cons_succ, i64_w, i32_w]
                                     rfl
                                   refine take_ (i := 12) (N := some 59) (v := ?_) (a' := ?_) #[true, true, true, true, true, true, true, true, true, true, true, true, true, false, false, false] rfl rfl (by kernel_rfl) (fun _ _ _ h => h) (Or.inl ⟨by rfl, ?_⟩) hHeld ?_ ?_
                                   rotate_left
                                   · rintro w' ⟨s0, s1, s2, s3⟩
                                     go_simp
                                     with_reducible rfl
                                   rotate_left
                                   · simp only [Act.put, List.setIfInBounds_toArray, List.set_cons_zero, List.set_cons_succ, i64_w, i32_w]
                                     rfl
                                   refine take_ (i := 13) (N := some 60) (v := ?_) (a' := ?_) #[true, true, true, true, true, true, true, true, true, true, true, true, true, true, false, false] rfl rfl (by kernel_rfl) (fun _ _ _ h => h) (Or.inl ⟨by rfl, ?_⟩) hHeld ?_ ?_
                                   rotate_left
                                   · rintro w' ⟨s0, s1, s2, s3⟩
                                     have hl3 := hlook w' s3
                                     go_simp
                                     with_reducible rfl
                                   rotate_left
                                   · simp only [Act.put, List.setIfInBounds_toArray, List.set_cons_zero, List.set_cons_succ, i64_w, i32_w]
                                     rfl
                                   refine pure_ (i := 14) (N := some 61) (v := ?_) (a' := ?_) #[true, true, true, true, true, true, true, true, true, true, true, true, true, true, true, false] rfl rfl (by kernel_rfl) (fun _ _ _ h => h) (Or.inl ⟨by rfl, ?_⟩) ?_ ?_
                                   rotate_left
                                   · intro w'
                                     go_simp
                                     with_reducible rfl
                                   rotate_left
                                   · simp only [Act.put, List.setIfInBounds_toArray, List.set_cons_zero, List.set_cons_succ, i64_w, i32_w]
                                     rfl
                                   refine pure_ (i := 15) (N := some 62) (v := ?_) (a' := ?_) #[true, true, true, true, true, true, true, true, true, true, true, true, true, true, true, true] rfl rfl (by kernel_rfl) (fun _ _ _ h => h) (Or.inl ⟨by rfl, ?_⟩) ?_ ?_
                                   rotate_left
                                   · intro w'
                                     go_simp
                                     with_reducible rfl
                                   rotate_left
                                   · simp only [Act.put, List.setIfInBounds_toArray, List.set_cons_zero, List.set_cons_succ, i64_w, i32_w]
                                     rfl
                                   refine done_ (by kernel_rfl) ?_
               
                                   have GI := GHA.out.below_ (below_drew (Below.refl W3.heap.size W3))
                                   have BI : W3.drew.heap[gb3]? = _ := BX.out
                                   clear hlook hc0 hc1 hx3 hmap
                                   obtain ⟨W4, hW4⟩ : ∃ W4, W4 = W3.drew := ⟨_, rfl⟩
                                   have hd0 : W4.cell? ⟨gb3, 0, none⟩ = some (.int .i64 n0) := by rw [hW4]; exact blk_cell BI 0
                                   have hd1 : W4.cell? ⟨gb3, 1, none⟩ = some (.int .i64 n1) := by rw [hW4]; exact blk_cell BI 1
                                   obtain ⟨W5, hW5⟩ : ∃ W5, W5 = ChangeMaps.setBlock W4 w.heap.size (g_obj (ms3 ++ [⟨n0, n1⟩])) := ⟨_, rfl⟩
                                   have hu : (Instr.mapUpdate 39 (.map (some w.heap.size)) (.agg #[.int .i64 n0, .int .i64 n1]) (.bool true)).run Tryd.prog W4 = .ok () W5 := by rw [hW5, hW4]; exact g_upd GI.g2.g1.map GI.g2.g1.wf CW.out c41
                                   have hwf : (ms3 ++ [(⟨n0, n1⟩ : S43)]).all g_wf = true := by rw [List.all_append, GI.g2.g1.wf]; simpa using CW.out
                                   have GJ : G3 w W5 (ms3 ++ [⟨n0, n1⟩]) (.slice (some ad) t.length co5) t u9 q3 (.slice (some ad6) t2.length cc6) t2 := by rw [hW5, hW4]; exact GI.put _ hwf
                                   have hB5 : W5.heap[gb3]? = some (Obj.cells #[Value.int IntKind.i64 n0, Value.int IntKind.i64 n1] 43 (0, 0)) := by rw [hW5, hW4]; exact (ChangeMaps.heap_setBlock_other GI.g2.g1.map _ (g_off GI.g2.g1.map ⟨_, BI⟩)).trans BI
                                   have he0 : W5.cell? ⟨gb3, 0, none⟩ = some (.int .i64 n0) := blk_cell hB5 0
                                   have he1 : W5.cell? ⟨gb3, 1, none⟩ = some (.int .i64 n1) := blk_cell hB5 1
                                   have GJA := Aside0.mk GJ
                                   rw [← hW4]
                                   clear hW5 hW4 GI BI hwf hB5 GJ
                                   go_wp2_with (first | ((with_reducible refine gate_builtin (b := .append) (xs := #[.tmp 65, .tmp 67]) rfl ?_); at_builtin; refine Kd.Q_append k43 (w0 := w) w.heap.size rfl (.tmp 65) (.tmp 67) 40 43 (.agg #[(.int .i64 0), (.int .i64 0)]) 16 rfl Tryd.underlying40 info43 rfl (by decide) (by omega) u9 q3 (⟨n0, n1⟩ : S43) [.int .i64 n0, .int .i64 n1] (fun _ => True) (fun _ => False) rfl rfl ?aP (fun _ hk => hk.elim) ?aF ?aO ?aB ?aS ?aL ?_; (case aP => exact k43_mkM _ _ _ (⟨n0, n1⟩ : S43)); (case aB => exact GJA.out.g2.g1.below); (case aF => exact (fun _ _ => trivial)); (case aO => exact Kd.Q_mono GJA.out.g2.q (fun _ _ => trivial)); (case aS => exact GJA.out.g2.g1.below.size); (case aL => have := LM.out; omega); intro v1 w1 ho hb hg hat; have GL := GJA.out.app ho hb hg hat; clear ho hb hg hat hd0 hd1 he0 he1 hu))
                                   go_roundg k3
                                   case measure => have := HK1.out; have := HK2.out; have := HK3.out; omega
                                   case rel => exact ⟨_, _, wrap64 (x43 + 1), by first | rfl | (simp; done), H', ⟨by have := HK3.out; omega⟩, GL⟩
                                 · rw [if_neg c42] at H
                                   exact absurd H (by simp)
                              · rw [if_neg c40] at H
                                have c40b : (bt (rdOf ByteArray.empty l0 n0) n1 == a1) = false := beq_eq_false_iff_ne.mpr c40
                                have H' := Aside0.mk H
                                clear H
                                refine start_ (n := 16) (S := fun w' => w'.cell? ⟨gb3, 0, none⟩ = some (.int .i64 n0) ∧ w'.cell? ⟨gb3, 1, none⟩ = some (.int .i64 n1) ∧ w'.cell? (ad3.add n0.toNat) = some (.string (rdOf ByteArray.empty l0 n0)) ∧ w'.heap[w.heap.size]? = some (g_obj ms3)) (ds := []) #[false, false, false, false, false, false, false, false, false, false, false, false, false, false, false, false] (by kernel_rfl) rfl rfl ⟨hc0, hc1, hx3, hmap⟩ (fun hHeld => ?_)
                                refine pure_ (i := 0) (N := some 47) (v := ?_) (a' := ?_) #[true, false, false, false, false, false, false, false, false, false, false, false, false, false, false, false] rfl rfl (by kernel_rfl) (fun _ _ _ h => h) (Or.inl ⟨by rfl, ?_⟩) ?_ ?_
                                rotate_left
                                · intro w'
                                  go_simp
                                  with_reducible rfl
                                rotate_left
                                · simp only [Act.put, List.setIfInBounds_toArray, List.set_cons_zero, List.set_cons_succ, i64_w, i32_w]
                                  rfl
                                refine pure_ (i := 1) (N := some 48) (v := ?_) (a' := ?_) #[true, true, false, false, false, false, false, false, false, false, false, false, false, false, false, false] rfl rfl (by kernel_rfl) (fun _ _ _ h => h) (Or.inl ⟨by rfl, ?_⟩) ?_ ?_
                                rotate_left
                                · intro w'
                                  go_simp
                                  with_reducible rfl
                                rotate_left
                                · simp only [Act.put, List.setIfInBounds_toArray, List.set_cons_zero, List.set_cons_succ, i64_w, i32_w]
                                  rfl
                                refine pure_ (i := 5) (N := some 52) (v := ?_) (a' := ?_) #[true, true, false, false, false, true, false, false, false, false, false, false, false, false, false, false] rfl rfl (by kernel_rfl) (fun _ _ _ h => h) (Or.inl ⟨by rfl, ?_⟩) ?_ ?_
                                rotate_left
                                · intro w'
                                  go_simp
                                  with_reducible rfl
                                rotate_left
                                · simp only [Act.put, List.setIfInBounds_toArray, List.set_cons_zero, List.set_cons_succ, i64_w, i32_w]
                                  rfl
                                refine pure_ (i := 8) (N := some 55) (v := ?_) (a' := ?_) #[true, true, false, false, false, true, false, false, true, false, false, false, false, false, false, false] rfl rfl (by kernel_rfl) (fun _ _ _ h => h) (Or.inl ⟨by rfl, ?_⟩) ?_ ?_
                                rotate_left
                                · intro w'
                                  go_simp
                                  with_reducible rfl
                                rotate_left
                                · simp only [Act.put, List.setIfInBounds_toArray, List.set_cons_zero, List.set_cons_succ, i64_w, i32_w]
                                  rfl
                                refine take_ (i := 2) (N := some 49) (v := ?_) (a' := ?_) #[true, true, true, false, false, true, false, false, true, false, false, false, false, false, false, false] rfl rfl (by kernel_rfl) (fun _ _ _ h => h) (Or.inl ⟨by rfl, ?_⟩) hHeld ?_ ?_
                                rotate_left
                                · rintro w' ⟨s0, s1, s2, s3⟩
                                  go_simp
                                  with_reducible rfl
                                rotate_left
                                · simp only [Act.put, List.setIfInBounds_toArray, List.set_cons_zero, List.set_cons_succ, i64_w, i32_w]
                                  rfl
                                refine pure_ (i := 3) (N := some 50) (v := ?_) (a' := ?_) #[true, true, true, true, false, true, false, false, true, false, false, false, false, false, false, false] rfl rfl (by kernel_rfl) (fun _ _ _ h => h) (Or.inl ⟨by rfl, ?_⟩) ?_ ?_
                                rotate_left
                                · intro w'
                                  go_simp
                                  with_reducible rfl
                                rotate_left
                                · simp only [Act.put, List.setIfInBounds_toArray, List.set_cons_zero, List.set_cons_succ, i64_w, i32_w]
                                  rfl
                                refine take_ (i := 4) (N := some 51) (v := ?_) (a' := ?_) #[true, true, true, true, true, true, false, false, true, false, false, false, false, false, false, false] rfl rfl (by kernel_rfl) (fun _ _ _ h => h) (Or.inl ⟨by rfl, ?_⟩) hHeld ?_ ?_
                                rotate_left
                                · rintro w' ⟨s0, s1, s2, s3⟩
                                  go_simp
                                  with_reducible rfl
                                rotate_left
                                · simp only [Act.put, List.setIfInBounds_toArray, List.set_cons_zero, List.set_cons_succ, i64_w, i32_w]
                                  rfl
                                refine take_ (i := 6) (N := some 53) (v := ?_) (a' := ?_) #[true, true, true, true, true, true, true, false, true, false, false, false, false, false, false, false] rfl rfl (by kernel_rfl) (fun _ _ _ h => h) (Or.inl ⟨by rfl, ?_⟩) hHeld ?_ ?_
                                rotate_left
                                · rintro w' ⟨s0, s1, s2, s3⟩
                                  go_simp
                                  with_reducible rfl
                                rotate_left
                                · simp only [Act.put, List.setIfInBounds_toArray, List.set_cons_zero, List.set_cons_succ, i64_w, i32_w]
                                  rfl
                                refine take_ (i := 7) (N := some 54) (v := ?_) (a' := ?_) #[true, true, true, true, true, true, true, true, true, false, false, false, false, false, false, false] rfl rfl (by kernel_rfl) (fun _ _ _ h => h) (Or.inl ⟨by rfl, ?_⟩) hHeld ?_ ?_
                                rotate_left
                                · rintro w' ⟨s0, s1, s2, s3⟩
                                  go_simp
                                  with_reducible rfl
                                rotate_left
                                · simp only [Act.put, List.setIfInBounds_toArray, List.set_cons_zero, List.set_cons_succ, i64_w, i32_w]
                                  rfl
                                refine pure_ (i := 9) (N := some 56) (v := ?_) (a' := ?_) #[true, true, true, true, true, true, true, true, true, true, false, false, false, false, false, false] rfl rfl (by kernel_rfl) (fun _ _ _ h => h) (Or.inl ⟨by rfl, ?_⟩) ?_ ?_
                                rotate_left
                                · intro w'
                                  go_simp
                                  with_reducible rfl
                                rotate_left
                                · simp only [Act.put, List.setIfInBounds_toArray, List.set_cons_zero, List.set_cons_succ, i64_w, i32_w]
                                  rfl
                                refine pure_ (i := 10) (N := some 57) (v := ?_) (a' := ?_) #[true, true, true, true, true, true, true, true, true, true, true, false, false, false, false, false] rfl rfl (by kernel_rfl) (fun _ _ _ h => h) (Or.inl ⟨by rfl, ?_⟩) ?_ ?_
                                rotate_left
                                · intro w'
                                  go_simp
                                  with_reducible rfl
                                rotate_left
                                · simp only [Act.put, List.setIfInBounds_toArray, List.set_cons_zero, List.set_cons_succ, i64_w, i32_w]
                                  rfl
                                refine pure_ (i := 11) (N := some 58) (v := undef) (a' := ?_) #[true, true, true, true, true, true, true, true, true, true, true, true, false, false, false, false] rfl rfl (by kernel_rfl) (fun _ _ _ h => h) (Or.inr ⟨by rfl, rfl⟩) ?_ ?_
                                rotate_left
                                · simp only [Act.put, List.setIfInBounds_toArray, List.set_cons_zero, List.set_cons_succ, i64_w, i32_w]
                                  rfl
                                refine pure_ (i := 12) (N := some 59) (v := undef) (a' := ?_) #[true, true, true, true, true, true, true, true, true, true, true, true, true, false, false, false] rfl rfl (by kernel_rfl) (fun _ _ _ h => h) (Or.inr ⟨by rfl, rfl⟩) ?_ ?_
                                rotate_left
                                · simp only [Act.put, List.setIfInBounds_toArray, List.set_cons_zero, List.set_cons_succ, i64_w, i32_w]
                                  rfl
                                refine pure_ (i := 13) (N := some 60) (v := undef) (a' := ?_) #[true, true, true, true, true, true, true, true, true, true, true, true, true, true, false, false] rfl rfl (by kernel_rfl) (fun _ _ _ h => h) (Or.inr ⟨by rfl, rfl⟩) ?_ ?_
                                rotate_left
                                · simp only [Act.put, List.setIfInBounds_toArray, List.set_cons_zero, List.set_cons_succ, i64_w, i32_w]
                                  rfl
                                refine pure_ (i := 14) (N := some 61) (v := undef) (a' := ?_) #[true, true, true, true, true, true, true, true, true, true, true, true, true, true, true, false] rfl rfl (by kernel_rfl) (fun _ _ _ h => h) (Or.inr ⟨by rfl, rfl⟩) ?_ ?_
                                rotate_left
                                · simp only [Act.put, List.setIfInBounds_toArray, List.set_cons_zero, List.set_cons_succ, i64_w, i32_w]
                                  rfl
                                refine pure_ (i := 15) (N := some 62) (v := ?_) (a' := ?_) #[true, true, true, true, true, true, true, true, true, true, true, true, true, true, true, true] rfl rfl (by kernel_rfl) (fun _ _ _ h => h) (Or.inl ⟨by rfl, ?_⟩) ?_ ?_
                                rotate_left
                                · intro w'
                                  go_simp
                                  with_reducible rfl
                                rotate_left
                                · simp only [Act.put, List.setIfInBounds_toArray, List.set_cons_zero, List.set_cons_succ, i64_w, i32_w]
                                  rfl
                                refine done_ (by kernel_rfl) ?_
               
                                have GI := GHA.out.below_ (below_drew (Below.refl W3.heap.size W3))
                                go_wp2
                                go_roundg k3
                                case measure => have := HK1.out; have := HK2.out; have := HK3.out; omega
                                case rel => exact ⟨ms3, q3, wrap64 (x43 + 1), by first | rfl | (simp; done), H', ⟨by have := HK3.out; omega⟩, GI⟩
                            · rw [if_neg c36] at H
                              exact absurd H (by simp)
                          · rw [if_neg c35] at H
                            exact absurd H (by simp)
                        · rw [if_neg c34] at H
                          exact absurd H (by simp)
                      · rw [if_neg c33] at H
                        exact absurd H (by simp)
                    · rw [if_neg c32] at H
                      exact absurd H (by simp)
                  · rw [if_neg c31] at H
                    exact absurd H (by simp)
                · rw [if_neg c30] at H
                  have c30b0 : decide (x43 < (t2.length : Int)) = false := decide_eq_false c30
                  have H' := Aside0.mk H
                  clear H
                  go_wp2
                  go_roundg k3
                  case measure => have := HK1.out; have := HK2.out; have := HK3.out; omega
                  case rel => exact ⟨ms3, q3, H', ⟨by have := HK2.out; have := HK3.out; omega⟩, G.g2⟩
            · rw [if_neg c20] at H
              have c20b : decide (0 < (q.length : Int)) = false := decide_eq_false c20
              have H' := Aside0.mk H
              clear H
              go_wp2
              go_roundg k2
              case measure => have := HK1.out; have := HK2.out; omega
              case rel => exact ⟨wrap64 (x5 + 1), wrap64 (x18 + 1), ms2, rfl, by first | rfl | (simp; done), H', ⟨by have := HK1.out; have := HK2.out; omega⟩, G.g1⟩
       · rw [if_neg c8] at H
         exact absurd H (by simp)
     · rw [if_neg c7] at H
       exact absurd H (by simp)
   · rw [if_neg c6] at H
     have c6b0 : decide (x18 < (t.length : Int)) = false := decide_eq_false c6
     obtain rfl := Option.some.inj H
     go_wp2
     repeat (go_quiet (fail); try go_wp2)
     go_ret
     exact ⟨by first | rfl | (simp; done), G.below⟩

end Go.Proofs.YtacbacbmomhjoaaDoor.Print
