-- Printed by a program of this session out of the translation; not trusted: Lean checks it.
import Derived.Test.YtcjkklkmlooinaaPrint0
import Derived.Test.YtcjkklkmlooinaaPrint13
import Derived.Lib.AppendZeros
namespace Go.Proofs.Ytcjkklkmlooinaa.Print
open Go.RowKit Go.Proofs.YtcjkklkmlooinaaW.PrintWords Go.Proofs.YtcjkklkmlooinaaW.PrintLast Go.Proofs.YtcjkklkmlooinaaW.PrintMore
attribute [local go_sem] max2_int min2_int max_two min_two max_three min_three max_four min_four   -- for this text's walks alone
set_option linter.unusedVariables false
set_option linter.unusedSimpArgs false

-- imports: Derived.Lib.AppendZeros
/-! ### spec_l09W_walk: function 76 -/
mutual
def spec_l09W_walk.l0 : Nat → Int → List S58 → Int → List Int → Int → Option (List Int) → Option (Option (List Int))
 | 0, _, _, _, _, _, _ => none
 | k + 1, s0, s1, s2, l1, x4, fd => if x4 < s2 then (if fd.isSome = true then some fd else ((spec_l09W_free.f k s0 s1 s2 [] false l1 x4).bind fun bt => (if bt.1 = true then (if l1.length + 1 < 8796093022208 then ((spec_l09W_walk.f k s0 s1 s2 (l1 ++ [x4])).bind fun fd1 => (spec_l09W_walk.l0 k s0 s1 s2 l1 (wrap64 (x4 + 1)) fd1)) else none) else (spec_l09W_walk.l0 k s0 s1 s2 l1 (wrap64 (x4 + 1)) none)))) else some fd
def spec_l09W_walk.f : Nat → Int → List S58 → Int → List Int → Option (Option (List Int))
 | 0, _, _, _, _ => none
 | k + 1, s0, s1, s2, l1 => if (l1.length : Int) = s0 then ((spec_l00Own.f l1).bind fun t => some (some t)) else (spec_l09W_walk.l0 k s0 s1 s2 l1 0 none)
end
theorem spec_l09W_walk.mono_l : ∀ k, (∀ y0 y1 y2 y3, LeO (spec_l09W_walk.f k y0 y1 y2 y3) (spec_l09W_walk.f (k + 1) y0 y1 y2 y3)) ∧ (∀ y0 y1 y2 y3 y4 y5, LeO (spec_l09W_walk.l0 k y0 y1 y2 y3 y4 y5) (spec_l09W_walk.l0 (k + 1) y0 y1 y2 y3 y4 y5))
 | 0 => ⟨fun _ _ _ _ r h => by simp [spec_l09W_walk.f] at h, fun _ _ _ _ _ _ r h => by simp [spec_l09W_walk.l0] at h⟩
 | k + 1 => by
  obtain ⟨ih0, ih1⟩ := spec_l09W_walk.mono_l k
  refine ⟨?_, ?_⟩
  · intro y0 y1 y2 y3
    unfold spec_l09W_walk.f
    repeat' first
    | exact ih0 _ _ _ _
    | exact ih1 _ _ _ _ _ _
    | exact LeO.refl _
    | exact LeO.none _
    | refine LeO.ite ?_ ?_
    | refine LeO.bind ?_ (fun _ => ?_)
  · intro y0 y1 y2 y3 y4 y5
    unfold spec_l09W_walk.l0
    repeat' first
    | exact ih0 _ _ _ _
    | exact ih1 _ _ _ _ _ _
    | exact spec_l09W_free.mono _ _ _ _ _ _ _ _
    | exact LeO.refl _
    | exact LeO.none _
    | refine LeO.ite ?_ ?_
    | refine LeO.bind ?_ (fun _ => ?_)
theorem spec_l09W_walk.mono : ∀ a0 a1 a2 a3 k, LeO (spec_l09W_walk.f k a0 a1 a2 a3) (spec_l09W_walk.f (k + 1) a0 a1 a2 a3) := by
 intro a0 a1 a2 a3 k
 exact (spec_l09W_walk.mono_l k).1 a0 a1 a2 a3
theorem g_free_same : ∀ (k : Nat) (l1 : List Int) (a n i s0 : Int) (s1 : List S58) (s2 : Int) (s3 : List Int) (s4 : Bool) (r1 : Bool) (r2 r3 : Int) (r4 : Bool), spec_l09W_free.l0 k l1 a n i s0 s1 s2 s3 s4 = some (r1, r2, r3, r4) → r2 = s0 ∧ r3 = s2 ∧ r4 = s4 := by
 intro k
 induction k with
 | zero => intro l1 a n i s0 s1 s2 s3 s4 r1 r2 r3 r4 h; simp [spec_l09W_free.l0] at h
 | succ k ih =>
  intro l1 a n i s0 s1 s2 s3 s4 r1 r2 r3 r4 h
  simp only [spec_l09W_free.l0] at h
  repeat' split at h
  all_goals first | (exact ih _ _ _ _ _ _ _ _ _ _ _ _ _ h) | (simp only [Option.some.injEq, Prod.mk.injEq] at h; obtain ⟨_, h2, h3, h4⟩ := h; exact ⟨h2.symm, h3.symm, h4.symm⟩) | (cases h; done)
def g_own (w : World) (base : Nat) (u : Value) (l : List Int) : Prop := w.ownsRow base 2 1 u l.length (encs (Value.int .i64) l)
theorem g_own_R {w : World} {base : Nat} {u : Value} {l : List Int} (h : g_own w base u l) : Kd.R (Kd.int .i64) 2 w base (fun _ => True) u l := Kd.R_of_own (h1 := fun _ => rfl) h (fun _ _ => trivial)
theorem g_own_of {w : World} {base : Nat} {ok : Nat → Prop} {u : Value} {l : List Int} (h : Kd.R (Kd.int .i64) 2 w base ok u l) : g_own w base u l := Kd.own_of_R (h1 := fun _ => rfl) h
/-- One number is appended to an own row: what was owned stays a row with its numbers, and the new row lies in the same block, or in a new one. -/
theorem g_append (w : World) (ty : TypeId) (base : Nat) (u : Value) (n : Nat) (xs : List Value) (x : Value) (hown : w.ownsRow base 2 1 u n xs) (a : Addr) (ha : w.cell? a = some x) (h1 : x.oneCell' = true) (hn : n + 1 < 8796093022208) (hbase : base ≤ w.heap.size) :
  ∃ v' w', (Builtin.append_ #[27, 27] ty #[u, .slice (some a) 1 1]).run Try.prog w = .ok v' w' ∧ w'.ownsRow base 2 1 v' (n + 1) (xs ++ [x]) ∧ w'.ownsRow base 2 1 u n xs ∧ w.grownBy w' u.ownBlock ∧ ((∃ g cap, u = .slice (some ⟨g, 0, none⟩) n cap ∧ v' = .slice (some ⟨g, 0, none⟩) (n + 1) cap) ∨ ∃ b cap, v' = .slice (some ⟨b, 0, none⟩) (n + 1) cap ∧ w.heap.size ≤ b) := by
 obtain ⟨i, hi, hzz⟩ := Option.map_eq_some_iff.1 info2
 simp only [Prod.mk.injEq] at hzz
 obtain ⟨hz0, hz1, hz2⟩ := hzz
 have hz1' : i.size = 1 := hz1
 have hz2' : i.bytes = 8 := hz2
 have hadd : a.add 0 = a := Addr.add_zero' a
 have hnews : ∀ j v, [x][j]? = some v → w.cell? (a.add j) = some v := by
  intro j v hj
  cases j with
  | zero => simp at hj; subst hj; rw [hadd]; exact ha
  | succ j => simp at hj
 have hxl : xs.length = n := by have := hown.1; omega
 have fresh : ∀ (old : Nat) (olds : List Value), olds.length = n → olds = xs → (w.drew.alloc (.cells (olds.toArray ++ [x].toArray ++ Builtin.zeroCells (Value.int .i64 0).cells (grownCap w (n + 1) old 2 - (n + 1))) 2)).ownsRow base 2 1 (.slice (some ⟨w.heap.size, 0, none⟩) (n + 1) (grownCap w (n + 1) old 2)) (n + 1) (xs ++ [x]) := by
  intro old olds hol e
  subst e
  have hge := grownCap_ge w (n + 1) old 2
  have hcm : grownCap w (n + 1) old 2 ≤ maxLen := grownCap_le_maxLen w (n + 1) old 2 (by unfold maxLen; omega)
  refine ⟨by simp [hol], .inr ⟨w.heap.size, _, _, rfl, hbase, heap_alloc_new w.drew _, hge, hcm, ?_, ?_⟩⟩
  · simp only [Array.size_append, List.size_toArray, size_zeroCells]
    show _ + 1 + _ * 1 = _
    omega
  · simp only [Array.toList_append, List.append_assoc]
    rw [← List.append_assoc, show (n + 1) * 1 = (olds ++ [x]).length by simp [hol]]
    exact List.take_left
 have hgrow : ∀ (o : Obj) (row : Option Nat), w.grownBy (w.drew.alloc o) row := fun o row => ⟨rfl, rfl, rfl, by simp, fun k hk _ => Below.heap_alloc w.drew o k hk⟩
 have hkeep : ∀ (o : Obj), (w.drew.alloc o).ownsRow base 2 1 u n xs := fun o => hown.kept (hgrow o none) (by cases u.ownBlock <;> simp)
 rcases hown.2 with ⟨rfl, rfl⟩ | ⟨g, cap, cur, rfl, hbg, hg, hnc, hcm, hcs, htake⟩
 · have hx : xs = [] := List.eq_nil_of_length_eq_zero hxl
   subst hx
   have hr := run_append_nil (P := Try.prog) w 27 ty 2 i (.int .i64 0) Try.underlying27 hi hz0 a 1 1 [x] (by rw [hz1']; rfl) hnews (by omega) (by omega) (by rw [hz2']; omega)
   have hf := fresh 0 [] rfl rfl
   simp only [Nat.zero_add, List.nil_append, Array.empty_append] at hf ⊢
   exact ⟨_, _, hr, hf, hkeep _, hgrow _ _, .inr ⟨_, _, rfl, Nat.le_refl _⟩⟩
 · by_cases hroom : n + 1 ≤ cap
   · have hfit : n * i.size + [x].length ≤ cur.size := by rw [hz1', hcs]; simp; omega
     have hr := run_append_room (P := Try.prog) w 27 ty 2 i Try.underlying27 hi g n cap cur hg a 1 1 [x] (by rw [hz1']; rfl) hnews (by intro v hv; simp at hv; subst hv; exact h1) hroom hfit
     rw [hz1'] at hr
     have hcs' : cur.size = cap := by rw [hcs]; omega
     have ht : cur.toList.take (n * 1) = xs := htake
     have hsz : (cur.toList.take (n * 1) ++ [x] ++ cur.toList.drop (n * 1 + [x].length)).toArray.size = cap * 1 := by
      simp only [List.size_toArray, List.length_append, List.length_take, List.length_drop, Array.length_toList, List.length_singleton]
      omega
     refine ⟨_, _, hr, ⟨by simp [hxl], .inr ⟨g, cap, _, rfl, hbg, setRow_heap w g cur _ 2 _ hg, hroom, hcm, hsz, ?_⟩⟩, ⟨hown.1, .inr ⟨g, cap, _, rfl, hbg, setRow_heap w g cur _ 2 _ hg, hnc, hcm, hsz, ?_⟩⟩, ⟨rfl, rfl, rfl, by simp, fun k _ hk => setRow_other w g k _ (fun e => hk (by simp [Value.ownBlock, e]))⟩, .inl ⟨g, cap, rfl, rfl⟩⟩
     · rw [ht, show (n + 1) * 1 = (xs ++ [x]).length by simp [hxl]]
       exact List.take_left
     · rw [ht, List.append_assoc, show n * 1 = xs.length by omega]
       exact List.take_left
   · have holds : ∀ j v, xs[j]? = some v → w.cell? ((⟨g, 0, none⟩ : Addr).add j) = some v := hown.cells (g := g) rfl
     have hr := run_append_grow (P := Try.prog) w 27 ty 2 i (.int .i64 0) Try.underlying27 hi hz0 ⟨g, 0, none⟩ n cap xs (by rw [hz1', hxl]; omega) holds a 1 1 [x] (by rw [hz1']; rfl) hnews (by omega) (by omega) (growslice_fits (by omega) (by rw [hz2']; omega))
     exact ⟨_, _, hr, fresh cap xs hxl rfl, hkeep _, hgrow _ _, .inr ⟨_, _, rfl, Nat.le_refl _⟩⟩
/-- What the state is after the walk: nothing found, or the colours. -/
def g_Wk (w0 W : World) (g : Nat) (s0 : Int) (s1 : List S58) (s2 : Int) : Option (List Int) → Prop
 | none => IsS95 w0 W g s0 s1 s2 [] false
 | some xs => ∃ A1 c1 v, W.heap[g]? = some (.cells #[.int .i64 s0, .slice A1 s1.length c1, .int .i64 s2, v, .bool true] 95 (0, 0)) ∧ w0.heap.size ≤ g ∧ g_own W w0.heap.size v xs
theorem g_pre {w : World} {base : Nat} {g n cap : Nat} {xs : List Value} {x : Value} (h : w.ownsRow base 2 1 (.slice (some ⟨g, 0, none⟩) (n + 1) cap) (n + 1) (xs ++ [x])) (hx : xs.length = n) : w.ownsRow base 2 1 (.slice (some ⟨g, 0, none⟩) n cap) n xs := by
 refine ⟨by omega, ?_⟩
 rcases h.2 with ⟨h, _⟩ | ⟨g', cap', cur, he, hbg, hg, hnc, hcm, hcs, htake⟩
 · cases h
 · injection he with h1 h2 h3
   injection h1 with h1
   injection h1 with h1
   subst h1
   subst h3
   refine .inr ⟨g, cap, cur, rfl, hbg, hg, by omega, hcm, hcs, ?_⟩
   have := congrArg (List.take n) htake
   rw [List.take_take, List.take_append_of_le_length (by omega), List.take_of_length_le (by omega : xs.length ≤ n)] at this
   rw [← this]
   congr 1
   omega
set_option maxHeartbeats 8000000 in
set_option maxRecDepth 100000 in
theorem spec_l09W_walk.calls (k : Nat) : ∀ (g : Nat) (s0 : Int) (s1 : List S58) (s2 : Int) (u : Value) (l1 : List Int) (r : Option (List Int)) (w0 w : World) (hI : IsS95 w0 w g s0 s1 s2 [] false) (hB : Below w0.heap.size w0 w) (ho : g_own w w0.heap.size u l1) (h : spec_l09W_walk.f k s0 s1 s2 l1 = some r),
  Calls Try.prog 76 #[.pointer (some ⟨g, 0, none⟩), u] w fun e w' => e = .returned (.tuple #[]) ∧ g_Wk w0 w' g s0 s1 s2 r ∧ Below w0.heap.size w0 w' ∧ KeepBut w w' g u.ownBlock ∧ g_own w' w0.heap.size u l1 := by
 induction k using Nat.strongRecOn with
 | _ k ih =>
 intro g s0 s1 s2 u l1 r w0 w hI hB ho h
 cases k with
 | zero => exact absurd h (by simp [spec_l09W_walk.f])
 | succ k =>
 simp only [spec_l09W_walk.f] at h
 obtain ⟨Ao, co, eu⟩ := Kd.R_slice (g_own_R ho)
 subst eu
 have hgo : some g ≠ (Value.slice Ao l1.length co).ownBlock := hI.own_ne (g_own_R ho) (by decide)
 have HG_ := Aside0.mk hgo
 have HO := Aside0.mk ho
 have HB := Aside0.mk hB
 have HI0 := Aside0.mk hI
 have HW0 := Aside0.mk hB.size
 have HK := Aside0.mk (KeepBut.refl w g (Value.slice Ao l1.length co).ownBlock)
 clear ho hB hI hgo
 obtain ⟨A1, c1, A3, c3, HG, hg, hl1, hl3⟩ := HI0.out
 have hcz_0 := cellS95_0 HG
 by_cases c5 : (l1.length : Int) = s0
 · rw [if_pos c5] at h
   obtain ⟨t, ht, h⟩ := Option.bind_eq_some_iff.1 h
   cases h
   have HT := Aside0.mk ht
   have HGG := Aside0.mk HG
   have Hl1 := Aside0.mk hl1
   have Hg := Aside0.mk hg
   have c5b0 : ((l1.length : Int) == s0) = true := beq_iff_eq.mpr c5
   clear ht HG hl1 hl3 hg
   go_enter Try.func76, Try.ntmps76
   go_wp2_with (first | ((with_reducible refine gate_callee (f := 45) rfl ?_); refine goesL_ (some 14) rfl rfl Try.func45 (by kernel_rfl) rfl #[.slice Ao l1.length co] rfl (by (try simp only [List.map_toArray, List.map_cons, List.map_nil]); first | done | rfl) ?_; (with_reducible refine (spec_l00Own.calls _ _ l1 t _ ?side1 ?side2 HT.out).mono ?_); (case side1 => exact (Kd.R_reads' (g_own_R HO.out)).2.2); (case side2 => exact (Kd.R_reads' (g_own_R HO.out)).2.1); rintro e w5 ⟨v5, rfl, ho0, hb⟩; refine ⟨_, rfl, ?_⟩; obtain ⟨A5, co5, e5⟩ := Kd.R_slice ho0; subst e5; have HG5 := blk_below HGG.out hb; have hc3 : w5.cell? ⟨g, 3, none⟩ = some (.slice A3 0 c3) := blk_cell HG5 3; have hc4 : w5.cell? ⟨g, 4, none⟩ = some (.bool false) := blk_cell HG5 4; have hf3 := blk_frozen HG5 3; have hf4 := blk_frozen HG5 4; have HG5_ := Aside0.mk HG5; have HB5 := Aside0.mk hb; have HO5 := Aside0.mk ho0; clear HG5 hb ho0))
   (try simp only [Exit.inBlock, Exit.then])
   refine bodyPost_ret (results_none rfl _ _ _) rfl ?_
   have hs5 : (w5.setCell ⟨g, 3, none⟩ (.slice A5 t.length co5)).heap[g]? = some (.cells #[.int .i64 s0, .slice A1 s1.length c1, .int .i64 s2, (.slice A5 t.length co5), .bool false] 95 (0, 0)) := blk_put HG5_.out 3 (.slice A5 t.length co5) rfl
   have hs6 : ((w5.setCell ⟨g, 3, none⟩ (.slice A5 t.length co5)).setCell ⟨g, 4, none⟩ (.bool true)).heap[g]? = some (.cells #[.int .i64 s0, .slice A1 s1.length c1, .int .i64 s2, (.slice A5 t.length co5), .bool true] 95 (0, 0)) := blk_put hs5 4 (.bool true) rfl
   have hgl := blk_lt HGG.out
   have hv5 : some g ≠ (Value.slice A5 t.length co5).ownBlock := fun e => by
    have := ((Kd.R_own HO5.out).choose_spec.lt g e.symm).1
    omega
   have hK5 : KeepBut w w5 g (Value.slice Ao l1.length co).ownBlock := KeepBut.of_below HB5.out g _
   refine ⟨by first | rfl | simp, ⟨A1, c1, (.slice A5 t.length co5), hs6, Hg.out, ?_⟩, ?_, (hK5.set_ 3 (.slice A5 t.length co5)).set_ 4 (.bool true), ?_⟩
   · have h1 := own_setCell (p := ⟨g, 3, none⟩) (Kd.own_of_R (h1 := fun _ => rfl) (Kd.R_lower HO5.out HW0.out)) hv5 (.slice A5 t.length co5)
     exact own_setCell (p := ⟨g, 4, none⟩) h1 hv5 (.bool true)
   · exact below_set (below_set (below_step HB.out HB5.out) Hg.out) Hg.out
   · have h0 : w5.ownsRow w0.heap.size 2 1 (Value.slice Ao l1.length co) l1.length (encs (Value.int .i64) l1) := World.ownsRow.kept HO.out (grown_of_below HB5.out none) (by cases (Value.slice Ao l1.length co).ownBlock <;> simp)
     exact own_setCell (p := ⟨g, 4, none⟩) (own_setCell (p := ⟨g, 3, none⟩) h0 HG_.out (.slice A5 t.length co5)) HG_.out (.bool true)
 · rw [if_neg c5] at h
   have H' := Aside0.mk h
   have c5b0 : ((l1.length : Int) == s0) = false := beq_eq_false_iff_ne.mpr c5
   clear h HG hl1 hl3 hg
   go_enter Try.func76, Try.ntmps76
   go_wp2
   go_loopg [4] k (fun kq v4 w' => ∃ (x4_1 : Int) (fd : Option (List Int)), v4 = .int .i64 x4_1 ∧ Aside0 (spec_l09W_walk.l0 kq s0 s1 s2 l1 x4_1 fd = some r) ∧ Aside0 (kq ≤ k) ∧ Aside0 (g_Wk w0 w' g s0 s1 s2 fd) ∧ Aside0 (KeepBut w w' g (Value.slice Ao l1.length co).ownBlock) ∧ Aside0 (Below w0.heap.size w0 w') ∧ Aside0 (g_own w' w0.heap.size (.slice Ao l1.length co) l1))
   case atStart => exact ⟨0, none, by first | rfl | (simp; done), H', ⟨Nat.le_refl _⟩, ⟨HI0.out⟩, ⟨HK.out⟩, ⟨HB.out⟩, ⟨HO.out⟩⟩
   case round =>
    clear H' HI0 HK HB HO hcz_0
    obtain ⟨x4_1, fd, rfl, HA, HK1, HI0, HK, HB, HO⟩ := hrel
    cases gk with
    | zero => exact absurd HA.out (by simp [spec_l09W_walk.l0])
    | succ k1 =>
     have H := HA.out
     clear HA
     simp only [spec_l09W_walk.l0] at H
     by_cases c8 : x4_1 < s2
     · rw [if_pos c8] at H
       have c8b0 : decide (x4_1 < s2) = true := decide_eq_true c8
       clear c8
       cases fd with
       | some xs =>
        rw [if_pos (show (some xs : Option (List Int)).isSome = true from rfl)] at H
        cases H
        obtain ⟨A1, c1, v3, HG, hg, hv⟩ := HI0.out
        have hc2 : wr.cell? ⟨g, 2, none⟩ = some (.int .i64 s2) := blk_cell HG 2
        have hc4 : wr.cell? ⟨g, 4, none⟩ = some (.bool true) := blk_cell HG 4
        clear HG hg hv
        go_wp2
        go_end0
        exact ⟨by first | rfl | simp, HI0.out, HB.out, HK.out, HO.out⟩
       | none =>
        rw [if_neg (by simp)] at H
        obtain ⟨⟨t, b1, b2, b3⟩, Af, H⟩ := Option.bind_eq_some_iff.1 H
        obtain ⟨rfl, rfl, rfl⟩ := g_free_same _ _ _ _ _ _ _ _ _ _ _ _ _ _ (show spec_l09W_free.l0 _ _ _ _ _ _ _ _ _ _ = _ from Af)
        have AF := Aside0.mk Af
        clear Af
        obtain ⟨A1, c1, A3, c3, HG, hg, hl1, hl3⟩ := HI0.out
        have hc2 := cellS95_2 HG
        have hc4 := cellS95_4 HG
        have Hg := Aside0.mk hg
        clear HG hg hl1 hl3
        dsimp only at H
        by_cases ct : t = true
        · subst ct
          rw [if_pos rfl] at H
          by_cases cl : l1.length + 1 < 8796093022208
          · rw [if_pos cl] at H
            have LM := Aside0.mk cl
            clear cl
            obtain ⟨r1, Aw, H⟩ := Option.bind_eq_some_iff.1 H
            have AW := Aside0.mk Aw
            have H' := Aside0.mk H
            clear Aw H
            go_wp2_with (first | ((with_reducible refine gate_callee (f := 83) rfl ?_); refine goesL_ (some 38) rfl rfl Try.func83 (by kernel_rfl) rfl #[.pointer (some ⟨g, 0, none⟩), .slice Ao l1.length co, .int .i64 x4_1] rfl (by (try simp only [List.map_toArray, List.map_cons, List.map_nil]); first | done | rfl) ?_; (with_reducible refine (spec_l09W_free.calls k1 g _ s1 _ [] _ _ _ l1 x4_1 true _ _ _ w0 _ ?side1 ?side2 ?side3 ?side4 ?side5 AF.out).mono ?_); (case side1 => exact HI0.out); (case side2 => exact HB.out); (case side3 => exact (Kd.R_reads' (g_own_R HO.out)).2.2); (case side4 => exact (Kd.R_reads' (g_own_R HO.out)).2.1); (case side5 => exact (fun ad e _ hh => HG_.out (by rw [e, ← hh]; rfl))); rintro e w5 ⟨rfl, hi5, hb5, hk5⟩; refine ⟨_, rfl, ?_⟩; have n0_ := Aside0.mk hi5; have n1_ := Aside0.mk hb5; have n2_ := Aside0.mk (HK.out.trans (row1 := (Value.slice Ao l1.length co).ownBlock) ⟨hk5.1, fun i hi hg _ => hk5.2 i hi hg (by simp)⟩ (.inl rfl)); have n3_ := Aside0.mk (show g_own w5 w0.heap.size (.slice Ao l1.length co) l1 from hk5.own HO.out (fun e => HG_.out e.symm) (by cases (Value.slice Ao l1.length co).ownBlock <;> simp)); clear HI0 HB HK HO; have HI0 := n0_; have HB := n1_; have HK := n2_; have HO := n3_; clear n0_ n1_ n2_ n3_ hi5 hb5 hk5) | ((with_reducible refine gate_builtin (b := .append) (xs := #[.tmp 40, .tmp 42]) rfl ?_); at_builtin; obtain ⟨v6, w6, hr6, hv6, hu6, hg6, hd6⟩ := g_append (w5.alloc (.cells #[.int .i64 x4_1] 2)) 27 w0.heap.size (.slice Ao l1.length co) l1.length _ (.int .i64 x4_1) (HO.out.alloc _) ⟨w5.heap.size, 0, none⟩ (blk_cell (heap_alloc_new w5 _) 0) rfl LM.out (Nat.le_trans HB.out.size (by simp)); refine Lib.wpList_append_run _ rfl (.tmp 40) (.tmp 42) 27 27 rfl _ _ rfl rfl _ _ hr6 ?_; have n0_ := Aside0.mk (show g_own w6 w0.heap.size v6 (l1 ++ [x4_1]) from by (unfold g_own encs; rw [List.map_append, List.length_append]; exact hv6)); have n1_ := Aside0.mk ((HB.out.alloc HB.out.size _).grown hg6 (by have := HB.out.size; simp; omega) (own_base HO.out)); have n2_ := Aside0.mk (show g_own w6 w0.heap.size (.slice Ao l1.length co) l1 from hu6); have n3_ := Aside0.mk (World.grownBy.trans (World.grownBy_alloc w5 (.cells #[.int .i64 x4_1] 2) _) hg6); have n4_ := Aside0.mk hd6; have n5_ := Aside0.mk (IsS95.grown HI0.out n3_.out HG_.out); have HL5 := Aside0.mk (show ∀ k, (Value.slice Ao l1.length co).ownBlock = some k → k < w5.heap.size from fun k hk => (HO.out.lt k hk).2); clear HI0 HB HO; have HI0 := n5_; have HB := n1_; have HO := n2_; have HV := n0_; have HGR := n3_; have HD := n4_; clear n0_ n1_ n2_ n3_ n4_ n5_ hr6 hv6 hu6 hg6 hd6) | ((with_reducible refine gate_callee (f := 76) rfl ?_); refine goesL_ (some 44) rfl rfl Try.func76 (by kernel_rfl) rfl #[.pointer (some ⟨g, 0, none⟩), v6] rfl (by (try simp only [List.map_toArray, List.map_cons, List.map_nil]); first | done | rfl) ?_; refine (ih k1 (by have := HK1.out; omega) g _ s1 _ v6 (l1 ++ [x4_1]) r1 w0 _ HI0.out HB.out HV.out AW.out).mono ?_; rintro e w7 ⟨rfl, hi7, hb7, hk7, hv7⟩; refine ⟨_, rfl, ?_⟩; have HI7 := Aside0.mk hi7; have HB7 := Aside0.mk hb7; have HK7 := Aside0.mk hk7; have HV7 := Aside0.mk hv7; clear hi7 hb7 hk7 hv7))
            go_roundg k1
            case measure => have := HK1.out; omega
            case rel =>
             refine ⟨(wrap64 (x4_1 + 1)), r1, (by first | rfl | (simp; done) | (simp [*]; done)), H', ⟨by have := HK1.out; omega⟩, ⟨HI7.out⟩, ⟨?_⟩, ⟨HB7.out⟩, ⟨?_⟩⟩
             · refine (HK.out.trans (KeepBut.of_grown HGR.out g) (.inl rfl)).trans HK7.out ?_
               rcases HD.out with ⟨g', cap, hu, hv⟩ | ⟨b, cap, hv, hle⟩
               · exact .inl (by rw [hu, hv]; rfl)
               · refine .inr ⟨b, by rw [hv]; rfl, ?_⟩
                 have := HK.out.1
                 simp at hle
                 omega
             · rcases HD.out with ⟨g', cap, hu, hv⟩ | ⟨b, cap, hv, hle⟩
               · have h7 := HV7.out
                 unfold g_own encs at h7 ⊢
                 rw [List.map_append, List.length_append, hv] at h7
                 rw [hu]
                 exact g_pre h7 (by simp)
               · refine HK7.out.own HO.out (fun e => HG_.out e.symm) (.inr fun e => ?_)
                 rw [hv] at e
                 have := HL5.out b e
                 simp at hle
                 omega
          · rw [if_neg cl] at H
            exact absurd H (by simp)
        · replace ct := Bool.eq_false_iff.mpr ct
          subst ct
          rw [if_neg (by decide)] at H
          have H' := Aside0.mk H
          clear H
          go_wp2_with (first | ((with_reducible refine gate_callee (f := 83) rfl ?_); refine goesL_ (some 38) rfl rfl Try.func83 (by kernel_rfl) rfl #[.pointer (some ⟨g, 0, none⟩), .slice Ao l1.length co, .int .i64 x4_1] rfl (by (try simp only [List.map_toArray, List.map_cons, List.map_nil]); first | done | rfl) ?_; (with_reducible refine (spec_l09W_free.calls k1 g _ s1 _ [] _ _ _ l1 x4_1 false _ _ _ w0 _ ?side1 ?side2 ?side3 ?side4 ?side5 AF.out).mono ?_); (case side1 => exact HI0.out); (case side2 => exact HB.out); (case side3 => exact (Kd.R_reads' (g_own_R HO.out)).2.2); (case side4 => exact (Kd.R_reads' (g_own_R HO.out)).2.1); (case side5 => exact (fun ad e _ hh => HG_.out (by rw [e, ← hh]; rfl))); rintro e w5 ⟨rfl, hi5, hb5, hk5⟩; refine ⟨_, rfl, ?_⟩; have n0_ := Aside0.mk hi5; have n1_ := Aside0.mk hb5; have n2_ := Aside0.mk (HK.out.trans (row1 := (Value.slice Ao l1.length co).ownBlock) ⟨hk5.1, fun i hi hg _ => hk5.2 i hi hg (by simp)⟩ (.inl rfl)); have n3_ := Aside0.mk (show g_own w5 w0.heap.size (.slice Ao l1.length co) l1 from hk5.own HO.out (fun e => HG_.out e.symm) (by cases (Value.slice Ao l1.length co).ownBlock <;> simp)); clear HI0 HB HK HO; have HI0 := n0_; have HB := n1_; have HK := n2_; have HO := n3_; clear n0_ n1_ n2_ n3_ hi5 hb5 hk5))
          go_roundg k1
          case measure => have := HK1.out; omega
          case rel => exact ⟨(wrap64 (x4_1 + 1)), none, (by first | rfl | (simp; done) | (simp [*]; done)), H', ⟨by have := HK1.out; omega⟩, ⟨HI0.out⟩, ⟨HK.out⟩, ⟨HB.out⟩, ⟨HO.out⟩⟩
     · rw [if_neg c8] at H
       have c8b0 : decide (x4_1 < s2) = false := decide_eq_false c8
       clear c8
       cases H
       cases r with
       | none =>
        obtain ⟨A1, c1, A3, c3, HG, hg, hl1, hl3⟩ := HI0.out
        have hc2 := cellS95_2 HG
        clear HG hg hl1 hl3
        go_wp2
        go_end0
        exact ⟨by first | rfl | simp, HI0.out, HB.out, HK.out, HO.out⟩
       | some xs =>
        obtain ⟨A1, c1, v3, HG, hg, hv⟩ := HI0.out
        have hc2 : wr.cell? ⟨g, 2, none⟩ = some (.int .i64 s2) := blk_cell HG 2
        clear HG hg hv
        go_wp2
        go_end0
        exact ⟨by first | rfl | simp, HI0.out, HB.out, HK.out, HO.out⟩

-- imports: Derived.Lib.AppendZeros
/-! ### spec_l09First: function 60 -/
def spec_l09First.f (k : Nat) (a0 : Int) (l1 : List S58) (a2 : Int) : Option (List Int × Bool) := (spec_l09W_walk.f k a0 l1 a2 []).bind fun fd => some (fd.getD [], fd.isSome)
theorem spec_l09First.mono : ∀ a0 a1 a2 k, LeO (spec_l09First.f k a0 a1 a2) (spec_l09First.f (k + 1) a0 a1 a2) := by
 intro a0 a1 a2 k
 unfold spec_l09First.f
 refine LeO.bind ?_ (fun _ => LeO.refl _)
 exact spec_l09W_walk.mono _ _ _ _ _
theorem g_new_state (w : World) (s0 : Int) (A1 : Option Addr) (c1 : Nat) (s1 : List S58) (s2 : Int) (h : Kd.C k58 w A1 s1.length s1) : IsS95 w (w.alloc (.cells #[.int .i64 s0, .slice A1 s1.length c1, .int .i64 s2, .slice none 0 0, .bool false] 95)) w.heap.size s0 s1 s2 [] false :=
 ⟨A1, c1, none, 0, blk_new w _, Nat.le_refl _, h, ⟨⟨rfl, by simp, fun h => absurd h (by simp)⟩, fun _ => ⟨rfl, rfl⟩⟩⟩
theorem g_second (w : World) (S E : Obj) : ((w.alloc S).alloc E).heap[w.heap.size + 1]? = some E := by
 rw [show w.heap.size + 1 = (w.alloc S).heap.size by simp]
 exact blk_new _ _
set_option maxHeartbeats 8000000 in
set_option maxRecDepth 100000 in
theorem spec_l09First.calls (k : Nat) (a0 : Int) (A1 : Option Addr) (c1 : Nat) (l1 : List S58) (a2 : Int) (r1 : List Int) (r2 : Bool) (w : World) (hr1 : Kd.C k58 w A1 l1.length l1) (hc1 : l1.length ≤ c1) (h : spec_l09First.f k a0 l1 a2 = some (r1, r2)) :
  Calls Try.prog 60 #[.int .i64 a0, .slice A1 l1.length c1, .int .i64 a2] w fun e w' => ∃ v0_ : Value, e = .returned (.tuple #[v0_, .bool r2]) ∧ Kd.R (Kd.int .i64) 2 w' w.heap.size (fun _ => True) v0_ r1 ∧ Below w.heap.size w w' := by
 unfold spec_l09First.f at h
 obtain ⟨fd, hw, h⟩ := Option.bind_eq_some_iff.1 h
 simp only [Option.some.injEq, Prod.mk.injEq] at h
 obtain ⟨rfl, rfl⟩ := h
 have HR1 := Aside0.mk hr1
 have HW := Aside0.mk hw
 clear hr1 hc1 hw
 go_enter Try.func60, Try.ntmps60
 cases fd with
 | none =>
  go_wp2_with (first | (go_at_call 76; refine (spec_l09W_walk.calls k w.heap.size a0 l1 a2 _ [] none w _ ((g_new_state w a0 A1 c1 l1 a2 HR1.out).alloc _) (below_alloc (below_alloc (Below.refl _ _) _) _) ⟨by simp [encs], .inr ⟨w.heap.size + 1, 0, #[], rfl, by omega, g_second w _ _, by simp, by simp [maxLen], by simp, by simp [encs]⟩⟩ HW.out).mono ?_; rintro e w7 ⟨rfl, hi7, hb7, hk7, hv7⟩; have HB7 := Aside0.mk hb7; clear hb7 hk7 hv7; obtain ⟨A5, c5, A3, c3, HG, hg, hl1, hl3⟩ := hi7; obtain ⟨rfl, rfl⟩ := hl3.2 rfl; have hc3 : w7.cell? ⟨w.heap.size, 3, none⟩ = some (.slice none 0 0) := blk_cell HG 3; have hc4 : w7.cell? ⟨w.heap.size, 4, none⟩ = some (.bool false) := blk_cell HG 4; clear HG hg hl1 hl3))
  repeat (go_quiet (fail); try go_wp2)
  go_ret2
  exact ⟨_, by first | rfl | simp, Kd.R_nil _ _ _ _ _, by repeat (first | (with_reducible first | exact HB7.out | apply below_alloc | apply pw_below_drewN | apply below_drew1) | exact HB7.out)⟩
 | some xs =>
  go_wp2_with (first | (go_at_call 76; refine (spec_l09W_walk.calls k w.heap.size a0 l1 a2 _ [] (some xs) w _ ((g_new_state w a0 A1 c1 l1 a2 HR1.out).alloc _) (below_alloc (below_alloc (Below.refl _ _) _) _) ⟨by simp [encs], .inr ⟨w.heap.size + 1, 0, #[], rfl, by omega, g_second w _ _, by simp, by simp [maxLen], by simp, by simp [encs]⟩⟩ HW.out).mono ?_; rintro e w7 ⟨rfl, hi7, hb7, hk7, hv7⟩; have HB7 := Aside0.mk hb7; clear hb7 hk7 hv7; obtain ⟨A5, c5, v3, HG, hg, hv3⟩ := hi7; obtain ⟨A3, c3, e3⟩ := Kd.R_slice (g_own_R hv3); subst e3; have HV3 := Aside0.mk hv3; have hc3 : w7.cell? ⟨w.heap.size, 3, none⟩ = some (.slice A3 xs.length c3) := blk_cell HG 3; have hc4 : w7.cell? ⟨w.heap.size, 4, none⟩ = some (.bool true) := blk_cell HG 4; clear HG hg hv3))
  repeat (go_quiet (fail); try go_wp2)
  go_ret2
  exact ⟨_, by first | rfl | simp, by (with_reducible repeat (first | apply Kd.R_alloc | apply Kd.R_drewN | apply Kd.R_drew)); exact g_own_R HV3.out, by repeat (first | (with_reducible first | exact HB7.out | apply below_alloc | apply pw_below_drewN | apply below_drew1) | exact HB7.out)⟩

end Go.Proofs.Ytcjkklkmlooinaa.Print
