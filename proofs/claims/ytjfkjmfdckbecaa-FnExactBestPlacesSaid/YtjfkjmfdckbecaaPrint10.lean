-- Printed by a program of this session out of the translation; not trusted: Lean checks it.
import Derived.Test.YtjfkjmfdckbecaaPrint0
import Derived.Test.YtjfkjmfdckbecaaPrint6
import Derived.Test.YtjfkjmfdckbecaaPrint8
import Derived.Test.YtjfkjmfdckbecaaPrint9
namespace Go.Proofs.Ytjfkjmfdckbecaa.Print
open Go.RowKit Go.Proofs.YtjfkjmfdckbecaaW.PrintWords Go.Proofs.YtjfkjmfdckbecaaW.PrintLast Go.Proofs.YtjfkjmfdckbecaaW.PrintMore
attribute [local go_sem] max2_int min2_int max_two min_two max_three min_three max_four min_four   -- for this text's walks alone
set_option linter.unusedVariables false
set_option linter.unusedSimpArgs false

/-! ### spec_l11W_walk: function 39 -/
mutual
def spec_l11W_walk.l0 : Nat → List S36 → List Int → Int → Int → List Int → Int → Option (List Int × Int)
 | 0, _, _, _, _, _, _ => none
 | k + 1, s0, l1, a2, x8, b, m => if x8 < ((rd_T36 s0 (l1.length : Int)).f2.length : Int) then ((spec_l11Free.f s0 l1 (l1.length : Int) (rd (rd_T36 s0 (l1.length : Int)).f2 x8)).bind fun t => (if t = true then ((spec_l11W_walk.f k s0 (l1 ++ [x8]) (wrap64 (a2 + (rd_T36 s0 (l1.length : Int)).f3)) b m).bind fun bm => spec_l11W_walk.l0 k s0 l1 a2 (wrap64 (x8 + 1)) bm.1 bm.2) else spec_l11W_walk.l0 k s0 l1 a2 (wrap64 (x8 + 1)) b m)) else some (b, m)
def spec_l11W_walk.f : Nat → List S36 → List Int → Int → List Int → Int → Option (List Int × Int)
 | 0, _, _, _, _, _ => none
 | k + 1, s0, l1, a2, b, m => if (l1.length : Int) = (s0.length : Int) then (if a2 > m then some (l1, a2) else some (b, m)) else (if l1.length < 1000 then (if (l1.length : Int) < (s0.length : Int) then ((spec_l11W_walk.f k s0 (l1 ++ [-1]) a2 b m).bind fun bm => spec_l11W_walk.l0 k s0 l1 a2 0 bm.1 bm.2) else none) else none)
end
theorem spec_l11W_walk.mono_l : ∀ k, (∀ y0 y1 y2 y3 y4, LeO (spec_l11W_walk.f k y0 y1 y2 y3 y4) (spec_l11W_walk.f (k + 1) y0 y1 y2 y3 y4)) ∧ (∀ y0 y1 y2 y3 y4 y5, LeO (spec_l11W_walk.l0 k y0 y1 y2 y3 y4 y5) (spec_l11W_walk.l0 (k + 1) y0 y1 y2 y3 y4 y5))
 | 0 => ⟨fun _ _ _ _ _ r h => by simp [spec_l11W_walk.f] at h, fun _ _ _ _ _ _ r h => by simp [spec_l11W_walk.l0] at h⟩
 | k + 1 => by
  obtain ⟨ih0, ih1⟩ := spec_l11W_walk.mono_l k
  refine ⟨?_, ?_⟩
  · intro y0 y1 y2 y3 y4
    unfold spec_l11W_walk.f
    repeat' first
    | exact ih0 _ _ _ _ _
    | exact ih1 _ _ _ _ _ _
    | exact LeO.refl _
    | exact LeO.none _
    | refine LeO.ite ?_ ?_
    | refine LeO.bind ?_ (fun _ => ?_)
  · intro y0 y1 y2 y3 y4 y5
    unfold spec_l11W_walk.l0
    repeat' first
    | exact ih0 _ _ _ _ _
    | exact ih1 _ _ _ _ _ _
    | exact LeO.refl _
    | exact LeO.none _
    | refine LeO.ite ?_ ?_
    | refine LeO.bind ?_ (fun _ => ?_)
theorem spec_l11W_walk.mono : ∀ a0 a1 a2 a3 a4 k, LeO (spec_l11W_walk.f k a0 a1 a2 a3 a4) (spec_l11W_walk.f (k + 1) a0 a1 a2 a3 a4) := by
 intro a0 a1 a2 a3 a4 k
 exact (spec_l11W_walk.mono_l k).1 a0 a1 a2 a3 a4
set_option maxHeartbeats 8000000 in
/-- The state of the search: the labels, the best places so far, and their weight. -/
def g_WS (base : Nat) (W : World) (g : Nat) (A0 : Option Addr) (n c0 : Nat) (b : List Int) (m : Int) : Prop := ∃ v, W.heap[g]? = some (.cells #[.slice A0 n c0, v, .int .i64 m] 62 (0, 0)) ∧ g_own W base v b
theorem g_own_ne {W : World} {base g : Nat} {v : Value} {b : List Int} {cs : Array Value} (hg : W.heap[g]? = some (.cells cs 62 (0, 0))) (ho : g_own W base v b) : v.ownBlock ≠ some g := fun e => by
 obtain ⟨cells, hc⟩ := own_typed ho g e
 rw [hc] at hg
 injection hg with hg
 injection hg with _ hg
 exact absurd hg (by decide)
theorem g_WS.below {base g n c0 : Nat} {W W2 : World} {A0 : Option Addr} {b : List Int} {m : Int} (h : g_WS base W g A0 n c0 b m) (hb : Below W.heap.size W W2) : g_WS base W2 g A0 n c0 b m := by
 obtain ⟨v, h1, h2⟩ := h
 exact ⟨v, blk_below h1 hb, pw_own_below h2 hb⟩
/-- What a call of the search leaves alone: all older blocks but the state's. -/
theorem g_keep_own {W W2 : World} {base g : Nat} {v : Value} {b : List Int} (h : KeepBut W W2 g none) (ho : g_own W base v b) (hg : v.ownBlock ≠ some g) : g_own W2 base v b := by
 refine h.own ho hg ?_
 cases hv : v.ownBlock with
 | none => exact .inl rfl
 | some k => exact .inr (by simp)
set_option maxHeartbeats 8000000 in
set_option maxRecDepth 100000 in
theorem spec_l11W_walk.calls (w0 : World) (A0 : Option Addr) (c0 : Nat) (s0 : List S36) (hc0 : Kd.C k36 w0 A0 s0.length s0) (hn0 : s0.length ≤ c0) (k : Nat) : ∀ (g : Nat) (u : Value) (l1 : List Int) (a2 : Int) (b : List Int) (m : Int) (r : List Int × Int) (w : World) (hge : w0.heap.size ≤ g) (hS : g_WS w0.heap.size w g A0 s0.length c0 b m) (hB : Below w0.heap.size w0 w) (ho : g_own w w0.heap.size u l1) (h : spec_l11W_walk.f k s0 l1 a2 b m = some r),
  Calls Try.prog 39 #[.pointer (some ⟨g, 0, none⟩), u, .int .i64 a2] w fun e w' => e = .returned (.tuple #[]) ∧ g_WS w0.heap.size w' g A0 s0.length c0 r.1 r.2 ∧ Below w0.heap.size w0 w' ∧ KeepBut w w' g none := by
 have HR0 := Aside0.mk hc0
 have HN0 := Aside0.mk hn0
 clear hc0 hn0
 induction k using Nat.strongRecOn with
 | _ k ih =>
 intro g u l1 a2 b m r w hge hS hB ho h
 cases k with
 | zero => exact absurd h (by simp [spec_l11W_walk.f])
 | succ k =>
 simp only [spec_l11W_walk.f] at h
 obtain ⟨Ao, co, eu⟩ := Kd.R_slice (g_own_R ho)
 subst eu
 have HS := Aside0.mk hS
 obtain ⟨v, hg, hv⟩ := hS
 have HGo := Aside0.mk (g_own_ne hg ho)
 have HV := Aside0.mk hv
 have HG := Aside0.mk hg
 have HO := Aside0.mk ho
 have HB := Aside0.mk hB
 have HGE := Aside0.mk hge
 have hcz_0 : w.cell? ⟨g, 0, none⟩ = some (.slice A0 s0.length c0) := blk_cell hg 0
 have hcz_1 : w.cell? ⟨g, 1, none⟩ = some v := blk_cell hg 1
 have hcz_2 : w.cell? ⟨g, 2, none⟩ = some (.int .i64 m) := blk_cell hg 2
 have hf1 := blk_frozen hg 1
 have hf2 := blk_frozen hg 2
 clear hg hv ho hB hge
 by_cases c5 : (l1.length : Int) = (s0.length : Int)
 · rw [if_pos c5] at h
   have c5b0 : ((l1.length : Int) == (s0.length : Int)) = true := beq_iff_eq.mpr c5
   by_cases c6 : a2 > m
   · rw [if_pos c6] at h
     cases h
     have c6b0 : decide (a2 > m) = true := decide_eq_true c6
     have c6b1 : decide (m < a2) = true := decide_eq_true c6
     clear c6
     go_enter Try.func39, Try.ntmps39
     go_wp2
     (try simp only [Exit.inBlock, Exit.then])
     refine bodyPost_ret (results_none rfl _ _ _) rfl ?_
     have hs5 : (w.setCell ⟨g, 1, none⟩ (.slice Ao l1.length co)).heap[g]? = some (.cells #[.slice A0 s0.length c0, .slice Ao l1.length co, .int .i64 m] 62 (0, 0)) := blk_put HG.out 1 (.slice Ao l1.length co) rfl
     have hs6 : ((w.setCell ⟨g, 1, none⟩ (.slice Ao l1.length co)).setCell ⟨g, 2, none⟩ (.int .i64 a2)).heap[g]? = some (.cells #[.slice A0 s0.length c0, .slice Ao l1.length co, .int .i64 a2] 62 (0, 0)) := blk_put hs5 2 (.int .i64 a2) rfl
     refine ⟨by first | rfl | simp, ⟨_, hs6, ?_⟩, below_set (below_set HB.out HGE.out) HGE.out, g_keep_set (g_keep_set (KeepBut.refl w g none) 1 _) 2 _⟩
     exact g_own_set (g_own_set HO.out HGo.out 1 _) HGo.out 2 _
   · rw [if_neg c6] at h
     cases h
     have c6b0 : decide (a2 > m) = false := decide_eq_false c6
     have c6b1 : decide (m < a2) = false := decide_eq_false c6
     clear c6
     go_enter Try.func39, Try.ntmps39
     go_wp2
     (try simp only [Exit.inBlock, Exit.then])
     refine bodyPost_ret (results_none rfl _ _ _) rfl ?_
     exact ⟨by first | rfl | simp, HS.out, HB.out, KeepBut.refl w g none⟩
 · rw [if_neg c5] at h
   have c5b0 : ((l1.length : Int) == (s0.length : Int)) = false := beq_eq_false_iff_ne.mpr c5
   by_cases c7 : l1.length < 1000
   · rw [if_pos c7] at h
     by_cases c8 : (l1.length : Int) < (s0.length : Int)
     · rw [if_pos c8] at h
       obtain ⟨r1, Aw, H⟩ := Option.bind_eq_some_iff.1 h
       have AW := Aside0.mk Aw
       have H' := Aside0.mk H
       have LM := Aside0.mk (show l1.length + 1 < 8796093022208 by omega)
       have HT := Aside0.mk (show spec_l00Own.f l1 = some l1 by unfold spec_l00Own.f; rw [Option.bind_some, if_pos (by simp; omega)]; rfl)
       have l0_ : (0 : Int) ≤ (l1.length : Int) := by omega
       obtain ⟨adl, A2, cc2, e, hv0, hv1, hv2, hv3, hl2, hC2⟩ := at_T36 HR0.out (l1.length : Int) l0_ c8
       cases e
       simp only [Int.toNat_natCast] at hv0 hv1 hv2 hv3
       have HW2 := Aside0.mk hv2
       have HW3 := Aside0.mk hv3
       have HC2 := Aside0.mk hC2
       have HL2 := Aside0.mk hl2
       have c8t := eq_true c8
       have l0t := eq_true l0_
       clear Aw H h hv0 hv1 hv2 hv3 hl2 hC2 c5 c7 c8 l0_ hcz_1 hcz_2 hf1 hf2
       go_enter Try.func39, Try.ntmps39
       go_wp2_with (first | ((with_reducible refine gate_callee (f := 42) rfl ?_); refine goesL_ (some 34) rfl rfl Try.func42 (by kernel_rfl) rfl #[.slice Ao l1.length co] rfl (by (try simp only [List.map_toArray, List.map_cons, List.map_nil]); first | done | rfl) ?_; (with_reducible refine (spec_l00Own.calls _ _ l1 l1 _ ?side1 ?side2 HT.out).mono ?_); (case side1 => exact (Kd.R_reads' (g_own_R HO.out)).2.2); (case side2 => exact (Kd.R_reads' (g_own_R HO.out)).2.1); rintro e w5 ⟨v5, rfl, ho0, hb⟩; refine ⟨_, rfl, ?_⟩; have HO5 := Aside0.mk (show g_own w5 w.heap.size v5 l1 from g_own_of ho0); have HB5 := Aside0.mk hb; clear ho0 hb) | ((with_reducible refine gate_builtin (b := .append) (xs := #[.tmp 34, .tmp 35]) rfl ?_); at_builtin; obtain ⟨v6, w6, hr6, hv6, hu6, hg6, hd6⟩ := g_append (w5.alloc (.cells #[.int .i64 (-1)] 2)) 26 w.heap.size v5 l1.length _ (.int .i64 (-1)) (HO5.out.alloc _) ⟨w5.heap.size, 0, none⟩ (blk_cell (heap_alloc_new w5 _) 0) rfl LM.out (Nat.le_trans HB5.out.size (by simp)); refine Lib.wpList_append_run _ rfl (.tmp 34) (.tmp 35) 26 26 rfl _ _ rfl rfl _ _ hr6 ?_; have HV6 := Aside0.mk (show g_own w6 w.heap.size v6 (l1 ++ [-1]) from by (unfold g_own encs; rw [List.map_append, List.length_append]; exact hv6)); have HB6 := Aside0.mk (show Below w.heap.size w w6 from ((HB5.out.alloc HB5.out.size _).grown hg6 (by have := HB5.out.size; simp; omega) (own_base HO5.out))); clear hr6 hv6 hu6 hg6 hd6) | ((with_reducible refine gate_callee (f := 39) rfl ?_); refine goesL_ (some 38) rfl rfl Try.func39 (by kernel_rfl) rfl #[.pointer (some ⟨g, 0, none⟩), v6, .int .i64 a2] rfl (by (try simp only [List.map_toArray, List.map_cons, List.map_nil]); first | done | rfl) ?_; refine (ih k (by omega) g v6 (l1 ++ [-1]) a2 b m r1 _ HGE.out (HS.out.below HB6.out) (below_step HB.out HB6.out) (g_own_weaken HV6.out HB.out.size) AW.out).mono ?_; rintro e w7 ⟨rfl, hs7, hb7, hk7⟩; refine ⟨_, rfl, ?_⟩; have HS7 := Aside0.mk hs7; have HB7 := Aside0.mk hb7; have HK7 := Aside0.mk ((KeepBut.of_below HB6.out g none).trans hk7 (.inl rfl)); have HO7 := Aside0.mk (g_keep_own HK7.out HO.out HGo.out); obtain ⟨v7, hg7, _⟩ := hs7; have hc7_0 : w7.cell? ⟨g, 0, none⟩ = some (.slice (some adl) s0.length c0) := blk_cell hg7 0; clear hg7 hb7 hk7))
       go_loopg [8] k (fun kq v8 w' => ∃ (x8 : Int) (b1 : List Int) (m1 : Int), v8 = .int .i64 x8 ∧ Aside0 (spec_l11W_walk.l0 kq s0 l1 a2 x8 b1 m1 = some r) ∧ Aside0 (0 ≤ x8) ∧ Aside0 (kq ≤ k) ∧ Aside0 (g_WS w0.heap.size w' g (some adl) s0.length c0 b1 m1) ∧ Aside0 (KeepBut w w' g none) ∧ Aside0 (Below w0.heap.size w0 w') ∧ Aside0 (g_own w' w0.heap.size (.slice Ao l1.length co) l1))
       case atStart => exact ⟨0, r1.1, r1.2, by first | rfl | (simp; done), H', ⟨by omega⟩, ⟨Nat.le_refl _⟩, HS7, HK7, HB7, HO7⟩
       case round =>
        clear H' HS7 HK7 HB7 HO7 HO5 HB5 HV6 HB6 HS HG HV HO HB AW hcz_0 hc7_0
        obtain ⟨x8, b1, m1, rfl, HA, HX0, HK1, HSr, HKr, HBr, HOr⟩ := hrel
        cases gk with
        | zero => exact absurd HA.out (by simp [spec_l11W_walk.l0])
        | succ k1 =>
         have H := HA.out
         clear HA
         simp only [spec_l11W_walk.l0] at H
         have hw2 := ((HBr.out.cell (World.block_lt_of_cell? w0 _ HW2.out)).trans HW2.out)
         obtain ⟨vr, hgr, hvr⟩ := HSr.out
         have hcr_0 : wr.cell? ⟨g, 0, none⟩ = some (.slice (some adl) s0.length c0) := blk_cell hgr 0
         clear hgr hvr
         by_cases c9 : x8 < ((rd_T36 s0 (l1.length : Int)).f2.length : Int)
         · rw [if_pos c9] at H
           have c9b0 : decide (x8 < ((rd_T36 s0 (l1.length : Int)).f2.length : Int)) = true := decide_eq_true c9
           have x0_ := HX0.out
           obtain ⟨ads, e, hx⟩ := Kd.at_int HC2.out x8 x0_ c9
           cases e
           have hx' := ((HBr.out.cell (World.block_lt_of_cell? w0 _ hx)).trans hx)
           have HNX := Aside0.mk (show 0 ≤ wrap64 (x8 + 1) by have := HC2.out.2.1; unfold wrap64; omega)
           have c9t := eq_true c9
           have x0t := eq_true x0_
           obtain ⟨t, Af, H⟩ := Option.bind_eq_some_iff.1 H
           have AF := Aside0.mk Af
           clear Af hx c9 x0_
           by_cases ct : t = true
           · subst ct
             rw [if_pos rfl] at H
             obtain ⟨r2, Aw, H⟩ := Option.bind_eq_some_iff.1 H
             have AW := Aside0.mk Aw
             have H' := Aside0.mk H
             clear Aw H
             go_wp2_with (first | (go_at_call 53; (try simp only [i64_w, i32_w]); (with_reducible refine (spec_l11Free.calls _ _ s0 _ _ l1 (l1.length : Int) (rd (rd_T36 s0 (l1.length : Int)).f2 x8) true _ ?side1 ?side2 ?side3 ?side4 AF.out).mono ?_); (case side1 => repeat (first | exact (Kd.C_below HR0.out HBr.out) | (with_reducible refine Kd.C_alloc ?_ _) | (with_reducible refine Kd.C_drewN ?_ _) | (with_reducible refine Kd.C_drew ?_))); (case side2 => exact HN0.out); (case side3 => repeat (first | exact (Kd.R_reads' (g_own_R HOr.out)).2.2 | (with_reducible refine Kd.C_alloc ?_ _) | (with_reducible refine Kd.C_drewN ?_ _) | (with_reducible refine Kd.C_drew ?_))); (case side4 => exact (Kd.R_reads' (g_own_R HOr.out)).2.1); rintro e w' ⟨rfl, ⟨nd, rfl⟩⟩; (try first | exact ⟨rfl, _, World.drewN_drewN _ _ _⟩ | exact ⟨rfl, _, Eq.trans (World.drewN_drewN _ _ _) (congrArg (World.drewN _) (Nat.add_assoc _ _ _))⟩)))
             repeat (go_quiet (first | (go_at_call 53; (try simp only [i64_w, i32_w]); (with_reducible refine (spec_l11Free.calls _ _ s0 _ _ l1 (l1.length : Int) (rd (rd_T36 s0 (l1.length : Int)).f2 x8) true _ ?side1 ?side2 ?side3 ?side4 AF.out).mono ?_); (case side1 => repeat (first | exact (Kd.C_below HR0.out HBr.out) | (with_reducible refine Kd.C_alloc ?_ _) | (with_reducible refine Kd.C_drewN ?_ _) | (with_reducible refine Kd.C_drew ?_))); (case side2 => exact HN0.out); (case side3 => repeat (first | exact (Kd.R_reads' (g_own_R HOr.out)).2.2 | (with_reducible refine Kd.C_alloc ?_ _) | (with_reducible refine Kd.C_drewN ?_ _) | (with_reducible refine Kd.C_drew ?_))); (case side4 => exact (Kd.R_reads' (g_own_R HOr.out)).2.1); rintro e w' ⟨rfl, ⟨nd, rfl⟩⟩; (try first | exact ⟨rfl, _, World.drewN_drewN _ _ _⟩ | exact ⟨rfl, _, Eq.trans (World.drewN_drewN _ _ _) (congrArg (World.drewN _) (Nat.add_assoc _ _ _))⟩))); try go_wp2_with (first | (go_at_call 53; (try simp only [i64_w, i32_w]); (with_reducible refine (spec_l11Free.calls _ _ s0 _ _ l1 (l1.length : Int) (rd (rd_T36 s0 (l1.length : Int)).f2 x8) true _ ?side1 ?side2 ?side3 ?side4 AF.out).mono ?_); (case side1 => repeat (first | exact (Kd.C_below HR0.out HBr.out) | (with_reducible refine Kd.C_alloc ?_ _) | (with_reducible refine Kd.C_drewN ?_ _) | (with_reducible refine Kd.C_drew ?_))); (case side2 => exact HN0.out); (case side3 => repeat (first | exact (Kd.R_reads' (g_own_R HOr.out)).2.2 | (with_reducible refine Kd.C_alloc ?_ _) | (with_reducible refine Kd.C_drewN ?_ _) | (with_reducible refine Kd.C_drew ?_))); (case side4 => exact (Kd.R_reads' (g_own_R HOr.out)).2.1); rintro e w' ⟨rfl, ⟨nd, rfl⟩⟩; (try first | exact ⟨rfl, _, World.drewN_drewN _ _ _⟩ | exact ⟨rfl, _, Eq.trans (World.drewN_drewN _ _ _) (congrArg (World.drewN _) (Nat.add_assoc _ _ _))⟩))))
             have HBd := Aside0.mk (below_drew1 (pw_below_drewN HBr.out nq))
             have HOd := Aside0.mk (show g_own (wr.drewN nq).drew w0.heap.size (.slice Ao l1.length co) l1 from HOr.out)
             have HSd := Aside0.mk (show g_WS w0.heap.size (wr.drewN nq).drew g (some adl) s0.length c0 b1 m1 from HSr.out)
             have HKd := Aside0.mk (show KeepBut w (wr.drewN nq).drew g none from HKr.out)
             clear HBr HOr HSr HKr hcr_0 hw2 hx' 
             refine start_ (n := 13) (S := fun w' => w'.cell? ⟨(adl.add (l1.length * 4)).block, (adl.add (l1.length * 4)).off + 3, none⟩ = some (.int .i64 (rd_T36 s0 (l1.length : Int)).f3)) (ds := []) #[false, false, false, false, false, false, false, false, false, false, false, false, false] (by kernel_rfl) rfl rfl (((Below.cell HBd.out (World.block_lt_of_cell? w0 _ HW3.out)).trans HW3.out)) (fun hHeld => ?_)
             obtain ⟨wd, hwd⟩ : ∃ wd, (wr.drewN nq).drew = wd := ⟨_, rfl⟩
             rw [hwd] at HBd HOd HSd HKd hHeld ⊢
             clear hwd
             refine pure_ (i := 0) (N := some 68) (v := ?_) (a' := ?_) #[true, false, false, false, false, false, false, false, false, false, false, false, false] rfl rfl (by kernel_rfl) (fun _ _ _ h => h) (Or.inl ⟨by rfl, ?_⟩) ?_ ?_
             rotate_left
             · intro w'
               go_simp
               with_reducible rfl
             rotate_left
             · simp only [Act.put, List.setIfInBounds_toArray, List.set_cons_zero, List.set_cons_succ, i64_w, i32_w]
               rfl
             refine pure_ (i := 1) (N := some 69) (v := ?_) (a' := ?_) #[true, true, false, false, false, false, false, false, false, false, false, false, false] rfl rfl (by kernel_rfl) (fun _ _ _ h => h) (Or.inl ⟨by rfl, ?_⟩) ?_ ?_
             rotate_left
             · intro w'
               go_simp
               with_reducible rfl
             rotate_left
             · simp only [Act.put, List.setIfInBounds_toArray, List.set_cons_zero, List.set_cons_succ, i64_w, i32_w]
               rfl
             refine pure_ (i := 3) (N := some 71) (v := ?_) (a' := ?_) #[true, true, false, true, false, false, false, false, false, false, false, false, false] rfl rfl (by kernel_rfl) (fun _ _ _ h => h) (Or.inl ⟨by rfl, ?_⟩) ?_ ?_
             rotate_left
             · intro w'
               go_simp
               with_reducible rfl
             rotate_left
             · simp only [Act.put, List.setIfInBounds_toArray, List.set_cons_zero, List.set_cons_succ, i64_w, i32_w]
               rfl
             refine pure_ (i := 6) (N := some 74) (v := ?_) (a' := ?_) #[true, true, false, true, false, false, true, false, false, false, false, false, false] rfl rfl (by kernel_rfl) (fun _ _ _ h => h) (Or.inl ⟨by rfl, ?_⟩) ?_ ?_
             rotate_left
             · intro w'
               go_simp
               with_reducible rfl
             rotate_left
             · simp only [Act.put, List.setIfInBounds_toArray, List.set_cons_zero, List.set_cons_succ, i64_w, i32_w]
               rfl
             refine pure_ (i := 7) (N := some 75) (v := ?_) (a' := ?_) #[true, true, false, true, false, false, true, true, false, false, false, false, false] rfl rfl (by kernel_rfl) (fun _ _ _ h => h) (Or.inl ⟨by rfl, ?_⟩) ?_ ?_
             rotate_left
             · intro w'
               go_simp
               with_reducible rfl
             rotate_left
             · simp only [Act.put, List.setIfInBounds_toArray, List.set_cons_zero, List.set_cons_succ, i64_w, i32_w]
               rfl
             refine pure_ (i := 8) (N := some 76) (v := ?_) (a' := ?_) #[true, true, false, true, false, false, true, true, true, false, false, false, false] rfl rfl (by kernel_rfl) (fun _ _ _ h => h) (Or.inl ⟨by rfl, ?_⟩) ?_ ?_
             rotate_left
             · intro w'
               go_simp
               with_reducible rfl
             rotate_left
             · simp only [Act.put, List.setIfInBounds_toArray, List.set_cons_zero, List.set_cons_succ, i64_w, i32_w]
               rfl
             refine pure_ (i := 9) (N := some 77) (v := ?_) (a' := ?_) #[true, true, false, true, false, false, true, true, true, true, false, false, false] rfl rfl (by kernel_rfl) (fun _ _ _ h => h) (Or.inl ⟨by rfl, ?_⟩) ?_ ?_
             rotate_left
             · intro w'
               go_simp
               with_reducible rfl
             rotate_left
             · simp only [Act.put, List.setIfInBounds_toArray, List.set_cons_zero, List.set_cons_succ, i64_w, i32_w]
               rfl
             refine take_ (i := 10) (N := some 78) (v := ?_) (a' := ?_) #[true, true, false, true, false, false, true, true, true, true, true, false, false] rfl rfl (by kernel_rfl) (fun _ _ _ h => h) (Or.inl ⟨by rfl, ?_⟩) hHeld ?_ ?_
             rotate_left
             · intro w' s0
               go_simp
               with_reducible rfl
             rotate_left
             · simp only [Act.put, List.setIfInBounds_toArray, List.set_cons_zero, List.set_cons_succ, i64_w, i32_w]
               rfl
             refine pure_ (i := 11) (N := some 79) (v := ?_) (a' := ?_) #[true, true, false, true, false, false, true, true, true, true, true, true, false] rfl rfl (by kernel_rfl) (fun _ _ _ h => h) (Or.inl ⟨by rfl, ?_⟩) ?_ ?_
             rotate_left
             · intro w'
               go_simp
               with_reducible rfl
             rotate_left
             · simp only [Act.put, List.setIfInBounds_toArray, List.set_cons_zero, List.set_cons_succ, i64_w, i32_w]
               rfl
             refine join_ (σ := Value × Nat) 2 #[true, true, true, true, true, false, true, true, true, true, true, true, false] (fun s_ => [(70, s_.1), (72, .slice (some ⟨s_.2, 0, none⟩) 1 1)]) (fun s_ w' => (w'.cell? ⟨(adl.add (l1.length * 4)).block, (adl.add (l1.length * 4)).off + 3, none⟩ = some (.int .i64 (rd_T36 s0 (l1.length : Int)).f3)) ∧ g_own w' wd.heap.size s_.1 l1 ∧ w'.heap[s_.2]? = some (Obj.cells #[.int .i64 x8] 2) ∧ Below wd.heap.size wd w') ?_ ?_
             rotate_left
             · intro hCont
               refine two_ (i := 2) (j := 4) (Ni := some 70) (Nj := some 72) #[true, true, true, true, false, false, true, true, true, true, true, true, false] #[true, true, false, true, true, false, true, true, true, true, true, true, false] rfl rfl rfl rfl (by kernel_rfl) (by decide) (by decide) (fun K hK => ?_) (fun K hK => ?_)
               · skip
                 refine goes_ Try.func42 (by kernel_rfl) rfl #[.slice Ao l1.length co] (by rfl) rfl rfl (by simp only [List.map_toArray, List.map_cons, List.map_nil]; rfl) ?_
                 with_reducible refine (spec_l00Own.calls _ _ l1 l1 _ (Kd.R_reads' (g_own_R HOd.out)).2.2 (Kd.R_reads' (g_own_R HOd.out)).2.1 HT.out).mono ?_
                 rintro e w5 ⟨v5, rfl, ho0, hb⟩
                 refine ⟨_, rfl, ?_⟩
                 have HO5 := Aside0.mk (show g_own w5 wd.heap.size v5 l1 from g_own_of ho0)
                 have HB5 := Aside0.mk hb
                 clear ho0 hb
                 refine hK.out _ _ (((Below.cell (below_step HBd.out HB5.out) (World.block_lt_of_cell? w0 _ HW3.out)).trans HW3.out)) (fun hHeld => ?_)
                 clear hK K
                 refine norm_ (a' := ?_) ?_ ?_
                 rotate_left
                 · show Act.put _ (some 70) _ = _
                   simp only [Act.put, List.setIfInBounds_toArray, List.set_cons_zero, List.set_cons_succ, i64_w, i32_w]
                   rfl
                 refine one_ (i := 4) (N := some 72) #[true, true, true, true, true, false, true, true, true, true, true, true, false] rfl rfl (by kernel_rfl) (by decide) (fun K hK => ?_)
                 refine value_ (w1 := ?_) (v := ?_) (by rfl) rfl ?_ ?_
                 rotate_left 2
                 · go_simp
                   constructor
                   · rfl
                   · rfl
                 have HB6 := Aside0.mk (show Below wd.heap.size wd (w5.alloc (.cells #[.int .i64 x8] 2)) from below_step HB5.out (below_alloc (Below.refl _ _) _))
                 have HO6 := Aside0.mk (show g_own (w5.alloc (.cells #[.int .i64 x8] 2)) wd.heap.size v5 l1 from HO5.out.alloc _)
                 have HL6 := Aside0.mk (heap_alloc_new w5 (.cells #[.int .i64 x8] 2))
                 refine hK.out _ _ (((Below.cell (below_step HBd.out HB6.out) (World.block_lt_of_cell? w0 _ HW3.out)).trans HW3.out)) (fun hHeld => ?_)
                 clear hK K
                 refine norm_ (a' := ?_) ?_ ?_
                 rotate_left
                 · show Act.put _ (some 72) _ = _
                   simp only [Act.put, List.setIfInBounds_toArray, List.set_cons_zero, List.set_cons_succ, i64_w, i32_w]
                   rfl
                 exact norm_ (by simp only [putAll, Act.put, List.setIfInBounds_toArray, List.set_cons_zero, List.set_cons_succ]) (hCont (v5, w5.heap.size) _ ⟨hHeld, HO6.out, HL6.out, HB6.out⟩)
               · skip
                 refine value_ (w1 := ?_) (v := ?_) (by rfl) rfl ?_ ?_
                 rotate_left 2
                 · go_simp
                   constructor
                   · rfl
                   · rfl
                 have HB4 := Aside0.mk (show Below wd.heap.size wd (wd.alloc (.cells #[.int .i64 x8] 2)) from below_alloc (Below.refl _ _) _)
                 have HO4 := Aside0.mk (show g_own (wd.alloc (.cells #[.int .i64 x8] 2)) w0.heap.size (.slice Ao l1.length co) l1 from HOd.out.alloc _)
                 have HL4 := Aside0.mk (heap_alloc_new wd (.cells #[.int .i64 x8] 2))
                 refine hK.out _ _ (((Below.cell (below_step HBd.out HB4.out) (World.block_lt_of_cell? w0 _ HW3.out)).trans HW3.out)) (fun hHeld => ?_)
                 clear hK K
                 refine norm_ (a' := ?_) ?_ ?_
                 rotate_left
                 · show Act.put _ (some 72) _ = _
                   simp only [Act.put, List.setIfInBounds_toArray, List.set_cons_zero, List.set_cons_succ, i64_w, i32_w]
                   rfl
                 refine one_ (i := 2) (N := some 70) #[true, true, true, true, true, false, true, true, true, true, true, true, false] rfl rfl (by kernel_rfl) (by decide) (fun K hK => ?_)
                 refine goes_ Try.func42 (by kernel_rfl) rfl #[.slice Ao l1.length co] (by rfl) rfl rfl (by simp only [List.map_toArray, List.map_cons, List.map_nil]; rfl) ?_
                 with_reducible refine (spec_l00Own.calls _ _ l1 l1 _ (Kd.R_reads' (g_own_R HO4.out)).2.2 (Kd.R_reads' (g_own_R HO4.out)).2.1 HT.out).mono ?_
                 rintro e w5 ⟨v5, rfl, ho0, hb⟩
                 refine ⟨_, rfl, ?_⟩
                 have HO5 := Aside0.mk (show g_own w5 wd.heap.size v5 l1 from g_own_weaken (g_own_of ho0) (by simp))
                 have HL5 := Aside0.mk (blk_below HL4.out hb)
                 have HB5 := Aside0.mk (below_step HB4.out hb)
                 clear ho0 hb
                 refine hK.out _ _ (((Below.cell (below_step HBd.out HB5.out) (World.block_lt_of_cell? w0 _ HW3.out)).trans HW3.out)) (fun hHeld => ?_)
                 clear hK K
                 refine norm_ (a' := ?_) ?_ ?_
                 rotate_left
                 · show Act.put _ (some 70) _ = _
                   simp only [Act.put, List.setIfInBounds_toArray, List.set_cons_zero, List.set_cons_succ, i64_w, i32_w]
                   rfl
                 exact norm_ (by simp only [putAll, Act.put, List.setIfInBounds_toArray, List.set_cons_zero, List.set_cons_succ]) (hCont (v5, wd.heap.size) _ ⟨hHeld, HO5.out, HL5.out, HB5.out⟩)
             rintro ⟨v5, gb⟩ w5 ⟨hHeld, ho5, hlit, hb5⟩
             have HO5 := Aside0.mk ho5
             have HL5 := Aside0.mk hlit
             have HB5 := Aside0.mk hb5
             clear ho5 hlit hb5
             dsimp only at HO5 HL5
             refine norm_ (a' := ?_) ?_ ?_
             rotate_left
             · simp only [putAll, Act.put, List.setIfInBounds_toArray, List.set_cons_zero, List.set_cons_succ]
               rfl
             refine one_ (i := 5) (N := some 73) #[true, true, true, true, true, true, true, true, true, true, true, true, false] rfl rfl (by kernel_rfl) (by decide) (fun K hK => ?_)
             obtain ⟨v6, w6, hr6, hv6, hu6, hg6, hd6⟩ := g_append w5 26 wd.heap.size v5 l1.length _ (.int .i64 x8) HO5.out ⟨gb, 0, none⟩ (blk_cell HL5.out 0) rfl LM.out HB5.out.size
             rw [if_pos (by rfl)]
             refine Lib.wp_append_run _ (.tmp 70) (.tmp 72) 26 26 rfl _ _ rfl rfl _ _ hr6 ?_
             have HV6 := Aside0.mk (show g_own w6 wd.heap.size v6 (l1 ++ [x8]) from by (unfold g_own encs; rw [List.map_append, List.length_append]; exact hv6))
             have HB6 := Aside0.mk (show Below wd.heap.size wd w6 from HB5.out.grown hg6 HB5.out.size (own_base HO5.out))
             clear hr6 hv6 hu6 hg6 hd6
             refine hK.out _ _ (((Below.cell (below_step HBd.out HB6.out) (World.block_lt_of_cell? w0 _ HW3.out)).trans HW3.out)) (fun hHeld => ?_)
             clear hK K
             refine norm_ (a' := ?_) ?_ ?_
             rotate_left
             · show Act.put _ (some 73) _ = _
               simp only [Act.put, List.setIfInBounds_toArray, List.set_cons_zero, List.set_cons_succ, i64_w, i32_w]
               rfl
             refine one_ (i := 12) (N := some 80) #[true, true, true, true, true, true, true, true, true, true, true, true, true] rfl rfl (by kernel_rfl) (by decide) (fun K hK => ?_)
             refine goes_ Try.func39 (by kernel_rfl) rfl #[.pointer (some ⟨g, 0, none⟩), v6, .int .i64 (wrap64 (a2 + (rd_T36 s0 (l1.length : Int)).f3))] (by rfl) rfl rfl (by simp only [List.map_toArray, List.map_cons, List.map_nil]; rfl) ?_
             with_reducible refine (ih k1 (by have := HK1.out; omega) g v6 (l1 ++ [x8]) (wrap64 (a2 + (rd_T36 s0 (l1.length : Int)).f3)) b1 m1 r2 _ HGE.out (HSd.out.below HB6.out) (below_step HBd.out HB6.out) (g_own_weaken HV6.out HBd.out.size) AW.out).mono ?_
             rintro e w7 ⟨rfl, hs7, hb7, hk7⟩
             refine ⟨_, rfl, ?_⟩
             have HS7 := Aside0.mk hs7
             have HB7 := Aside0.mk hb7
             have HK6 := Aside0.mk ((KeepBut.of_below HB6.out g none).trans hk7 (.inl rfl))
             have HK7 := Aside0.mk (HKd.out.trans HK6.out (.inl rfl))
             have HO7 := Aside0.mk (g_keep_own HK6.out HOd.out HGo.out)
             clear hs7 hb7 hk7
             refine hK.out _ _ (((Below.cell HB7.out (World.block_lt_of_cell? w0 _ HW3.out)).trans HW3.out)) (fun hHeld => ?_)
             clear hK K
             refine norm_ (a' := ?_) ?_ ?_
             rotate_left
             · show Act.put _ (some 80) _ = _
               simp only [Act.put, List.setIfInBounds_toArray, List.set_cons_zero, List.set_cons_succ, i64_w, i32_w]
               rfl
             refine done_ (by kernel_rfl) ?_
             try go_wp2
             go_roundg k1
             case measure => have := HK1.out; omega
             case rel => exact ⟨(wrap64 (x8 + 1)), r2.1, r2.2, (by first | rfl | (simp; done) | (simp [*]; done)), H', HNX, ⟨by have := HK1.out; omega⟩, HS7, HK7, HB7, HO7⟩
           · replace ct := Bool.eq_false_iff.mpr ct
             subst ct
             rw [if_neg (by decide)] at H
             have H' := Aside0.mk H
             clear H
             go_wp2_with (first | (go_at_call 53; (try simp only [i64_w, i32_w]); (with_reducible refine (spec_l11Free.calls _ _ s0 _ _ l1 (l1.length : Int) (rd (rd_T36 s0 (l1.length : Int)).f2 x8) false _ ?side1 ?side2 ?side3 ?side4 AF.out).mono ?_); (case side1 => repeat (first | exact (Kd.C_below HR0.out HBr.out) | (with_reducible refine Kd.C_alloc ?_ _) | (with_reducible refine Kd.C_drewN ?_ _) | (with_reducible refine Kd.C_drew ?_))); (case side2 => exact HN0.out); (case side3 => repeat (first | exact (Kd.R_reads' (g_own_R HOr.out)).2.2 | (with_reducible refine Kd.C_alloc ?_ _) | (with_reducible refine Kd.C_drewN ?_ _) | (with_reducible refine Kd.C_drew ?_))); (case side4 => exact (Kd.R_reads' (g_own_R HOr.out)).2.1); rintro e w' ⟨rfl, ⟨nd, rfl⟩⟩; (try first | exact ⟨rfl, _, World.drewN_drewN _ _ _⟩ | exact ⟨rfl, _, Eq.trans (World.drewN_drewN _ _ _) (congrArg (World.drewN _) (Nat.add_assoc _ _ _))⟩)))
             repeat (go_quiet (first | (go_at_call 53; (try simp only [i64_w, i32_w]); (with_reducible refine (spec_l11Free.calls _ _ s0 _ _ l1 (l1.length : Int) (rd (rd_T36 s0 (l1.length : Int)).f2 x8) false _ ?side1 ?side2 ?side3 ?side4 AF.out).mono ?_); (case side1 => repeat (first | exact (Kd.C_below HR0.out HBr.out) | (with_reducible refine Kd.C_alloc ?_ _) | (with_reducible refine Kd.C_drewN ?_ _) | (with_reducible refine Kd.C_drew ?_))); (case side2 => exact HN0.out); (case side3 => repeat (first | exact (Kd.R_reads' (g_own_R HOr.out)).2.2 | (with_reducible refine Kd.C_alloc ?_ _) | (with_reducible refine Kd.C_drewN ?_ _) | (with_reducible refine Kd.C_drew ?_))); (case side4 => exact (Kd.R_reads' (g_own_R HOr.out)).2.1); rintro e w' ⟨rfl, ⟨nd, rfl⟩⟩; (try first | exact ⟨rfl, _, World.drewN_drewN _ _ _⟩ | exact ⟨rfl, _, Eq.trans (World.drewN_drewN _ _ _) (congrArg (World.drewN _) (Nat.add_assoc _ _ _))⟩))); try go_wp2_with (first | (go_at_call 53; (try simp only [i64_w, i32_w]); (with_reducible refine (spec_l11Free.calls _ _ s0 _ _ l1 (l1.length : Int) (rd (rd_T36 s0 (l1.length : Int)).f2 x8) false _ ?side1 ?side2 ?side3 ?side4 AF.out).mono ?_); (case side1 => repeat (first | exact (Kd.C_below HR0.out HBr.out) | (with_reducible refine Kd.C_alloc ?_ _) | (with_reducible refine Kd.C_drewN ?_ _) | (with_reducible refine Kd.C_drew ?_))); (case side2 => exact HN0.out); (case side3 => repeat (first | exact (Kd.R_reads' (g_own_R HOr.out)).2.2 | (with_reducible refine Kd.C_alloc ?_ _) | (with_reducible refine Kd.C_drewN ?_ _) | (with_reducible refine Kd.C_drew ?_))); (case side4 => exact (Kd.R_reads' (g_own_R HOr.out)).2.1); rintro e w' ⟨rfl, ⟨nd, rfl⟩⟩; (try first | exact ⟨rfl, _, World.drewN_drewN _ _ _⟩ | exact ⟨rfl, _, Eq.trans (World.drewN_drewN _ _ _) (congrArg (World.drewN _) (Nat.add_assoc _ _ _))⟩))))
             go_roundg k1
             case measure => have := HK1.out; omega
             case rel => exact ⟨(wrap64 (x8 + 1)), b1, m1, (by first | rfl | (simp; done) | (simp [*]; done)), H', HNX, ⟨by have := HK1.out; omega⟩, ⟨HSr.out⟩, ⟨HKr.out⟩, ⟨pw_below_drewN HBr.out _⟩, ⟨HOr.out⟩⟩
         · rw [if_neg c9] at H
           have c9b0 : decide (x8 < ((rd_T36 s0 (l1.length : Int)).f2.length : Int)) = false := decide_eq_false c9
           clear c9
           cases H
           go_wp2
           go_end0
           exact ⟨by first | rfl | simp, HSr.out, HBr.out, HKr.out⟩
     · rw [if_neg c8] at h
       exact absurd h (by simp)
   · rw [if_neg c7] at h
     exact absurd h (by simp)

end Go.Proofs.Ytjfkjmfdckbecaa.Print
