-- Printed by a program of this session out of the translation; not trusted: Lean checks it.
import Derived.Test.YtjfkjmfdckbecaaPrint0
import Derived.Test.YtjfkjmfdckbecaaPrint11
namespace Go.Proofs.Ytjfkjmfdckbecaa.Print
open Go.RowKit Go.Proofs.YtjfkjmfdckbecaaW.PrintWords Go.Proofs.YtjfkjmfdckbecaaW.PrintLast Go.Proofs.YtjfkjmfdckbecaaW.PrintMore
attribute [local go_sem] max2_int min2_int max_two min_two max_three min_three max_four min_four   -- for this text's walks alone
set_option linter.unusedVariables false
set_option linter.unusedSimpArgs false

/-! ### spec_GreedyPlaces: function 24 -/
def g_wt (l0 : List S36) (i : Int) : Int := (rd_T36 l0 i).f3
def g_find (l0 : List S36) (xo : List Int) (wi : Int) : Nat → Nat
 | 0 => 0
 | k + 1 => if g_wt l0 (rd xo (k : Int)) < wi then g_find l0 xo wi k else k + 1
def g_ord (l0 : List S36) : Nat → List Int
 | 0 => []
 | i + 1 => ((g_ord l0 i).take (g_find l0 (g_ord l0 i) (g_wt l0 (i : Int)) (g_ord l0 i).length) ++ [(i : Int)]) ++ (g_ord l0 i).drop (g_find l0 (g_ord l0 i) (g_wt l0 (i : Int)) (g_ord l0 i).length)
def g_mtG (a b : S36) (x y : Int) : Bool := g_meet a.f0 a.f1 b.f0 b.f1 x y
def g_frP (l0 : List S36) (y xp : List Int) (i : Nat) (k : Int) (j : Nat) : Bool := decide (rd xp (rd y (j : Int)) < 0) || !g_mtG (rd_T36 l0 (rd y (i : Int))) (rd_T36 l0 (rd y (j : Int))) (rd (rd_T36 l0 (rd y (i : Int))).f2 k) (rd (rd_T36 l0 (rd y (j : Int))).f2 (rd xp (rd y (j : Int))))
def g_fr (l0 : List S36) (y xp : List Int) (i : Nat) (k : Int) : Bool := (List.range i).all (g_frP l0 y xp i k)
def g_try (l0 : List S36) (y xp : List Int) (i : Nat) : Nat → Nat → List Int
 | 0, _ => xp
 | d + 1, k => if g_fr l0 y xp i (k : Int) = true then xp.set (rd y (i : Int)).toNat (k : Int) else g_try l0 y xp i d (k + 1)
def g_outs (l0 : List S36) (y : List Int) : Nat → List Int
 | 0 => List.replicate l0.length (-1)
 | i + 1 => g_try l0 y (g_outs l0 y i) i (rd_T36 l0 (rd y (i : Int))).f2.length 0
def g_okG (l0 : List S36) (y : List Int) : Bool := (List.range y.length).all fun i => (List.range y.length).all fun j => decide (rd (g_outs l0 y i) (rd y (j : Int)) < ((rd_T36 l0 (rd y (j : Int))).f2.length : Int))
def spec_GreedyPlaces.f (l0 : List S36) : Option (List Int × Int) := (spec_l11Ok.f l0).bind fun t => if t = true then (if l0.length < 20 then (if g_okG l0 (g_ord l0 l0.length) = true then some (g_outs l0 (g_ord l0 l0.length) l0.length, 0) else none) else none) else some ([], 1)
set_option maxHeartbeats 8000000 in
theorem g_find_le (l0 : List S36) (xo : List Int) (wi : Int) : ∀ k, g_find l0 xo wi k ≤ k
 | 0 => Nat.le_refl _
 | k + 1 => by
  unfold g_find
  split
  · have := g_find_le l0 xo wi k; omega
  · exact Nat.le_refl _
theorem g_ord_len (l0 : List S36) : ∀ i, (g_ord l0 i).length = i
 | 0 => rfl
 | i + 1 => by
  have h := g_ord_len l0 i
  have h2 := g_find_le l0 (g_ord l0 i) (g_wt l0 (i : Int)) (g_ord l0 i).length
  unfold g_ord
  simp only [List.length_append, List.length_take, List.length_drop, List.length_singleton]
  omega
theorem g_ord_in (l0 : List S36) : ∀ i, ∀ x ∈ g_ord l0 i, 0 ≤ x ∧ x < (i : Int)
 | 0 => fun x hx => by simp [g_ord] at hx
 | i + 1 => fun x hx => by
  have h := g_ord_in l0 i
  unfold g_ord at hx
  rcases List.mem_append.1 hx with hx | hx
  · rcases List.mem_append.1 hx with hx | hx
    · have := h x (List.mem_of_mem_take hx); omega
    · rw [List.mem_singleton] at hx; omega
  · have := h x (List.mem_of_mem_drop hx); omega
theorem g_ord_at (l0 : List S36) (i : Nat) (j : Int) (h0 : 0 ≤ j) (h1 : j < ((g_ord l0 i).length : Int)) : 0 ≤ rd (g_ord l0 i) j ∧ rd (g_ord l0 i) j < (i : Int) := by
 have h : j.toNat < (g_ord l0 i).length := by omega
 have e : rd (g_ord l0 i) j = (g_ord l0 i)[j.toNat] := by unfold rd; rw [List.getD_eq_getElem?_getD, List.getElem?_eq_getElem h]; rfl
 rw [e]
 exact g_ord_in l0 i _ (List.getElem_mem h)
structure GS (w W : World) (vo : Value) (xo : List Int) : Prop where
 below : Below w.heap.size w W
 o : Kd.R (Kd.int .i64) 2 W w.heap.size (fun k => some k = vo.ownBlock) vo xo
theorem GS.below_ {w W W2 : World} {vo : Value} {xo : List Int} (h : GS w W vo xo) (hb : Below W.heap.size W W2) : GS w W2 vo xo := ⟨below_step h.below hb, Kd.R_below h.o hb⟩
structure GS2 (w W : World) (vo : Value) (xo : List Int) (vp : Value) (xp : List Int) : Prop where
 g1 : GS w W vo xo
 p : Kd.R (Kd.int .i64) 2 W w.heap.size (fun k => some k = vp.ownBlock) vp xp
 ne : ∀ k, some k = vo.ownBlock → some k ≠ vp.ownBlock
theorem GS2.below_ {w W W2 : World} {vo vp : Value} {xo xp : List Int} (h : GS2 w W vo xo vp xp) (hb : Below W.heap.size W W2) : GS2 w W2 vo xo vp xp := ⟨h.g1.below_ hb, Kd.R_below h.p hb, h.ne⟩
theorem GS.own {w W W2 : World} {vo vp : Value} {xo xp : List Int} {ok : Nat → Prop} (h : GS w W vo xo) (ho : Kd.R (Kd.int .i64) 2 W2 W.heap.size ok vp xp) (hb : Below W.heap.size W W2) : GS2 w W2 vo xo vp xp :=
 ⟨h.below_ hb, Kd.R_lower (Kd.R_tight rfl ho) h.below.size, fun k hk e => by have h1 := Kd.R_lt h.o k hk.symm; have h2 := Kd.R_base ho k e.symm; omega⟩
theorem GS2.app {w W W2 : World} {vo vp vp2 : Value} {xo xp xp2 : List Int} {ok : Nat → Prop} (h : GS2 w W vo xo vp xp) (ho : Kd.R (Kd.int .i64) 2 W2 w.heap.size ok vp2 xp2) (hb : Below w.heap.size w W2) (hg : W.grownBy W2 vp.ownBlock) (hat : vp2.ownBlock = vp.ownBlock ∨ ∃ b, vp2.ownBlock = some b ∧ W.heap.size ≤ b) : GS2 w W2 vo xo vp2 xp2 := by
 refine ⟨⟨hb, Kd.R_step h.g1.o (fun k hk hlt => hg.block k hlt (h.ne k hk))⟩, Kd.R_tight rfl ho, fun k hk e => ?_⟩
 rcases hat with e2 | ⟨b, e2, hlt⟩
 · exact h.ne k hk (e.trans e2)
 · rw [e2] at e
   have := Kd.R_lt h.g1.o k hk.symm
   injection e with e
   omega
theorem g_gs0 {w w20 : World} {nd : Nat} {v : Value} {ok : Nat → Prop} (ho : Kd.R (Kd.int .i64) 2 w20 (w.drewN nd).heap.size ok v []) (hb : Below (w.drewN nd).heap.size (w.drewN nd) w20) : GS w w20 v [] := by
 have h := pw_below_drewN (Below.refl w.heap.size w) nd
 exact ⟨below_step h hb, Kd.R_lower (Kd.R_tight rfl ho) h.size⟩
theorem g_all_succ (f : Nat → Bool) (j : Nat) : (List.range (j + 1)).all f = ((List.range j).all f && f j) := by rw [List.range_succ, List.all_append]; simp
theorem w64_q (z : Int) (h : -1000 ≤ z ∧ z ≤ 1000) : wrap64 z = z := by unfold wrap64; omega
theorem g_own_some {y : List Int} (h : y.length < 1000) : spec_l00Own.f y = some y := by
 unfold spec_l00Own.f
 rw [Option.bind_some, if_pos (by simp; omega)]
 rfl
set_option maxHeartbeats 8000000 in
set_option maxRecDepth 100000 in
theorem spec_GreedyPlaces.calls (A0 : Option Addr) (c0 : Nat) (l0 : List S36) (r1 : List Int) (r2 : Int) (w : World) (hr0 : Kd.C k36 w A0 l0.length l0) (hc0 : l0.length ≤ c0) (h : spec_GreedyPlaces.f l0 = some (r1, r2)) :
  Calls Try.prog 24 #[.slice A0 l0.length c0] w fun e w' => ∃ v0_ : Value, e = .returned (.tuple #[v0_, .int .i64 r2]) ∧ Kd.R (Kd.int .i64) 2 w' w.heap.size (fun _ => True) v0_ r1 ∧ Below w.heap.size w w' := by
 have hu36 := Try.underlying36
 have HR0 := Aside0.mk hr0
 have HC0 := Aside0.mk hc0
 clear hr0 hc0
 unfold spec_GreedyPlaces.f at h
 obtain ⟨t, ht, H⟩ := Option.bind_eq_some_iff.mp h
 have A1 := Aside0.mk ht
 clear h ht
 cases t with
 | false =>
  rw [if_neg (by decide)] at H
  cases H
  go_enter Try.func24, Try.ntmps24
  go_wp2_with (first | (go_at_call 38; (with_reducible refine (spec_l11Ok.calls A0 c0 l0 false _ ?side1 ?side2 A1.out).mono ?_); (case side1 => exact HR0.out); (case side2 => exact HC0.out); rintro e w4 ⟨rfl, ⟨⟨nd, rfl⟩⟩⟩))
  go_ret2
  exact ⟨_, rfl, Kd.R_nil _ _ _ _ _, pw_below_drewN (Below.refl _ _) _⟩
 | true =>
  rw [if_pos rfl] at H
  by_cases c1 : l0.length < 20
  · rw [if_pos c1] at H
    by_cases c2 : g_okG l0 (g_ord l0 l0.length) = true
    · rw [if_pos c2] at H
      cases H
      have C1 := Aside0.mk c1
      have C2 := Aside0.mk c2
      clear c1 c2
      go_enter Try.func24, Try.ntmps24
      go_wp2_with (first | (go_at_call 38; (with_reducible refine (spec_l11Ok.calls A0 c0 l0 true _ ?side1 ?side2 A1.out).mono ?_); (case side1 => exact HR0.out); (case side2 => exact HC0.out); rintro e w4 ⟨rfl, ⟨⟨nd, rfl⟩⟩⟩) | ((with_reducible refine gate_dst (N := 20) rfl ?_); refine Kd.R_lit (Kd.int .i64) _ 2 ?hg (N := 20) ?hd (xs := ([] : List Int)) (inner := []) (ok := fun _ => True) (okp := fun _ => True) ?hr ?hp (fun _ hk => hk) trivial (Below.refl _ _) (Nat.le_refl _) (by simp) ?_; (case hd => rfl); (case hg => rfl); (case hr => first | (go_simp; done) | (go_simp; rfl)); (case hp => exact (Reps.none _ _)); intro v20 w20 ho hb hg_ hnew_; clear hg_ hnew_; have G := g_gs0 ho hb; clear ho hb))
      go_loopg [4, 5] l0.length (fun d v4 v5 w' => ∃ (x : Int) (i : Nat), v5 = .int .i64 x ∧ Aside0 (x = (i : Int) ∧ i + d = l0.length) ∧ GS w w' v4 (g_ord l0 i))
      case atStart => exact ⟨0, 0, rfl, ⟨rfl, by omega⟩, G⟩
      case round =>
       clear G
       obtain ⟨x, i, rfl, HI, G⟩ := hrel
       by_cases c3 : x < (l0.length : Int)
       · have c3b : decide (x < (l0.length : Int)) = true := decide_eq_true c3
         have c3t := eq_true c3
         have x0 : 0 ≤ x := by have := HI.out; omega
         have x0t := eq_true x0
         cases gk with
         | zero => exact absurd HI.out.2 (by have := HI.out.1; omega)
         | succ k1 =>
          have HI' := Aside0.mk (show wrap64 (x + 1) = ((i + 1 : Nat) : Int) ∧ i + 1 + k1 = l0.length by have := C1.out; have := HI.out; unfold wrap64; omega)
          obtain ⟨xo, hxo⟩ : ∃ xo, xo = g_ord l0 i := ⟨_, rfl⟩
          rw [← hxo] at G
          have hin := Aside0.mk (show ∀ j : Int, 0 ≤ j → j < (xo.length : Int) → 0 ≤ rd xo j ∧ rd xo j < (l0.length : Int) from fun j h0 h1 => by rw [hxo] at h1 ⊢; have := g_ord_at l0 i j h0 h1; have := HI.out; omega)
          have hlen := Aside0.mk (show xo.length = i by rw [hxo]; exact g_ord_len l0 i)
          have hnext := Aside0.mk (show g_ord l0 (i + 1) = (xo.take (g_find l0 xo (g_wt l0 x) xo.length) ++ [x]) ++ xo.drop (g_find l0 xo (g_wt l0 x) xo.length) by rw [hxo, HI.out.1]; rfl)
          clear hxo
          obtain ⟨K, hK⟩ : ∃ K, g_find l0 xo (g_wt l0 x) xo.length = K := ⟨_, rfl⟩
          have hKle := Aside0.mk (show K ≤ xo.length by rw [← hK]; exact g_find_le ..)
          obtain ⟨Ao, co, e⟩ := Kd.R_slice G.o
          subst e
          obtain ⟨adl, Ax, cx, e, hw0, hw1, hw2, hw3, hlx, hCx⟩ := at_T36 HR0.out x x0 c3
          cases e
          have HKK := Aside0.mk hK
          have HK0 := Aside0.mk hK
          have HWX := Aside0.mk hw3
          have HG := Aside0.mk G
          clear hw0 hw1 hw2 hw3 hlx hCx G hK c3 x0
          go_wp2
          go_loopg [6] xo.length (fun d v6 w' => ∃ (z : Int), v6 = .int .i64 z ∧ Aside0 (z = (d : Int) ∧ d ≤ xo.length) ∧ Aside0 (g_find l0 xo (g_wt l0 x) d = K) ∧ GS w w' (.slice Ao xo.length co) xo)
          case atStart => exact ⟨_, by first | rfl | (simp; done), ⟨rfl, Nat.le_refl _⟩, HKK, HG.out⟩
          case round =>
           clear HKK HG
           obtain ⟨z, rfl, HZ, HF, G⟩ := hrel
           cases gk with
           | zero =>
            have z0 : z = 0 := HZ.out.1
            have hz0 : 0 ≤ z := by omega
            have hz1 : z ≤ (xo.length : Int) := by omega
            have ZK := Aside0.mk (show z.toNat = K by rw [z0]; exact HF.out)
            have c4b : decide (0 < z) = false := decide_eq_false (by omega)
            have Z0 := Aside0.mk z0
            clear z0
            have hz2 : z.toNat ≤ xo.length := by omega
            obtain ⟨i0, hi0, _, hsz, _⟩ := info_parts info2
            have hroom : xo.length ≤ co := (Kd.R_reads' G.o).2.1
            obtain ⟨yt, hyt⟩ : ∃ yt, yt = xo.take z.toNat := ⟨_, rfl⟩
            have hytl : yt.length = z.toNat := by rw [hyt, List.length_take]; omega
            have hcutT := cut_to (P := Try.prog) 26 2 .i64 Try.underlying26 hi0 Ao xo.length co z hz0 hz1 hroom
            rw [← hytl] at hcutT
            obtain ⟨ys, hys⟩ : ∃ ys, ys = xo.drop z.toNat := ⟨_, rfl⟩
            have hysl : ys.length = xo.length - z.toNat := by rw [hys, List.length_drop]
            have hcutF := cut_from (P := Try.prog) 26 2 .i64 Try.underlying26 hi0 1 hsz Ao xo.length co z hz0 hz1
            obtain ⟨A1_, hA1⟩ : ∃ A1, A1 = (if co = z.toNat then Ao else (Ao : Option Addr).map (·.add (z.toNat * 1))) := ⟨_, rfl⟩
            obtain ⟨cc1, hcc1⟩ : ∃ c1, c1 = co - z.toNat := ⟨_, rfl⟩
            rw [← hysl, ← hA1, ← hcc1] at hcutF
            have HT := Aside0.mk (show ∀ W, Below wr.heap.size wr W → Kd.C (Kd.int .i64) W Ao yt.length yt ∧ yt.length ≤ co from fun W hb => by
             have h1 := Kd.R_take (m := yt.length) (G.below_ hb).o (by omega)
             rw [show xo.take yt.length = yt by rw [hytl, ← hyt]] at h1
             exact ⟨(Kd.R_reads' h1).2.2, (Kd.R_reads' h1).2.1⟩)
            have HD := Aside0.mk (show ∀ W, GS w W (.slice Ao xo.length co) xo → Kd.C (Kd.int .i64) W A1_ ys.length ys from fun W g => by
             have h1 := (Kd.Q_reads' (Kd.Q_drop (k := z.toNat) (Kd.Q_of_R g.o) hz2)).2.2
             rw [hA1, hys]
             exact h1)
            have HY1 := Aside0.mk (show yt.length < 1000 ∧ (yt ++ [x]).length + ys.length < 1000 by rw [List.length_append, List.length_singleton, hysl, hytl]; have := hlen.out; have := HI.out; have := C1.out; omega)
            have HO1 := Aside0.mk (g_own_some HY1.out.1)
            have HE := Aside0.mk (show g_ord l0 (i + 1) = (yt ++ [x]) ++ ys by rw [hnext.out, HK0.out, ← ZK.out, hyt, hys])
            have HGA := Aside0.mk G
            clear hyt hytl hys hysl hA1 hcc1 hi0 hsz hroom hz0 hz1 hz2 G
            go_wp2_with (first | (go_at_call 42; (with_reducible refine (spec_l00Own.calls Ao co yt yt _ ?side1 ?side2 HO1.out).mono ?_); (case side1 => exact (HT.out _ (by repeat (first | exact Below.refl _ _ | apply pw_below_drewN | apply below_drew1))).1); (case side2 => exact (HT.out wr (Below.refl _ _)).2); rintro e w5 ⟨v53, rfl, ho, hb⟩; have GA := Aside0.mk (GS.own (HGA.out.below_ (by repeat (first | exact Below.refl _ _ | apply pw_below_drewN | apply below_drew1))) ho hb); clear ho hb) | ((with_reducible refine gate_builtin (b := .append) (xs := #[.tmp 53, .tmp 55]) rfl ?_); at_builtin; refine Kd.R_append (Kd.int .i64) (w0 := w) w.heap.size rfl (.tmp 53) (.tmp 55) 26 2 (.int .i64 0) 8 rfl Try.underlying26 info2 rfl (by decide) (by omega) v53 yt x [.int .i64 x] (fun _ => True) (fun _ => False) rfl rfl ?aP (fun _ hk => hk.elim) ?aF ?aO ?aB ?aS ?aL ?_; (case aP => exact rfl); (case aB => exact GA.out.g1.below); (case aF => exact (fun _ _ => trivial)); (case aO => exact Kd.R_mono GA.out.p (fun _ _ => trivial)); (case aS => exact GA.out.g1.below.size); (case aL => have := HY1.out; omega); intro v56 w56 ho hb hg hat; have GB := Aside0.mk (GA.out.app ho hb hg hat); clear ho hb hg hat) | ((with_reducible refine gate_builtin (b := .append) (xs := #[.tmp 57, .tmp 60]) rfl ?_); at_builtin; refine Kd.R_append_rows (Kd.int .i64) (w0 := w) w.heap.size rfl (.tmp 57) (.tmp 60) 26 2 (.int .i64 0) 8 rfl Try.underlying26 info2 rfl (by decide) (by omega) v56 (yt ++ [x]) ys _ _ _ (fun _ => True) (fun _ => False) rfl rfl ?aO ?aR (fun _ _ h => h) (fun _ h => h.elim) ?aF ?aB ?aS ?aL ?_; (case aR => exact HD.out _ GB.out.g1); (case aB => exact GB.out.g1.below); (case aF => exact (fun _ _ => trivial)); (case aO => exact Kd.R_mono GB.out.p (fun _ _ => trivial)); (case aS => exact GB.out.g1.below.size); (case aL => have := HY1.out; omega); intro v61 w61 ho hb hg hat; have GC := Aside0.mk (show GS w w61 v61 ((yt ++ [x]) ++ ys) from ⟨hb, Kd.R_tight rfl ho⟩); clear ho hb hg hat))
            repeat (go_quiet (first | (go_at_call 42; (with_reducible refine (spec_l00Own.calls Ao co yt yt _ ?side1 ?side2 HO1.out).mono ?_); (case side1 => exact (HT.out _ (by repeat (first | exact Below.refl _ _ | apply pw_below_drewN | apply below_drew1))).1); (case side2 => exact (HT.out wr (Below.refl _ _)).2); rintro e w5 ⟨v53, rfl, ho, hb⟩; have GA := Aside0.mk (GS.own (HGA.out.below_ (by repeat (first | exact Below.refl _ _ | apply pw_below_drewN | apply below_drew1))) ho hb); clear ho hb) | ((with_reducible refine gate_builtin (b := .append) (xs := #[.tmp 53, .tmp 55]) rfl ?_); at_builtin; refine Kd.R_append (Kd.int .i64) (w0 := w) w.heap.size rfl (.tmp 53) (.tmp 55) 26 2 (.int .i64 0) 8 rfl Try.underlying26 info2 rfl (by decide) (by omega) v53 yt x [.int .i64 x] (fun _ => True) (fun _ => False) rfl rfl ?aP (fun _ hk => hk.elim) ?aF ?aO ?aB ?aS ?aL ?_; (case aP => exact rfl); (case aB => exact GA.out.g1.below); (case aF => exact (fun _ _ => trivial)); (case aO => exact Kd.R_mono GA.out.p (fun _ _ => trivial)); (case aS => exact GA.out.g1.below.size); (case aL => have := HY1.out; omega); intro v56 w56 ho hb hg hat; have GB := Aside0.mk (GA.out.app ho hb hg hat); clear ho hb hg hat) | ((with_reducible refine gate_builtin (b := .append) (xs := #[.tmp 57, .tmp 60]) rfl ?_); at_builtin; refine Kd.R_append_rows (Kd.int .i64) (w0 := w) w.heap.size rfl (.tmp 57) (.tmp 60) 26 2 (.int .i64 0) 8 rfl Try.underlying26 info2 rfl (by decide) (by omega) v56 (yt ++ [x]) ys _ _ _ (fun _ => True) (fun _ => False) rfl rfl ?aO ?aR (fun _ _ h => h) (fun _ h => h.elim) ?aF ?aB ?aS ?aL ?_; (case aR => exact HD.out _ GB.out.g1); (case aB => exact GB.out.g1.below); (case aF => exact (fun _ _ => trivial)); (case aO => exact Kd.R_mono GB.out.p (fun _ _ => trivial)); (case aS => exact GB.out.g1.below.size); (case aL => have := HY1.out; omega); intro v61 w61 ho hb hg hat; have GC := Aside0.mk (show GS w w61 v61 ((yt ++ [x]) ++ ys) from ⟨hb, Kd.R_tight rfl ho⟩); clear ho hb hg hat)); try go_wp2_with (first | (go_at_call 42; (with_reducible refine (spec_l00Own.calls Ao co yt yt _ ?side1 ?side2 HO1.out).mono ?_); (case side1 => exact (HT.out _ (by repeat (first | exact Below.refl _ _ | apply pw_below_drewN | apply below_drew1))).1); (case side2 => exact (HT.out wr (Below.refl _ _)).2); rintro e w5 ⟨v53, rfl, ho, hb⟩; have GA := Aside0.mk (GS.own (HGA.out.below_ (by repeat (first | exact Below.refl _ _ | apply pw_below_drewN | apply below_drew1))) ho hb); clear ho hb) | ((with_reducible refine gate_builtin (b := .append) (xs := #[.tmp 53, .tmp 55]) rfl ?_); at_builtin; refine Kd.R_append (Kd.int .i64) (w0 := w) w.heap.size rfl (.tmp 53) (.tmp 55) 26 2 (.int .i64 0) 8 rfl Try.underlying26 info2 rfl (by decide) (by omega) v53 yt x [.int .i64 x] (fun _ => True) (fun _ => False) rfl rfl ?aP (fun _ hk => hk.elim) ?aF ?aO ?aB ?aS ?aL ?_; (case aP => exact rfl); (case aB => exact GA.out.g1.below); (case aF => exact (fun _ _ => trivial)); (case aO => exact Kd.R_mono GA.out.p (fun _ _ => trivial)); (case aS => exact GA.out.g1.below.size); (case aL => have := HY1.out; omega); intro v56 w56 ho hb hg hat; have GB := Aside0.mk (GA.out.app ho hb hg hat); clear ho hb hg hat) | ((with_reducible refine gate_builtin (b := .append) (xs := #[.tmp 57, .tmp 60]) rfl ?_); at_builtin; refine Kd.R_append_rows (Kd.int .i64) (w0 := w) w.heap.size rfl (.tmp 57) (.tmp 60) 26 2 (.int .i64 0) 8 rfl Try.underlying26 info2 rfl (by decide) (by omega) v56 (yt ++ [x]) ys _ _ _ (fun _ => True) (fun _ => False) rfl rfl ?aO ?aR (fun _ _ h => h) (fun _ h => h.elim) ?aF ?aB ?aS ?aL ?_; (case aR => exact HD.out _ GB.out.g1); (case aB => exact GB.out.g1.below); (case aF => exact (fun _ _ => trivial)); (case aO => exact Kd.R_mono GB.out.p (fun _ _ => trivial)); (case aS => exact GB.out.g1.below.size); (case aL => have := HY1.out; omega); intro v61 w61 ho hb hg hat; have GC := Aside0.mk (show GS w w61 v61 ((yt ++ [x]) ++ ys) from ⟨hb, Kd.R_tight rfl ho⟩); clear ho hb hg hat)))
            go_roundg k1
            case measure => omega
            case rel => exact ⟨wrap64 (x + 1), i + 1, by first | rfl | (simp; done), ⟨HI'.out.1, HI'.out.2⟩, by rw [HE.out]; exact GC.out⟩
           | succ d1 =>
            obtain ⟨zq, rfl⟩ : ∃ zq, z = zq + 1 := ⟨z - 1, by omega⟩
            have hq0 : 0 ≤ zq := by have := HZ.out; omega
            have hq1 : zq < (xo.length : Int) := by have := HZ.out; omega
            obtain ⟨ado, e, hxo⟩ := Kd.at_int (Kd.R_reads' G.o).2.2 zq hq0 hq1
            cases e
            obtain ⟨pq, hpq⟩ : ∃ pq, rd xo zq = pq := ⟨_, rfl⟩
            obtain ⟨hp0, hp1⟩ := hin.out zq hq0 hq1
            rw [hpq] at hxo hp0 hp1
            have HPQ := Aside0.mk hpq
            obtain ⟨adl2, Ay, cy, e, hv0, hv1, hv2, hv3, hly, hCy⟩ := at_T36 HR0.out pq hp0 hp1
            cases e
            replace hv3 := (G.below.cell (World.block_lt_of_cell? w _ hv3)).trans hv3
            have hwx := (G.below.cell (World.block_lt_of_cell? w _ HWX.out)).trans HWX.out
            have hww := w64_q zq (by have := HZ.out; have := hlen.out; have := HI.out; have := C1.out; omega)
            have c4b : decide (0 < zq + 1) = true := decide_eq_true (by omega)
            have hq0t := eq_true hq0
            have hq1t := eq_true hq1
            have hp0t := eq_true hp0
            have hp1t := eq_true hp1
            clear hv0 hv1 hv2 hly hCy hpq
            have HF1 : (if g_wt l0 (rd xo ((d1 : Nat) : Int)) < g_wt l0 x then g_find l0 xo (g_wt l0 x) d1 else d1 + 1) = K := HF.out
            have HD1 : ((d1 : Nat) : Int) = zq := by have := HZ.out; omega
            rw [HD1, HPQ.out] at HF1
            by_cases c5 : (rd_T36 l0 pq).f3 < (rd_T36 l0 x).f3
            · rw [if_pos (show g_wt l0 pq < g_wt l0 x from c5)] at HF1
              have c5b : decide ((rd_T36 l0 pq).f3 < (rd_T36 l0 x).f3) = true := decide_eq_true c5
              have HF2 := Aside0.mk HF1
              have HGA := Aside0.mk G
              have HZ2 := Aside0.mk (show zq = ((d1 : Nat) : Int) ∧ d1 ≤ xo.length from ⟨HD1.symm, by have := HZ.out; omega⟩)
              clear G HF1 HD1 HF c5 hq0 hq1 hp0 hp1
              go_wp2
              repeat (go_quiet (fail); try go_wp2)
              go_roundg d1
              case measure => omega
              case rel => exact ⟨zq, by first | rfl | (simp [*]; done), HZ2, HF2, HGA.out.below_ (by repeat (first | exact Below.refl _ _ | apply pw_below_drewN | apply below_drew1))⟩
            · rw [if_neg (show ¬ g_wt l0 pq < g_wt l0 x from c5)] at HF1
              have c5b : decide ((rd_T36 l0 pq).f3 < (rd_T36 l0 x).f3) = false := decide_eq_false c5
              have hz0 : 0 ≤ zq + 1 := by omega
              have hz1 : zq + 1 ≤ (xo.length : Int) := by omega
              have ZK := Aside0.mk (show (zq + 1).toNat = K by omega)
              clear HF1 HD1 HF c5 hp0 hp1
              have hz2 : (zq + 1).toNat ≤ xo.length := by omega
              obtain ⟨i0, hi0, _, hsz, _⟩ := info_parts info2
              have hroom : xo.length ≤ co := (Kd.R_reads' G.o).2.1
              obtain ⟨yt, hyt⟩ : ∃ yt, yt = xo.take (zq + 1).toNat := ⟨_, rfl⟩
              have hytl : yt.length = (zq + 1).toNat := by rw [hyt, List.length_take]; omega
              have hcutT := cut_to (P := Try.prog) 26 2 .i64 Try.underlying26 hi0 (some ado) xo.length co (zq + 1) hz0 hz1 hroom
              rw [← hytl] at hcutT
              obtain ⟨ys, hys⟩ : ∃ ys, ys = xo.drop (zq + 1).toNat := ⟨_, rfl⟩
              have hysl : ys.length = xo.length - (zq + 1).toNat := by rw [hys, List.length_drop]
              have hcutF := cut_from (P := Try.prog) 26 2 .i64 Try.underlying26 hi0 1 hsz (some ado) xo.length co (zq + 1) hz0 hz1
              obtain ⟨A1_, hA1⟩ : ∃ A1, A1 = (if co = (zq + 1).toNat then (some ado) else ((some ado) : Option Addr).map (·.add ((zq + 1).toNat * 1))) := ⟨_, rfl⟩
              obtain ⟨cc1, hcc1⟩ : ∃ c1, c1 = co - (zq + 1).toNat := ⟨_, rfl⟩
              rw [← hysl, ← hA1, ← hcc1] at hcutF
              have HT := Aside0.mk (show ∀ W, Below wr.heap.size wr W → Kd.C (Kd.int .i64) W (some ado) yt.length yt ∧ yt.length ≤ co from fun W hb => by
               have h1 := Kd.R_take (m := yt.length) (G.below_ hb).o (by omega)
               rw [show xo.take yt.length = yt by rw [hytl, ← hyt]] at h1
               exact ⟨(Kd.R_reads' h1).2.2, (Kd.R_reads' h1).2.1⟩)
              have HD := Aside0.mk (show ∀ W, GS w W (.slice (some ado) xo.length co) xo → Kd.C (Kd.int .i64) W A1_ ys.length ys from fun W g => by
               have h1 := (Kd.Q_reads' (Kd.Q_drop (k := (zq + 1).toNat) (Kd.Q_of_R g.o) hz2)).2.2
               rw [hA1, hys]
               exact h1)
              have HY1 := Aside0.mk (show yt.length < 1000 ∧ (yt ++ [x]).length + ys.length < 1000 by rw [List.length_append, List.length_singleton, hysl, hytl]; have := hlen.out; have := HI.out; have := C1.out; omega)
              have HO1 := Aside0.mk (g_own_some HY1.out.1)
              have HE := Aside0.mk (show g_ord l0 (i + 1) = (yt ++ [x]) ++ ys by rw [hnext.out, HK0.out, ← ZK.out, hyt, hys])
              have HGA := Aside0.mk G
              clear hyt hytl hys hysl hA1 hcc1 hi0 hsz hroom hz0 hz1 hz2 G
              go_wp2_with (first | (go_at_call 42; (with_reducible refine (spec_l00Own.calls (some ado) co yt yt _ ?side1 ?side2 HO1.out).mono ?_); (case side1 => exact (HT.out _ (by repeat (first | exact Below.refl _ _ | apply pw_below_drewN | apply below_drew1))).1); (case side2 => exact (HT.out wr (Below.refl _ _)).2); rintro e w5 ⟨v53, rfl, ho, hb⟩; have GA := Aside0.mk (GS.own (HGA.out.below_ (by repeat (first | exact Below.refl _ _ | apply pw_below_drewN | apply below_drew1))) ho hb); clear ho hb) | ((with_reducible refine gate_builtin (b := .append) (xs := #[.tmp 53, .tmp 55]) rfl ?_); at_builtin; refine Kd.R_append (Kd.int .i64) (w0 := w) w.heap.size rfl (.tmp 53) (.tmp 55) 26 2 (.int .i64 0) 8 rfl Try.underlying26 info2 rfl (by decide) (by omega) v53 yt x [.int .i64 x] (fun _ => True) (fun _ => False) rfl rfl ?aP (fun _ hk => hk.elim) ?aF ?aO ?aB ?aS ?aL ?_; (case aP => exact rfl); (case aB => exact GA.out.g1.below); (case aF => exact (fun _ _ => trivial)); (case aO => exact Kd.R_mono GA.out.p (fun _ _ => trivial)); (case aS => exact GA.out.g1.below.size); (case aL => have := HY1.out; omega); intro v56 w56 ho hb hg hat; have GB := Aside0.mk (GA.out.app ho hb hg hat); clear ho hb hg hat) | ((with_reducible refine gate_builtin (b := .append) (xs := #[.tmp 57, .tmp 60]) rfl ?_); at_builtin; refine Kd.R_append_rows (Kd.int .i64) (w0 := w) w.heap.size rfl (.tmp 57) (.tmp 60) 26 2 (.int .i64 0) 8 rfl Try.underlying26 info2 rfl (by decide) (by omega) v56 (yt ++ [x]) ys _ _ _ (fun _ => True) (fun _ => False) rfl rfl ?aO ?aR (fun _ _ h => h) (fun _ h => h.elim) ?aF ?aB ?aS ?aL ?_; (case aR => exact HD.out _ GB.out.g1); (case aB => exact GB.out.g1.below); (case aF => exact (fun _ _ => trivial)); (case aO => exact Kd.R_mono GB.out.p (fun _ _ => trivial)); (case aS => exact GB.out.g1.below.size); (case aL => have := HY1.out; omega); intro v61 w61 ho hb hg hat; have GC := Aside0.mk (show GS w w61 v61 ((yt ++ [x]) ++ ys) from ⟨hb, Kd.R_tight rfl ho⟩); clear ho hb hg hat))
              repeat (go_quiet (first | (go_at_call 42; (with_reducible refine (spec_l00Own.calls (some ado) co yt yt _ ?side1 ?side2 HO1.out).mono ?_); (case side1 => exact (HT.out _ (by repeat (first | exact Below.refl _ _ | apply pw_below_drewN | apply below_drew1))).1); (case side2 => exact (HT.out wr (Below.refl _ _)).2); rintro e w5 ⟨v53, rfl, ho, hb⟩; have GA := Aside0.mk (GS.own (HGA.out.below_ (by repeat (first | exact Below.refl _ _ | apply pw_below_drewN | apply below_drew1))) ho hb); clear ho hb) | ((with_reducible refine gate_builtin (b := .append) (xs := #[.tmp 53, .tmp 55]) rfl ?_); at_builtin; refine Kd.R_append (Kd.int .i64) (w0 := w) w.heap.size rfl (.tmp 53) (.tmp 55) 26 2 (.int .i64 0) 8 rfl Try.underlying26 info2 rfl (by decide) (by omega) v53 yt x [.int .i64 x] (fun _ => True) (fun _ => False) rfl rfl ?aP (fun _ hk => hk.elim) ?aF ?aO ?aB ?aS ?aL ?_; (case aP => exact rfl); (case aB => exact GA.out.g1.below); (case aF => exact (fun _ _ => trivial)); (case aO => exact Kd.R_mono GA.out.p (fun _ _ => trivial)); (case aS => exact GA.out.g1.below.size); (case aL => have := HY1.out; omega); intro v56 w56 ho hb hg hat; have GB := Aside0.mk (GA.out.app ho hb hg hat); clear ho hb hg hat) | ((with_reducible refine gate_builtin (b := .append) (xs := #[.tmp 57, .tmp 60]) rfl ?_); at_builtin; refine Kd.R_append_rows (Kd.int .i64) (w0 := w) w.heap.size rfl (.tmp 57) (.tmp 60) 26 2 (.int .i64 0) 8 rfl Try.underlying26 info2 rfl (by decide) (by omega) v56 (yt ++ [x]) ys _ _ _ (fun _ => True) (fun _ => False) rfl rfl ?aO ?aR (fun _ _ h => h) (fun _ h => h.elim) ?aF ?aB ?aS ?aL ?_; (case aR => exact HD.out _ GB.out.g1); (case aB => exact GB.out.g1.below); (case aF => exact (fun _ _ => trivial)); (case aO => exact Kd.R_mono GB.out.p (fun _ _ => trivial)); (case aS => exact GB.out.g1.below.size); (case aL => have := HY1.out; omega); intro v61 w61 ho hb hg hat; have GC := Aside0.mk (show GS w w61 v61 ((yt ++ [x]) ++ ys) from ⟨hb, Kd.R_tight rfl ho⟩); clear ho hb hg hat)); try go_wp2_with (first | (go_at_call 42; (with_reducible refine (spec_l00Own.calls (some ado) co yt yt _ ?side1 ?side2 HO1.out).mono ?_); (case side1 => exact (HT.out _ (by repeat (first | exact Below.refl _ _ | apply pw_below_drewN | apply below_drew1))).1); (case side2 => exact (HT.out wr (Below.refl _ _)).2); rintro e w5 ⟨v53, rfl, ho, hb⟩; have GA := Aside0.mk (GS.own (HGA.out.below_ (by repeat (first | exact Below.refl _ _ | apply pw_below_drewN | apply below_drew1))) ho hb); clear ho hb) | ((with_reducible refine gate_builtin (b := .append) (xs := #[.tmp 53, .tmp 55]) rfl ?_); at_builtin; refine Kd.R_append (Kd.int .i64) (w0 := w) w.heap.size rfl (.tmp 53) (.tmp 55) 26 2 (.int .i64 0) 8 rfl Try.underlying26 info2 rfl (by decide) (by omega) v53 yt x [.int .i64 x] (fun _ => True) (fun _ => False) rfl rfl ?aP (fun _ hk => hk.elim) ?aF ?aO ?aB ?aS ?aL ?_; (case aP => exact rfl); (case aB => exact GA.out.g1.below); (case aF => exact (fun _ _ => trivial)); (case aO => exact Kd.R_mono GA.out.p (fun _ _ => trivial)); (case aS => exact GA.out.g1.below.size); (case aL => have := HY1.out; omega); intro v56 w56 ho hb hg hat; have GB := Aside0.mk (GA.out.app ho hb hg hat); clear ho hb hg hat) | ((with_reducible refine gate_builtin (b := .append) (xs := #[.tmp 57, .tmp 60]) rfl ?_); at_builtin; refine Kd.R_append_rows (Kd.int .i64) (w0 := w) w.heap.size rfl (.tmp 57) (.tmp 60) 26 2 (.int .i64 0) 8 rfl Try.underlying26 info2 rfl (by decide) (by omega) v56 (yt ++ [x]) ys _ _ _ (fun _ => True) (fun _ => False) rfl rfl ?aO ?aR (fun _ _ h => h) (fun _ h => h.elim) ?aF ?aB ?aS ?aL ?_; (case aR => exact HD.out _ GB.out.g1); (case aB => exact GB.out.g1.below); (case aF => exact (fun _ _ => trivial)); (case aO => exact Kd.R_mono GB.out.p (fun _ _ => trivial)); (case aS => exact GB.out.g1.below.size); (case aL => have := HY1.out; omega); intro v61 w61 ho hb hg hat; have GC := Aside0.mk (show GS w w61 v61 ((yt ++ [x]) ++ ys) from ⟨hb, Kd.R_tight rfl ho⟩); clear ho hb hg hat)))
              go_roundg k1
              case measure => omega
              case rel => exact ⟨wrap64 (x + 1), i + 1, by first | rfl | (simp; done), ⟨HI'.out.1, HI'.out.2⟩, by rw [HE.out]; exact GC.out⟩
       · have c3b : decide (x < (l0.length : Int)) = false := decide_eq_false c3
         have hi : i = l0.length := by have := HI.out; omega
         subst hi
         obtain ⟨y, hy⟩ : ∃ y, y = g_ord l0 l0.length := ⟨_, rfl⟩
         rw [← hy] at G
         have HIN := Aside0.mk (show ∀ j : Int, 0 ≤ j → j < (y.length : Int) → 0 ≤ rd y j ∧ rd y j < (l0.length : Int) from fun j h0 h1 => by rw [hy] at h1 ⊢; exact g_ord_at l0 l0.length j h0 h1)
         have HYL := Aside0.mk (show y.length = l0.length by rw [hy]; exact g_ord_len l0 _)
         have HOK := Aside0.mk (show ∀ i j : Nat, i < y.length → j < y.length → rd (g_outs l0 y i) (rd y (j : Int)) < ((rd_T36 l0 (rd y (j : Int))).f2.length : Int) from fun i j h0 h1 => by
          have h := C2.out
          rw [← hy] at h
          unfold g_okG at h
          have h2 := List.all_eq_true.1 h i (List.mem_range.2 h0)
          exact of_decide_eq_true (List.all_eq_true.1 h2 j (List.mem_range.2 h1)))
         have HYY := Aside0.mk hy
         obtain ⟨Ao, co, e⟩ := Kd.R_slice G.o
         subst e
         have HGA := Aside0.mk G
         clear hy c3 G
         go_wp2_with (first | ((with_reducible refine gate_dst (N := 62) rfl ?_); refine Kd.R_lit (Kd.int .i64) _ 2 ?hg (N := 62) ?hd (xs := ([] : List Int)) (inner := []) (ok := fun _ => True) (okp := fun _ => True) ?hr ?hp (fun _ hk => hk) trivial (Below.refl _ _) (Nat.le_refl _) (by simp) ?_; (case hd => rfl); (case hg => rfl); (case hr => first | (go_simp; done) | (go_simp; rfl)); (case hp => exact (Reps.none _ _)); intro v62 w62 ho hb hg_ hnew_; clear hg_ hnew_; have G := HGA.out.own ho hb; clear ho hb))
         go_loopg [8, 9] l0.length (fun d v8 v9 w' => ∃ (x : Int) (i : Nat), v9 = .int .i64 x ∧ Aside0 (x = (i : Int) ∧ i + d = l0.length) ∧ GS2 w w' (.slice Ao y.length co) y v8 (List.replicate i (-1)))
         case atStart => exact ⟨0, 0, rfl, ⟨rfl, by omega⟩, G⟩
         case round =>
          clear G HGA HI c3b
          obtain ⟨x, i, rfl, HI, G⟩ := hrel
          by_cases c3 : x < (l0.length : Int)
          · have c3b : decide (x < (l0.length : Int)) = true := decide_eq_true c3
            cases gk with
            | zero => exact absurd HI.out.2 (by have := HI.out.1; omega)
            | succ k1 =>
             have HI' := Aside0.mk (show wrap64 (x + 1) = ((i + 1 : Nat) : Int) ∧ i + 1 + k1 = l0.length by have := C1.out; have := HI.out; unfold wrap64; omega)
             have HL2 := Aside0.mk (show (List.replicate i (-1 : Int)).length < 20 by rw [List.length_replicate]; have := C1.out; have := HI.out; omega)
             have GO := Aside0.mk G
             clear c3 G
             go_wp2_with (first | ((with_reducible refine gate_builtin (b := .append) (xs := #[.tmp 69, .tmp 70]) rfl ?_); at_builtin; refine Kd.R_append (Kd.int .i64) (w0 := w) w.heap.size rfl (.tmp 69) (.tmp 70) 26 2 (.int .i64 0) 8 rfl Try.underlying26 info2 rfl (by decide) (by omega) u8 (List.replicate i (-1)) (-1) [.int .i64 (-1)] (fun _ => True) (fun _ => False) rfl rfl ?aP (fun _ hk => hk.elim) ?aF ?aO ?aB ?aS ?aL ?_; (case aP => exact rfl); (case aB => exact GO.out.g1.below); (case aF => exact (fun _ _ => trivial)); (case aO => exact Kd.R_mono GO.out.p (fun _ _ => trivial)); (case aS => exact GO.out.g1.below.size); (case aL => have := HL2.out; omega); intro v26 w26 ho hb hg hat; have GQ := Aside0.mk (GO.out.app ho hb hg hat); clear ho hb hg hat))
             go_roundg k1
             case measure => omega
             case rel => exact ⟨wrap64 (x + 1), i + 1, by first | rfl | (simp; done), HI', by rw [List.replicate_succ']; exact GQ.out⟩
          · have c3b : decide (x < (l0.length : Int)) = false := decide_eq_false c3
            have hi : i = l0.length := by have := HI.out; omega
            subst hi
            obtain ⟨x0, hx0⟩ : ∃ x0, x0 = List.replicate l0.length (-1 : Int) := ⟨_, rfl⟩
            rw [← hx0] at G
            have HX0 := Aside0.mk (show x0 = g_outs l0 y 0 from hx0)
            have HXL := Aside0.mk (show x0.length = l0.length by rw [hx0]; simp)
            obtain ⟨Ap, cp, e⟩ := Kd.R_slice G.p
            subst e
            have HGA := Aside0.mk G
            clear hx0 c3 G
            go_wp2
            go_loopg [10] y.length (fun d v10 w' => ∃ (x : Int) (i : Nat), v10 = .int .i64 x ∧ Aside0 (x = (i : Int) ∧ i + d = y.length) ∧ GS2 w w' (.slice Ao y.length co) y (.slice Ap x0.length cp) (g_outs l0 y i))
            case atStart => exact ⟨0, 0, rfl, ⟨rfl, by omega⟩, by rw [← HX0.out]; exact HGA.out⟩
            case round =>
             clear HGA HI c3b
             obtain ⟨x, i, rfl, HI, G⟩ := hrel
             by_cases c3 : x < (y.length : Int)
             · have c3b : decide (x < (y.length : Int)) = true := decide_eq_true c3
               have x0_ : 0 ≤ x := by have := HI.out; omega
               cases gk with
               | zero => exact absurd HI.out.2 (by have := HI.out.1; omega)
               | succ k1 =>
                have HI' := Aside0.mk (show wrap64 (x + 1) = ((i + 1 : Nat) : Int) ∧ i + 1 + k1 = y.length by have := C1.out; have := HYL.out; have := HI.out; unfold wrap64; omega)
                obtain ⟨xp, hxp⟩ : ∃ xp, xp = g_outs l0 y i := ⟨_, rfl⟩
                rw [← hxp] at G
                obtain ⟨ado, e, hxo⟩ := Kd.at_int (Kd.R_reads' G.g1.o).2.2 x x0_ c3
                cases e
                obtain ⟨yi, hyi⟩ : ∃ yi, rd y x = yi := ⟨_, rfl⟩
                obtain ⟨hy0, hy1⟩ := HIN.out x x0_ c3
                rw [hyi] at hxo hy0 hy1
                have HYI := Aside0.mk (show rd y (i : Int) = yi by rw [← HI.out.1]; exact hyi)
                obtain ⟨adl, A2, cc2, e, hv0, hv1, hv2, hv3, hl2, hC2⟩ := at_T36 HR0.out yi hy0 hy1
                cases e
                have HNX := Aside0.mk (show g_outs l0 y (i + 1) = g_try l0 y xp i (rd_T36 l0 yi).f2.length 0 by rw [hxp, ← HYI.out]; rfl)
                have HOX := Aside0.mk (show ∀ j : Nat, j < y.length → rd xp (rd y (j : Int)) < ((rd_T36 l0 (rd y (j : Int))).f2.length : Int) by rw [hxp]; exact fun j hj => HOK.out i j (by have := HI.out; omega) hj)
                have HV := Aside0.mk (And.intro hv0 (And.intro hv1 hv2))
                have HC2 := Aside0.mk hC2
                have HL2 := Aside0.mk hl2
                have HIX := Aside0.mk HI.out.1
                have HIL := Aside0.mk (show i < y.length by have := HI.out; omega)
                have c3t := eq_true c3
                have x0t := eq_true x0_
                have hy0t := eq_true hy0
                have hy1t := eq_true hy1
                have HGA := Aside0.mk G
                clear hv0 hv1 hv2 hv3 hl2 hC2 hyi hxp G HI
                go_wp2
                go_loopg [12] (rd_T36 l0 yi).f2.length (fun d v12 w' => ∃ (z : Int) (kk : Nat), v12 = .int .i64 z ∧ Aside0 (z = (kk : Int) ∧ kk + d = (rd_T36 l0 yi).f2.length) ∧ Aside0 (g_try l0 y xp i d kk = g_outs l0 y (i + 1)) ∧ GS2 w w' (.slice (some ado) y.length co) y (.slice Ap x0.length cp) xp)
                case atStart => exact ⟨0, 0, rfl, ⟨rfl, by omega⟩, ⟨HNX.out.symm⟩, HGA.out⟩
                case round =>
                 clear HGA c3b hxo
                 obtain ⟨z, kk, rfl, HZ, HT, G⟩ := hrel
                 have hv2 := (G.g1.below.cell (World.block_lt_of_cell? w _ HV.out.2.2)).trans HV.out.2.2
                 by_cases c20 : z < ((rd_T36 l0 yi).f2.length : Int)
                 · have c20b : decide (z < ((rd_T36 l0 yi).f2.length : Int)) = true := decide_eq_true c20
                   cases gk with
                   | zero => exact absurd HZ.out.2 (by have := HZ.out.1; omega)
                   | succ d1 =>
                    obtain ⟨F, hF⟩ : ∃ F, g_fr l0 y xp i (kk : Int) = F := ⟨_, rfl⟩
                    have HT2 : (if g_fr l0 y xp i (kk : Int) = true then xp.set (rd y (i : Int)).toNat (kk : Int) else g_try l0 y xp i d1 (kk + 1)) = g_outs l0 y (i + 1) := HT.out
                    rw [hF] at HT2
                    have HT3 := Aside0.mk HT2
                    have HF := Aside0.mk hF
                    have HGA := Aside0.mk G
                    have C20 := Aside0.mk c20
                    clear HT HT2 hF G c20
                    go_wp2
                    go_loopg [13, 14] i (fun d v13 v14 w' => ∃ (b : Bool) (q : Int) (j : Nat), v13 = .bool b ∧ v14 = .int .i64 q ∧ Aside0 (q = (j : Int) ∧ j + d = i) ∧ Aside0 (b = (List.range j).all (g_frP l0 y xp i (kk : Int))) ∧ GS2 w w' (.slice (some ado) y.length co) y (.slice Ap x0.length cp) xp)
                    case atStart => exact ⟨true, 0, 0, rfl, rfl, ⟨rfl, by omega⟩, ⟨by simp⟩, HGA.out⟩
                    case round =>
                     clear HGA c20b hv2
                     obtain ⟨b, q, j, rfl, rfl, HJ, HB, G⟩ := hrel
                     by_cases c30 : q < x
                     · have c30b : decide (q < x) = true := decide_eq_true c30
                       cases gk with
                       | zero => exact absurd HJ.out.2 (by have := HJ.out.1; have := HIX.out; omega)
                       | succ g1 =>
                        have q0 : 0 ≤ q := by have := HJ.out; omega
                        have qy : q < (y.length : Int) := by omega
                        have HJ2 := Aside0.mk (show wrap64 (q + 1) = ((j + 1 : Nat) : Int) ∧ j + 1 + g1 = i by have := HJ.out; have := HIL.out; have := HYL.out; have := C1.out; unfold wrap64; omega)
                        obtain ⟨ado2, e, hqo⟩ := Kd.at_int (Kd.R_reads' G.g1.o).2.2 q q0 qy
                        cases e
                        obtain ⟨yj, hyj⟩ : ∃ yj, rd y q = yj := ⟨_, rfl⟩
                        obtain ⟨hj0, hj1⟩ := HIN.out q q0 qy
                        rw [hyj] at hqo hj0 hj1
                        have HYJ := Aside0.mk (show rd y (j : Int) = yj by rw [← HJ.out.1]; exact hyj)
                        obtain ⟨adl2, A3, cc3, e, hu0, hu1, hu2, hu3, hl3, hC3⟩ := at_T36 HR0.out yj hj0 hj1
                        cases e
                        have hjx : yj < (x0.length : Int) := by have := HXL.out; rw [this]; exact hj1
                        have hlen := (Kd.R_reads' G.p).1
                        obtain ⟨adp, e, hpc⟩ := Kd.at_int (Kd.R_reads' G.p).2.2 yj hj0 (by omega)
                        cases e
                        obtain ⟨at_, hat⟩ : ∃ at_, rd xp yj = at_ := ⟨_, rfl⟩
                        rw [hat] at hpc
                        have hox := HOX.out j (by have := HJ.out; omega)
                        rw [HYJ.out, hat] at hox
                        have HP := Aside0.mk (show g_frP l0 y xp i (kk : Int) j = (decide (at_ < 0) || !g_mtG (rd_T36 l0 yi) (rd_T36 l0 yj) (rd (rd_T36 l0 yi).f2 z) (rd (rd_T36 l0 yj).f2 at_)) by unfold g_frP; rw [HYI.out, HYJ.out, hat, HZ.out.1])
                        have HGA := Aside0.mk G
                        have q0t := eq_true q0
                        have qyt := eq_true qy
                        have hj0t := eq_true hj0
                        have hj1t := eq_true hj1
                        have hjxt := eq_true hjx
                        clear hyj hat hlen hu3 c30
                        cases b with
                        | false =>
                         have HB2 := Aside0.mk (show false = (List.range (j + 1)).all (g_frP l0 y xp i (kk : Int)) by rw [g_all_succ, ← HB.out]; rfl)
                         clear hu0 hu1 hu2 hl3 hC3 hox G
                         go_wp2
                         repeat (go_quiet (fail); try go_wp2)
                         go_roundg g1
                         case measure => omega
                         case rel => exact ⟨false, wrap64 (q + 1), j + 1, by first | rfl | (simp; done), by first | rfl | (simp; done), HJ2, HB2, HGA.out.below_ (by repeat (first | exact Below.refl _ _ | apply pw_below_drewN | apply below_drew1))⟩
                        | true =>
                         by_cases ca : at_ < 0
                         · have cab : decide (at_ < 0) = true := decide_eq_true ca
                           have HB2 := Aside0.mk (show true = (List.range (j + 1)).all (g_frP l0 y xp i (kk : Int)) by rw [g_all_succ, ← HB.out, HP.out, cab]; rfl)
                           clear hu0 hu1 hu2 hl3 hC3 hox G ca
                           go_wp2
                           repeat (go_quiet (fail); try go_wp2)
                           go_roundg g1
                           case measure => omega
                           case rel => exact ⟨true, wrap64 (q + 1), j + 1, by first | rfl | (simp; done), by first | rfl | (simp; done), HJ2, HB2, HGA.out.below_ (by repeat (first | exact Below.refl _ _ | apply pw_below_drewN | apply below_drew1))⟩
                         · have cab : decide (at_ < 0) = false := decide_eq_false ca
                           have z0 : 0 ≤ z := by have := HZ.out; omega
                           obtain ⟨ads, e, hsx⟩ := Kd.at_int HC2.out z z0 C20.out
                           cases e
                           obtain ⟨adt, e, hsy⟩ := Kd.at_int hC3 at_ (by omega) hox
                           cases e
                           have hb_ := G.g1.below
                           have hv0 := (hb_.cell (World.block_lt_of_cell? w _ HV.out.1)).trans HV.out.1
                           have hv1 := (hb_.cell (World.block_lt_of_cell? w _ HV.out.2.1)).trans HV.out.2.1
                           have hv2 := (hb_.cell (World.block_lt_of_cell? w _ HV.out.2.2)).trans HV.out.2.2
                           replace hu0 := (hb_.cell (World.block_lt_of_cell? w _ hu0)).trans hu0
                           replace hu1 := (hb_.cell (World.block_lt_of_cell? w _ hu1)).trans hu1
                           replace hu2 := (hb_.cell (World.block_lt_of_cell? w _ hu2)).trans hu2
                           replace hsx := (hb_.cell (World.block_lt_of_cell? w _ hsx)).trans hsx
                           replace hsy := (hb_.cell (World.block_lt_of_cell? w _ hsy)).trans hsy
                           have HX := Aside0.mk (And.intro hv0 (And.intro hv1 (And.intro hu0 hu1)))
                           have z0t := eq_true z0
                           have zlt := eq_true C20.out
                           have at0t := eq_true (show 0 ≤ at_ by omega)
                           have atlt := eq_true hox
                           clear G hb_ hox
                           cases hm : g_mtG (rd_T36 l0 yi) (rd_T36 l0 yj) (rd (rd_T36 l0 yi).f2 z) (rd (rd_T36 l0 yj).f2 at_) with
                           | true =>
                            have E2 := Aside0.mk (show g_meet (rd_T36 l0 yi).f0 (rd_T36 l0 yi).f1 (rd_T36 l0 yj).f0 (rd_T36 l0 yj).f1 (rd (rd_T36 l0 yi).f2 z) (rd (rd_T36 l0 yj).f2 at_) = true from hm)
                            have HB2 := Aside0.mk (show false = (List.range (j + 1)).all (g_frP l0 y xp i (kk : Int)) by rw [g_all_succ, ← HB.out, HP.out, hm, decide_eq_false ca]; rfl)
                            clear hm ca hu0 hu1 hv0 hv1 hl3 hC3 z0
                            go_wp2
                            repeat (go_quiet (first | (go_at_call 43; (with_reducible refine (spec_l11Meet.calls (adl.add (yi.toNat * 4)) (adl.add (yj.toNat * 4)) (rd_T36 l0 yi).f0 (rd_T36 l0 yi).f1 (rd_T36 l0 yj).f0 (rd_T36 l0 yj).f1 (rd (rd_T36 l0 yi).f2 z) (rd (rd_T36 l0 yj).f2 at_) _ ?a0 ?a1 ?a2 ?a3 true E2.out).mono ?_); (case a0 => (try simp only [World.cell?_drewN]); exact HX.out.1); (case a1 => (try simp only [World.cell?_drewN]); exact HX.out.2.1); (case a2 => (try simp only [World.cell?_drewN]); exact HX.out.2.2.1); (case a3 => (try simp only [World.cell?_drewN]); exact HX.out.2.2.2); rintro e w' ⟨rfl, ⟨nd, rfl⟩⟩; (try first | exact ⟨rfl, _, World.drewN_drewN _ _ _⟩ | exact ⟨rfl, _, Eq.trans (World.drewN_drewN _ _ _) (congrArg (World.drewN _) (Nat.add_assoc _ _ _))⟩))); try go_wp2)
                            go_roundg g1
                            case measure => omega
                            case rel => exact ⟨false, wrap64 (q + 1), j + 1, by first | rfl | (simp; done), by first | rfl | (simp; done), HJ2, HB2, HGA.out.below_ (by repeat (first | exact Below.refl _ _ | apply pw_below_drewN | apply below_drew1))⟩
                           | false =>
                            have E2 := Aside0.mk (show g_meet (rd_T36 l0 yi).f0 (rd_T36 l0 yi).f1 (rd_T36 l0 yj).f0 (rd_T36 l0 yj).f1 (rd (rd_T36 l0 yi).f2 z) (rd (rd_T36 l0 yj).f2 at_) = false from hm)
                            have HB2 := Aside0.mk (show true = (List.range (j + 1)).all (g_frP l0 y xp i (kk : Int)) by rw [g_all_succ, ← HB.out, HP.out, hm, decide_eq_false ca]; rfl)
                            clear hm ca hu0 hu1 hv0 hv1 hl3 hC3 z0
                            go_wp2
                            repeat (go_quiet (first | (go_at_call 43; (with_reducible refine (spec_l11Meet.calls (adl.add (yi.toNat * 4)) (adl.add (yj.toNat * 4)) (rd_T36 l0 yi).f0 (rd_T36 l0 yi).f1 (rd_T36 l0 yj).f0 (rd_T36 l0 yj).f1 (rd (rd_T36 l0 yi).f2 z) (rd (rd_T36 l0 yj).f2 at_) _ ?a0 ?a1 ?a2 ?a3 false E2.out).mono ?_); (case a0 => (try simp only [World.cell?_drewN]); exact HX.out.1); (case a1 => (try simp only [World.cell?_drewN]); exact HX.out.2.1); (case a2 => (try simp only [World.cell?_drewN]); exact HX.out.2.2.1); (case a3 => (try simp only [World.cell?_drewN]); exact HX.out.2.2.2); rintro e w' ⟨rfl, ⟨nd, rfl⟩⟩; (try first | exact ⟨rfl, _, World.drewN_drewN _ _ _⟩ | exact ⟨rfl, _, Eq.trans (World.drewN_drewN _ _ _) (congrArg (World.drewN _) (Nat.add_assoc _ _ _))⟩))); try go_wp2)
                            go_roundg g1
                            case measure => omega
                            case rel => exact ⟨true, wrap64 (q + 1), j + 1, by first | rfl | (simp; done), by first | rfl | (simp; done), HJ2, HB2, HGA.out.below_ (by repeat (first | exact Below.refl _ _ | apply pw_below_drewN | apply below_drew1))⟩
                     · have c30b : decide (q < x) = false := decide_eq_false c30
                       have hji : j = i := by have := HJ.out; have := HIX.out; omega
                       subst hji
                       have hbF : b = F := HB.out.trans HF.out
                       subst hbF
                       obtain ⟨ado2, e, hxo⟩ := Kd.at_int (Kd.R_reads' G.g1.o).2.2 x x0_ c3
                       cases e
                       rw [show rd y x = yi from by rw [HIX.out]; exact HYI.out] at hxo
                       cases b with
                       | true =>
                        have HT4 := Aside0.mk (show xp.set yi.toNat z = g_outs l0 y (j + 1) by have := HT3.out; rw [if_pos rfl, HYI.out, ← HZ.out.1] at this; exact this)
                        have hlen := (Kd.R_reads' G.p).1
                        have hin : yi < (x0.length : Int) := by have := HXL.out; rw [this]; exact hy1
                        obtain ⟨gp, capp, ep, hgb, hgl, hgc⟩ := Kd.R_form G.p (by omega)
                        injection ep with e1 e2 e3
                        subst e1
                        subst e3
                        obtain ⟨hs0, hs1⟩ := Kd.R_celln 0 G.p yi hy0 hin
                        have hput := Kd.R_putg G.p yi z
                        have GN := Aside0.mk (G.app hput.1 (below_set (g := gp) (j := yi.toNat) G.g1.below hgb) hput.2 (.inl rfl))
                        have hint := eq_true hin
                        clear hin hput G hgc hgl e2 hlen c30
                        go_wp2
                        go_roundg k1
                        case measure => omega
                        case rel => exact ⟨wrap64 (x + 1), j + 1, by first | rfl | (simp; done), HI', by rw [← HT4.out]; exact GN.out⟩
                       | false =>
                        have HT4 := Aside0.mk (show g_try l0 y xp j d1 (kk + 1) = g_outs l0 y (j + 1) by have := HT3.out; rw [if_neg (by decide)] at this; exact this)
                        have HZ' := Aside0.mk (show wrap64 (z + 1) = ((kk + 1 : Nat) : Int) ∧ kk + 1 + d1 = (rd_T36 l0 yi).f2.length by have := HZ.out; have := HL2.out; have := HC2.out.2.1; have := C20.out; unfold wrap64; omega)
                        have HGA := Aside0.mk G
                        clear c30 G
                        go_wp2
                        go_roundg d1
                        case measure => omega
                        case rel => exact ⟨wrap64 (z + 1), kk + 1, by first | rfl | (simp; done), HZ', HT4, HGA.out⟩
                 · have c20b : decide (z < ((rd_T36 l0 yi).f2.length : Int)) = false := decide_eq_false c20
                   obtain rfl : gk = 0 := by have := HZ.out; omega
                   have HT2 := Aside0.mk (show xp = g_outs l0 y (i + 1) from HT.out)
                   have HGA := Aside0.mk G
                   clear HT G c20
                   go_wp2
                   go_roundg k1
                   case measure => omega
                   case rel => exact ⟨wrap64 (x + 1), i + 1, by first | rfl | (simp; done), HI', by rw [← HT2.out]; exact HGA.out⟩
             · have c3b : decide (x < (y.length : Int)) = false := decide_eq_false c3
               have hi : i = y.length := by have := HI.out; omega
               subst hi
               have HGA := Aside0.mk G
               clear c3 G
               go_wp2
               go_ret2
               refine ⟨_, rfl, ?_, HGA.out.g1.below⟩
               have h := HGA.out.p
               rw [← HYY.out, ← HYL.out]
               exact Kd.R_mono h (fun _ _ => trivial)
    · rw [if_neg c2] at H
      cases H
  · rw [if_neg c1] at H
    cases H

end Go.Proofs.Ytjfkjmfdckbecaa.Print
