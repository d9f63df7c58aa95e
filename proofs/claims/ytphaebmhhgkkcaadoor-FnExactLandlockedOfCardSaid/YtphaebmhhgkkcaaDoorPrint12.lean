-- Printed by a program of this session out of the translation; not trusted: Lean checks it.
import Derived.Test.YtphaebmhhgkkcaaDoorPrint0
import Derived.Test.YtphaebmhhgkkcaaDoorPrint1
import Derived.Test.YtphaebmhhgkkcaaDoorPrint2
import Derived.Test.YtphaebmhhgkkcaaDoorPrint6
import Derived.Test.YtphaebmhhgkkcaaDoorPrint8
import Derived.Test.YtphaebmhhgkkcaaDoorPrint9
import Derived.Test.YtphaebmhhgkkcaaDoorPrint11
import Derived.Lib.AtoiErrMem
namespace Go.Proofs.YtphaebmhhgkkcaaDoor.Print
open Go.RowKit Go.Proofs.YtphaebmhhgkkcaaDoorW.PrintWords Go.Proofs.YtphaebmhhgkkcaaDoorW.PrintLast Go.Proofs.YtphaebmhhgkkcaaDoorW.PrintMore
attribute [local go_sem] max2_int min2_int max_two min_two max_three min_three max_four min_four   -- for this text's walks alone
set_option linter.unusedVariables false
set_option linter.unusedSimpArgs false

/-! ### impl_LandlockedOf: function 30 -/
-- imports: Derived.Lib.AtoiErrMem
def g_bytes (s : ByteArray) : List Int := s.data.toList.map fun b => (b.toNat : Int)
theorem g_bytes_len (s : ByteArray) : (g_bytes s).length = s.size := by unfold g_bytes; rw [List.length_map, Array.length_toList]; rfl
theorem g_conv {P : Program} {src dst e : TypeId} (w : World) (s : ByteArray) (hs : P.underlying src = some .string) (hd : P.underlying dst = some (.slice e)) (he : P.underlying e = some (.int .u8)) (hl : s.size ≤ 9223372036854775807) :
    ∃ (a : Addr) (cap : Nat) (w7 : World), (convert src dst (.string s)).run P w = .ok (.slice (some a) (g_bytes s).length cap) w7 ∧ Below w.heap.size w w7 ∧ Kd.C (Kd.int .u8) w7 (some a) (g_bytes s).length (g_bytes s) := by
  refine ⟨⟨w.heap.size, 0, none⟩, grownCap w s.size 0 e, Lib.bytesWorld w e s, ?_, Lib.bytesWorld_below w e s, ?_⟩
  · rw [Lib.run_convert_string_bytes w src dst e s hs hd he, g_bytes_len]
  · rw [g_bytes_len]
    refine ⟨g_bytes_len s, hl, fun _ => ⟨_, rfl, fun j p hj => ⟨[.int .u8 p], rfl, rfl, fun i u hu => ?_⟩⟩⟩
    obtain ⟨hj1, hp⟩ := List.getElem?_eq_some_iff.1 hj
    have hj2 : j < s.size := by rw [← g_bytes_len]; exact hj1
    have hj3 : j < s.data.toList.length := by rw [Array.length_toList]; exact hj2
    cases i with
    | succ i => simp at hu
    | zero =>
      have hu2 : Value.int .u8 p = u := by simpa using hu
      rw [← hu2, ← hp]
      show (Lib.bytesWorld w e s).cell? ((⟨w.heap.size, 0, none⟩ : Addr).add (j * 1 + 0)) = _
      rw [show (⟨w.heap.size, 0, none⟩ : Addr).add (j * 1 + 0) = ⟨w.heap.size, j, none⟩ by simp [Addr.add]; omega, Lib.bytesWorld_cell w e s j hj2]
      have hj4 : s.data[j]? = some (s.data[j]'hj2) := Array.getElem?_eq_getElem hj2
      simp [g_bytes, List.getD, hj3, hj4]
def impl_LandlockedOf.l0 : Nat → List ByteArray → List Int → ByteArray → Int → Option (ByteArray × Int)
 | 0, _, _, _, _ => none
 | k + 1, x0, s, x4, i => if i < (s.length : Int) then (if 0 ≤ i then ((impl_coastOf.f k x0 (rd s i)).bind fun t => (if t = 0 then (if x4.size + (Utf8.encode (wrap32 (rd s i))).size ≤ 9223372036854775807 then (impl_LandlockedOf.l0 k x0 s (x4 ++ (Utf8.encode (wrap32 (rd s i)))) (wrap64 (i + 1))) else (none)) else (impl_LandlockedOf.l0 k x0 s x4 (wrap64 (i + 1))))) else (none)) else (some (x4, 0))
def impl_LandlockedOf.f (k : Nat) (l0 : List ByteArray) : Option (ByteArray × Int) := (impl_ValidGrid.f k l0).bind fun t1 => (if t1 = true then ((impl_landsOf.f k l0).bind fun s => (if s.size ≤ 9223372036854775807 then (impl_LandlockedOf.l0 k l0 (g_bytes s) (⟨#[]⟩ : ByteArray) 0) else (none))) else (some ((⟨#[]⟩ : ByteArray), 1)))
theorem impl_LandlockedOf.mono_l : ∀ k, (∀ y0 y1 y2 y3, LeO (impl_LandlockedOf.l0 k y0 y1 y2 y3) (impl_LandlockedOf.l0 (k + 1) y0 y1 y2 y3))
 | 0 => fun _ _ _ _ r h => by simp [impl_LandlockedOf.l0] at h
 | k + 1 => by
  have ih0 := impl_LandlockedOf.mono_l k
  ·intro y0 y1 y2 y3
   unfold impl_LandlockedOf.l0
   repeat' first
   | (with_reducible exact ih0 _ _ _ _)
   | (with_reducible exact impl_coastOf.mono _ _ _)
   | (with_reducible exact LeO.refl _)
   | (with_reducible exact LeO.none _)
   | (with_reducible refine LeO.ite ?_ ?_)
   | (with_reducible refine LeO.bind ?_ (fun _ => ?_))
theorem impl_LandlockedOf.mono : ∀ a0 k, LeO (impl_LandlockedOf.f k a0) (impl_LandlockedOf.f (k + 1) a0) := by
 intro a0 k
 have ih0 := impl_LandlockedOf.mono_l k
 unfold impl_LandlockedOf.f
 repeat' first
   | (with_reducible exact ih0 _ _ _ _)
   | (with_reducible exact impl_ValidGrid.mono _ _)
   | (with_reducible exact impl_landsOf.mono _ _)
   | (with_reducible exact LeO.refl _)
   | (with_reducible exact LeO.none _)
   | (with_reducible refine LeO.ite ?_ ?_)
   | (with_reducible refine LeO.bind ?_ (fun _ => ?_))
set_option maxHeartbeats 8000000 in
set_option maxRecDepth 100000 in
theorem impl_LandlockedOf.calls (k : Nat) (A0 : Option Addr) (c0 : Nat) (l0 : List ByteArray) (r1 : ByteArray) (r2 : Int) (w : World) (hr0 : Kd.C Kd.string w A0 l0.length l0) (hc0 : l0.length ≤ c0) (h : impl_LandlockedOf.f k l0 = some (r1, r2)) :
  Calls Tryd.prog 30 #[.slice A0 l0.length c0] w fun e w' => e = .returned (.tuple #[.string r1, .int .i64 r2]) ∧ Below w.heap.size w w' := by
 have HR0 := Aside0.mk hr0
 have HC0 := Aside0.mk hc0
 clear hr0 hc0
 have HB := Aside0.mk (Below.refl w.heap.size w)
 have H : ((impl_ValidGrid.f k l0).bind fun t1 => (if t1 = true then ((impl_landsOf.f k l0).bind fun s => (if s.size ≤ 9223372036854775807 then (impl_LandlockedOf.l0 k l0 (g_bytes s) (⟨#[]⟩ : ByteArray) 0) else (none))) else (some ((⟨#[]⟩ : ByteArray), 1)))) = some (r1, r2) := h
 clear h
 replace H := Option.bind_eq_some_iff.mp H
 obtain ⟨t156, A20, H⟩ := H
 replace H : (if t156 = true then ((impl_landsOf.f k l0).bind fun s => (if s.size ≤ 9223372036854775807 then (impl_LandlockedOf.l0 k l0 (g_bytes s) (⟨#[]⟩ : ByteArray) 0) else (none))) else (some ((⟨#[]⟩ : ByteArray), 1))) = some (r1, r2) := H
 have A2 := Aside0.mk A20
 clear A20
 by_cases c3 : t156 = true
 ·subst c3
  have H1 : ((impl_landsOf.f k l0).bind fun s => (if s.size ≤ 9223372036854775807 then (impl_LandlockedOf.l0 k l0 (g_bytes s) (⟨#[]⟩ : ByteArray) 0) else (none))) = some (r1, r2) := by rw [if_pos rfl] at H; exact H
  clear H
  replace H := Option.bind_eq_some_iff.mp H1
  clear H1
  obtain ⟨s, A40, H⟩ := H
  replace H : (if s.size ≤ 9223372036854775807 then (impl_LandlockedOf.l0 k l0 (g_bytes s) (⟨#[]⟩ : ByteArray) 0) else (none)) = some (r1, r2) := H
  have A4 := Aside0.mk A40
  clear A40
  by_cases hs : s.size ≤ 9223372036854775807
  ·rw [if_pos hs] at H
   have HS := Aside0.mk hs
   have H' := Aside0.mk H
   clear H hs
   go_enter Tryd.func30, Tryd.ntmps30
   go_wp2_with (first | ((with_reducible refine gate_callee (f := 15) rfl ?_); refine goesL_ (some 8) rfl rfl Tryd.func15 (by kernel_rfl) rfl #[.slice A0 l0.length c0] rfl (by (try simp only [List.map_toArray, List.map_cons, List.map_nil]); first | done | rfl | (simp only [List.length_drop, List.length_take]; rfl)) ?_; (with_reducible refine (impl_ValidGrid.calls k _ _ l0 true _ ?side1 ?side2 A2.out).mono ?_); (case side1 => repeat (first | exact HR0.out | (with_reducible refine Kd.C_alloc ?_ _) | (with_reducible refine Kd.C_drewN ?_ _) | (with_reducible refine Kd.C_drew ?_))); (case side2 => exact HC0.out); rintro e w5 ⟨rfl, hb⟩; refine ⟨_, rfl, ?_⟩; have n0_ := Aside0.mk (below_step (by repeat (first | (with_reducible first | exact HB.out | apply below_alloc | apply pw_below_drewN | apply below_drew1) | exact HB.out)) hb); clear HB; have HB := n0_; clear n0_; (try clear hb)) | ((with_reducible refine gate_callee (f := 38) rfl ?_); refine goesL_ (some 11) rfl rfl Tryd.func38 (by kernel_rfl) rfl #[.slice A0 l0.length c0] rfl (by (try simp only [List.map_toArray, List.map_cons, List.map_nil]); first | done | rfl | (simp only [List.length_drop, List.length_take]; rfl)) ?_; (with_reducible refine (impl_landsOf.calls k _ _ l0 s _ ?side1 ?side2 A4.out).mono ?_); (case side1 => repeat (first | exact (Kd.C_below HR0.out HB.out) | (with_reducible refine Kd.C_alloc ?_ _) | (with_reducible refine Kd.C_drewN ?_ _) | (with_reducible refine Kd.C_drew ?_))); (case side2 => exact HC0.out); rintro e w6 ⟨rfl, hb⟩; refine ⟨_, rfl, ?_⟩; have n0_ := Aside0.mk (below_step (by repeat (first | (with_reducible first | exact HB.out | apply below_alloc | apply pw_below_drewN | apply below_drew1) | exact HB.out)) hb); clear HB; have HB := n0_; clear n0_; obtain ⟨a7, cap7, w7, e7, hb7, hC7⟩ := g_conv (P := Tryd.prog) (src := 9) (dst := 46) (e := 5) w6 s (by kernel_rfl) (by kernel_rfl) (by kernel_rfl) HS.out; have HC7 := Aside0.mk hC7; have n1_ := Aside0.mk (below_step HB.out hb7); clear HB; have HB := n1_; clear n1_ hC7 hb7; (try clear hb)) | (rw [e7]; clear e7))
   go_loopg [4, 6, 14] k (fun kq v4 v6 v14 w' => ∃ (x4 : ByteArray) (x14 : Int), v4 = .string x4 ∧ v14 = .int .i64 x14 ∧ Aside0 (impl_LandlockedOf.l0 kq l0 (g_bytes s) x4 x14 = some (r1, r2)) ∧ Aside0 (kq ≤ k) ∧ Aside0 (Kd.C (Kd.int .u8) w' (some a7) (g_bytes s).length (g_bytes s)) ∧ Aside0 (Below w.heap.size w w'))
   case atStart => exact ⟨(⟨#[]⟩ : ByteArray), 0, rfl, rfl, H', ⟨Nat.le_refl _⟩, HC7, HB⟩
   case round =>
    clear H' HC7 HB
    obtain ⟨x4, x14, rfl, rfl, HA, HK1, HC7, HB⟩ := hrel
    cases gk with
    | zero => exact absurd HA.out (by simp [impl_LandlockedOf.l0])
    | succ k1 =>
     have H := HA.out
     clear HA
     simp only [impl_LandlockedOf.l0] at H
     by_cases c2 : x14 < ((g_bytes s).length : Int)
     ·rw [if_pos c2] at H
      by_cases c3 : 0 ≤ x14
      ·rw [if_pos c3] at H
       replace H := Option.bind_eq_some_iff.mp H
       obtain ⟨t, A90, H⟩ := H
       replace H : (if t = 0 then (if x4.size + (Utf8.encode (wrap32 (rd (g_bytes s) x14))).size ≤ 9223372036854775807 then (impl_LandlockedOf.l0 k1 l0 (g_bytes s) (x4 ++ (Utf8.encode (wrap32 (rd (g_bytes s) x14)))) (wrap64 (x14 + 1))) else (none)) else (impl_LandlockedOf.l0 k1 l0 (g_bytes s) x4 (wrap64 (x14 + 1)))) = some (r1, r2) := H
       have A9 := Aside0.mk A90
       clear A90
       obtain ⟨ad9, e9, hx9⟩ := Kd.at_int HC7.out x14 c3 c2
       cases e9
       have c2b0 : decide (x14 < ((g_bytes s).length : Int)) = true := decide_eq_true c2
       replace c2 := eq_true c2
       replace c3 := eq_true c3
       by_cases c4 : t = 0
       ·rw [if_pos c4] at H
        have c4b0 : (t == 0) = true := beq_iff_eq.mpr c4
        clear c4
        by_cases c5 : x4.size + (Utf8.encode (wrap32 (rd (g_bytes s) x14))).size ≤ 9223372036854775807
        ·rw [if_pos c5] at H
         have c5b0 := eq_true c5
         have c5b2 : (9223372036854775807 < x4.size + (Utf8.encode (wrap32 (rd (g_bytes s) x14))).size) = False := eq_false (Nat.not_lt.2 c5)
         have H' := Aside0.mk H
         clear H
         go_wp2_with (first | ((with_reducible refine gate_callee (f := 50) rfl ?_); refine goesL_ (some 20) rfl rfl Tryd.func50 (by kernel_rfl) rfl #[.slice A0 l0.length c0, .int .u8 (rd (g_bytes s) x14)] rfl (by (try simp only [List.map_toArray, List.map_cons, List.map_nil]); first | done | rfl | (simp only [List.length_drop, List.length_take]; rfl)) ?_; (with_reducible refine (impl_coastOf.calls k1 _ _ l0 (rd (g_bytes s) x14) t _ ?side1 ?side2 A9.out).mono ?_); (case side1 => repeat (first | exact (Kd.C_below HR0.out HB.out) | (with_reducible refine Kd.C_alloc ?_ _) | (with_reducible refine Kd.C_drewN ?_ _) | (with_reducible refine Kd.C_drew ?_))); (case side2 => exact HC0.out); rintro e w8 ⟨rfl, hb⟩; refine ⟨_, rfl, ?_⟩; have n0_ := Aside0.mk (below_step (by repeat (first | (with_reducible first | exact HB.out | apply below_alloc | apply pw_below_drewN | apply below_drew1) | exact HB.out)) hb); clear HB; have HB := n0_; clear n0_; have n2_ := Aside0.mk (Kd.C_below HC7.out hb); clear HC7; have HC7 := n2_; clear n2_; (try clear hb)))
         go_roundg k1
         case measure => have := HK1.out; omega
         case rel => exact ⟨(x4 ++ (Utf8.encode (wrap32 (rd (g_bytes s) x14)))), (wrap64 (x14 + 1)), (by first | rfl | (simp; done) | (simp [*]; done)), (by first | rfl | (simp; done) | (simp [*]; done)), H', ⟨by have := HK1.out; omega⟩, HC7, ⟨(by repeat (first | (with_reducible first | exact HB.out | apply below_alloc | apply pw_below_drewN | apply below_drew1) | exact HB.out))⟩⟩

        ·rw [if_neg c5] at H
         exact absurd H (by simp)
       ·rw [if_neg c4] at H
        have c4b0 : (t == 0) = false := beq_eq_false_iff_ne.mpr c4
        clear c4
        have H' := Aside0.mk H
        clear H
        go_wp2_with (first | ((with_reducible refine gate_callee (f := 50) rfl ?_); refine goesL_ (some 20) rfl rfl Tryd.func50 (by kernel_rfl) rfl #[.slice A0 l0.length c0, .int .u8 (rd (g_bytes s) x14)] rfl (by (try simp only [List.map_toArray, List.map_cons, List.map_nil]); first | done | rfl | (simp only [List.length_drop, List.length_take]; rfl)) ?_; (with_reducible refine (impl_coastOf.calls k1 _ _ l0 (rd (g_bytes s) x14) t _ ?side1 ?side2 A9.out).mono ?_); (case side1 => repeat (first | exact (Kd.C_below HR0.out HB.out) | (with_reducible refine Kd.C_alloc ?_ _) | (with_reducible refine Kd.C_drewN ?_ _) | (with_reducible refine Kd.C_drew ?_))); (case side2 => exact HC0.out); rintro e w9 ⟨rfl, hb⟩; refine ⟨_, rfl, ?_⟩; have n0_ := Aside0.mk (below_step (by repeat (first | (with_reducible first | exact HB.out | apply below_alloc | apply pw_below_drewN | apply below_drew1) | exact HB.out)) hb); clear HB; have HB := n0_; clear n0_; have n2_ := Aside0.mk (Kd.C_below HC7.out hb); clear HC7; have HC7 := n2_; clear n2_; (try clear hb)))
        go_roundg k1
        case measure => have := HK1.out; omega
        case rel => exact ⟨(x4), (wrap64 (x14 + 1)), (by first | rfl | (simp; done) | (simp [*]; done)), (by first | rfl | (simp; done) | (simp [*]; done)), H', ⟨by have := HK1.out; omega⟩, HC7, ⟨(by repeat (first | (with_reducible first | exact HB.out | apply below_alloc | apply pw_below_drewN | apply below_drew1) | exact HB.out))⟩⟩

      ·rw [if_neg c3] at H
       exact absurd H (by simp)
     ·rw [if_neg c2] at H
      have c2b0 : decide (x14 < ((g_bytes s).length : Int)) = false := decide_eq_false c2
      clear c2
      simp only [Option.some.injEq, Prod.mk.injEq] at H
      obtain ⟨rfl, rfl⟩ := H
      go_wp2
      go_ret2
      exact ⟨by first | rfl | (simp [errW_none, errW_some] <;> rfl) | (simp [*, errW_none, errW_some] <;> rfl), (by repeat (first | (with_reducible first | exact HB.out | apply below_alloc | apply pw_below_drewN | apply below_drew1) | exact HB.out))⟩
  ·rw [if_neg hs] at H
   exact absurd H (by simp)
 ·replace c3 := Bool.eq_false_iff.mpr c3
  subst c3
  have H1 : (some ((⟨#[]⟩ : ByteArray), 1)) = some (r1, r2) := by rw [if_neg (show ¬ (false = true) by decide)] at H; exact H
  clear H
  simp only [Option.some.injEq, Prod.mk.injEq] at H1
  obtain ⟨rfl, rfl⟩ := H1
  go_enter Tryd.func30, Tryd.ntmps30
  go_wp2_with (first | ((with_reducible refine gate_callee (f := 15) rfl ?_); refine goesL_ (some 8) rfl rfl Tryd.func15 (by kernel_rfl) rfl #[.slice A0 l0.length c0] rfl (by (try simp only [List.map_toArray, List.map_cons, List.map_nil]); first | done | rfl | (simp only [List.length_drop, List.length_take]; rfl)) ?_; (with_reducible refine (impl_ValidGrid.calls k _ _ l0 false _ ?side1 ?side2 A2.out).mono ?_); (case side1 => repeat (first | exact HR0.out | (with_reducible refine Kd.C_alloc ?_ _) | (with_reducible refine Kd.C_drewN ?_ _) | (with_reducible refine Kd.C_drew ?_))); (case side2 => exact HC0.out); rintro e w5 ⟨rfl, hb⟩; refine ⟨_, rfl, ?_⟩; have n0_ := Aside0.mk (below_step (by repeat (first | (with_reducible first | exact HB.out | apply below_alloc | apply pw_below_drewN | apply below_drew1) | exact HB.out)) hb); clear HB; have HB := n0_; clear n0_; (try clear hb)))
  go_ret2
  exact ⟨by first | rfl | (simp [errW_none, errW_some] <;> rfl) | (simp [*, errW_none, errW_some] <;> rfl), (by repeat (first | (with_reducible first | exact HB.out | apply below_alloc | apply pw_below_drewN | apply below_drew1) | exact HB.out))⟩

/-! ### laws_FnExactLandlockedOf: function 9 -/
def laws_FnExactLandlockedOf.j0 : Nat → List ByteArray → List ByteArray → Bool → Option (Bool)
  | 0, _, _, _ => none
  | k + 1, x0, x6, x34 => if x34 = true then (none) else ((laws_toStringS.f k x0).bind fun t188 => ((laws_eqStringS.f k x6 t188).bind fun t191 => (if t191 = true then (some true) else (none))))
def laws_FnExactLandlockedOf.f (k : Nat) (l0 : List ByteArray) : Option (Bool) := (laws_szStringS.f k l0 1048576).bind fun t177 => (if t177 < 0 then (some true) else ((laws_toStringS.f k l0).bind fun t178 => ((spec_LandlockedOf.f k t178).bind fun bt181 => ((laws_toStringS.f k l0).bind fun t183 => ((impl_LandlockedOf.f k t183).bind fun bt186 => (if bt186.1.toList = bt181.1.toList then (laws_FnExactLandlockedOf.j0 k l0 t183 (bt186.2 != bt181.2)) else (none)))))))
theorem laws_FnExactLandlockedOf.mono_l : ∀ k, (∀ y0 y1 y2, LeO (laws_FnExactLandlockedOf.j0 k y0 y1 y2) (laws_FnExactLandlockedOf.j0 (k + 1) y0 y1 y2))
  | 0 => fun _ _ _ r h => by simp [laws_FnExactLandlockedOf.j0] at h
  | k + 1 => by
    have ih0 := laws_FnExactLandlockedOf.mono_l k
    · intro y0 y1 y2
      unfold laws_FnExactLandlockedOf.j0
      repeat' first
      | (with_reducible exact ih0 _ _ _)
      | (with_reducible exact impl_LandlockedOf.mono _ _)
      | (with_reducible exact laws_eqStringS.mono _ _ _)
      | (with_reducible exact laws_szStringS.mono _ _ _)
      | (with_reducible exact laws_toStringS.mono _ _)
      | (with_reducible exact spec_LandlockedOf.mono _ _)
      | (with_reducible exact LeO.refl _)
      | (with_reducible exact LeO.none _)
      | (with_reducible refine LeO.ite ?_ ?_)
      | (with_reducible refine LeO.bind ?_ (fun _ => ?_))
      | exact ih0 _ _ _
      | exact impl_LandlockedOf.mono _ _
      | exact laws_eqStringS.mono _ _ _
      | exact laws_szStringS.mono _ _ _
      | exact laws_toStringS.mono _ _
      | exact spec_LandlockedOf.mono _ _
      | exact LeO.none _
      | refine LeO.ite ?_ ?_
      | refine LeO.bind ?_ (fun _ => ?_)
theorem laws_FnExactLandlockedOf.mono : ∀ a0 k, LeO (laws_FnExactLandlockedOf.f k a0) (laws_FnExactLandlockedOf.f (k + 1) a0) := by
  intro a0 k
  have ih0 := laws_FnExactLandlockedOf.mono_l k
  unfold laws_FnExactLandlockedOf.f
  repeat' first
      | (with_reducible exact ih0 _ _ _)
      | (with_reducible exact impl_LandlockedOf.mono _ _)
      | (with_reducible exact laws_eqStringS.mono _ _ _)
      | (with_reducible exact laws_szStringS.mono _ _ _)
      | (with_reducible exact laws_toStringS.mono _ _)
      | (with_reducible exact spec_LandlockedOf.mono _ _)
      | (with_reducible exact LeO.refl _)
      | (with_reducible exact LeO.none _)
      | (with_reducible refine LeO.ite ?_ ?_)
      | (with_reducible refine LeO.bind ?_ (fun _ => ?_))
      | exact ih0 _ _ _
      | exact impl_LandlockedOf.mono _ _
      | exact laws_eqStringS.mono _ _ _
      | exact laws_szStringS.mono _ _ _
      | exact laws_toStringS.mono _ _
      | exact spec_LandlockedOf.mono _ _
      | exact LeO.none _
      | refine LeO.ite ?_ ?_
      | refine LeO.bind ?_ (fun _ => ?_)
set_option maxHeartbeats 8000000 in
set_option maxRecDepth 100000 in
theorem laws_FnExactLandlockedOf.calls (k : Nat) (A0 : Option Addr) (c0 : Nat) (l0 : List ByteArray) (r : Bool) (w : World) (hr0 : Kd.C Kd.string w A0 l0.length l0) (hc0 : l0.length ≤ c0) (h : laws_FnExactLandlockedOf.f k l0 = some r) :
    Calls Tryd.prog 9 #[.slice A0 l0.length c0] w fun e w' => e = .returned (.bool r) ∧ Below w.heap.size w w' := by
  have HR0 := Aside0.mk hr0
  have HC0 := Aside0.mk hc0
  clear hr0 hc0
  have HB := Aside0.mk (Below.refl w.heap.size w)
  have H : ((laws_szStringS.f k l0 1048576).bind fun t177 => (if t177 < 0 then (some true) else ((laws_toStringS.f k l0).bind fun t178 => ((spec_LandlockedOf.f k t178).bind fun bt181 => ((laws_toStringS.f k l0).bind fun t183 => ((impl_LandlockedOf.f k t183).bind fun bt186 => (if bt186.1.toList = bt181.1.toList then (laws_FnExactLandlockedOf.j0 k l0 t183 (bt186.2 != bt181.2)) else (none)))))))) = some r := h
  clear h
  replace H := Option.bind_eq_some_iff.mp H
  obtain ⟨t177, A20, H⟩ := H
  replace H : (if t177 < 0 then (some true) else ((laws_toStringS.f k l0).bind fun t178 => ((spec_LandlockedOf.f k t178).bind fun bt181 => ((laws_toStringS.f k l0).bind fun t183 => ((impl_LandlockedOf.f k t183).bind fun bt186 => (if bt186.1.toList = bt181.1.toList then (laws_FnExactLandlockedOf.j0 k l0 t183 (bt186.2 != bt181.2)) else (none))))))) = some r := H
  have A2 := Aside0.mk A20
  clear A20
  by_cases c3 : t177 < 0
  · rw [if_pos c3] at H
    have c3b0 : decide (t177 < 0) = true := decide_eq_true c3
    clear c3
    obtain rfl := Option.some.inj H
    go_enter Tryd.func9, Tryd.ntmps9
    go_wp2_with (first | ((with_reducible refine gate_callee (f := 12) rfl ?_); refine goesL_ (some 11) rfl rfl Tryd.func12 (by kernel_rfl) rfl #[.slice A0 l0.length c0, .int .i64 1048576] rfl (by (try simp only [List.map_toArray, List.map_cons, List.map_nil]); first | done | rfl | (simp only [List.length_drop, List.length_take]; rfl)) ?_; (with_reducible refine (laws_szStringS.calls k _ _ l0 1048576 t177 _ ?side1 ?side2 A2.out).mono ?_); (case side1 => repeat (first | exact HR0.out | (with_reducible refine Kd.C_alloc ?_ _) | (with_reducible refine Kd.C_drewN ?_ _) | (with_reducible refine Kd.C_drew ?_))); (case side2 => exact HC0.out); rintro e w' ⟨rfl, ⟨nd, rfl⟩⟩; refine ⟨_, rfl, ?_⟩))
    go_ret
    exact ⟨by first | rfl | (simp [errW_none, errW_some] <;> rfl) | (simp [*, errW_none, errW_some] <;> rfl), by repeat (first | (with_reducible first | exact HB.out | apply below_alloc | apply pw_below_drewN | apply below_drew1) | exact HB.out)⟩
  · rw [if_neg c3] at H
    have c3b0 : decide (t177 < 0) = false := decide_eq_false c3
    clear c3
    replace H := Option.bind_eq_some_iff.mp H
    obtain ⟨t178, A40, H⟩ := H
    replace H : ((spec_LandlockedOf.f k t178).bind fun bt181 => ((laws_toStringS.f k l0).bind fun t183 => ((impl_LandlockedOf.f k t183).bind fun bt186 => (if bt186.1.toList = bt181.1.toList then (laws_FnExactLandlockedOf.j0 k l0 t183 (bt186.2 != bt181.2)) else (none))))) = some r := H
    have A4 := Aside0.mk A40
    clear A40
    replace H := Option.bind_eq_some_iff.mp H
    obtain ⟨⟨t181, t182⟩, A50, H⟩ := H
    replace H : ((laws_toStringS.f k l0).bind fun t183 => ((impl_LandlockedOf.f k t183).bind fun bt186 => (if bt186.1.toList = t181.toList then (laws_FnExactLandlockedOf.j0 k l0 t183 (bt186.2 != t182)) else (none)))) = some r := H
    have A5 := Aside0.mk A50
    clear A50
    replace H := Option.bind_eq_some_iff.mp H
    obtain ⟨t183, A60, H⟩ := H
    replace H : ((impl_LandlockedOf.f k t183).bind fun bt186 => (if bt186.1.toList = t181.toList then (laws_FnExactLandlockedOf.j0 k l0 t183 (bt186.2 != t182)) else (none))) = some r := H
    have A6 := Aside0.mk A60
    clear A60
    replace H := Option.bind_eq_some_iff.mp H
    obtain ⟨⟨t186, t187⟩, A70, H⟩ := H
    replace H : (if t186.toList = t181.toList then (laws_FnExactLandlockedOf.j0 k l0 t183 (t187 != t182)) else (none)) = some r := H
    have A7 := Aside0.mk A70
    clear A70
    have HC8 := Aside0.mk H
    clear H
    go_enter Tryd.func9, Tryd.ntmps9
    go_upto_region 8 with (first | ((with_reducible refine gate_callee (f := 12) rfl ?_); refine goesL_ (some 11) rfl rfl Tryd.func12 (by kernel_rfl) rfl #[.slice A0 l0.length c0, .int .i64 1048576] rfl (by (try simp only [List.map_toArray, List.map_cons, List.map_nil]); first | done | rfl | (simp only [List.length_drop, List.length_take]; rfl)) ?_; (with_reducible refine (laws_szStringS.calls k _ _ l0 1048576 t177 _ ?side1 ?side2 A2.out).mono ?_); (case side1 => repeat (first | exact HR0.out | (with_reducible refine Kd.C_alloc ?_ _) | (with_reducible refine Kd.C_drewN ?_ _) | (with_reducible refine Kd.C_drew ?_))); (case side2 => exact HC0.out); rintro e w' ⟨rfl, ⟨nd, rfl⟩⟩; refine ⟨_, rfl, ?_⟩) | ((with_reducible refine gate_callee (f := 14) rfl ?_); refine goesL_ (some 16) rfl rfl Tryd.func14 (by kernel_rfl) rfl #[.slice A0 l0.length c0] rfl (by (try simp only [List.map_toArray, List.map_cons, List.map_nil]); first | done | rfl | (simp only [List.length_drop, List.length_take]; rfl)) ?_; (with_reducible refine (laws_toStringS.calls k _ _ l0 t178 _ ?side1 ?side2 A4.out).mono ?_); (case side1 => repeat (first | exact HR0.out | (with_reducible refine Kd.C_alloc ?_ _) | (with_reducible refine Kd.C_drewN ?_ _) | (with_reducible refine Kd.C_drew ?_))); (case side2 => exact HC0.out); rintro e w9 ⟨v179, rfl, ho0, hb⟩; refine ⟨_, rfl, ?_⟩; have n0_ := Aside0.mk (Kd.R_lower ho0 (below_size (by repeat (first | (with_reducible first | exact HB.out | apply below_alloc | apply pw_below_drewN | apply below_drew1) | exact HB.out)))); have n1_ := Aside0.mk (below_step (by repeat (first | (with_reducible first | exact HB.out | apply below_alloc | apply pw_below_drewN | apply below_drew1) | exact HB.out)) hb); clear HB; have HO180 := n0_; have HB := n1_; clear n0_ n1_; (try clear hb); (try clear hb2); (try clear hk); (try clear hi); (try clear ho0); obtain ⟨Ao10, co10, eo10⟩ := Kd.R_slice HO180.out; subst eo10) | ((with_reducible refine gate_callee (f := 29) rfl ?_); refine goesL_ (some 17) rfl rfl Tryd.func29 (by kernel_rfl) rfl #[.slice Ao10 t178.length co10] rfl (by (try simp only [List.map_toArray, List.map_cons, List.map_nil]); first | done | rfl | (simp only [List.length_drop, List.length_take]; rfl)) ?_; (with_reducible refine (spec_LandlockedOf.calls k _ _ t178 t181 t182 _ ?side1 ?side2 A5.out).mono ?_); (case side1 => repeat (first | exact (Kd.R_reads' HO180.out).2.2 | (with_reducible refine Kd.C_alloc ?_ _) | (with_reducible refine Kd.C_drewN ?_ _) | (with_reducible refine Kd.C_drew ?_))); (case side2 => exact (Kd.R_reads' HO180.out).2.1); rintro e w11 ⟨rfl, hb⟩; refine ⟨_, rfl, ?_⟩; have n0_ := Aside0.mk (Kd.R_below (by (with_reducible repeat (first | apply Kd.R_alloc | apply Kd.R_drewN | apply Kd.R_drew)); exact HO180.out) hb); have n1_ := Aside0.mk (below_step (by repeat (first | (with_reducible first | exact HB.out | apply below_alloc | apply pw_below_drewN | apply below_drew1) | exact HB.out)) hb); clear HO180; clear HB; have HO180 := n0_; have HB := n1_; clear n0_ n1_; (try clear hb); (try clear hb2); (try clear hk); (try clear hi)) | ((with_reducible refine gate_callee (f := 14) rfl ?_); refine goesL_ (some 21) rfl rfl Tryd.func14 (by kernel_rfl) rfl #[.slice A0 l0.length c0] rfl (by (try simp only [List.map_toArray, List.map_cons, List.map_nil]); first | done | rfl | (simp only [List.length_drop, List.length_take]; rfl)) ?_; (with_reducible refine (laws_toStringS.calls k _ _ l0 t183 _ ?side1 ?side2 A6.out).mono ?_); (case side1 => repeat (first | exact (Kd.C_below HR0.out HB.out) | (with_reducible refine Kd.C_alloc ?_ _) | (with_reducible refine Kd.C_drewN ?_ _) | (with_reducible refine Kd.C_drew ?_))); (case side2 => exact HC0.out); rintro e w12 ⟨v184, rfl, ho0, hb⟩; refine ⟨_, rfl, ?_⟩; have n0_ := Aside0.mk (Kd.R_elder' (by (with_reducible repeat (first | apply Kd.R_alloc | apply Kd.R_drewN | apply Kd.R_drew)); exact HO180.out) (Kd.R_base ho0) hb); have n1_ := Aside0.mk (Kd.R_lower (Kd.R_new' ho0 (Kd.R_lt (by (with_reducible repeat (first | apply Kd.R_alloc | apply Kd.R_drewN | apply Kd.R_drew)); exact HO180.out))) (below_size (by repeat (first | (with_reducible first | exact HB.out | apply below_alloc | apply pw_below_drewN | apply below_drew1) | exact HB.out)))); have n2_ := Aside0.mk (below_step (by repeat (first | (with_reducible first | exact HB.out | apply below_alloc | apply pw_below_drewN | apply below_drew1) | exact HB.out)) hb); clear HO180; clear HB; have HO180 := n0_; have HO185 := n1_; have HB := n2_; clear n0_ n1_ n2_; (try clear hb); (try clear hb2); (try clear hk); (try clear hi); (try clear ho0); obtain ⟨Ao13, co13, eo13⟩ := Kd.R_slice HO185.out; subst eo13) | ((with_reducible refine gate_callee (f := 30) rfl ?_); refine goesL_ (some 24) rfl rfl Tryd.func30 (by kernel_rfl) rfl #[.slice Ao13 t183.length co13] rfl (by (try simp only [List.map_toArray, List.map_cons, List.map_nil]); first | done | rfl | (simp only [List.length_drop, List.length_take]; rfl)) ?_; (with_reducible refine (impl_LandlockedOf.calls k _ _ t183 t186 t187 _ ?side1 ?side2 A7.out).mono ?_); (case side1 => repeat (first | exact (Kd.R_reads' HO185.out).2.2 | (with_reducible refine Kd.C_alloc ?_ _) | (with_reducible refine Kd.C_drewN ?_ _) | (with_reducible refine Kd.C_drew ?_))); (case side2 => exact (Kd.R_reads' HO185.out).2.1); rintro e w14 ⟨rfl, hb⟩; refine ⟨_, rfl, ?_⟩; have n0_ := Aside0.mk (Kd.R_below (by (with_reducible repeat (first | apply Kd.R_alloc | apply Kd.R_drewN | apply Kd.R_drew)); exact HO180.out) hb); have n1_ := Aside0.mk (Kd.R_below (by (with_reducible repeat (first | apply Kd.R_alloc | apply Kd.R_drewN | apply Kd.R_drew)); exact HO185.out) hb); have n2_ := Aside0.mk (below_step (by repeat (first | (with_reducible first | exact HB.out | apply below_alloc | apply pw_below_drewN | apply below_drew1) | exact HB.out)) hb); clear HO180; clear HO185; clear HB; have HO180 := n0_; have HO185 := n1_; have HB := n2_; clear n0_ n1_ n2_; (try clear hb); (try clear hb2); (try clear hk); (try clear hi)))
    (try simp only [Act.put, List.setIfInBounds_toArray, List.set_cons_zero, List.set_cons_succ])
    go_cut [34] (fun v34 wc => ∃ (kq : Nat) (x34_7 : Bool), v34 = .bool x34_7 ∧ Aside0 (laws_FnExactLandlockedOf.j0 kq l0 t183 x34_7 = some r) ∧ Aside0 (kq ≤ k) ∧ Aside0 (Kd.R Kd.string 9 wc w.heap.size (fun _ => True) (.slice Ao13 t183.length co13) t183) ∧ Aside0 (Below w.heap.size w wc))
    case first =>
      have H := HC8.out
      clear HC8
      by_cases c15 : t186.toList = t181.toList
      · rw [if_pos c15] at H
        have c15b0 : (t186.toList == t181.toList) = true := beq_iff_eq.mpr c15
        have c15b1 : (t186.toList != t181.toList) = false := bne_eq_false_iff_eq.mpr c15
        clear c15
        (first | rw [c15b0] | (simp only [i64_w, i32_w]; rw [c15b0]) | skip)
        have H' := Aside0.mk H
        clear H
        go_wp2
        go_meet
        case rel => exact ⟨_, ((t187 != t182)), (by first | rfl | (simp; done) | (simp [*]; done)), H', ⟨by first | omega | exact Nat.le_refl _⟩, ⟨by (with_reducible repeat (first | apply Kd.R_alloc | apply Kd.R_drewN | apply Kd.R_drew)); exact Kd.R_mono HO185.out (fun _ hk => trivial)⟩, ⟨by repeat (first | (with_reducible first | exact HB.out | apply below_alloc | apply pw_below_drewN | apply below_drew1) | exact HB.out)⟩⟩
      · rw [if_neg c15] at H
        exact absurd H (by simp)
    case rest =>
      clear HC8
      try clear c1
      try clear c2
      try clear p2
      try clear c3
      try clear c3b0
      try clear c9
      try clear c12
      try clear c14
      try clear c15
      try clear c15b0
      try clear c15b1
      obtain ⟨kq, x34_7, rfl, HA, HJ7, HO_6, HB⟩ := hcut
      cases kq with
      | zero => exact absurd HA.out (by simp [laws_FnExactLandlockedOf.j0])
      | succ kj7 =>
        have H := HA.out
        clear HA
        simp only [laws_FnExactLandlockedOf.j0] at H
        by_cases c16 : x34_7 = true
        · subst c16
          have H1 : (none) = some r := by rw [if_pos rfl] at H; exact H
          clear H
          have H := H1
          clear H1
          exact absurd H (by simp)
        · replace c16 := Bool.eq_false_iff.mpr c16
          subst c16
          have H1 : ((laws_toStringS.f kj7 l0).bind fun t188 => ((laws_eqStringS.f kj7 t183 t188).bind fun t191 => (if t191 = true then (some true) else (none)))) = some r := by rw [if_neg (show ¬ (false = true) by decide)] at H; exact H
          clear H
          have H := H1
          clear H1
          replace H := Option.bind_eq_some_iff.mp H
          obtain ⟨t188, A170, H⟩ := H
          replace H : ((laws_eqStringS.f kj7 t183 t188).bind fun t191 => (if t191 = true then (some true) else (none))) = some r := H
          have A17 := Aside0.mk A170
          clear A170
          replace H := Option.bind_eq_some_iff.mp H
          obtain ⟨t191, A180, H⟩ := H
          replace H : (if t191 = true then (some true) else (none)) = some r := H
          have A18 := Aside0.mk A180
          clear A180
          by_cases c19 : t191 = true
          · subst c19
            have H1 : (some true) = some r := by rw [if_pos rfl] at H; exact H
            clear H
            have H := H1
            clear H1
            obtain rfl := Option.some.inj H
            go_wp2_with (first | ((with_reducible refine gate_callee (f := 14) rfl ?_); refine goesL_ (some 37) rfl rfl Tryd.func14 (by kernel_rfl) rfl #[.slice A0 l0.length c0] rfl (by (try simp only [List.map_toArray, List.map_cons, List.map_nil]); first | done | rfl | (simp only [List.length_drop, List.length_take]; rfl)) ?_; (with_reducible refine (laws_toStringS.calls kj7 _ _ l0 t188 _ ?side1 ?side2 A17.out).mono ?_); (case side1 => repeat (first | exact (Kd.C_below HR0.out HB.out) | (with_reducible refine Kd.C_alloc ?_ _) | (with_reducible refine Kd.C_drewN ?_ _) | (with_reducible refine Kd.C_drew ?_))); (case side2 => exact HC0.out); rintro e w20 ⟨v189, rfl, ho0, hb⟩; refine ⟨_, rfl, ?_⟩; have n0_ := Aside0.mk (Kd.R_elder' (by (with_reducible repeat (first | apply Kd.R_alloc | apply Kd.R_drewN | apply Kd.R_drew)); exact HO_6.out) (Kd.R_base ho0) hb); have n1_ := Aside0.mk (Kd.R_lower (Kd.R_new' ho0 (Kd.R_lt (by (with_reducible repeat (first | apply Kd.R_alloc | apply Kd.R_drewN | apply Kd.R_drew)); exact HO_6.out))) (below_size (by repeat (first | (with_reducible first | exact HB.out | apply below_alloc | apply pw_below_drewN | apply below_drew1) | exact HB.out)))); have n2_ := Aside0.mk (below_step (by repeat (first | (with_reducible first | exact HB.out | apply below_alloc | apply pw_below_drewN | apply below_drew1) | exact HB.out)) hb); clear HO_6; clear HB; have HO_6 := n0_; have HO190 := n1_; have HB := n2_; clear n0_ n1_ n2_; (try clear hb); (try clear hb2); (try clear hk); (try clear hi); (try clear ho0); obtain ⟨Ao21, co21, eo21⟩ := Kd.R_slice HO190.out; subst eo21) | ((with_reducible refine gate_callee (f := 16) rfl ?_); refine goesL_ (some 38) rfl rfl Tryd.func16 (by kernel_rfl) rfl #[.slice Ao13 t183.length co13, .slice Ao21 t188.length co21] rfl (by (try simp only [List.map_toArray, List.map_cons, List.map_nil]); first | done | rfl | (simp only [List.length_drop, List.length_take]; rfl)) ?_; (with_reducible refine (laws_eqStringS.calls kj7 _ _ t183 _ _ t188 true _ ?side1 ?side2 ?side3 ?side4 A18.out).mono ?_); (case side1 => repeat (first | exact (Kd.R_reads' HO_6.out).2.2 | (with_reducible refine Kd.C_alloc ?_ _) | (with_reducible refine Kd.C_drewN ?_ _) | (with_reducible refine Kd.C_drew ?_))); (case side2 => exact (Kd.R_reads' HO_6.out).2.1); (case side3 => repeat (first | exact (Kd.R_reads' HO190.out).2.2 | (with_reducible refine Kd.C_alloc ?_ _) | (with_reducible refine Kd.C_drewN ?_ _) | (with_reducible refine Kd.C_drew ?_))); (case side4 => exact (Kd.R_reads' HO190.out).2.1); rintro e w' ⟨rfl, ⟨nd, rfl⟩⟩; refine ⟨_, rfl, ?_⟩))
            go_ret
            exact ⟨by first | rfl | (simp [errW_none, errW_some] <;> rfl) | (simp [*, errW_none, errW_some] <;> rfl), by repeat (first | (with_reducible first | exact HB.out | apply below_alloc | apply pw_below_drewN | apply below_drew1) | exact HB.out)⟩
          · replace c19 := Bool.eq_false_iff.mpr c19
            subst c19
            have H1 : (none) = some r := by rw [if_neg (show ¬ (false = true) by decide)] at H; exact H
            clear H
            have H := H1
            clear H1
            exact absurd H (by simp)

/-- THE ONE PURE STATEMENT of laws_FnExactLandlockedOf. -/
def laws_FnExactLandlockedOf.Pure : Prop := ∀ (l0 : List ByteArray), wfS wfStr l0 → l0.length * 16 ≤ 140737488351232 → ∃ k, laws_FnExactLandlockedOf.f k l0 = some true

end Go.Proofs.YtphaebmhhgkkcaaDoor.Print
