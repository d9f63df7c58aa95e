-- Printed by a program of this session out of the translation; not trusted: Lean checks it.
import Derived.Test.YtgblbmbdadjicaaPrint0
import Derived.Laws.Externs
namespace Go.Proofs.Ytgblbmbdadjicaa.Print
open Go.RowKit Go.Proofs.YtgblbmbdadjicaaW.PrintWords Go.Proofs.YtgblbmbdadjicaaW.PrintLast Go.Proofs.YtgblbmbdadjicaaW.PrintMore
attribute [local go_sem] max2_int min2_int max_two min_two max_three min_three max_four min_four   -- for this text's walks alone
set_option linter.unusedVariables false
set_option linter.unusedSimpArgs false

/-! ### impl_root: function 86 -/
-- imports: Derived.Laws.Externs
theorem g_bool (b : Bool) : b.toNat ≤ 1 := by cases b <;> decide
theorem g_cut_even (neg : Bool) (m drop t : Nat) (h : m < 2 ^ (drop + t)) : Ieee.Toward.even.cut neg m drop ≤ 2 ^ t := by
  unfold Ieee.Toward.cut
  dsimp only
  rw [Nat.one_shiftLeft]
  have key : m / 2 ^ (min drop (m.log2 + 2)) + 1 ≤ 2 ^ t := by
    by_cases hd : drop ≤ m.log2 + 2
    · rw [Nat.min_eq_left hd]
      have : m / 2 ^ drop < 2 ^ t := Nat.div_lt_of_lt_mul (by rw [← Nat.pow_add]; exact h)
      omega
    · rw [Nat.min_eq_right (by omega)]
      have h1 : m < 2 ^ (m.log2 + 1) := Nat.lt_log2_self
      have h2 : 2 ^ (m.log2 + 1) ≤ 2 ^ (m.log2 + 2) := Nat.pow_le_pow_right (by decide) (by omega)
      rw [Nat.div_eq_of_lt (by omega)]
      have := Nat.two_pow_pos t
      omega
  refine Nat.le_trans (Nat.add_le_add_left (g_bool _) _) key
theorem g_cut_zero (neg : Bool) (m drop t : Nat) (h : m < 2 ^ (drop + t)) : Ieee.Toward.zero.cut neg m drop < 2 ^ t := by
  unfold Ieee.Toward.cut
  dsimp only
  rw [Nat.one_shiftLeft]
  show m / 2 ^ (min drop (m.log2 + 2)) + 0 < 2 ^ t
  rw [Nat.add_zero]
  by_cases hd : drop ≤ m.log2 + 2
  · rw [Nat.min_eq_left hd]
    exact Nat.div_lt_of_lt_mul (by rw [← Nat.pow_add]; exact h)
  · rw [Nat.min_eq_right (by omega)]
    have h1 : m < 2 ^ (m.log2 + 1) := Nat.lt_log2_self
    have h2 : 2 ^ (m.log2 + 1) ≤ 2 ^ (m.log2 + 2) := Nat.pow_le_pow_right (by decide) (by omega)
    rw [Nat.div_eq_of_lt (by omega)]
    exact Nat.two_pow_pos t
/-- A number that is not great, written and read again. -/
theorem g_write (mag a : Nat) (p : Int) (hm : mag < 2 ^ a) (ha : p + (a : Int) ≤ 23) : ∃ (M : Nat) (P : Int), Ieee.double.read (Ieee.double.nearest false mag p) = .number false M P ∧ M < 2 ^ 53 ∧ P ≤ -29 := by
  have hb : Ieee.double.binade = 2 ^ 52 := rfl
  have hi : Ieee.double.infRung = 2047 * 2 ^ 52 := rfl
  have hs : Ieee.double.signWeight = 2 ^ 63 := rfl
  have hl : Ieee.double.leastPlace = -1074 := rfl
  have hf : Ieee.double.fractionBits = 52 := rfl
  have rd : ∀ r : Nat, r ≤ 1046 * 2 ^ 52 → ∃ (M : Nat) (P : Int), Ieee.double.read (Ieee.double.word false r) = .number false M P ∧ M < 2 ^ 53 ∧ P ≤ -29 := by
    intro r hr
    have hw : Ieee.double.word false r = r := rfl
    unfold Ieee.Format.read
    dsimp only
    rw [hw, hb, hi, hs, hl]
    have h1 : r / 2 ^ 63 = 0 := Nat.div_eq_of_lt (by omega)
    have h2 : r % 2 ^ 63 = r := Nat.mod_eq_of_lt (by omega)
    rw [h1, h2]
    by_cases hc : r < 2 ^ 52
    · rw [if_pos hc]; exact ⟨r, -1074, rfl, by omega, by decide⟩
    · rw [if_neg hc, if_pos (by omega)]
      refine ⟨_, _, rfl, ?_, ?_⟩
      · have := Nat.mod_lt r (show 0 < 2 ^ 52 by decide); omega
      · have : r / 2 ^ 52 ≤ 1046 := by omega
        omega
  unfold Ieee.Format.nearest
  by_cases h0 : mag = 0
  · rw [if_pos h0]; exact rd 0 (by omega)
  rw [if_neg h0]
  dsimp only
  rw [hb, hi, hl, hf]
  have hL : mag.log2 < a := (Nat.log2_lt h0).2 hm
  have hlt : mag < 2 ^ (mag.log2 + 1) := Nat.lt_log2_self
  generalize mag.log2 = L at hL hlt
  generalize hla : max (p + (L : Int) - ((52 : Nat) : Int)) (-1074) = last
  have hk : Ieee.Toward.even.cut false (mag <<< (p - last).toNat) (last - p).toNat ≤ 2 ^ 53 := by
    apply g_cut_even
    rw [Nat.shiftLeft_eq]
    have e : 2 ^ (L + 1) * 2 ^ (p - last).toNat = 2 ^ (L + 1 + (p - last).toNat) := (Nat.pow_add ..).symm
    refine Nat.lt_of_lt_of_le (Nat.mul_lt_mul_of_pos_right hlt (Nat.two_pow_pos _)) ?_
    rw [e]
    exact Nat.pow_le_pow_right (by decide) (by omega)
  refine rd _ (Nat.le_trans (Nat.min_le_left _ _) ?_)
  have hp : (last - -1074).toNat ≤ 1044 := by omega
  generalize (last - -1074).toNat = z at hp ⊢
  generalize Ieee.Toward.even.cut false (mag <<< (p - last).toNat) (last - p).toNat = c at hk ⊢
  clear rd hla hlt hm
  omega
theorem g_rootFrom (n : Nat) : ∀ (t r : Nat), r % 2 ^ t = 0 → Ieee.Datum.rootFrom n t r < r + 2 ^ t
 | 0, r, _ => by unfold Ieee.Datum.rootFrom; omega
 | t + 1, r, h => by
  unfold Ieee.Datum.rootFrom
  dsimp only
  have e : 2 ^ (t + 1) = 2 * 2 ^ t := by rw [Nat.pow_succ]; omega
  have hp := Nat.two_pow_pos t
  rw [Nat.one_shiftLeft]
  have hr : r % 2 ^ t = 0 := by
    exact Nat.mod_eq_zero_of_dvd (Nat.dvd_trans ⟨2, by rw [e]; omega⟩ (Nat.dvd_of_mod_eq_zero h))
  split
  · have := g_rootFrom n t (r + 2 ^ t) (by rw [Nat.add_mod_right]; exact hr); omega
  · have := g_rootFrom n t r hr; omega
theorem g_sqrt (n : Nat) (hn : n < 2 ^ 23) : ∃ (x : Nat) (v : Nat), Ieee.double.sqrt (Ieee.double.nearest false n 0) = some x ∧ (Ieee.double.read x).toInt .zero = some (v : Int) ∧ v < 2 ^ 24 := by
  have fin : ∀ (mag a : Nat) (p : Int), mag < 2 ^ a → p + (a : Int) ≤ 23 → ∃ v : Nat, (Ieee.double.read (Ieee.double.nearest false mag p)).toInt .zero = some (v : Int) ∧ v < 2 ^ 24 := by
    intro mag a p h1 h2
    obtain ⟨M, P, e, hM, hP⟩ := g_write mag a p h1 h2
    refine ⟨Ieee.Toward.zero.cut false (M <<< P.toNat) (-P).toNat, ?_, ?_⟩
    · rw [e]
      show some (Ieee.signed false (Ieee.Toward.zero.cut false (M <<< P.toNat) (-P).toNat) 0) = _
      unfold Ieee.signed
      rw [if_neg (by decide), Nat.shiftLeft_zero]
    · apply g_cut_zero
      have : P.toNat = 0 := by omega
      rw [this, Nat.shiftLeft_zero]
      exact Nat.lt_of_lt_of_le hM (Nat.pow_le_pow_right (by decide) (by omega))
  obtain ⟨M, P, e, hM, hP⟩ := g_write n 23 0 hn (by decide)
  unfold Ieee.Format.sqrt
  rw [e]
  have hf : Ieee.double.fractionBits + 2 = 54 := rfl
  rw [hf]
  unfold Ieee.Datum.root
  dsimp only
  by_cases h0 : M = 0
  · rw [if_pos h0]
    obtain ⟨v, e1, e2⟩ := fin 0 0 (-100) (by decide) (by decide)
    refine ⟨_, v, rfl, ?_, e2⟩
    show (Ieee.double.read (Ieee.double.nearest false M P)).toInt .zero = _
    have ez : Ieee.double.nearest false M P = Ieee.double.nearest false 0 (-100) := by unfold Ieee.Format.nearest; rw [if_pos h0, if_pos rfl]
    rw [ez, e1]
  · rw [if_neg h0, if_neg (by decide)]
    have hL : M.log2 < 53 := (Nat.log2_lt h0).2 hM
    generalize hmo : 2 * 54 - M.log2 + ((P - ((2 * 54 - M.log2 : Nat) : Int)) % 2).toNat = more
    have hmo2 : 56 ≤ more := by omega
    have hmo3 : more + M.log2 ≤ 109 := by omega
    have hn0 : M <<< more ≠ 0 := by rw [Nat.shiftLeft_eq]; have := Nat.two_pow_pos more; exact Nat.mul_ne_zero h0 (by omega)
    have hlg : (M <<< more).log2 < 110 := by
      apply (Nat.log2_lt hn0).2
      rw [Nat.shiftLeft_eq]
      have h1 : M < 2 ^ (M.log2 + 1) := Nat.lt_log2_self
      refine Nat.lt_of_lt_of_le (Nat.mul_lt_mul_of_pos_right h1 (Nat.two_pow_pos _)) ?_
      rw [← Nat.pow_add]
      exact Nat.pow_le_pow_right (by decide) (by omega)
    have hw := g_rootFrom (M <<< more) ((M <<< more).log2 / 2 + 1) 0 (Nat.zero_mod _)
    generalize Ieee.Datum.rootFrom (M <<< more) ((M <<< more).log2 / 2 + 1) 0 = whole at hw ⊢
    have hw2 : whole < 2 ^ 55 := Nat.lt_of_lt_of_le (by omega : whole < 2 ^ ((M <<< more).log2 / 2 + 1)) (Nat.pow_le_pow_right (by decide) (by omega))
    have hmag : 2 * whole + (whole * whole != M <<< more).toNat < 2 ^ 56 := by
      have := g_bool (whole * whole != M <<< more)
      omega
    obtain ⟨v, e1, e2⟩ := fin _ 56 ((P - (more : Int)) / 2 - 1) hmag (by omega)
    exact ⟨_, v, rfl, e1, e2⟩

def g_rootAux (n : Nat) : Nat → Nat
 | 0 => 0
 | r + 1 => if (r + 1) * (r + 1) ≤ n then r + 1 else g_rootAux n r
def g_root (n : Nat) : Nat := g_rootAux n n
theorem g_rootAux_le (n : Nat) : ∀ r, g_rootAux n r * g_rootAux n r ≤ n
 | 0 => by simp [g_rootAux]
 | r + 1 => by
  simp only [g_rootAux]
  split
  · assumption
  · exact g_rootAux_le n r
theorem g_rootAux_max (n : Nat) : ∀ r x, x ≤ r → x * x ≤ n → x ≤ g_rootAux n r
 | 0, x, h, _ => by simp only [g_rootAux]; omega
 | r + 1, x, h, hx => by
  simp only [g_rootAux]
  split
  · exact h
  · rename_i hn
    by_cases e : x = r + 1
    · subst e; exact absurd hx hn
    · exact g_rootAux_max n r x (by omega) hx
theorem g_root_eq (n x : Nat) (h : x * x ≤ n) (h2 : n < (x + 1) * (x + 1)) : g_root n = x := by
  have h3 : x ≤ n := Nat.le_trans (by cases x with | zero => omega | succ x => exact Nat.le_mul_of_pos_left _ (by omega)) h
  have h4 : x ≤ g_root n := g_rootAux_max n n x h3 h
  have h5 : g_root n * g_root n ≤ n := g_rootAux_le n n
  rcases Nat.lt_or_ge x (g_root n) with h6 | h6
  · have := Nat.mul_le_mul h6 h6
    simp only [Nat.succ_eq_add_one] at this
    omega
  · omega
theorem g_root_spec (n : Nat) : g_root n * g_root n ≤ n ∧ n < (g_root n + 1) * (g_root n + 1) := by
  refine ⟨g_rootAux_le n n, Nat.lt_of_not_le fun h => ?_⟩
  have h3 : g_root n + 1 ≤ n := Nat.le_trans (Nat.le_mul_of_pos_left _ (by omega)) h
  have := g_rootAux_max n n (g_root n + 1) h3 h
  unfold g_root at this h
  omega
def impl_root.f (a0 : Int) : Option Int := if 0 ≤ a0 ∧ a0 < 8388608 then some ((g_root a0.toNat : Nat) : Int) else none
theorem g_run_sqrt {P : Program} (x y : Nat) (hx : FloatKind.f64.format.sqrt x = some y) (w : World) : (Extern.MathSqrt.sqrt #[.float .f64 x]).run P w = .ok (.float .f64 y) w := by
  show Sem.run P (match FloatKind.f64.format.sqrt x with | some r => pure (Value.float .f64 r) | none => do pure (Value.float .f64 (← choose (.nanBits .f64 x x)))) w = _
  rw [hx]
  rfl
set_option maxHeartbeats 8000000 in
set_option maxRecDepth 100000 in
theorem g_Sqrt.calls (x y : Nat) (hx : FloatKind.f64.format.sqrt x = some y) (w : World) :
  Calls Try.prog 123 #[.float .f64 x] w fun e w' => e = .returned (.float .f64 y) ∧ w' = w := by
 go_enter Try.func123, Try.ntmps123
 go_wp2
 rw [run_callFunc_extern Try.func134 (by kernel_rfl) (by kernel_rfl) (by kernel_rfl) (e := Extern.MathSqrt.sqrt) (by kernel_rfl)]
 rw [g_run_sqrt x y hx w]
 simp only [Result.andThen]
 rw [Oper.upon_value]
 go_wp2
 go_ret
 exact ⟨rfl, rfl⟩
theorem g_to {P : Program} {src dst : TypeId} (n : Int) (w : World) (hs : P.underlying src = some (.int .i64)) (hd : P.underlying dst = some (.float .f64)) :
    (convert src dst (.int .i64 n)).run P w = .ok (.float .f64 (FloatKind.f64.nearest n)) w := by
  simp [convert, run_underlying hs, run_underlying hd, Conv.intToFloat]
theorem g_back {P : Program} {src dst : TypeId} (y : Nat) (v : Nat) (w : World) (hs : P.underlying src = some (.float .f64)) (hd : P.underlying dst = some (.int .i64)) (h1 : (Ieee.double.read y).toInt .zero = some (v : Int)) (h2 : v < 2 ^ 24) :
    (convert src dst (.float .f64 y)).run P w = .ok (.int .i64 (v : Int)) w := by
  have e : (Conv.floatToInt .f64 y .i64).run P w = .ok (.int .i64 (v : Int)) w := by
    unfold Conv.floatToInt
    have h3 : (FloatKind.f64.decode y).toInt .zero = some (v : Int) := h1
    rw [h3]
    dsimp only
    rw [if_pos ⟨by show (-9223372036854775808 : Int) ≤ v; omega, by show (v : Int) ≤ 9223372036854775807; omega⟩]
    rfl
  simp [convert, run_underlying hs, run_underlying hd, e]
theorem g_sq (x : Int) (h0 : 0 ≤ x) (h1 : x < 16777216) : wrap64 (x * x) = x * x := by
  have h2 : 0 ≤ x * x := Int.mul_nonneg h0 h0
  have h3 : x * x ≤ 16777216 * 16777216 := Int.mul_le_mul (by omega) (by omega) h0 (by omega)
  generalize x * x = z at h2 h3 ⊢
  unfold wrap64
  omega
theorem g_pos (n : Nat) (x : Int) (h : (n : Int) < wrap64 (x * x)) : ¬ x = 0 := by
  rintro rfl
  rw [Int.mul_zero] at h
  unfold wrap64 at h
  omega
theorem g_le_sq (z : Int) (h : 0 ≤ z) : z ≤ z * z := by
  rcases Int.lt_or_le 0 z with h1 | h1
  · have := Int.mul_le_mul_of_nonneg_left (show 1 ≤ z by omega) h
    omega
  · have : z = 0 := by omega
    subst this
    decide
theorem g_small (n : Nat) (x : Int) (hn : n < 2 ^ 23) (h0 : 0 ≤ x) (h : x * x ≤ (n : Int)) : x < 8388608 := by
  have := g_le_sq x h0
  omega
theorem g_inc (x : Int) (h0 : 0 ≤ x) (h1 : x < 16777216) : wrap64 (x + 1) = x + 1 := by unfold wrap64; omega
theorem g_fin (n : Nat) (x r : Int) (h0 : 0 ≤ x) (h : x * x ≤ (n : Int)) (h2 : (n : Int) < (x + 1) * (x + 1)) (hr : ((g_root n : Nat) : Int) = r) : r = x := by
  obtain ⟨m, rfl⟩ : ∃ m : Nat, x = (m : Int) := ⟨x.toNat, by omega⟩
  rw [← hr, g_root_eq n m (by exact_mod_cast h) (by exact_mod_cast h2)]
theorem g_dec (x : Int) (h : ¬ x = 0) (h0 : 0 ≤ x) (h1 : x < 16777216) : wrap64 (x - 1) = x - 1 := by unfold wrap64; omega
set_option maxHeartbeats 8000000 in
set_option maxRecDepth 100000 in
theorem impl_root.calls (a0 : Int) (r : Int) (w : World) (h : impl_root.f a0 = some r) :
  Calls Try.prog 86 #[.int .i64 a0] w fun e w' => e = .returned (.int .i64 r) ∧ Drawn0 w w' := by
 unfold impl_root.f at h
 by_cases h0 : 0 ≤ a0 ∧ a0 < 8388608
 ·rw [if_pos h0] at h
  obtain ⟨n, rfl⟩ : ∃ n : Nat, a0 = (n : Int) := ⟨a0.toNat, by omega⟩
  have hr := Option.some.inj h
  rw [Int.toNat_natCast] at hr
  clear h
  have hn : n < 2 ^ 23 := by omega
  obtain ⟨y, v, e1, e2, e3⟩ := g_sqrt n hn
  have E1 : FloatKind.f64.format.sqrt (FloatKind.f64.nearest (n : Int)) = some y := by
    have : FloatKind.f64.nearest (n : Int) = Ieee.double.nearest false n 0 := by
      show FloatKind.f64.encode (.number (decide ((n : Int) < 0)) (n : Int).natAbs 0) = _
      rw [decide_eq_false (by omega), Int.natAbs_natCast]
      rfl
    rw [this]
    exact e1
  have HE1 := Aside0.mk E1
  have HN := Aside0.mk hn
  have HR := Aside0.mk hr
  have HV := Aside0.mk e3
  have ET := Aside0.mk (fun w => g_to (P := Try.prog) (src := 2) (dst := 115) (n : Int) w (by kernel_rfl) (by kernel_rfl))
  have EB := Aside0.mk (fun w => g_back (P := Try.prog) (src := 115) (dst := 2) y v w (by kernel_rfl) (by kernel_rfl) e2 e3)
  clear E1 e1 e2 e3 hr hn h0
  go_enter Try.func86, Try.ntmps86
  go_wp2_with (first | (rw [ET.out]) | (go_at_call 123; (with_reducible refine (g_Sqrt.calls _ y HE1.out w).mono ?_); rintro e w1 ⟨rfl, hw1⟩; rw [hw1]; clear hw1) | (rw [EB.out]))
  go_loopg [3] 16777216 (fun d v3 w' => ∃ x : Int, v3 = .int .i64 x ∧ Aside0 (0 ≤ x ∧ x < 16777216 ∧ x ≤ (d : Int)) ∧ Drawn0 w w')
  case atStart => exact ⟨(v : Int), rfl, ⟨by have := HV.out; omega⟩, Drawn0.refl _⟩
  case round =>
   obtain ⟨x, rfl, HI, ⟨m1, rfl⟩⟩ := hrel
   have hw := Aside0.mk (g_sq x HI.out.1 HI.out.2.1)
   by_cases c : (n : Int) < wrap64 (x * x)
   ·have cb : decide ((n : Int) < wrap64 (x * x)) = true := decide_eq_true c
    have h1 := Aside0.mk (g_pos n x c)
    have h2 := Aside0.mk (g_dec x h1.out HI.out.1 HI.out.2.1)
    cases gk with
    | zero => exact absurd HI.out.2.2 (by have := HI.out.1; have := h1.out; omega)
    | succ k1 =>
    clear c
    go_wp2
    go_roundg k1
    case measure => omega
    case rel => exact ⟨wrap64 (x - 1), rfl, ⟨by rw [h2.out]; have := HI.out; have := h1.out; omega⟩, by repeat (first | exact Drawn0.refl _ | apply Drawn0.step)⟩
   ·have cb : decide ((n : Int) < wrap64 (x * x)) = false := decide_eq_false c
    have hc := Aside0.mk (show x * x ≤ (n : Int) by rw [hw.out] at c; omega)
    clear c
    go_wp2
    go_loopg [3] 8388608 (fun d v3 w' => ∃ x : Int, v3 = .int .i64 x ∧ Aside0 (0 ≤ x ∧ x < 16777216 ∧ (n : Int) < x + (d : Int)) ∧ Aside0 (x * x ≤ (n : Int)) ∧ Drawn0 w w')
    case atStart => exact ⟨x, rfl, ⟨by have := HI.out; have := HN.out; omega⟩, hc, by repeat (first | exact Drawn0.refl _ | apply Drawn0.step)⟩
    case round =>
     clear hw hc HI
     obtain ⟨x2, rfl, HI, HC, ⟨m2, rfl⟩⟩ := hrel
     have hz := Aside0.mk (g_small n x2 HN.out HI.out.1 HC.out)
     have hs := Aside0.mk (g_inc x2 HI.out.1 HI.out.2.1)
     have hw := Aside0.mk (g_sq (x2 + 1) (by have := HI.out; omega) (by have := HI.out; have := hz.out; omega))
     by_cases c : wrap64 (wrap64 (x2 + 1) * wrap64 (x2 + 1)) ≤ (n : Int)
     ·have cb : decide (wrap64 (wrap64 (x2 + 1) * wrap64 (x2 + 1)) ≤ (n : Int)) = true := decide_eq_true c
      have hc := Aside0.mk (show (x2 + 1) * (x2 + 1) ≤ (n : Int) by rw [hs.out, hw.out] at c; exact c)
      clear c
      cases gk with
      | zero => exact absurd (g_le_sq (x2 + 1) (by have := HI.out; omega)) (by have := HI.out; have := hc.out; omega)
      | succ k2 =>
      go_wp2
      go_roundg k2
      case measure => omega
      case rel => exact ⟨wrap64 (x2 + 1), rfl, ⟨by rw [hs.out]; have := HI.out; have := hz.out; omega⟩, ⟨by rw [hs.out]; exact hc.out⟩, by repeat (first | exact Drawn0.refl _ | apply Drawn0.step)⟩
     ·have cb : decide (wrap64 (wrap64 (x2 + 1) * wrap64 (x2 + 1)) ≤ (n : Int)) = false := decide_eq_false c
      have hres := Aside0.mk (g_fin n x2 r HI.out.1 HC.out (by rw [hs.out, hw.out] at c; omega) HR.out)
      clear c
      go_wp2
      go_ret
      exact ⟨by rw [hres.out]; rfl, by repeat (first | exact Drawn0.refl _ | apply Drawn0.step)⟩
 ·rw [if_neg h0] at h
  cases h

end Go.Proofs.Ytgblbmbdadjicaa.Print
