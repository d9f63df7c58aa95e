/- Cells of a grid by their numbers: the cells with a letter, the neighbours, what has been reached. -/
import Derived.Test.YtacbacbmomhjoaaDoorPrint0
import Derived.Test.YtacbacbmomhjoaaDoorPrint9
import Derived.Test.YtacbacbmomhjoaaDoorNum
import Derived.Test.YtacbacbmomhjoaaDoorInS
import Derived.Test.YtacbacbmomhjoaaDoorGrA
import Derived.Test.YtacbacbmomhjoaaDoorGrV
import Derived.Test.YtacbacbmomhjoaaDoorGrC
import Derived.Test.YtacbacbmomhjoaaDoorGrN
import Derived.Lib.SlTrimSet
namespace Go.Proofs.YtacbacbmomhjoaaDoor.Pure
open Go.RowKit Go.Proofs.YtacbacbmomhjoaaDoor.Print Go.Proofs.YtacbacbmomhjoaaDoorW.PrintWords Go.Proofs.YtacbacbmomhjoaaDoorW.PrintLast Go.Proofs.YtacbacbmomhjoaaDoorW.PrintMore
set_option linter.unusedVariables false
set_option linter.unusedSimpArgs false
def cellAt (W n : Nat) : S43 := ⟨((n / W : Nat) : Int), ((n % W : Nat) : Int)⟩
def letterAt (xs : List ByteArray) (n : Nat) : Int := bt (rdOf ByteArray.empty xs ((n / wide xs : Nat) : Int)) ((n % wide xs : Nat) : Int)
def nb (H W p : Nat) : List Nat := [p / W * W + (p % W + 1) % W, p / W * W + (p % W + W - 1) % W] ++ ((if p / W > 0 then [p - W] else []) ++ (if p / W + 1 < H then [p + W] else []))
def posL (xs : List ByteArray) (c : Int) : Nat → Nat → List Nat
  | _, 0 => []
  | s, d + 1 => (if letterAt xs s = c then [s] else []) ++ posL xs c (s + 1) d
theorem divW {W a b : Nat} (h : b < W) : (a * W + b) / W = a := by
  rw [Nat.mul_comm, Nat.mul_add_div (by omega), Nat.div_eq_of_lt h, Nat.add_zero]
theorem modW {W a b : Nat} (h : b < W) : (a * W + b) % W = b := by
  rw [Nat.mul_comm, Nat.mul_add_mod, Nat.mod_eq_of_lt h]
theorem cellAt_pos {W a b : Nat} (h : b < W) : cellAt W (a * W + b) = ⟨(a : Int), (b : Int)⟩ := by
  unfold cellAt; rw [divW h, modW h]
theorem dm (W p : Nat) : p / W * W + p % W = p := by rw [Nat.mul_comm]; exact Nat.div_add_mod p W
theorem div_lt {H W p : Nat} (hp : p < H * W) : p / W < H := Nat.div_lt_of_lt_mul (by rw [Nat.mul_comm]; exact hp)
theorem pos_lt {H W a b : Nat} (ha : a < H) (hb : b < W) : a * W + b < H * W := by
  have : (a + 1) * W ≤ H * W := Nat.mul_le_mul_right W (by omega)
  rw [Nat.add_mul] at this
  omega
theorem cellAt_inj {W m n : Nat} : g_same (cellAt W m) (cellAt W n) = true ↔ m = n := by
  unfold g_same cellAt
  simp only [Bool.and_eq_true, beq_iff_eq]
  constructor
  · rintro ⟨h1, h2⟩
    have e1 : m / W = n / W := by omega
    have e2 : m % W = n % W := by omega
    rw [← dm W m, ← dm W n, e1, e2]
  · rintro rfl; exact ⟨rfl, rfl⟩
theorem has_app {W : Nat} (ms : List S43) (m n : Nat) : g_has (ms ++ [cellAt W n]) (cellAt W m) = (g_has ms (cellAt W m) || decide (m = n)) := by
  unfold g_has
  rw [List.any_append]
  congr 1
  simp only [List.any_cons, List.any_nil, Bool.or_false]
  rw [Bool.eq_iff_iff, decide_eq_true_eq]
  exact cellAt_inj
theorem wf_at {xs : List ByteArray} (g : Grid xs) {p : Nat} (hp : p < xs.length * wide xs) : g_wf (cellAt (wide xs) p) = true := by
  have h1 := div_lt hp
  have h2 := Nat.mod_lt p (show wide xs > 0 by have := g.w1; omega)
  have g1 := g.l16
  have g2 := g.w32
  unfold g_wf cellAt
  have e : ∀ n : Nat, n < 1000 → (Lit.int .i64 (n : Int)).wf = true := fun n h => by
    have := wfI_iff.2 (show -9223372036854775808 ≤ (n : Int) ∧ (n : Int) ≤ 9223372036854775807 by omega)
    simpa [wfI] using this
  rw [e _ (by omega), e _ (by omega)]
  rfl
theorem letter_row {xs : List ByteArray} (g : Grid xs) {i j : Nat} (hi : i < xs.length) (hj : j < wide xs) : letterAt xs (i * wide xs + j) = bt xs[i] (j : Int) := by
  unfold letterAt
  rw [divW hj, modW hj, rdS hi]
theorem row_pos {xs : List ByteArray} (g : Grid xs) (c : Int) {i : Nat} (hi : i < xs.length) : ∀ (d j : Nat), j + d ≤ wide xs → rowFrom xs[i] c (i : Int) d j = (posL xs c (i * wide xs + j) d).map (cellAt (wide xs)) := by
  intro d
  induction d with
  | zero => intro j hj; rfl
  | succ d ih =>
    intro j hj
    unfold rowFrom posL
    rw [ih (j + 1) (by omega), letter_row g hi (by omega), List.map_append, show i * wide xs + (j + 1) = i * wide xs + j + 1 by omega]
    split
    · rw [List.map_cons, List.map_nil, cellAt_pos (by omega)]
    · rfl
theorem posL_add (xs : List ByteArray) (c : Int) : ∀ (a s b : Nat), posL xs c s (a + b) = posL xs c s a ++ posL xs c (s + a) b := by
  intro a
  induction a with
  | zero => intro s b; simp [posL]
  | succ a ih =>
    intro s b
    rw [show a + 1 + b = (a + b) + 1 by omega]
    show (if letterAt xs s = c then [s] else []) ++ posL xs c (s + 1) (a + b) = ((if letterAt xs s = c then [s] else []) ++ posL xs c (s + 1) a) ++ posL xs c (s + (a + 1)) b
    rw [ih (s + 1) b, List.append_assoc, show s + 1 + a = s + (a + 1) by omega]
theorem cells_pos {xs : List ByteArray} (g : Grid xs) (c : Int) : ∀ (d i : Nat), i + d = xs.length → cellsFrom xs c d i = (posL xs c (i * wide xs) (d * wide xs)).map (cellAt (wide xs)) := by
  intro d
  induction d with
  | zero => intro i hi; rw [Nat.zero_mul]; rfl
  | succ d ih =>
    intro i hi
    have h : i < xs.length := by omega
    have hr := g.row _ (List.getElem_mem h)
    unfold cellsFrom
    rw [rdS h, hr, row_pos g c h _ 0 (by omega), ih (i + 1) (by omega), ← List.map_append, Nat.add_zero, Nat.add_mul, Nat.one_mul, Nat.add_mul, Nat.one_mul, Nat.add_comm (d * wide xs), posL_add]
theorem nb_lt {H W p : Nat} (hp : p < H * W) (hW : 1 ≤ W) : ∀ q ∈ nb H W p, q < H * W := by
  have h1 := div_lt hp
  have h2 := Nat.mod_lt p hW
  have e := dm W p
  intro q hq
  unfold nb at hq
  rcases List.mem_append.1 hq with hq | hq
  · simp only [List.mem_cons, List.not_mem_nil, or_false] at hq
    rcases hq with rfl | rfl
    · exact pos_lt h1 (Nat.mod_lt _ hW)
    · exact pos_lt h1 (Nat.mod_lt _ hW)
  · rcases List.mem_append.1 hq with hq | hq
    · split at hq
      · rw [List.mem_singleton] at hq; omega
      · cases hq
    · split at hq
      · rename_i h
        rw [List.mem_singleton] at hq
        have := pos_lt (W := W) h h2
        rw [Nat.add_mul] at this
        omega
      · cases hq
theorem nb_length (H W p : Nat) : (nb H W p).length ≤ 4 := by
  unfold nb; split <;> split <;> simp
theorem nx_nb {xs : List ByteArray} (g : Grid xs) {p : Nat} (hp : p < xs.length * wide xs) : nx xs (cellAt (wide xs) p) = (nb xs.length (wide xs) p).map (cellAt (wide xs)) := by
  have w1 := g.w1
  have h1 := div_lt hp
  have h2 := Nat.mod_lt p (show wide xs > 0 by omega)
  have e := dm (wide xs) p
  unfold nx nb
  rw [List.map_append, List.map_append]
  congr 1
  · rw [List.map_cons, List.map_cons, List.map_nil, cellAt_pos (Nat.mod_lt _ (by omega)), cellAt_pos (Nat.mod_lt _ (by omega))]
    unfold cellAt
    dsimp only
    have a1 : (((p % wide xs : Nat) : Int) + 1) % (wide xs : Int) = (((p % wide xs + 1) % wide xs : Nat) : Int) := by push_cast; rfl
    have a2 : (((p % wide xs : Nat) : Int) + (wide xs : Int) - 1) % (wide xs : Int) = (((p % wide xs + wide xs - 1) % wide xs : Nat) : Int) := by
      rw [show ((p % wide xs : Nat) : Int) + (wide xs : Int) - 1 = ((p % wide xs + wide xs - 1 : Nat) : Int) by omega]
      push_cast; rfl
    rw [a1, a2]
  · congr 1
    · by_cases h : p / wide xs > 0
      · rw [if_pos h, if_pos (show (cellAt (wide xs) p).f0 > 0 by unfold cellAt; dsimp only; omega), List.map_cons, List.map_nil]
        have : p - wide xs = (p / wide xs - 1) * wide xs + p % wide xs := by
          rw [Nat.sub_mul, Nat.one_mul]
          have : 1 * wide xs ≤ p / wide xs * wide xs := Nat.mul_le_mul_right _ h
          omega
        rw [this, cellAt_pos h2]
        unfold cellAt
        dsimp only
        congr 2
        omega
      · rw [if_neg h, if_neg (show ¬ (cellAt (wide xs) p).f0 > 0 by unfold cellAt; dsimp only; omega)]
        rfl
    · by_cases h : p / wide xs + 1 < xs.length
      · rw [if_pos h, if_pos (show (cellAt (wide xs) p).f0 < (xs.length : Int) - 1 by unfold cellAt; dsimp only; omega), List.map_cons, List.map_nil]
        have : p + wide xs = (p / wide xs + 1) * wide xs + p % wide xs := by
          rw [Nat.add_mul, Nat.one_mul]; omega
        rw [this, cellAt_pos h2]
        rfl
      · rw [if_neg h, if_neg (show ¬ (cellAt (wide xs) p).f0 < (xs.length : Int) - 1 by unfold cellAt; dsimp only; omega)]
        rfl
end Go.Proofs.YtacbacbmomhjoaaDoor.Pure
