/- The law FnHardBorders: without a hard border fewer colours are enough, without another one they are not, and neighbours are those of the borders. -/
import Derived.Test.YtcjkklkmlooinaaPrint0
import Derived.Test.YtcjkklkmlooinaaPrint2
import Derived.Test.YtcjkklkmlooinaaPrint9
import Derived.Test.YtcjkklkmlooinaaPrint10
import Derived.Test.YtcjkklkmlooinaaPrint11
import Derived.Test.YtcjkklkmlooinaaPrint12
import Derived.Test.YtcjkklkmlooinaaNum
import Derived.Test.YtcjkklkmlooinaaInW
import Derived.Test.YtcjkklkmlooinaaIntsR
import Derived.Test.YtcjkklkmlooinaaBoR
import Derived.Test.YtcjkklkmlooinaaBoVI
import Derived.Test.YtcjkklkmlooinaaAscP
import Derived.Test.YtcjkklkmlooinaaBoNI
import Derived.Test.YtcjkklkmlooinaaAdjP
import Derived.Test.YtcjkklkmlooinaaCntA
import Derived.Test.YtcjkklkmlooinaaMayP
import Derived.Test.YtcjkklkmlooinaaFstI
import Derived.Test.YtcjkklkmlooinaaFewI
import Derived.Test.YtcjkklkmlooinaaHardI
import Derived.Test.YtcjkklkmlooinaaHardQ
import Derived.Test.YtcjkklkmlooinaaRiseP
import Derived.Test.YtcjkklkmlooinaaDegP
import Derived.Test.YtcjkklkmlooinaaSrc
import Derived.Test.YtcjkklkmlooinaaSrcY
import Derived.Test.YtcjkklkmlooinaaDrawL
namespace Go.Proofs.Ytcjkklkmlooinaa.Pure
open Go.RowKit Go.Proofs.Ytcjkklkmlooinaa.Print Go.Proofs.YtcjkklkmlooinaaW.PrintWords Go.Proofs.YtcjkklkmlooinaaW.PrintLast Go.Proofs.YtcjkklkmlooinaaW.PrintMore
set_option linter.unusedVariables false
set_option linter.unusedSimpArgs false
theorem fewI_fn {n : Int} {xs : List S58} (O : OkBs n xs) (k : Nat) (hk : 2000 < k) : impl_FewestColours.f k n xs = some (((fewN n xs : Nat) : Int), 0) := by
  have hm := O.many
  have e := fewI_some O k (by omega)
  have fd : fewL (adjB xs) n.toNat (n.toNat - 1) 1 = fewN n xs := rfl
  unfold impl_FewestColours.f
  rw [impl_ok n xs (by omega) k (by omega), okBs_mk O, Option.bind_some, if_pos rfl, e, Option.bind_some, fd]
theorem hardI_fn {n : Int} {xs : List S58} (O : OkBs n xs) (k : Nat) (hk : 2000 < k) : impl_HardBorders.f k n xs = some (hardF n xs xs.length 0, 0) := by
  have hm := O.many
  have e := fewI_some O k (by omega)
  have fd : fewL (adjB xs) n.toNat (n.toNat - 1) 1 = fewN n xs := rfl
  have x1 := hardI_loop O xs.length k 0 [] (by omega) (by omega) (by omega) (by simp; omega)
  rw [Int.natCast_zero, List.nil_append] at x1
  unfold impl_HardBorders.f
  rw [impl_ok n xs (by omega) k (by omega), okBs_mk O, Option.bind_some, if_pos rfl, e, Option.bind_some, fd]
  exact x1
theorem nextI_fn {n : Int} {xs : List S58} (O : OkBs n xs) (y : Nat) (hy : (y : Int) < n) (k : Nat) (hk : 2000 < k) : impl_NeighboursOf.f k n xs (y : Int) = some (nbs xs (y : Int) n.toNat, 0) := by
  have hm := O.many
  have hn := O.lands
  unfold impl_NeighboursOf.f impl_isLand.f
  rw [impl_ok n xs (by omega) k (by omega), okBs_mk O, Option.bind_some, if_pos rfl, w64 (by omega) (by omega), within_some, Option.bind_some, decide_eq_true (by omega), Option.bind_some, if_pos rfl, implN_some O (y : Int) k (by omega), Option.bind_some]
theorem nbs_self {n : Int} {xs : List S58} (O : OkBs n xs) (y : Int) (m : Nat) : y ∉ nbs xs y m := by
  intro h
  have := ((nbs_mem xs y y m).1 h).2.2
  obtain ⟨p, hp, hm⟩ := List.any_eq_true.1 this
  have ho := O.at_ p hp
  unfold matB at hm
  rw [Bool.or_eq_true, decide_eq_true_eq, decide_eq_true_eq] at hm
  omega
def degT (n : Int) (xs : List S58) (m : Nat) : Int := sumL (fun y : Nat => ((nbs xs (y : Int) n.toNat).length : Int)) (List.range m)
theorem degT_succ (n : Int) (xs : List S58) (m : Nat) : degT n xs (m + 1) = degT n xs m + ((nbs xs (m : Int) n.toNat).length : Int) := by
  unfold degT
  rw [List.range_succ, sumL_append, sumL_cons, sumL_nil, Int.add_zero]
theorem degT_bound {n : Int} {xs : List S58} (O : OkBs n xs) : ∀ m : Nat, 0 ≤ degT n xs m ∧ degT n xs m ≤ 10 * (m : Int)
  | 0 => ⟨by show (0 : Int) ≤ 0; omega, by show (0 : Int) ≤ 0; omega⟩
  | m + 1 => by
    have ih := degT_bound O m
    have hl := nbs_length xs (m : Int) n.toNat
    have hn := O.lands
    rw [degT_succ]
    omega
theorem law_l1 {n : Int} {xs : List S58} (O : OkBs n xs) : ∀ (d k y : Nat), n.toNat - y = d → y ≤ n.toNat → 2001 + d < k → laws_FnHardBorders.l1 k n xs (degT n xs y) (y : Int) = some true := by
  have hn := O.lands
  have hm := O.many
  intro d
  induction d with
  | zero =>
    intro k y hd hy hk
    obtain ⟨k, rfl⟩ : ∃ m, k = m + 1 := ⟨k - 1, by omega⟩
    obtain rfl : y = n.toNat := by omega
    have e := deg_sum O
    simp only [laws_FnHardBorders.l1]
    rw [if_neg (by omega), w64 (by omega) (by omega)]
    unfold degT
    rw [e, beq_self_eq_true]
  | succ d ih =>
    intro k y hd hy hk
    obtain ⟨k, rfl⟩ : ∃ m, k = m + 1 := ⟨k - 1, by omega⟩
    have hl := nbs_length xs (y : Int) n.toNat
    have hb := degT_bound O y
    have hr := rises_some (nbs xs (y : Int) n.toNat) n (by omega) (nbs_lt xs (y : Int) n.toNat).1 (fun x hx => by have := (nbs_mem xs _ x _).1 hx; omega) k (by omega)
    have hh := has_some (nbs xs (y : Int) n.toNat) (y : Int) (by omega) k (by omega)
    rw [decide_eq_false (nbs_self O (y : Int) n.toNat)] at hh
    have e := ih k (y + 1) (by omega) (by omega) (by omega)
    rw [degT_succ] at e
    have z1 : wrap64 ((y : Int) + 1) = ((y + 1 : Nat) : Int) := by rw [w64 (by omega) (by omega)]; omega
    have z2 : wrap64 (degT n xs y + ((nbs xs (y : Int) n.toNat).length : Int)) = degT n xs y + ((nbs xs (y : Int) n.toNat).length : Int) := w64 (by omega) (by omega)
    simp only [laws_FnHardBorders.l1]
    rw [if_pos (by omega), nextI_fn O y (by omega) k (by omega), Option.bind_some, if_pos rfl, hr, Option.bind_some, if_pos rfl, hh, Option.bind_some, if_neg (by simp), z1, z2]
    exact e
theorem two_steps {M N : Nat} (g1 : M ≤ N) (g2 : N ≤ M + 1) : ¬ (M : Int) > (N : Int) ∧ ¬ (M : Int) < (N : Int) - 1 := by omega
theorem wrap_pred {N : Nat} {n : Int} (h : 1 ≤ N ∧ N ≤ n.toNat) (hn : n ≤ 10) : wrap64 ((N : Int) - 1) = (N : Int) - 1 := w64 (by omega) (by omega)
theorem law_l0 {n : Int} {xs : List S58} (O : OkBs n xs) : ∀ (d k i : Nat), xs.length - i = d → i ≤ xs.length → 3000 + d < k → laws_FnHardBorders.l0 k n xs (hardF n xs xs.length 0) ((fewN n xs : Nat) : Int) (i : Int) = some true := by
  have hn := O.lands
  have hm := O.many
  intro d
  induction d with
  | zero =>
    intro k i hd hi hk
    obtain ⟨k, rfl⟩ : ∃ m, k = m + 1 := ⟨k - 1, by omega⟩
    simp only [laws_FnHardBorders.l0]
    rw [if_neg (by omega)]
    exact law_l1 O n.toNat k 0 (by omega) (by omega) (by omega)
  | succ d ih =>
    intro k i hd hi hk
    obtain ⟨k, rfl⟩ : ∃ m, k = m + 1 := ⟨k - 1, by omega⟩
    have h : i < xs.length := by omega
    have q1 : (i : Int) < (xs.length : Int) := by omega
    have q2 : (0 : Int) ≤ (i : Int) := by omega
    have q3 : (i : Int) ≤ (xs.length : Int) := by omega
    have q4 : (0 : Int) ≤ ((i + 1 : Nat) : Int) := by omega
    have q5 : ((i + 1 : Nat) : Int) ≤ (xs.length : Int) := by omega
    have t1 : ((i : Int)).toNat = i := Int.toNat_natCast i
    have t2 : (((i + 1 : Nat) : Int)).toNat = i + 1 := Int.toNat_natCast _
    have en := nxt h (by omega)
    have z1 : ([] : List S58).length + (xs.take i).length < 8796093022208 := by simp; omega
    have z2 : (xs.take i).length + (xs.drop (i + 1)).length < 8796093022208 := by simp; omega
    have e := ih k (i + 1) (by omega) (by omega) (by omega)
    have f := fewI_fn (rest_ok O i) k (by omega)
    have hl : (hardF n xs xs.length 0).length ≤ 1000000 := Nat.le_trans (hardF_length n xs xs.length 0) (Nat.le_trans hm (by decide))
    have hl2 : (hardF n xs xs.length 0).length < k := Nat.lt_of_le_of_lt (Nat.le_trans (hardF_length n xs xs.length 0) hm) (by omega)
    have hh := has_some (hardF n xs xs.length 0) (i : Int) hl k hl2
    have hmem : decide (((i : Int)) ∈ hardF n xs xs.length 0) = decide (((fewN n (restB xs i) : Nat) : Int) < ((fewN n xs : Nat) : Int)) := by
      rw [decide_eq_decide, hardF_mem]
      constructor
      · rintro ⟨j, _, _, h3, h4⟩
        obtain rfl : i = j := Int.ofNat.inj h3
        exact Int.ofNat_lt.2 h4
      · intro h4
        exact ⟨i, Nat.zero_le _, by rw [Nat.zero_add]; exact h, rfl, Int.ofNat_lt.1 h4⟩
    rw [hmem] at hh
    have ew : wrap64 (((fewN n xs : Nat) : Int) - 1) = ((fewN n xs : Nat) : Int) - 1 := wrap_pred (fewN_spec O).1 hn.2
    obtain ⟨g1, g2⟩ := two_steps (rest_le O i) (rest_ge O h)
    have rd_ : xs.take i ++ xs.drop (i + 1) = restB xs i := rfl
    simp only [laws_FnHardBorders.l0]
    rw [if_pos q1, Option.bind_some, if_pos q2, if_pos q3, t1, Option.bind_some, if_pos z1, Option.bind_some, en, if_pos q4, if_pos q5, t2, Option.bind_some, List.nil_append, if_pos z2, rd_, f, Option.bind_some, if_pos rfl, if_neg g1, ew, if_neg g2, hh, Option.bind_some, if_neg (by simp)]
    exact e
theorem FnHardBorders : laws_FnHardBorders.Pure := by
  intro c hw hl
  have hc := code_of hw hl
  suffices H : ∀ k, 10000 ≤ k → laws_FnHardBorders.f k c = some true from ⟨10000, H _ (Nat.le_refl _)⟩
  intro k hk
  obtain ⟨k, rfl⟩ : ∃ m, k = m + 1 := ⟨k - 1, by omega⟩
  obtain ⟨n, xs, e, O, hn6⟩ := Lands_some hc (k + 1) (by omega)
  have hm := O.many
  have hlen := hardF_length n xs xs.length 0
  have h1 := hardI_fn O (k + 1) (by omega)
  have h2 := fewI_fn O (k + 1) (by omega)
  have h3 := rises_some (hardF n xs xs.length 0) (xs.length : Int) (by omega) (hardF_rises n xs xs.length 0) (fun x hx => by obtain ⟨j, _, h2, rfl, _⟩ := (hardF_mem n xs xs.length 0 x).1 hx; omega) (k + 1) (by omega)
  have h4 := law_l0 O xs.length k 0 (by omega) (by omega) (by omega)
  unfold laws_FnHardBorders.f laws_a2Long.f
  by_cases hbig : (c.length : Int) > 3000
  · rw [if_pos hbig]; rfl
  rw [if_neg hbig, Option.bind_some, decide_eq_false (by simp), if_neg (by simp), e, Option.bind_some, h1, Option.bind_some, h2, Option.bind_some, if_pos rfl, h3, Option.bind_some, if_pos rfl]
  simp only [laws_FnHardBorders.j0]
  rw [if_neg (by simp)]
  exact h4
end Go.Proofs.Ytcjkklkmlooinaa.Pure
