/- The first right colours: the program and the reference find the same. -/
import Derived.Test.YtcjkklkmlooinaaPrint0
import Derived.Test.YtcjkklkmlooinaaPrint5
import Derived.Test.YtcjkklkmlooinaaPrint13
import Derived.Test.YtcjkklkmlooinaaPrint14
import Derived.Test.YtcjkklkmlooinaaNum
import Derived.Test.YtcjkklkmlooinaaInS
import Derived.Test.YtcjkklkmlooinaaInW
import Derived.Test.YtcjkklkmlooinaaIntsR
import Derived.Test.YtcjkklkmlooinaaBoA
import Derived.Test.YtcjkklkmlooinaaBoV
import Derived.Test.YtcjkklkmlooinaaAscP
import Derived.Test.YtcjkklkmlooinaaBoNI
import Derived.Test.YtcjkklkmlooinaaAdjP
import Derived.Test.YtcjkklkmlooinaaCntA
import Derived.Test.YtcjkklkmlooinaaMayP
namespace Go.Proofs.Ytcjkklkmlooinaa.Pure
open Go.RowKit Go.Proofs.Ytcjkklkmlooinaa.Print Go.Proofs.YtcjkklkmlooinaaW.PrintWords Go.Proofs.YtcjkklkmlooinaaW.PrintLast Go.Proofs.YtcjkklkmlooinaaW.PrintMore
set_option linter.unusedVariables false
set_option linter.unusedSimpArgs false
/-- The first right colours that begin with some colours, for d lands more. -/
def fst (A : Nat → Nat → Bool) (m : Nat) : Nat → List Nat → Option (List Nat)
  | 0, cs => some cs
  | d + 1, cs => (List.range' 0 m).findSome? fun c => if mayH A cs c = true then fst A m d (cs ++ [c]) else none
def fstG (A : Nat → Nat → Bool) (m d : Nat) (cs : List Nat) (c : Nat) : Option (List Nat) := if mayH A cs c = true then fst A m d (cs ++ [c]) else none
theorem fst_succ (A : Nat → Nat → Bool) (m d : Nat) (cs : List Nat) : fst A m (d + 1) cs = (List.range' 0 m).findSome? (fstG A m d cs) := rfl
theorem fst_length (A : Nat → Nat → Bool) (m : Nat) : ∀ (d : Nat) (cs zs : List Nat), fst A m d cs = some zs → zs.length = cs.length + d
  | 0, cs, zs, h => by cases h; rfl
  | d + 1, cs, zs, h => by
    rw [fst_succ] at h
    obtain ⟨c, _, hc⟩ := List.exists_of_findSome?_eq_some h
    unfold fstG at hc
    split at hc
    · have := fst_length A m d _ zs hc
      rw [this, List.length_append, List.length_singleton]
      omega
    · cases hc
/-- With as many colours as lands there are right colours. -/
theorem fst_enough (A : Nat → Nat → Bool) (m : Nat) : ∀ (d : Nat) (cs : List Nat), (∀ x ∈ cs, x < cs.length) → cs.length + d ≤ m → (fst A m d cs).isSome = true
  | 0, cs, _, _ => rfl
  | d + 1, cs, hcs, hm => by
    rw [fst_succ, List.findSome?_isSome_iff]
    refine ⟨cs.length, by rw [List.mem_range']; exact ⟨cs.length, by omega, by omega⟩, ?_⟩
    unfold fstG
    rw [if_pos (mayH_new A hcs (Nat.le_refl _))]
    refine fst_enough A m d (cs ++ [cs.length]) (fun x hx => ?_) (by rw [List.length_append, List.length_singleton]; omega)
    rw [List.length_append, List.length_singleton]
    rcases List.mem_append.1 hx with hx | hx
    · have := hcs x hx; omega
    · rw [List.mem_singleton.1 hx]; omega
theorem firstI_main {n : Int} {xs : List S58} (O : OkBs n xs) (m : Nat) (hm : m ≤ 10) : ∀ (d k : Nat) (cs : List Nat), (cs.length : Int) + (d : Int) = n → 20 * d + 100 < k →
    impl_firstColours.f k n xs (m : Int) (ints cs) = some (((fst (adjB xs) m d cs).map ints).getD []) := by
  intro d
  have hn := O.lands
  induction d with
  | zero =>
    intro k cs hl hk
    obtain ⟨k, rfl⟩ : ∃ m, k = m + 1 := ⟨k - 1, by omega⟩
    simp only [impl_firstColours.f]
    rw [ints_length, if_pos (by omega), if_pos (by omega)]
    rfl
  | succ d ih =>
    intro k cs hl hk
    obtain ⟨k, rfl⟩ : ∃ m, k = m + 1 := ⟨k - 1, by omega⟩
    have hcl : (cs.length : Int) < n := by omega
    have hloop : ∀ (e k c : Nat), m - c = e → c ≤ m → 20 * d + 102 + e < k → impl_firstColours.l0 k n xs (m : Int) (ints cs) (m : Int) (c : Int) = some ((((List.range' c e).findSome? (fstG (adjB xs) m d cs)).map ints).getD []) := by
      intro e
      induction e with
      | zero =>
        intro k c he hc hk2
        obtain ⟨k, rfl⟩ : ∃ m, k = m + 1 := ⟨k - 1, by omega⟩
        simp only [impl_firstColours.l0]
        rw [if_neg (by omega)]
        rfl
      | succ e ihe =>
        intro k c he hc hk2
        obtain ⟨k, rfl⟩ : ∃ m, k = m + 1 := ⟨k - 1, by omega⟩
        have hnext := ihe k (c + 1) (by omega) (by omega) (by omega)
        have z : wrap64 ((c : Int) + 1) = ((c + 1 : Nat) : Int) := by rw [w64 (by omega) (by omega)]; omega
        have em := may_some O cs hcl c k (by omega)
        have hf := ih k (cs ++ [c]) (by rw [List.length_append, List.length_singleton]; omega) (by omega)
        have q1 : (c : Int) < (m : Int) := by omega
        have q2 : (ints cs).length < 17592186044416 := by rw [ints_length]; omega
        simp only [impl_firstColours.l0]
        rw [if_pos q1, em, Option.bind_some, z, List.range'_succ, List.findSome?_cons]
        by_cases hy : mayH (adjB xs) cs c = true
        · have g : fstG (adjB xs) m d cs c = fst (adjB xs) m d (cs ++ [c]) := by unfold fstG; rw [if_pos hy]
          rw [if_pos hy, clone_ints cs (by omega), Option.bind_some, if_pos q2, ints_snoc, hf, Option.bind_some, g]
          cases hfs : fst (adjB xs) m d (cs ++ [c]) with
          | none =>
            simp only [Option.map_none, Option.getD_none]
            rw [if_pos (by simp)]
            exact hnext
          | some zs =>
            have := fst_length _ _ _ _ _ hfs
            rw [List.length_append, List.length_singleton] at this
            simp only [Option.map_some, Option.getD_some]
            rw [if_neg (by rw [ints_length]; omega)]
        · have g : fstG (adjB xs) m d cs c = none := by unfold fstG; rw [if_neg hy]
          rw [if_neg hy, g]
          exact hnext
    simp only [impl_firstColours.f]
    rw [ints_length, if_neg (by omega), show (0 : Int) = ((0 : Nat) : Int) from rfl, hloop m k 0 (by omega) (by omega) (by omega), fst_succ]
/-- What the reference asks of a colour. -/
theorem free_loop {n : Int} {xs : List S58} (O : OkBs n xs) (cs : List Nat) (c : Nat) (m : Int) : ∀ (d k i : Nat), xs.length - i = d → i ≤ xs.length → d < k →
    spec_l09W_free.l0 k (ints cs) (c : Int) (cs.length : Int) (i : Int) n xs m [] false = some ((xs.drop i).all fun p => !(decide (p.f1 = (cs.length : Int)) && (rd (ints cs) p.f0 == (c : Int))), n, m, false) := by
  intro d
  have hm := O.many
  induction d with
  | zero =>
    intro k i hd hi hk
    obtain ⟨k, rfl⟩ : ∃ m, k = m + 1 := ⟨k - 1, by omega⟩
    simp only [spec_l09W_free.l0]
    rw [if_neg (by omega), List.drop_eq_nil_of_le (by omega)]
    rfl
  | succ d ih =>
    intro k i hd hi hk
    obtain ⟨k, rfl⟩ : ∃ m, k = m + 1 := ⟨k - 1, by omega⟩
    have h : i < xs.length := by omega
    have hp := O.at_ _ (List.getElem_mem h)
    simp only [spec_l09W_free.l0]
    rw [if_pos (by omega), if_pos (by omega), rdB h, nxt h (by omega), ih k (i + 1) (by omega) (by omega) (by omega), List.drop_eq_getElem_cons h, List.all_cons, ints_length]
    by_cases c1 : xs[i].f1 = (cs.length : Int)
    · rw [if_pos c1, if_pos hp.1, if_pos (by omega), decide_eq_true c1]
      by_cases c2 : rd (ints cs) xs[i].f0 = (c : Int)
      · rw [if_pos c2, beq_iff_eq.2 c2]; rfl
      · rw [if_neg c2, beq_eq_false_iff_ne.2 c2]; rfl
    · rw [if_neg c1, decide_eq_false c1]; rfl
theorem free_some {n : Int} {xs : List S58} (O : OkBs n xs) (cs : List Nat) (c : Nat) (m : Int) (k : Nat) (hk : 40 < k) : spec_l09W_free.f k n xs m [] false (ints cs) (c : Int) = some (mayH (adjB xs) cs c, n, m, false) := by
  have hm := O.many
  unfold spec_l09W_free.f
  rw [ints_length]
  have e := free_loop O cs c m xs.length k 0 (by omega) (by omega) (by omega)
  rw [Int.natCast_zero, List.drop_zero] at e
  rw [e]
  congr 2
  rw [Bool.eq_iff_iff]
  unfold mayH
  rw [List.all_eq_true, List.all_eq_true]
  constructor
  · intro h q hq
    obtain ⟨j, hj, rfl⟩ := (prs_iff cs 0 q).1 hq
    rw [Nat.zero_add]
    cases hb : (cs[j] == c) with
    | false => rfl
    | true =>
      cases ha : adjB xs j cs.length with
      | false => rfl
      | true =>
        unfold adjB at ha
        obtain ⟨p, hp, hpm⟩ := List.any_eq_true.1 ha
        have ho := O.at_ p hp
        unfold matB at hpm
        rw [Bool.or_eq_true, decide_eq_true_eq, decide_eq_true_eq] at hpm
        have hpj : p.f1 = (cs.length : Int) ∧ p.f0 = (j : Int) := by omega
        have := h p hp
        rw [decide_eq_true hpj.1, Bool.true_and, hpj.2, ints_rd cs hj] at this
        have e2 : ((cs[j] : Int) == (c : Int)) = true := by rw [beq_iff_eq.1 hb]; simp
        rw [e2] at this
        cases this
  · intro h p hp
    have ho := O.at_ p hp
    by_cases c1 : p.f1 = (cs.length : Int)
    · obtain ⟨j, hj⟩ : ∃ j : Nat, p.f0 = (j : Int) := ⟨p.f0.toNat, by omega⟩
      have hjl : j < cs.length := by omega
      have := h (j, cs[j]) ((prs_iff cs 0 _).2 ⟨j, hjl, by rw [Nat.zero_add]⟩)
      have ha : adjB xs j cs.length = true := by
        unfold adjB
        rw [List.any_eq_true]
        refine ⟨p, hp, ?_⟩
        unfold matB
        rw [Bool.or_eq_true, decide_eq_true_eq, decide_eq_true_eq]
        exact .inr ⟨c1, hj⟩
      rw [ha, Bool.and_true] at this
      rw [decide_eq_true c1, Bool.true_and, hj, ints_rd cs hjl]
      have hb : ((cs[j] : Int) == (c : Int)) = (cs[j] == c) := by
        rw [Bool.eq_iff_iff, beq_iff_eq, beq_iff_eq]; omega
      rw [hb]
      exact this
    · rw [decide_eq_false c1]; rfl
theorem walk_main {n : Int} {xs : List S58} (O : OkBs n xs) (m : Nat) (hm : m ≤ 10) : ∀ (d k : Nat) (cs : List Nat), (cs.length : Int) + (d : Int) = n → 20 * d + 100 < k →
    spec_l09W_walk.f k n xs (m : Int) (ints cs) = some ((fst (adjB xs) m d cs).map ints) := by
  intro d
  have hn := O.lands
  induction d with
  | zero =>
    intro k cs hl hk
    obtain ⟨k, rfl⟩ : ∃ m, k = m + 1 := ⟨k - 1, by omega⟩
    simp only [spec_l09W_walk.f]
    rw [ints_length, if_pos (by omega)]
    unfold spec_l00Own.f
    rw [Option.bind_some, if_pos (by rw [ints_length]; simp; omega)]
    rfl
  | succ d ih =>
    intro k cs hl hk
    obtain ⟨k, rfl⟩ : ∃ m, k = m + 1 := ⟨k - 1, by omega⟩
    have hfound : ∀ (k c : Nat) (ys : List Int), 0 < k → spec_l09W_walk.l0 k n xs (m : Int) (ints cs) (c : Int) (some ys) = some (some ys) := by
      intro k c ys hk
      obtain ⟨k, rfl⟩ : ∃ m, k = m + 1 := ⟨k - 1, by omega⟩
      simp only [spec_l09W_walk.l0]
      split
      · rw [if_pos (show (some ys : Option (List Int)).isSome = true from rfl)]
      · rfl
    have hloop : ∀ (e k c : Nat), m - c = e → c ≤ m → 20 * d + 102 + e < k → spec_l09W_walk.l0 k n xs (m : Int) (ints cs) (c : Int) none = some (((List.range' c e).findSome? (fstG (adjB xs) m d cs)).map ints) := by
      intro e
      induction e with
      | zero =>
        intro k c he hc hk2
        obtain ⟨k, rfl⟩ : ∃ m, k = m + 1 := ⟨k - 1, by omega⟩
        simp only [spec_l09W_walk.l0]
        rw [if_neg (by omega)]
        rfl
      | succ e ihe =>
        intro k c he hc hk2
        obtain ⟨k, rfl⟩ : ∃ m, k = m + 1 := ⟨k - 1, by omega⟩
        have hnext := ihe k (c + 1) (by omega) (by omega) (by omega)
        have z : wrap64 ((c : Int) + 1) = ((c + 1 : Nat) : Int) := by rw [w64 (by omega) (by omega)]; omega
        have em := free_some O cs c (m : Int) k (by omega)
        have hf := ih k (cs ++ [c]) (by rw [List.length_append, List.length_singleton]; omega) (by omega)
        have q1 : (c : Int) < (m : Int) := by omega
        have q2 : (ints cs).length + 1 < 8796093022208 := by rw [ints_length]; omega
        simp only [spec_l09W_walk.l0]
        rw [if_pos q1, if_neg (by simp), em, Option.bind_some, z, List.range'_succ, List.findSome?_cons]
        dsimp only
        by_cases hy : mayH (adjB xs) cs c = true
        · have g : fstG (adjB xs) m d cs c = fst (adjB xs) m d (cs ++ [c]) := by unfold fstG; rw [if_pos hy]
          rw [if_pos hy, if_pos q2, ints_snoc, hf, Option.bind_some, g]
          cases hfs : fst (adjB xs) m d (cs ++ [c]) with
          | none => exact hnext
          | some zs => exact hfound k (c + 1) (ints zs) (by omega)
        · have g : fstG (adjB xs) m d cs c = none := by unfold fstG; rw [if_neg hy]
          rw [if_neg hy, g]
          exact hnext
    simp only [spec_l09W_walk.f]
    rw [ints_length, if_neg (by omega), show (0 : Int) = ((0 : Nat) : Int) from rfl, hloop m k 0 (by omega) (by omega) (by omega), fst_succ]
theorem first_some {n : Int} {xs : List S58} (O : OkBs n xs) (m : Nat) (hm : m ≤ 10) (k : Nat) (hk : 400 < k) : spec_l09First.f k n xs (m : Int) = some (((fst (adjB xs) m n.toNat []).map ints).getD [], (fst (adjB xs) m n.toNat []).isSome) := by
  have hn := O.lands
  unfold spec_l09First.f
  have e := walk_main O m hm n.toNat k [] (by simp; omega) (by omega)
  have e3 : ints [] = [] := rfl
  rw [e3] at e
  rw [e, Option.bind_some, Option.isSome_map]
end Go.Proofs.Ytcjkklkmlooinaa.Pure
