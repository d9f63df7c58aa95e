/- Right colourings are counted: by the colour of one set after the other, and land after land. -/
import Derived.Test.YtcjkklkmlooinaaPrint0
namespace Go.Proofs.Ytcjkklkmlooinaa.Pure
open Go.RowKit Go.Proofs.Ytcjkklkmlooinaa.Print Go.Proofs.YtcjkklkmlooinaaW.PrintWords Go.Proofs.YtcjkklkmlooinaaW.PrintLast Go.Proofs.YtcjkklkmlooinaaW.PrintMore
set_option linter.unusedVariables false
set_option linter.unusedSimpArgs false
def sumL {α : Type} (f : α → Int) : List α → Int
  | [] => 0
  | x :: xs => f x + sumL f xs
theorem sumL_nil {α : Type} (f : α → Int) : sumL f [] = 0 := rfl
theorem sumL_cons {α : Type} (f : α → Int) (x : α) (xs : List α) : sumL f (x :: xs) = f x + sumL f xs := rfl
theorem sumL_append {α : Type} (f : α → Int) : ∀ xs ys : List α, sumL f (xs ++ ys) = sumL f xs + sumL f ys
  | [], ys => by rw [List.nil_append, sumL_nil, Int.zero_add]
  | x :: xs, ys => by rw [List.cons_append, sumL_cons, sumL_cons, sumL_append f xs ys, Int.add_assoc]
theorem sumL_congr {α : Type} {f g : α → Int} : ∀ (xs : List α), (∀ x ∈ xs, f x = g x) → sumL f xs = sumL g xs
  | [], _ => rfl
  | x :: xs, h => by rw [sumL_cons, sumL_cons, h x List.mem_cons_self, sumL_congr xs (fun y hy => h y (List.mem_cons_of_mem _ hy))]
theorem sumL_add {α : Type} (f g : α → Int) : ∀ xs : List α, sumL (fun x => f x + g x) xs = sumL f xs + sumL g xs
  | [] => rfl
  | x :: xs => by rw [sumL_cons, sumL_cons, sumL_cons, sumL_add f g xs]; omega
theorem sumL_map {α β : Type} (f : β → Int) (h : α → β) : ∀ xs : List α, sumL f (xs.map h) = sumL (fun x => f (h x)) xs
  | [] => rfl
  | x :: xs => by rw [List.map_cons, sumL_cons, sumL_cons, sumL_map f h xs]
theorem sumL_flatMap {α β : Type} (f : β → Int) (h : α → List β) : ∀ xs : List α, sumL f (xs.flatMap h) = sumL (fun x => sumL f (h x)) xs
  | [] => rfl
  | x :: xs => by rw [List.flatMap_cons, sumL_append, sumL_cons, sumL_flatMap f h xs]
theorem sumL_zero {α : Type} : ∀ xs : List α, sumL (fun _ => 0) xs = 0
  | [] => rfl
  | x :: xs => by rw [sumL_cons, sumL_zero xs]; rfl
theorem sumL_swap {α β : Type} (f : α → β → Int) (ys : List β) : ∀ xs : List α, sumL (fun x => sumL (fun y => f x y) ys) xs = sumL (fun y => sumL (fun x => f x y) xs) ys
  | [] => (sumL_zero ys).symm
  | x :: xs => by
    rw [sumL_cons, sumL_swap f ys xs, ← sumL_add]
    rfl
theorem sumL_perm {α : Type} (f : α → Int) {xs ys : List α} (h : xs.Perm ys) : sumL f xs = sumL f ys := by
  induction h with
  | nil => rfl
  | cons x _ ih => rw [sumL_cons, sumL_cons, ih]
  | swap x y l => rw [sumL_cons, sumL_cons, sumL_cons, sumL_cons]; omega
  | trans _ _ ih1 ih2 => exact ih1.trans ih2
theorem sumL_const {α : Type} (v : Int) : ∀ xs : List α, sumL (fun _ => v) xs = (xs.length : Int) * v
  | [] => by rw [sumL_nil, List.length_nil]; simp
  | x :: xs => by
    rw [sumL_cons, sumL_const v xs, List.length_cons]
    have : ((xs.length + 1 : Nat) : Int) = (xs.length : Int) + 1 := by omega
    rw [this, Int.add_mul, Int.one_mul]
    omega
theorem sumL_bound {α : Type} {f : α → Int} {b : Int} : ∀ xs : List α, (∀ x ∈ xs, 0 ≤ f x ∧ f x ≤ b) → 0 ≤ sumL f xs ∧ sumL f xs ≤ (xs.length : Int) * b
  | [], _ => by rw [sumL_nil, List.length_nil]; simp
  | x :: xs, h => by
    have h1 := h x List.mem_cons_self
    have h2 := sumL_bound xs (fun y hy => h y (List.mem_cons_of_mem _ hy))
    rw [sumL_cons, List.length_cons]
    have : ((xs.length + 1 : Nat) : Int) = (xs.length : Int) + 1 := by omega
    rw [this, Int.add_mul, Int.one_mul]
    omega
/-- No two of one colour are neighbours. -/
def okP (A : Nat → Nat → Bool) : List (Nat × Nat) → Bool
  | [] => true
  | p :: r => r.all (fun q => !(p.2 == q.2 && A p.1 q.1)) && okP A r
def asg (c : Nat) : List Nat → List (List (Nat × Nat))
  | [] => [[]]
  | s :: S => (asg c S).flatMap fun g => (List.range c).map fun j => (s, j) :: g
def splits : List Nat → List (List Nat × List Nat)
  | [] => [([], [])]
  | s :: S => (splits S).flatMap fun p => [(s :: p.1, p.2), (p.1, s :: p.2)]
def top (c : Nat) (f : List (Nat × Nat)) : List Nat := (f.filter fun p => p.2 == c).map (·.1)
def low (c : Nat) (f : List (Nat × Nat)) : List (Nat × Nat) := f.filter fun p => !(p.2 == c)
theorem top_eq (c s : Nat) (f : List (Nat × Nat)) : top c ((s, c) :: f) = s :: top c f := by simp [top]
theorem top_ne {c j : Nat} (h : j ≠ c) (s : Nat) (f : List (Nat × Nat)) : top c ((s, j) :: f) = top c f := by simp [top, h]
theorem low_eq (c s : Nat) (f : List (Nat × Nat)) : low c ((s, c) :: f) = low c f := by simp [low]
theorem low_ne {c j : Nat} (h : j ≠ c) (s : Nat) (f : List (Nat × Nat)) : low c ((s, j) :: f) = (s, j) :: low c f := by simp [low, h]
theorem step_sum (c : Nat) : ∀ (S : List Nat) (Φ : List Nat → List (Nat × Nat) → Int), sumL (fun f => Φ (top c f) (low c f)) (asg (c + 1) S) = sumL (fun p => sumL (fun g => Φ p.1 g) (asg c p.2)) (splits S)
  | [], Φ => by
    show Φ [] [] + 0 = (Φ [] [] + 0) + 0
    omega
  | s :: S, Φ => by
    have ih := step_sum c S (fun P g => sumL (fun j => Φ P ((s, j) :: g)) (List.range c) + Φ (s :: P) g)
    have e1 : asg (c + 1) (s :: S) = (asg (c + 1) S).flatMap fun g => (List.range (c + 1)).map fun j => (s, j) :: g := rfl
    have e2 : splits (s :: S) = (splits S).flatMap fun p => [(s :: p.1, p.2), (p.1, s :: p.2)] := rfl
    rw [e1, e2, sumL_flatMap, sumL_flatMap]
    refine Eq.trans (sumL_congr _ fun f' _ => ?_) (ih.trans (sumL_congr _ fun p _ => ?_))
    · rw [sumL_map, List.range_succ, sumL_append, sumL_cons, sumL_nil, top_eq, low_eq, Int.add_zero]
      congr 1
      refine sumL_congr _ fun j hj => ?_
      have hjc : j ≠ c := Nat.ne_of_lt (List.mem_range.1 hj)
      rw [top_ne hjc, low_ne hjc]
    · rw [sumL_cons, sumL_cons, sumL_nil, Int.add_zero, sumL_add]
      have e3 : asg c (s :: p.2) = (asg c p.2).flatMap fun g => (List.range c).map fun j => (s, j) :: g := rfl
      show _ = sumL (fun g => Φ (s :: p.1) g) (asg c p.2) + sumL (fun g => Φ p.1 g) (asg c (s :: p.2))
      rw [e3, sumL_flatMap, Int.add_comm]
      congr 1
      refine sumL_congr _ fun g _ => ?_
      rw [sumL_map]
def apartL (A : Nat → Nat → Bool) : List Nat → Bool
  | [] => true
  | s :: r => r.all (fun t => !A s t) && apartL A r
theorem all_top (A : Nat → Nat → Bool) (c s : Nat) : ∀ f : List (Nat × Nat), f.all (fun q => !(c == q.2 && A s q.1)) = (top c f).all (fun t => !A s t)
  | [] => rfl
  | (t, j) :: f => by
    have ih := all_top A c s f
    by_cases h : j = c
    · subst h
      rw [top_eq, List.all_cons, List.all_cons, ih]
      simp
    · have hb : (c == j) = false := beq_eq_false_iff_ne.2 (fun e => h e.symm)
      rw [top_ne h, List.all_cons, ih]
      show (!(c == j && A s t) && _) = _
      rw [hb, Bool.false_and, Bool.not_false, Bool.true_and]
theorem all_low (A : Nat → Nat → Bool) (c s i : Nat) (hi : i ≠ c) : ∀ f : List (Nat × Nat), f.all (fun q => !(i == q.2 && A s q.1)) = (low c f).all (fun q => !(i == q.2 && A s q.1))
  | [] => rfl
  | (t, j) :: f => by
    have ih := all_low A c s i hi f
    by_cases h : j = c
    · subst h
      have hb : (i == j) = false := beq_eq_false_iff_ne.2 hi
      rw [low_eq, List.all_cons, ih]
      show (!(i == j && A s t) && _) = _
      rw [hb, Bool.false_and, Bool.not_false, Bool.true_and]
    · rw [low_ne h, List.all_cons, List.all_cons, ih]
theorem ok_split (A : Nat → Nat → Bool) (c : Nat) : ∀ f : List (Nat × Nat), okP A f = (apartL A (top c f) && okP A (low c f))
  | [] => rfl
  | (s, j) :: f => by
    have ih := ok_split A c f
    have e : okP A ((s, j) :: f) = (f.all (fun q => !(j == q.2 && A s q.1)) && okP A f) := rfl
    rw [e, ih]
    by_cases h : j = c
    · subst h
      have e2 : apartL A (s :: top j f) = ((top j f).all (fun t => !A s t) && apartL A (top j f)) := rfl
      rw [top_eq, low_eq, all_top, e2, Bool.and_assoc]
    · have e2 : okP A ((s, j) :: low c f) = ((low c f).all (fun q => !(j == q.2 && A s q.1)) && okP A (low c f)) := rfl
      rw [top_ne h, low_ne h, all_low A c s j h, e2]
      cases (low c f).all (fun q => !(j == q.2 && A s q.1)) <;> cases apartL A (top c f) <;> rfl
/-- How many right colourings with c colours. -/
def Wn (A : Nat → Nat → Bool) (c : Nat) (S : List Nat) : Int := sumL (fun f => if okP A f = true then 1 else 0) (asg c S)
theorem Wn_succ (A : Nat → Nat → Bool) (c : Nat) (S : List Nat) : Wn A (c + 1) S = sumL (fun p => if apartL A p.1 = true then Wn A c p.2 else 0) (splits S) := by
  unfold Wn
  have h := step_sum c S (fun P g => if (apartL A P && okP A g) = true then 1 else 0)
  refine Eq.trans (sumL_congr _ fun f _ => ?_) (h.trans (sumL_congr _ fun p _ => ?_))
  · rw [ok_split A c f]
  · cases apartL A p.1 with
    | true => rw [if_pos rfl]; exact sumL_congr _ fun g _ => by rw [Bool.true_and]
    | false =>
      rw [if_neg (by simp)]
      refine (sumL_congr _ fun g _ => ?_).trans (sumL_zero _)
      rw [Bool.false_and, if_neg (by simp)]
theorem Wn_zero (A : Nat → Nat → Bool) : ∀ S : List Nat, Wn A 0 S = if S = [] then 1 else 0
  | [] => rfl
  | s :: S => by
    have e : asg 0 (s :: S) = (asg 0 S).flatMap fun g => ([] : List (List (Nat × Nat))) := rfl
    unfold Wn
    rw [e, sumL_flatMap, if_neg (by simp)]
    exact sumL_zero _
theorem asg_length (c : Nat) : ∀ S : List Nat, (asg c S).length = c ^ S.length
  | [] => rfl
  | s :: S => by
    have e : asg c (s :: S) = (asg c S).flatMap fun g => (List.range c).map fun j => (s, j) :: g := rfl
    rw [e, List.length_flatMap]
    have : (List.map (fun g => ((List.range c).map fun j => (s, j) :: g).length) (asg c S)) = (asg c S).map fun _ => c := by
      apply List.map_congr_left
      intro g _
      simp
    rw [this, List.map_const', List.sum_replicate_nat, asg_length c S, List.length_cons, Nat.pow_succ]
theorem Wn_bound (A : Nat → Nat → Bool) (c : Nat) (S : List Nat) : 0 ≤ Wn A c S ∧ Wn A c S ≤ ((c ^ S.length : Nat) : Int) := by
  have h := sumL_bound (f := fun f => if okP A f = true then (1 : Int) else 0) (b := 1) (asg c S) (fun f _ => by split <;> omega)
  rw [asg_length, Int.mul_one] at h
  exact h
-- the way back
def prs : Nat → List Nat → List (Nat × Nat)
  | _, [] => []
  | i, c :: r => (i, c) :: prs (i + 1) r
theorem prs_snoc (c : Nat) : ∀ (cs : List Nat) (i : Nat), prs i (cs ++ [c]) = prs i cs ++ [(i + cs.length, c)]
  | [], i => rfl
  | d :: cs, i => by
    show (i, d) :: prs (i + 1) (cs ++ [c]) = (i, d) :: (prs (i + 1) cs ++ [(i + (cs.length + 1), c)])
    rw [prs_snoc c cs (i + 1), show i + 1 + cs.length = i + (cs.length + 1) by omega]
def mayH (A : Nat → Nat → Bool) (cs : List Nat) (c : Nat) : Bool := (prs 0 cs).all fun q => !(q.2 == c && A q.1 cs.length)
def cnt (A : Nat → Nat → Bool) (m : Nat) : Nat → List Nat → Int
  | 0, _ => 1
  | d + 1, cs => sumL (fun c => if mayH A cs c = true then cnt A m d (cs ++ [c]) else 0) (List.range m)
theorem cnt_succ (A : Nat → Nat → Bool) (m d : Nat) (cs : List Nat) : cnt A m (d + 1) cs = sumL (fun c => if mayH A cs c = true then cnt A m d (cs ++ [c]) else 0) (List.range m) := rfl
def lst : Nat → Nat → List Nat
  | _, 0 => []
  | k, d + 1 => k :: lst (k + 1) d
theorem okP_append (A : Nat → Nat → Bool) : ∀ xs ys : List (Nat × Nat), okP A (xs ++ ys) = true → okP A xs = true
  | [], _, _ => rfl
  | p :: xs, ys, h => by
    have e : okP A (p :: xs ++ ys) = ((xs ++ ys).all (fun q => !(p.2 == q.2 && A p.1 q.1)) && okP A (xs ++ ys)) := rfl
    rw [e, Bool.and_eq_true, List.all_append, Bool.and_eq_true] at h
    show (xs.all (fun q => !(p.2 == q.2 && A p.1 q.1)) && okP A xs) = true
    rw [h.1.1, okP_append A xs ys h.2]
    rfl
theorem okP_snoc (A : Nat → Nat → Bool) (r : Nat × Nat) : ∀ xs : List (Nat × Nat), okP A (xs ++ [r]) = (okP A xs && xs.all fun q => !(q.2 == r.2 && A q.1 r.1))
  | [] => rfl
  | p :: xs => by
    have e : okP A (p :: xs ++ [r]) = ((xs ++ [r]).all (fun q => !(p.2 == q.2 && A p.1 q.1)) && okP A (xs ++ [r])) := rfl
    have e2 : okP A (p :: xs) = (xs.all (fun q => !(p.2 == q.2 && A p.1 q.1)) && okP A xs) := rfl
    rw [e, okP_snoc A r xs, List.all_append, List.all_cons, List.all_cons, List.all_nil, Bool.and_true, e2]
    generalize xs.all (fun q => !(p.2 == q.2 && A p.1 q.1)) = a
    generalize xs.all (fun q => !(q.2 == r.2 && A q.1 r.1)) = b
    generalize (!(p.2 == r.2 && A p.1 r.1)) = c
    generalize okP A xs = d
    cases a <;> cases b <;> cases c <;> cases d <;> rfl
theorem back (A : Nat → Nat → Bool) (m : Nat) : ∀ (d : Nat) (cs : List Nat), okP A (prs 0 cs) = true → sumL (fun g => if okP A (prs 0 cs ++ g) = true then (1 : Int) else 0) (asg m (lst cs.length d)) = cnt A m d cs
  | 0, cs, h => by
    show (if okP A (prs 0 cs ++ []) = true then (1 : Int) else 0) + 0 = 1
    rw [List.append_nil, if_pos h]
    rfl
  | d + 1, cs, h => by
    have e : asg m (lst cs.length (d + 1)) = (asg m (lst (cs.length + 1) d)).flatMap fun g => (List.range m).map fun j => (cs.length, j) :: g := rfl
    rw [e, sumL_flatMap, cnt_succ]
    have e2 : sumL (fun x => sumL (fun g => if okP A (prs 0 cs ++ g) = true then (1 : Int) else 0) ((List.range m).map fun j => (cs.length, j) :: x)) (asg m (lst (cs.length + 1) d)) = sumL (fun x => sumL (fun j => if okP A (prs 0 cs ++ (cs.length, j) :: x) = true then (1 : Int) else 0) (List.range m)) (asg m (lst (cs.length + 1) d)) := sumL_congr _ fun x _ => sumL_map _ _ _
    rw [e2, sumL_swap (fun x j => if okP A (prs 0 cs ++ (cs.length, j) :: x) = true then (1 : Int) else 0)]
    refine sumL_congr _ fun j _ => ?_
    have e3 : prs 0 cs ++ [(cs.length, j)] = prs 0 (cs ++ [j]) := by rw [prs_snoc, Nat.zero_add]
    have e4 : okP A (prs 0 (cs ++ [j])) = mayH A cs j := by
      rw [← e3, okP_snoc, h, Bool.true_and]
      rfl
    have e5 : sumL (fun x => if okP A (prs 0 cs ++ (cs.length, j) :: x) = true then (1 : Int) else 0) (asg m (lst (cs.length + 1) d)) = sumL (fun x => if okP A (prs 0 (cs ++ [j]) ++ x) = true then (1 : Int) else 0) (asg m (lst (cs.length + 1) d)) := sumL_congr _ fun x _ => by
      rw [← e3, List.append_assoc]
      rfl
    rw [e5]
    cases hm : mayH A cs j with
    | true =>
      rw [if_pos rfl, ← back A m d (cs ++ [j]) (e4.trans hm), List.length_append, List.length_singleton]
    | false =>
      rw [if_neg (by simp)]
      refine (sumL_congr _ fun x _ => ?_).trans (sumL_zero _)
      rw [if_neg]
      intro hx
      have := okP_append A _ _ hx
      rw [e4, hm] at this
      cases this
theorem Wn_cnt (A : Nat → Nat → Bool) (m n : Nat) : Wn A m (lst 0 n) = cnt A m n [] := back A m n [] rfl
theorem cnt_bound (A : Nat → Nat → Bool) (m : Nat) : ∀ (d : Nat) (cs : List Nat), 0 ≤ cnt A m d cs ∧ cnt A m d cs ≤ ((m ^ d : Nat) : Int)
  | 0, _ => by show (0 : Int) ≤ 1 ∧ (1 : Int) ≤ ((m ^ 0 : Nat) : Int); rw [Nat.pow_zero]; decide
  | d + 1, cs => by
    have h := sumL_bound (f := fun c => if mayH A cs c = true then cnt A m d (cs ++ [c]) else 0) (b := ((m ^ d : Nat) : Int)) (List.range m) (fun c _ => by
      have := cnt_bound A m d (cs ++ [c])
      split
      · exact this
      · exact ⟨Int.le_refl _, Int.natCast_nonneg _⟩)
    rw [List.length_range] at h
    rw [cnt_succ, Nat.pow_succ, Nat.mul_comm, Int.natCast_mul]
    exact h
-- colours may be exchanged
def sw (u v x : Nat) : Nat := if x = u then v else if x = v then u else x
theorem sw_sw (u v x : Nat) : sw u v (sw u v x) = x := by unfold sw; split <;> split <;> (try split) <;> omega
theorem sw_lt {u v m x : Nat} (hu : u < m) (hv : v < m) (hx : x < m) : sw u v x < m := by unfold sw; split <;> (try split) <;> omega
theorem sw_perm {u v m : Nat} (hu : u < m) (hv : v < m) : ((List.range m).map (sw u v)).Perm (List.range m) := by
  have hinj : ∀ a b, sw u v a = sw u v b → a = b := fun a b h => by rw [← sw_sw u v a, h, sw_sw]
  refine (List.perm_ext_iff_of_nodup ?_ List.nodup_range).2 fun x => ?_
  · rw [List.Nodup, List.pairwise_map]
    exact (List.nodup_range (n := m)).imp fun h e => h (hinj _ _ e)
  · rw [List.mem_map, List.mem_range]
    constructor
    · rintro ⟨y, hy, rfl⟩
      exact sw_lt hu hv (List.mem_range.1 hy)
    · intro hx
      exact ⟨sw u v x, List.mem_range.2 (sw_lt hu hv hx), sw_sw u v x⟩
theorem prs_map (h : Nat → Nat) : ∀ (cs : List Nat) (i : Nat), prs i (cs.map h) = (prs i cs).map fun q => (q.1, h q.2)
  | [], _ => rfl
  | c :: cs, i => by
    show (i, h c) :: prs (i + 1) (cs.map h) = (i, h c) :: _
    rw [prs_map h cs (i + 1)]
theorem mayH_map (A : Nat → Nat → Bool) (u v : Nat) (cs : List Nat) (c : Nat) : mayH A (cs.map (sw u v)) (sw u v c) = mayH A cs c := by
  unfold mayH
  rw [prs_map, List.all_map, List.length_map]
  congr 1
  funext q
  have : (sw u v q.2 == sw u v c) = (q.2 == c) := by
    rw [Bool.eq_iff_iff, beq_iff_eq, beq_iff_eq]
    exact ⟨fun h => by rw [← sw_sw u v q.2, h, sw_sw], fun h => by rw [h]⟩
  show (!(sw u v q.2 == sw u v c && A q.1 cs.length)) = _
  rw [this]
theorem cnt_map (A : Nat → Nat → Bool) {u v m : Nat} (hu : u < m) (hv : v < m) : ∀ (d : Nat) (cs : List Nat), cnt A m d (cs.map (sw u v)) = cnt A m d cs
  | 0, _ => rfl
  | d + 1, cs => by
    rw [cnt_succ, cnt_succ, ← sumL_perm _ (sw_perm hu hv), sumL_map]
    refine sumL_congr _ fun c _ => ?_
    rw [mayH_map]
    have e : cs.map (sw u v) ++ [sw u v c] = (cs ++ [c]).map (sw u v) := by rw [List.map_append]; rfl
    rw [e, cnt_map A hu hv d (cs ++ [c])]
theorem prs_mem : ∀ (cs : List Nat) (i : Nat) (q : Nat × Nat), q ∈ prs i cs → q.2 ∈ cs
  | [], _, q, h => by cases h
  | c :: cs, i, q, h => by
    rcases List.mem_cons.1 h with rfl | h
    · exact List.mem_cons_self
    · exact List.mem_cons_of_mem _ (prs_mem cs (i + 1) q h)
theorem mayH_new (A : Nat → Nat → Bool) {used c : Nat} {cs : List Nat} (hcs : ∀ x ∈ cs, x < used) (hc : used ≤ c) : mayH A cs c = true := by
  unfold mayH
  rw [List.all_eq_true]
  intro q hq
  have := hcs _ (prs_mem cs 0 q hq)
  have hb : (q.2 == c) = false := beq_eq_false_iff_ne.2 (by omega)
  rw [hb]
  rfl
theorem cnt_new (A : Nat → Nat → Bool) {used c m : Nat} {cs : List Nat} (hcs : ∀ x ∈ cs, x < used) (hc : used ≤ c) (hm : c < m) (d : Nat) : cnt A m d (cs ++ [c]) = cnt A m d (cs ++ [used]) := by
  have hu : used < m := Nat.lt_of_le_of_lt hc hm
  rw [← cnt_map A hu hm d (cs ++ [used])]
  congr 1
  rw [List.map_append]
  congr 1
  · have : cs.map (sw used c) = cs.map id := List.map_congr_left fun x hx => by
      have := hcs x hx
      show sw used c x = x
      unfold sw
      rw [if_neg (by omega), if_neg (by omega)]
    rw [this, List.map_id]
  · show [c] = [sw used c used]
    unfold sw
    rw [if_pos rfl]
theorem range_split (u e : Nat) : List.range (u + e) = List.range u ++ (List.range e).map (u + ·) := by rw [List.range_add]
/-- The sum over all colours out of those that are used and one new one. -/
theorem cnt_used (A : Nat → Nat → Bool) {used m : Nat} {cs : List Nat} (hcs : ∀ x ∈ cs, x < used) (hu : used ≤ m) (d : Nat) : cnt A m (d + 1) cs = sumL (fun c => if mayH A cs c = true then cnt A m d (cs ++ [c]) else 0) (List.range used) + ((m - used : Nat) : Int) * cnt A m d (cs ++ [used]) := by
  obtain ⟨e, rfl⟩ : ∃ e, m = used + e := ⟨m - used, by omega⟩
  rw [cnt_succ, range_split, sumL_append, sumL_map, Nat.add_sub_cancel_left]
  congr 1
  have : sumL (fun x => if mayH A cs (used + x) = true then cnt A (used + e) d (cs ++ [used + x]) else 0) (List.range e) = sumL (fun _ => cnt A (used + e) d (cs ++ [used])) (List.range e) := sumL_congr _ fun x hx => by
    have := List.mem_range.1 hx
    rw [if_pos (mayH_new A hcs (Nat.le_add_right _ _)), cnt_new A hcs (Nat.le_add_right _ _) (by omega)]
  rw [this, sumL_const, List.length_range]
-- sets told by bits
def SS : Nat → Nat → (Nat → Int) → Int
  | 0, _, t => t 0
  | n + 1, S, t => if S % 2 = 1 then SS n (S / 2) (fun q => t (2 * q + 1) + t (2 * q)) else SS n (S / 2) (fun q => t (2 * q))
def SS2 : Nat → Nat → (Nat → Nat → Int) → Int
  | 0, _, t => t 0 0
  | n + 1, S, t => if S % 2 = 1 then SS2 n (S / 2) (fun q r => t (2 * q + 1) (2 * r) + t (2 * q) (2 * r + 1)) else SS2 n (S / 2) (fun q r => t (2 * q) (2 * r))
theorem SS_congr : ∀ (n S : Nat) (t t' : Nat → Int), S < 2 ^ n → (∀ q, q ≤ S → t q = t' q) → SS n S t = SS n S t'
  | 0, S, t, t', _, h => h 0 (Nat.zero_le _)
  | n + 1, S, t, t', hS, h => by
    have h2 : S / 2 < 2 ^ n := by rw [Nat.pow_succ] at hS; omega
    unfold SS
    split
    · exact SS_congr n (S / 2) _ _ h2 fun q hq => by rw [h (2 * q + 1) (by omega), h (2 * q) (by omega)]
    · exact SS_congr n (S / 2) _ _ h2 fun q hq => h (2 * q) (by omega)
theorem SS_SS2 : ∀ (n S : Nat) (t : Nat → Nat → Int), S < 2 ^ n → SS n S (fun q => t q (S - q)) = SS2 n S t
  | 0, S, t, hS => by
    have : S = 0 := by rw [Nat.pow_zero] at hS; omega
    subst this
    rfl
  | n + 1, S, t, hS => by
    have h2 : S / 2 < 2 ^ n := by rw [Nat.pow_succ] at hS; omega
    unfold SS SS2
    split
    · rw [← SS_SS2 n (S / 2) _ h2]
      refine SS_congr n (S / 2) _ _ h2 fun q hq => ?_
      show t (2 * q + 1) (S - (2 * q + 1)) + t (2 * q) (S - 2 * q) = t (2 * q + 1) (2 * (S / 2 - q)) + t (2 * q) (2 * (S / 2 - q) + 1)
      rw [show S - (2 * q + 1) = 2 * (S / 2 - q) by omega, show S - 2 * q = 2 * (S / 2 - q) + 1 by omega]
    · rw [← SS_SS2 n (S / 2) _ h2]
      refine SS_congr n (S / 2) _ _ h2 fun q hq => ?_
      show t (2 * q) (S - 2 * q) = t (2 * q) (2 * (S / 2 - q))
      rw [show S - 2 * q = 2 * (S / 2 - q) by omega]
def lds : Nat → Nat → Nat → List Nat
  | _, 0, _ => []
  | k, n + 1, S => if S % 2 = 1 then k :: lds (k + 1) n (S / 2) else lds (k + 1) n (S / 2)
theorem lds_odd (k n q : Nat) : lds k (n + 1) (2 * q + 1) = k :: lds (k + 1) n q := by
  rw [lds, if_pos (by omega), show (2 * q + 1) / 2 = q by omega]
theorem lds_even (k n q : Nat) : lds k (n + 1) (2 * q) = lds (k + 1) n q := by
  rw [lds, if_neg (by omega), show (2 * q) / 2 = q by omega]
theorem SS2_splits : ∀ (n k S : Nat) (Ψ : List Nat → List Nat → Int), SS2 n S (fun q r => Ψ (lds k n q) (lds k n r)) = sumL (fun p => Ψ p.1 p.2) (splits (lds k n S))
  | 0, k, S, Ψ => by
    show Ψ [] [] = Ψ [] [] + 0
    omega
  | n + 1, k, S, Ψ => by
    rw [SS2, lds]
    by_cases h : S % 2 = 1
    · rw [if_pos h, if_pos h]
      have ih := SS2_splits n (k + 1) (S / 2) (fun P R => Ψ (k :: P) R + Ψ P (k :: R))
      have e : splits (k :: lds (k + 1) n (S / 2)) = (splits (lds (k + 1) n (S / 2))).flatMap fun p => [(k :: p.1, p.2), (p.1, k :: p.2)] := rfl
      rw [e, sumL_flatMap]
      have e2 : (fun q r => Ψ (lds k (n + 1) (2 * q + 1)) (lds k (n + 1) (2 * r)) + Ψ (lds k (n + 1) (2 * q)) (lds k (n + 1) (2 * r + 1))) = fun q r => Ψ (k :: lds (k + 1) n q) (lds (k + 1) n r) + Ψ (lds (k + 1) n q) (k :: lds (k + 1) n r) := by
        funext q r
        rw [lds_odd, lds_even, lds_even, lds_odd]
      rw [e2, ih]
      refine sumL_congr _ fun p _ => ?_
      show Ψ (k :: p.1) p.2 + Ψ p.1 (k :: p.2) = Ψ (k :: p.1) p.2 + (Ψ p.1 (k :: p.2) + 0)
      omega
    · rw [if_neg h, if_neg h]
      have ih := SS2_splits n (k + 1) (S / 2) Ψ
      have e2 : (fun q r => Ψ (lds k (n + 1) (2 * q)) (lds k (n + 1) (2 * r))) = fun q r => Ψ (lds (k + 1) n q) (lds (k + 1) n r) := by
        funext q r
        rw [lds_even, lds_even]
      rw [e2, ih]
/-- The sum that the walk down over the parts of a set takes. -/
def GS : Nat → Nat → (Nat → Int) → Nat → Int
  | 0, _, _, _ => 0
  | f + 1, S, t, p => t p + if p = 0 then 0 else GS f S t ((p - 1) &&& S)
theorem GS_succ (f S : Nat) (t : Nat → Int) (p : Nat) : GS (f + 1) S t p = t p + if p = 0 then 0 else GS f S t ((p - 1) &&& S) := rfl
theorem and_mod (x y : Nat) : (x &&& y) % 2 = x % 2 * (y % 2) := by
  have h := Nat.testBit_and x y 0
  rw [Nat.testBit_zero, Nat.testBit_zero, Nat.testBit_zero] at h
  have h2 : ((x &&& y) % 2 = 1) ↔ (x % 2 = 1 ∧ y % 2 = 1) := by
    rw [Bool.eq_iff_iff, decide_eq_true_eq, Bool.and_eq_true, decide_eq_true_eq, decide_eq_true_eq] at h
    exact h
  rcases Nat.mod_two_eq_zero_or_one x with hx | hx <;> rcases Nat.mod_two_eq_zero_or_one y with hy | hy <;> rw [hx, hy] at h2 ⊢ <;> omega
theorem and_div (x y : Nat) : (x &&& y) / 2 = x / 2 &&& y / 2 := Nat.and_div_two
theorem and_00 (a b : Nat) : (2 * a) &&& (2 * b) = 2 * (a &&& b) := by
  have h1 := and_mod (2 * a) (2 * b)
  have h2 := and_div (2 * a) (2 * b)
  rw [show 2 * a / 2 = a by omega, show 2 * b / 2 = b by omega] at h2
  rw [show 2 * a % 2 = 0 by omega, Nat.zero_mul] at h1
  omega
theorem and_01 (a b : Nat) : (2 * a) &&& (2 * b + 1) = 2 * (a &&& b) := by
  have h1 := and_mod (2 * a) (2 * b + 1)
  have h2 := and_div (2 * a) (2 * b + 1)
  rw [show 2 * a / 2 = a by omega, show (2 * b + 1) / 2 = b by omega] at h2
  rw [show 2 * a % 2 = 0 by omega, Nat.zero_mul] at h1
  omega
theorem and_10 (a b : Nat) : (2 * a + 1) &&& (2 * b) = 2 * (a &&& b) := by
  have h1 := and_mod (2 * a + 1) (2 * b)
  have h2 := and_div (2 * a + 1) (2 * b)
  rw [show (2 * a + 1) / 2 = a by omega, show 2 * b / 2 = b by omega] at h2
  rw [show 2 * b % 2 = 0 by omega, Nat.mul_zero] at h1
  omega
theorem and_11 (a b : Nat) : (2 * a + 1) &&& (2 * b + 1) = 2 * (a &&& b) + 1 := by
  have h1 := and_mod (2 * a + 1) (2 * b + 1)
  have h2 := and_div (2 * a + 1) (2 * b + 1)
  rw [show (2 * a + 1) / 2 = a by omega, show (2 * b + 1) / 2 = b by omega] at h2
  rw [show (2 * a + 1) % 2 = 1 by omega, show (2 * b + 1) % 2 = 1 by omega] at h1
  omega
theorem and_sub (x y : Nat) : (x &&& y) &&& y = x &&& y := by rw [Nat.and_assoc, Nat.and_self]
theorem GS_odd (a : Nat) (t : Nat → Int) : ∀ (f2 f1 q : Nat), 2 * q + 1 < f1 → q < f2 → q &&& a = q → GS f1 (2 * a + 1) t (2 * q + 1) = GS f2 a (fun q => t (2 * q + 1) + t (2 * q)) q := by
  intro f2
  induction f2 with
  | zero => intro f1 q h1 h2 _; omega
  | succ f2 ih =>
    intro f1 q h1 h2 hq
    obtain ⟨f1, rfl⟩ : ∃ g, f1 = g + 2 := ⟨f1 - 2, by omega⟩
    rw [GS_succ, if_neg (by omega), show 2 * q + 1 - 1 = 2 * q by omega, and_01, hq, GS_succ, GS_succ]
    by_cases h0 : q = 0
    · subst h0
      rw [if_pos rfl, if_pos rfl]
      omega
    · rw [if_neg (by omega), if_neg h0, show 2 * q - 1 = 2 * (q - 1) + 1 by omega, and_11]
      have hle := Nat.and_le_left (n := q - 1) (m := a)
      rw [ih f1 ((q - 1) &&& a) (by omega) (by omega) (and_sub _ _)]
      omega
theorem GS_even (a : Nat) (t : Nat → Int) : ∀ (f2 f1 q : Nat), 2 * q < f1 → q < f2 → q &&& a = q → GS f1 (2 * a) t (2 * q) = GS f2 a (fun q => t (2 * q)) q := by
  intro f2
  induction f2 with
  | zero => intro f1 q h1 h2 _; omega
  | succ f2 ih =>
    intro f1 q h1 h2 hq
    obtain ⟨f1, rfl⟩ : ∃ g, f1 = g + 1 := ⟨f1 - 1, by omega⟩
    rw [GS_succ, GS_succ]
    by_cases h0 : q = 0
    · subst h0
      rw [if_pos rfl, if_pos rfl]
    · rw [if_neg (by omega), if_neg h0, show 2 * q - 1 = 2 * (q - 1) + 1 by omega, and_10]
      have hle := Nat.and_le_left (n := q - 1) (m := a)
      rw [ih f1 ((q - 1) &&& a) (by omega) (by omega) (and_sub _ _)]
theorem GS_SS : ∀ (n S f : Nat) (t : Nat → Int), S < 2 ^ n → S < f → GS f S t S = SS n S t
  | 0, S, f, t, hS, hf => by
    have : S = 0 := by rw [Nat.pow_zero] at hS; omega
    subst this
    obtain ⟨f, rfl⟩ : ∃ g, f = g + 1 := ⟨f - 1, by omega⟩
    rw [GS_succ, if_pos rfl]
    show t 0 + 0 = t 0
    omega
  | n + 1, S, f, t, hS, hf => by
    have h2 : S / 2 < 2 ^ n := by rw [Nat.pow_succ] at hS; omega
    rw [SS]
    by_cases h : S % 2 = 1
    · rw [if_pos h, ← GS_SS n (S / 2) (S / 2 + 1) _ h2 (Nat.lt_succ_self _)]
      have e : S = 2 * (S / 2) + 1 := by omega
      have := GS_odd (S / 2) t (S / 2 + 1) f (S / 2) (by omega) (Nat.lt_succ_self _) (Nat.and_self _)
      rw [← e] at this
      exact this
    · rw [if_neg h, ← GS_SS n (S / 2) (S / 2 + 1) _ h2 (Nat.lt_succ_self _)]
      have e : S = 2 * (S / 2) := by omega
      have := GS_even (S / 2) t (S / 2 + 1) f (S / 2) (by omega) (Nat.lt_succ_self _) (Nat.and_self _)
      rw [← e] at this
      exact this
theorem lds_full : ∀ n k : Nat, lds k n (2 ^ n - 1) = lst k n
  | 0, _ => rfl
  | n + 1, k => by
    have hp : 0 < 2 ^ n := Nat.pow_pos (by decide)
    have e : 2 ^ (n + 1) - 1 = 2 * (2 ^ n - 1) + 1 := by rw [Nat.pow_succ]; omega
    rw [e, lds_odd, lds_full n (k + 1)]
    rfl
theorem mem_lds : ∀ (n k S x : Nat), x ∈ lds k n S ↔ k ≤ x ∧ x < k + n ∧ S / 2 ^ (x - k) % 2 = 1
  | 0, k, S, x => by
    constructor
    · intro h; cases h
    · rintro ⟨h1, h2, _⟩; omega
  | n + 1, k, S, x => by
    have ih := mem_lds n (k + 1) (S / 2) x
    have hs : k + 1 ≤ x → S / 2 / 2 ^ (x - (k + 1)) = S / 2 ^ (x - k) := fun h => by
      rw [Nat.div_div_eq_div_mul, show x - k = (x - (k + 1)) + 1 by omega, Nat.pow_succ, Nat.mul_comm]
    rw [lds]
    by_cases h : S % 2 = 1
    · rw [if_pos h, List.mem_cons, ih]
      constructor
      · rintro (rfl | ⟨h1, h2, h3⟩)
        · exact ⟨Nat.le_refl _, by omega, by rw [Nat.sub_self, Nat.pow_zero, Nat.div_one]; exact h⟩
        · exact ⟨by omega, by omega, by rw [← hs h1]; exact h3⟩
      · rintro ⟨h1, h2, h3⟩
        by_cases e : x = k
        · exact .inl e
        · exact .inr ⟨by omega, by omega, by rw [hs (by omega)]; exact h3⟩
    · rw [if_neg h, ih]
      constructor
      · rintro ⟨h1, h2, h3⟩
        exact ⟨by omega, by omega, by rw [← hs h1]; exact h3⟩
      · rintro ⟨h1, h2, h3⟩
        by_cases e : x = k
        · subst e
          rw [Nat.sub_self, Nat.pow_zero, Nat.div_one] at h3
          exact absurd h3 h
        · exact ⟨by omega, by omega, by rw [hs (by omega)]; exact h3⟩
theorem lds_nodup : ∀ n k S : Nat, (lds k n S).Nodup
  | 0, _, _ => List.nodup_nil
  | n + 1, k, S => by
    have ih := lds_nodup n (k + 1) (S / 2)
    rw [lds]
    split
    · rw [List.nodup_cons]
      exact ⟨fun h => by have := (mem_lds n (k + 1) (S / 2) k).1 h; omega, ih⟩
    · exact ih
theorem lds_length : ∀ n k S : Nat, (lds k n S).length ≤ n
  | 0, _, _ => Nat.le_refl _
  | n + 1, k, S => by
    have ih := lds_length n (k + 1) (S / 2)
    rw [lds]
    split
    · rw [List.length_cons]; omega
    · omega
theorem lds_nil : ∀ n k S : Nat, S < 2 ^ n → (lds k n S = [] ↔ S = 0)
  | 0, _, S, h => by
    rw [Nat.pow_zero] at h
    exact ⟨fun _ => by omega, fun _ => rfl⟩
  | n + 1, k, S, h => by
    have h2 : S / 2 < 2 ^ n := by rw [Nat.pow_succ] at h; omega
    have ih := lds_nil n (k + 1) (S / 2) h2
    rw [lds]
    split
    · constructor
      · intro h; cases h
      · intro h; omega
    · rw [ih]; omega
theorem apartL_iff_ {A : Nat → Nat → Bool} (hA : ∀ s t, A s t = A t s) : ∀ (l : List Nat), l.Nodup → (apartL A l = true ↔ ∀ s ∈ l, ∀ t ∈ l, s ≠ t → A s t = false)
  | [], _ => ⟨(fun _ s h => by cases h), (fun _ => rfl)⟩
  | s :: r, hn => by
    rw [List.nodup_cons] at hn
    have ih := apartL_iff_ hA r hn.2
    show ((r.all (fun t => !A s t) && apartL A r) = true) ↔ _
    rw [Bool.and_eq_true, ih, List.all_eq_true]
    constructor
    · rintro ⟨h1, h2⟩ a ha b hb hab
      rcases List.mem_cons.1 ha with ea | ha2
      · rcases List.mem_cons.1 hb with eb | hb2
        · exact absurd (ea.trans eb.symm) hab
        · rw [ea]; simpa using h1 b hb2
      · rcases List.mem_cons.1 hb with eb | hb2
        · rw [eb, hA]; simpa using h1 a ha2
        · exact h2 a ha2 b hb2 hab
    · intro h
      refine ⟨fun t ht => ?_, fun a ha b hb hab => h a (List.mem_cons_of_mem _ ha) b (List.mem_cons_of_mem _ hb) hab⟩
      rw [h s List.mem_cons_self t (List.mem_cons_of_mem _ ht) (fun e => hn.1 (e ▸ ht))]
      rfl
theorem apartL_iff {A : Nat → Nat → Bool} (hA : ∀ s t, A s t = A t s) {l : List Nat} (hn : l.Nodup) : apartL A l = true ↔ ∀ s ∈ l, ∀ t ∈ l, s ≠ t → A s t = false := apartL_iff_ hA l hn
/-- The step of the table of ways. -/
theorem ways_step (A : Nat → Nat → Bool) (n c S f : Nat) (hS : S < 2 ^ n) (hf : S < f) : GS f S (fun q => if apartL A (lds 0 n q) = true then Wn A c (lds 0 n (S - q)) else 0) S = Wn A (c + 1) (lds 0 n S) := by
  rw [GS_SS n S f _ hS hf, Wn_succ, ← SS2_splits n 0 S (fun P R => if apartL A P = true then Wn A c R else 0), ← SS_SS2 n S _ hS]
end Go.Proofs.Ytcjkklkmlooinaa.Pure
