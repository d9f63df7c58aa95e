/- What came in as data is read as the print's kinds read it: integers, strings, slices and structs, at any depth. -/
import Derived.Test.YtmedijjjhabpbaaPrint0
import Derived.ProofKit
import Derived.OpenShut
import Derived.SizedLaws
import Derived.Deep.Slices
namespace Go.Proofs.Ytmedijjjhabpbaa.Print
open Go.RowKit Go.Proofs.YtmedijjjhabpbaaW.PrintWords Go.Proofs.YtmedijjjhabpbaaW.PrintLast Go.Deep Go.ChangeShapes Go.WideShapes
/-- Whatever reads as data of type t reads as a value of kind d, and p holds of it. -/
def Opn {α : Type} (P : Program) (w : World) (d : Kd α) (t : TypeId) (p : α → Prop) : Prop :=
  ∀ (H : Type) (enc : TypeId × Value → H) (base : Nat) (spare : Nat → Bool) (held : Bool) (fuel : Nat) (cs : List Value) (x : DataW H × List MemPlace), DataW.trod enc P w base spare held fuel t cs = some x → ∃ a : α, d.K w a cs ∧ p a
variable {P : Program} {w : World} {t e : TypeId}
theorem op_int {k : IntKind} (hu : P.underlying t = some (.int k)) : Opn P w (Kd.int k) t (wfI k) := by
  intro H enc base spare held fuel cs x h
  obtain ⟨n, rfl, _, hw⟩ := DataW.trod_int hu h
  exact ⟨n, rfl, hw⟩
theorem op_bool (hu : P.underlying t = some .bool) : Opn P w Kd.bool t (fun _ => True) := by
  intro H enc base spare held fuel cs x h
  obtain ⟨n, rfl, _⟩ := DataW.trod_bool hu h
  exact ⟨n, rfl, trivial⟩
theorem op_string (hu : P.underlying t = some .string) : Opn P w Kd.string t wfStr := by
  intro H enc base spare held fuel cs x h
  obtain ⟨n, rfl, _, hw⟩ := DataW.trod_string hu h
  exact ⟨n, rfl, by unfold maxLen at hw; exact hw⟩
theorem choose_list {α : Type} {R : Nat → α → Prop} : ∀ (n : Nat), (∀ i, i < n → ∃ a, R i a) → ∃ l : List α, l.length = n ∧ ∀ i a, l[i]? = some a → R i a := by
  intro n
  induction n with
  | zero => intro _; exact ⟨[], rfl, fun i a h => by simp at h⟩
  | succ n ih =>
    intro h
    obtain ⟨l, hl, hr⟩ := ih (fun i hi => h i (by omega))
    obtain ⟨a, ha⟩ := h n (by omega)
    refine ⟨l ++ [a], by simp [hl], fun i b hb => ?_⟩
    rcases Nat.lt_or_ge i n with hi | hi
    · rw [List.getElem?_append_left (by omega)] at hb
      exact hr i b hb
    · rw [List.getElem?_append_right (by omega)] at hb
      have : i - l.length = 0 := by
        rcases Nat.eq_zero_or_pos (i - l.length) with h0 | h0
        · exact h0
        · rw [List.getElem?_eq_none (by simp; omega)] at hb; cases hb
      rw [this] at hb
      have hi2 : i = n := by omega
      subst hi2
      simp at hb
      exact hb ▸ ha
theorem op_slice {α : Type} {d : Kd α} {p : α → Prop} (hu : P.underlying t = some (.slice e)) (hc : P.cellsOf e = d.sz) (h1 : Opn P w d e p) : Opn P w (Kd.slice e d) t (wfS p) := by
  intro H enc base spare held fuel cs x h
  rcases open_slice hu h with ⟨rfl, _⟩ | ⟨a, len, cap, m, n, D, Pl, rfl, _, hl, hm, hmm, _, hx⟩
  · exact ⟨[], ⟨none, 0, rfl, Nat.le_refl _, rfl, by simp, fun h0 => by simp at h0⟩, by simp [wfS]⟩
  · have hle : len ≤ m := by rw [hmm]; split <;> omega
    obtain ⟨l, hlen, hR⟩ := choose_list (α := α) (R := fun i v => (∃ c, w.cells? base (a.add (i * P.cellsOf e)) (P.cellsOf e) = some c ∧ d.K w v c) ∧ p v) len (fun i hi => by
      obtain ⟨c, hc1, hc2⟩ := hx i (by omega)
      obtain ⟨v, hv, hp⟩ := h1 H enc base spare held n c _ hc2
      exact ⟨v, ⟨c, hc1, hv⟩, hp⟩)
    unfold maxLen at hm
    refine ⟨l, ⟨some a, cap, by rw [hlen], by omega, rfl, by omega, fun _ => ⟨a, rfl, fun j q hj => ?_⟩⟩, by omega, fun v hv => ?_⟩
    · obtain ⟨⟨c, hc1, hk⟩, _⟩ := hR j q hj
      obtain ⟨_, hcl, hcell⟩ := World.cells?_some hc1
      refine ⟨c, d.K_len hk, hk, fun i u hu => ?_⟩
      have hi : i < c.length := (List.getElem?_eq_some_iff.1 hu).1
      have := hcell i (by omega)
      rw [hu, hc, Addr.add_add] at this
      exact this
    · obtain ⟨i, hi⟩ := List.mem_iff_getElem?.1 hv
      exact (hR i v hi).2
theorem op_iso {α β : Type} {d : Kd α} {p : α → Prop} (f : β → α) (g : α → β) (hg : ∀ a, f (g a) = a) (h : Opn P w d t p) : Opn P w (Kd.iso d f) t (fun b => p (f b)) := by
  intro H enc base spare held fuel cs x hx
  obtain ⟨a, hk, hp⟩ := h H enc base spare held fuel cs x hx
  exact ⟨g a, by show d.K w (f (g a)) cs; rw [hg]; exact hk, by show p (f (g a)); rw [hg]; exact hp⟩
theorem op_imp {α : Type} {d : Kd α} {p q : α → Prop} (hpq : ∀ a, p a → q a) (h : Opn P w d t p) : Opn P w d t q := by
  intro H enc base spare held fuel cs x hx
  obtain ⟨a, hk, hp⟩ := h H enc base spare held fuel cs x hx
  exact ⟨a, hk, hpq a hp⟩
theorem op_struct2 {α β : Type} {d0 : Kd α} {d1 : Kd β} {p0 : α → Prop} {p1 : β → Prop} {f0 f1 : Field} (hu : P.underlying t = some (.struct #[f0, f1])) (ct : P.cellsOf t = d0.sz + d1.sz)
    (o0 : f0.offset = 0) (o1 : f1.offset = d0.sz) (c0 : P.cellsOf f0.type = d0.sz) (c1 : P.cellsOf f1.type = d1.sz) (h0 : Opn P w d0 f0.type p0) (h1 : Opn P w d1 f1.type p1) : Opn P w (Kd.pair d0 d1) t (fun x => p0 x.1 ∧ p1 x.2) := by
  intro H enc base spare held fuel cs x hx
  obtain ⟨xs, n, _, _, hl, hlen, hf⟩ := DataW.trod_struct hu hx
  have g0 := hf 0 f0 rfl
  have g1 := hf 1 f1 rfl
  rw [List.getElem?_eq_getElem (by rw [hlen]; simp)] at g0 g1
  obtain ⟨a0, k0, q0⟩ := h0 H enc base spare held n _ _ g0
  obtain ⟨a1, k1, q1⟩ := h1 H enc base spare held n _ _ g1
  rw [o0, c0, List.drop_zero] at k0
  rw [o1, c1] at k1
  refine ⟨(a0, a1), ⟨_, _, ?_, k0, k1⟩, q0, q1⟩
  rw [List.take_of_length_le (l := cs.drop d0.sz) (by rw [List.length_drop, hl, ct]; omega), List.take_append_drop]
theorem op_struct4 {α β γ δ : Type} {d0 : Kd α} {d1 : Kd β} {d2 : Kd γ} {d3 : Kd δ} {p0 : α → Prop} {p1 : β → Prop} {p2 : γ → Prop} {p3 : δ → Prop} {f0 f1 f2 f3 : Field} (hu : P.underlying t = some (.struct #[f0, f1, f2, f3])) (ct : P.cellsOf t = d0.sz + (d1.sz + (d2.sz + d3.sz)))
    (o0 : f0.offset = 0) (o1 : f1.offset = d0.sz) (o2 : f2.offset = d0.sz + d1.sz) (o3 : f3.offset = d0.sz + d1.sz + d2.sz) (c0 : P.cellsOf f0.type = d0.sz) (c1 : P.cellsOf f1.type = d1.sz) (c2 : P.cellsOf f2.type = d2.sz) (c3 : P.cellsOf f3.type = d3.sz)
    (h0 : Opn P w d0 f0.type p0) (h1 : Opn P w d1 f1.type p1) (h2 : Opn P w d2 f2.type p2) (h3 : Opn P w d3 f3.type p3) : Opn P w (Kd.pair d0 (Kd.pair d1 (Kd.pair d2 d3))) t (fun x => p0 x.1 ∧ p1 x.2.1 ∧ p2 x.2.2.1 ∧ p3 x.2.2.2) := by
  intro H enc base spare held fuel cs x hx
  obtain ⟨xs, n, _, _, hl, hlen, hf⟩ := DataW.trod_struct hu hx
  have g0 := hf 0 f0 rfl
  have g1 := hf 1 f1 rfl
  have g2 := hf 2 f2 rfl
  have g3 := hf 3 f3 rfl
  rw [List.getElem?_eq_getElem (by rw [hlen]; simp)] at g0 g1 g2 g3
  obtain ⟨a0, k0, q0⟩ := h0 H enc base spare held n _ _ g0
  obtain ⟨a1, k1, q1⟩ := h1 H enc base spare held n _ _ g1
  obtain ⟨a2, k2, q2⟩ := h2 H enc base spare held n _ _ g2
  obtain ⟨a3, k3, q3⟩ := h3 H enc base spare held n _ _ g3
  rw [o0, c0, List.drop_zero] at k0
  rw [o1, c1] at k1
  rw [o2, c2] at k2
  rw [o3, c3] at k3
  refine ⟨(a0, a1, a2, a3), ⟨_, _, ?_, k0, _, _, rfl, k1, _, _, rfl, k2, k3⟩, q0, q1, q2, q3⟩
  rw [List.take_of_length_le (l := cs.drop (d0.sz + d1.sz + d2.sz)) (by rw [List.length_drop, hl, ct]; omega)]
  have e2 : (cs.drop (d0.sz + d1.sz)).take d2.sz ++ cs.drop (d0.sz + d1.sz + d2.sz) = cs.drop (d0.sz + d1.sz) := by
    rw [← List.drop_drop (i := d2.sz)]; exact List.take_append_drop _ _
  have e1 : (cs.drop d0.sz).take d1.sz ++ cs.drop (d0.sz + d1.sz) = cs.drop d0.sz := by
    rw [← List.drop_drop (i := d1.sz)]; exact List.take_append_drop _ _
  rw [e2, e1, List.take_append_drop]
/-- A parameter that is a slice. -/
theorem arg_slice {H : Type} {enc : TypeId × Value → H} {α : Type} {d : Kd α} {p : α → Prop} {base b0 : Nat} {r : Reach} {spare : Nat → Bool} {held : Bool} {v : Value} {dt : DataW H} {ps : List MemPlace} (hu : P.underlying t = some (.slice e)) (hc : P.cellsOf e = d.sz) (h1 : Opn P w d e p)
    (hv : Value.okWide P w r b0 t v) (h : DataW.Trod enc P w base spare held t v dt ps) {ts : List TypeId} {ds : List (DataW H)} {j : Nat} (hsz : (DataW.weightsEach P ts ds).all (· ≤ reachBytes) = true) (ht : ts[j]? = some t) (hd : ds[j]? = some dt) {B : Nat} (hB : P.bytesOf e = B) :
    ∃ A c l, v = .slice A (List.length l) c ∧ List.length l ≤ c ∧ d.C w A (List.length l) l ∧ wfS p l ∧ l.length * B ≤ 140737488351232 := by
  obtain ⟨A, len, cap, rfl⟩ := okWide_slice hu hv
  obtain ⟨fuel, hf⟩ := h
  have hb : len * B ≤ 140737488351232 := by
    rcases open_slice hu hf with ⟨hcs, hx⟩ | ⟨a, len', cap', m, n, D, Pl, hcs, _, hl, hm, hmm, hx, _⟩
    · simp [Value.cells] at hcs
      obtain ⟨rfl, rfl, rfl⟩ := hcs
      simp
    · simp [Value.cells] at hcs
      obtain ⟨rfl, rfl, rfl⟩ := hcs
      obtain ⟨hx, _⟩ := Prod.mk.inj hx
      subst hx
      have z := sized_slice hsz ht hd hu
      rw [hB] at z
      refine Nat.le_trans (Nat.mul_le_mul_right _ ?_) z
      simp
  obtain ⟨l, ⟨A', c, hcs, hlc, hC⟩, hp⟩ := op_slice hu hc h1 _ _ _ _ _ _ _ _ hf
  simp [Value.cells] at hcs
  obtain ⟨rfl, rfl, rfl⟩ := hcs
  exact ⟨A, cap, l, rfl, hlc, hC, hp, hb⟩
/-- A parameter that is a struct. -/
theorem arg_struct {H : Type} {enc : TypeId × Value → H} {α : Type} {d : Kd α} {p : α → Prop} {base b0 : Nat} {r : Reach} {spare : Nat → Bool} {held : Bool} {v : Value} {dt : DataW H} {ps : List MemPlace} {fs : Array Field} (hu : P.underlying t = some (.struct fs)) (h1 : Opn P w d t p)
    (hv : Value.okWide P w r b0 t v) (h : DataW.Trod enc P w base spare held t v dt ps) : ∃ (cs : List Value) (x : α), v = .agg cs.toArray ∧ d.K w x cs ∧ p x := by
  obtain ⟨cs, rfl, _⟩ := okWide_struct hu hv
  obtain ⟨fuel, hf⟩ := h
  obtain ⟨x, hk, hp⟩ := h1 _ _ _ _ _ _ _ _ hf
  exact ⟨cs.toList, x, rfl, by simpa [Value.cells] using hk, hp⟩
theorem op_k49 (w : World) : Opn Try.prog w k49 49 wf49 := op_iso (fun x : S49 => (x.f0, x.f1)) (fun a => ⟨a.1, a.2⟩) (fun _ => rfl) (op_struct2 Try.underlying49 (by kernel_rfl) rfl rfl (by kernel_rfl) (by kernel_rfl) (op_int Try.underlying2) (op_int Try.underlying2))
end Go.Proofs.Ytmedijjjhabpbaa.Print
