/- What is reached over two colours, as the program finds it. -/
import Derived.Test.YtcjkklkmlooinaaPrint0
import Derived.Test.YtcjkklkmlooinaaPrint17
import Derived.Test.YtcjkklkmlooinaaNum
import Derived.Test.YtcjkklkmlooinaaMgA
import Derived.Test.YtcjkklkmlooinaaLabI
import Derived.Test.YtcjkklkmlooinaaBoVI
import Derived.Test.YtcjkklkmlooinaaAscP
import Derived.Test.YtcjkklkmlooinaaBoNI
namespace Go.Proofs.Ytcjkklkmlooinaa.Pure
open Go.RowKit Go.Proofs.Ytcjkklkmlooinaa.Print Go.Proofs.YtcjkklkmlooinaaW.PrintWords Go.Proofs.YtcjkklkmlooinaaW.PrintLast Go.Proofs.YtcjkklkmlooinaaW.PrintMore
set_option linter.unusedVariables false
set_option linter.unusedSimpArgs false
/-- What is reached: different lands of the two colours. -/
structure Rch (n : Int) (ys : List Int) (own other : Int) (rl : List Int) : Prop where
  nod : rl.Nodup
  at_ : ∀ r ∈ rl, (0 ≤ r ∧ r < n) ∧ (rd ys r = own ∨ rd ys r = other)
theorem Rch.len {n : Int} {ys : List Int} {own other : Int} {rl : List Int} (h : Rch n ys own other rl) (hn : 1 ≤ n ∧ n ≤ 10) : rl.length ≤ 10 := by
  have := nodup_len n.toNat rl h.nod (fun x hx => by have := (h.at_ x hx).1; omega)
  omega
def hit (ys : List Int) (own other : Int) (rl : List Int) (x : Int) : Bool := decide (rd ys x = own ∨ rd ys x = other) && !rl.contains x
def addN (ys : List Int) (own other : Int) : List Int → List Int → List Int
  | [], rl => rl
  | x :: xs, rl => addN ys own other xs (if hit ys own other rl x = true then rl ++ [x] else rl)
theorem Rch.add {n : Int} {ys : List Int} {own other : Int} : ∀ (nb rl : List Int), Rch n ys own other rl → (∀ x ∈ nb, 0 ≤ x ∧ x < n) → Rch n ys own other (addN ys own other nb rl) ∧ ∃ t, addN ys own other nb rl = rl ++ t
  | [], rl, h, _ => ⟨h, [], by simp [addN]⟩
  | x :: xs, rl, h, hx => by
    have hx0 := hx x List.mem_cons_self
    have hxs : ∀ z ∈ xs, 0 ≤ z ∧ z < n := fun z hz => hx z (List.mem_cons_of_mem _ hz)
    have e : addN ys own other (x :: xs) rl = addN ys own other xs (if hit ys own other rl x = true then rl ++ [x] else rl) := rfl
    rw [e]
    by_cases c : hit ys own other rl x = true
    · rw [if_pos c]
      unfold hit at c
      simp only [Bool.and_eq_true, decide_eq_true_eq, Bool.not_eq_true'] at c
      have hm : x ∉ rl := fun hm => by have := c.2; simp [hm] at this
      have h2 : Rch n ys own other (rl ++ [x]) := ⟨List.nodup_append.2 ⟨h.nod, by simp, by intro a ha b hb; simp at hb; subst hb; rintro rfl; exact hm ha⟩, fun r hr => by
        rcases List.mem_append.1 hr with hr | hr
        · exact h.at_ r hr
        · rw [List.mem_singleton.1 hr]; exact ⟨hx0, c.1⟩⟩
      obtain ⟨h3, t, ht⟩ := Rch.add xs (rl ++ [x]) h2 hxs
      exact ⟨h3, x :: t, by rw [ht, List.append_assoc]; rfl⟩
    · rw [if_neg c]
      exact Rch.add xs rl h hxs
def swp (ys : List Int) (s : Int) : List Int → List Int → List Int
  | out, [] => out
  | out, r :: rs => swp ys s (out.set r.toNat (s - rd ys r)) rs
theorem swp_length (ys : List Int) (s : Int) : ∀ (rs out : List Int), (swp ys s out rs).length = out.length
  | [], _ => rfl
  | r :: rs, out => by
    have e : swp ys s out (r :: rs) = swp ys s (out.set r.toNat (s - rd ys r)) rs := rfl
    rw [e, swp_length, List.length_set]
theorem swp_snoc (ys : List Int) (s : Int) (r : Int) : ∀ (rs out : List Int), swp ys s out (rs ++ [r]) = (swp ys s out rs).set r.toNat (s - rd ys r)
  | [], _ => rfl
  | q :: rs, out => swp_snoc ys s r rs _
theorem rd_set_ne (out : List Int) (r q v : Int) (hr : 0 ≤ r) (hq : 0 ≤ q) (h : q ≠ r) : rd (out.set r.toNat v) q = rd out q := by
  unfold rd
  rw [List.getD_eq_getElem?_getD, List.getD_eq_getElem?_getD, List.getElem?_set_ne (by omega)]
theorem swp_other (ys : List Int) (s : Int) (q : Int) (hq : 0 ≤ q) : ∀ (rs out : List Int), (∀ r ∈ rs, 0 ≤ r) → q ∉ rs → rd (swp ys s out rs) q = rd out q
  | [], _, _, _ => rfl
  | r :: rs, out, h, hm => by
    have e : swp ys s out (r :: rs) = swp ys s (out.set r.toNat (s - rd ys r)) rs := rfl
    rw [e, swp_other ys s q hq rs _ (fun z hz => h z (List.mem_cons_of_mem _ hz)) (fun hz => hm (List.mem_cons_of_mem _ hz))]
    exact rd_set_ne _ _ _ _ (h r List.mem_cons_self) hq (fun e => hm (e ▸ List.mem_cons_self))
/-- All that the walk of both needs to know. -/
structure Sw (n : Int) (xs : List S58) (ys : List Int) (own other : Int) : Prop where
  O : OkBs n xs
  len : (ys.length : Int) = n
  own0 : 0 ≤ own ∧ own ≤ 9
  oth0 : 0 ≤ other ∧ other ≤ 9
  ne : own ≠ other
theorem nb_in {n : Int} {xs : List S58} (hn : 1 ≤ n ∧ n ≤ 10) (land : Int) : ∀ x ∈ nbs xs land n.toNat, 0 ≤ x ∧ x < n := by
  intro x hx
  have := (nbs_mem xs land x n.toNat).1 hx
  omega
theorem implS_in {n : Int} {xs : List S58} {ys : List Int} {own other : Int} (W : Sw n xs ys own other) (out nb : List Int) (i : Int) (hnb : ∀ x ∈ nb, 0 ≤ x ∧ x < n) (hnl : nb.length ≤ 10) : ∀ (d k j : Nat) (rl : List Int), nb.length - j = d → j ≤ nb.length → d + 20 < k → Rch n ys own other rl →
    impl_SwapColours.l1 k xs ys other own out rl i nb (nb.length : Int) (j : Int) = impl_SwapColours.l0 (k - d - 1) xs ys other own out (addN ys own other (nb.drop j) rl) (wrap64 (i + 1)) := by
  intro d
  have hn := W.O.lands
  have hlen := W.len
  induction d with
  | zero =>
    intro k j rl hd hj hk hR
    obtain ⟨k, rfl⟩ : ∃ m, k = m + 1 := ⟨k - 1, by omega⟩
    simp only [impl_SwapColours.l1]
    rw [if_neg (by omega), List.drop_eq_nil_of_le (by omega)]
    rfl
  | succ d ih =>
    intro k j rl hd hj hk hR
    obtain ⟨k, rfl⟩ : ∃ m, k = m + 1 := ⟨k - 1, by omega⟩
    have h : j < nb.length := by omega
    have hl := hR.len hn
    have q1 : (j : Int) < (nb.length : Int) := by omega
    have q2 : (0 : Int) ≤ (j : Int) := by omega
    have q4 : rl.length < 17592186044416 := by omega
    have ek : k + 1 - (d + 1) - 1 = k - d - 1 := by omega
    have z1 : nb.length - (j + 1) = d := by omega
    have z2 : j + 1 ≤ nb.length := by omega
    have z3 : d + 20 < k := by omega
    have z4 : rl.length ≤ 1000000 := by omega
    have z5 : rl.length < k := by omega
    have en := nxt h (by omega)
    have hx := hnb _ (List.getElem_mem h)
    have q3 : nb[j] < (ys.length : Int) := by rw [hlen]; exact hx.2
    have ec := cont_some rl (Nat.le_trans z4 (by decide)) nb[j] k z5
    have ha := (Rch.add [nb[j]] rl hR (fun x hx2 => by rw [List.mem_singleton.1 hx2]; exact hx)).1
    have e0 : addN ys own other [nb[j]] rl = if hit ys own other rl nb[j] = true then rl ++ [nb[j]] else rl := rfl
    rw [e0] at ha
    have e1 := ih k (j + 1) _ z1 z2 z3 ha
    have e2 : addN ys own other (nb.drop j) rl = addN ys own other (nb.drop (j + 1)) (if hit ys own other rl nb[j] = true then rl ++ [nb[j]] else rl) := by
      rw [List.drop_eq_getElem_cons h]; rfl
    rw [ek, e2, ← e1]
    simp only [impl_SwapColours.l1]
    rw [if_pos q1, if_pos q2, if_pos q1, rdI h, if_pos hx.1, if_pos q3, en, ec, Option.bind_some, if_pos q4]
    unfold hit
    by_cases c1 : rd ys nb[j] = own
    · rw [if_pos c1, decide_eq_true (Or.inl c1), Bool.true_and]
      cases rl.contains nb[j] <;> rfl
    · rw [if_neg c1]
      by_cases c2 : rd ys nb[j] = other
      · rw [if_pos c2, decide_eq_true (Or.inr c2), Bool.true_and]
        cases rl.contains nb[j] <;> rfl
      · rw [if_neg c2, decide_eq_false (fun h => h.elim c1 c2), Bool.false_and]
        rfl
end Go.Proofs.Ytcjkklkmlooinaa.Pure
