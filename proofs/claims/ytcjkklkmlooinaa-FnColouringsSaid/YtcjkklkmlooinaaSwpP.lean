/- Colours that are exchanged stay right. -/
import Derived.Test.YtcjkklkmlooinaaPrint0
import Derived.Test.YtcjkklkmlooinaaPrint6
import Derived.Test.YtcjkklkmlooinaaPrint12
import Derived.Test.YtcjkklkmlooinaaPrint16
import Derived.Test.YtcjkklkmlooinaaPrint17
import Derived.Test.YtcjkklkmlooinaaNum
import Derived.Test.YtcjkklkmlooinaaMgA
import Derived.Test.YtcjkklkmlooinaaLabI
import Derived.Test.YtcjkklkmlooinaaBoVI
import Derived.Test.YtcjkklkmlooinaaBoV
import Derived.Test.YtcjkklkmlooinaaClashP
import Derived.Test.YtcjkklkmlooinaaAscP
import Derived.Test.YtcjkklkmlooinaaBoNI
import Derived.Test.YtcjkklkmlooinaaAdjP
import Derived.Test.YtcjkklkmlooinaaCntA
import Derived.Test.YtcjkklkmlooinaaMayP
import Derived.Test.YtcjkklkmlooinaaDegP
import Derived.Test.YtcjkklkmlooinaaClrP
import Derived.Test.YtcjkklkmlooinaaGreedyR
import Derived.Test.YtcjkklkmlooinaaGreedyI
import Derived.Test.YtcjkklkmlooinaaGrdP
import Derived.Test.YtcjkklkmlooinaaSwapI
namespace Go.Proofs.Ytcjkklkmlooinaa.Pure
open Go.RowKit Go.Proofs.Ytcjkklkmlooinaa.Print Go.Proofs.YtcjkklkmlooinaaW.PrintWords Go.Proofs.YtcjkklkmlooinaaW.PrintLast Go.Proofs.YtcjkklkmlooinaaW.PrintMore
set_option linter.unusedVariables false
set_option linter.unusedSimpArgs false
theorem addN_sub {ys : List Int} {own other : Int} : ∀ (nb rl : List Int), ∀ x ∈ rl, x ∈ addN ys own other nb rl
  | [], _, _, h => h
  | y :: nb, rl, x, h => by
    show x ∈ addN ys own other nb (if hit ys own other rl y = true then rl ++ [y] else rl)
    refine addN_sub nb _ x ?_
    split
    · exact List.mem_append_left _ h
    · exact h
theorem addN_all {ys : List Int} {own other : Int} : ∀ (nb rl : List Int), ∀ x ∈ nb, (rd ys x = own ∨ rd ys x = other) → x ∈ addN ys own other nb rl
  | [], _, _, h, _ => (by cases h)
  | y :: nb, rl, x, h, hc => by
    show x ∈ addN ys own other nb (if hit ys own other rl y = true then rl ++ [y] else rl)
    rcases List.mem_cons.1 h with rfl | h
    · refine addN_sub nb _ x ?_
      by_cases c : hit ys own other rl x = true
      · rw [if_pos c]; exact List.mem_append_right _ (List.mem_singleton.2 rfl)
      · rw [if_neg c]
        unfold hit at c
        rw [Bool.and_eq_true, decide_eq_true_eq] at c
        cases hm : rl.contains x with
        | true => simpa using hm
        | false => exact absurd ⟨hc, by rw [hm]; rfl⟩ c
    · exact addN_all nb _ x h hc
/-- What is reached from the first i lands of a list lies in it. -/
def Clo (n : Int) (xs : List S58) (ys : List Int) (own other : Int) (rl : List Int) (i : Nat) : Prop := ∀ (j : Nat) (h : j < rl.length), j < i → ∀ x ∈ nbs xs rl[j] n.toNat, (rd ys x = own ∨ rd ys x = other) → x ∈ rl
theorem implS_out {n : Int} {xs : List S58} {ys : List Int} {own other : Int} (W : Sw n xs ys own other) : ∀ (d k i : Nat) (rl : List Int), 11 - i = d → i ≤ rl.length → 60 * d + 600 < k → Rch n ys own other rl → Clo n xs ys own other rl i →
    ∃ rl', (∀ x ∈ rl, x ∈ rl') ∧ Rch n ys own other rl' ∧ Clo n xs ys own other rl' rl'.length ∧ impl_SwapColours.l0 k xs ys other own (swp ys (own + other) ys (rl.take i)) rl (i : Int) = some (swp ys (own + other) ys rl', 0) := by
  intro d
  have hn := W.O.lands
  have hlen := W.len
  induction d with
  | zero =>
    intro k i rl hd hi hk hR hC
    have := hR.len hn
    omega
  | succ d ih =>
    intro k i rl hd hi hk hR hC
    obtain ⟨k, rfl⟩ : ∃ m, k = m + 1 := ⟨k - 1, by omega⟩
    have hl := hR.len hn
    have hsl := swp_length ys (own + other) (rl.take i) ys
    by_cases h : i < rl.length
    · have q1 : (i : Int) < (rl.length : Int) := by omega
      have q2 : (0 : Int) ≤ (i : Int) := by omega
      have en := nxt h (by omega)
      have hr := hR.at_ _ (List.getElem_mem h)
      have q4 : rl[i] < (ys.length : Int) := by rw [hlen]; exact hr.1.2
      have q3 : rl[i] < ((swp ys (own + other) ys (rl.take i)).length : Int) := by rw [hsl]; exact q4
      have k2 : 40 < k := by omega
      have hz : n.toNat ≤ 10 := by omega
      have nl2 : (nbs xs rl[i] n.toNat).length ≤ 10 := Nat.le_trans (nbs_length xs rl[i] n.toNat) hz
      have hnb := nb_in (xs := xs) hn rl[i]
      have a1 := implN_some W.O rl[i] k k2
      have hz2 : 11 - (i + 1) = d := by omega
      have hi2 : i < 11 := by omega
      obtain ⟨nb, hnbe⟩ : ∃ nb, nb = nbs xs rl[i] n.toNat := ⟨_, rfl⟩
      rw [← hnbe] at nl2 hnb a1
      have z1 : nb.length + 20 < k := by omega
      have z2 : 60 * d + 600 < k - nb.length - 1 := by omega
      have b1 := implS_in W ((swp ys (own + other) ys (rl.take i)).set rl[i].toNat (own + other - rd ys rl[i])) nb (i : Int) hnb nl2 nb.length k 0 rl (by omega) (by omega) z1 hR
      rw [Int.natCast_zero, List.drop_zero, en] at b1
      obtain ⟨hR2, t, ht⟩ := Rch.add nb rl hR hnb
      have hz3 : i + 1 ≤ (addN ys own other nb rl).length := by rw [ht, List.length_append]; omega
      have hC2 : Clo n xs ys own other (addN ys own other nb rl) (i + 1) := by
        intro j hj hji x hx hc
        have hjl : j < rl.length := by omega
        have ej : (addN ys own other nb rl)[j] = rl[j] := by
          have : (addN ys own other nb rl)[j]? = rl[j]? := by rw [ht, List.getElem?_append_left hjl]
          rw [List.getElem?_eq_getElem hj, List.getElem?_eq_getElem hjl] at this
          exact Option.some.inj this
        rw [ej] at hx
        by_cases e : j = i
        · subst e
          rw [← hnbe] at hx
          exact addN_all nb rl x hx hc
        · exact addN_sub nb rl x (hC j hjl (by omega) x hx hc)
      obtain ⟨rl', s1, s2, s3, f1⟩ := ih (k - nb.length - 1) (i + 1) (addN ys own other nb rl) hz2 hz3 z2 hR2 hC2
      have es := swp_snoc ys (own + other) rl[i] (rl.take i) ys
      rw [← List.take_succ_eq_append_getElem h] at es
      have et : (addN ys own other nb rl).take (i + 1) = rl.take (i + 1) := by rw [ht, List.take_append_of_le_length (by omega)]
      rw [et, es] at f1
      have wo := W.own0
      have wt := W.oth0
      have hv : 0 ≤ rd ys rl[i] ∧ rd ys rl[i] ≤ 9 := by
        rcases hr.2 with c | c
        · rw [c]; exact wo
        · rw [c]; exact wt
      have w1 : wrap64 (own + other) = own + other := w64 (by omega) (by omega)
      have w2 : wrap64 (own + other - rd ys rl[i]) = own + other - rd ys rl[i] := w64 (by clear f1 b1 a1 ih; omega) (by clear f1 b1 a1 ih; omega)
      refine ⟨rl', fun x hx => s1 x (addN_sub nb rl x hx), s2, s3, ?_⟩
      simp only [impl_SwapColours.l0]
      rw [if_pos q1, if_pos q2, rdI h, if_pos hr.1.1, if_pos q4, if_pos q3, a1, Option.bind_some, w1, w2, b1]
      exact f1
    · have e1 : i = rl.length := by omega
      refine ⟨rl, fun x hx => hx, hR, e1 ▸ hC, ?_⟩
      simp only [impl_SwapColours.l0]
      rw [if_neg (by omega), e1, List.take_length]
theorem swp_hit (ys : List Int) (s : Int) (q : Int) (hq : 0 ≤ q) : ∀ (rs out : List Int), (∀ r ∈ rs, 0 ≤ r) → rs.Nodup → q ∈ rs → q < (out.length : Int) → rd (swp ys s out rs) q = s - rd ys q
  | [], _, _, _, hm, _ => (by cases hm)
  | r :: rs, out, h, hnd, hm, hl => by
    have e : swp ys s out (r :: rs) = swp ys s (out.set r.toNat (s - rd ys r)) rs := rfl
    obtain ⟨n1, n2⟩ := List.nodup_cons.1 hnd
    have hr := h r List.mem_cons_self
    rw [e]
    by_cases c : q ∈ rs
    · exact swp_hit ys s q hq rs _ (fun z hz => h z (List.mem_cons_of_mem _ hz)) n2 c (by rw [List.length_set]; exact hl)
    · rcases List.mem_cons.1 hm with rfl | hm
      · rw [swp_other ys s q hq rs _ (fun z hz => h z (List.mem_cons_of_mem _ hz)) c, rd_hit out q _ hq hl]
      · exact absurd hm c
theorem nb_sym {n : Int} {xs : List S58} (O : OkBs n xs) {p : S58} (hp : p ∈ xs) : p.f1 ∈ nbs xs p.f0 n.toNat ∧ p.f0 ∈ nbs xs p.f1 n.toNat := by
  have ho := O.at_ p hp
  refine ⟨(nbs_mem xs _ _ _).2 ⟨by omega, by omega, List.any_eq_true.2 ⟨p, hp, ?_⟩⟩, (nbs_mem xs _ _ _).2 ⟨by omega, by omega, List.any_eq_true.2 ⟨p, hp, ?_⟩⟩⟩
  · unfold matB; rw [Bool.or_eq_true, decide_eq_true_eq, decide_eq_true_eq]; exact .inl ⟨rfl, rfl⟩
  · unfold matB; rw [Bool.or_eq_true, decide_eq_true_eq, decide_eq_true_eq]; exact .inr ⟨rfl, rfl⟩
theorem swap_right {n : Int} {xs : List S58} {ys : List Int} {own other : Int} (W : Sw n xs ys own other) (hy : okCs n ys = true) (hp : Proper xs ys) {rl : List Int} (R : Rch n ys own other rl) (C : Clo n xs ys own other rl rl.length) : okCs n (swp ys (own + other) ys rl) = true ∧ Proper xs (swp ys (own + other) ys rl) := by
  have hn := W.O.lands
  have hlen := W.len
  have wo := W.own0
  have wt := W.oth0
  have hpos : ∀ r ∈ rl, 0 ≤ r := fun r hr => (R.at_ r hr).1.1
  have hin : ∀ q, 0 ≤ q → q < n → (q ∈ rl → rd (swp ys (own + other) ys rl) q = own + other - rd ys q) ∧ (q ∉ rl → rd (swp ys (own + other) ys rl) q = rd ys q) := fun q q0 q1 => ⟨fun h => swp_hit ys (own + other) q q0 rl ys hpos R.nod h (by omega), fun h => swp_other ys (own + other) q q0 rl ys hpos h⟩
  have hclo : ∀ q ∈ rl, ∀ x ∈ nbs xs q n.toNat, (rd ys x = own ∨ rd ys x = other) → x ∈ rl := by
    intro q hq x hx hc
    obtain ⟨j, hj, rfl⟩ := List.getElem_of_mem hq
    exact C j hj hj x hx hc
  have hsl := swp_length ys (own + other) rl ys
  obtain ⟨_, hyc⟩ := okCs_iff.1 hy
  refine ⟨okCs_iff.2 ⟨by rw [hsl]; exact hlen, fun c hc => ?_⟩, fun p hpm => ?_⟩
  · obtain ⟨i, hi, rfl⟩ := List.getElem_of_mem hc
    have hi2 : i < ys.length := by omega
    have e := hin (i : Int) (by omega) (by omega)
    rw [rdI hi, rdI hi2] at e
    have hb := hyc _ (List.getElem_mem hi2)
    by_cases hm : (i : Int) ∈ rl
    · rw [e.1 hm]
      have := (R.at_ _ hm).2
      rw [rdI hi2] at this
      omega
    · rw [e.2 hm]; exact hb
  · have ho := W.O.at_ p hpm
    obtain ⟨s1, s2⟩ := nb_sym W.O hpm
    have e0 := hin p.f0 (by omega) (by omega)
    have e1 := hin p.f1 (by omega) (by omega)
    have hne := hp p hpm
    by_cases m0 : p.f0 ∈ rl
    · by_cases m1 : p.f1 ∈ rl
      · rw [e0.1 m0, e1.1 m1]; omega
      · rw [e0.1 m0, e1.2 m1]
        have c0 := (R.at_ _ m0).2
        have c1 : ¬ (rd ys p.f1 = own ∨ rd ys p.f1 = other) := fun hc => m1 (hclo p.f0 m0 p.f1 s1 hc)
        omega
    · by_cases m1 : p.f1 ∈ rl
      · rw [e0.2 m0, e1.1 m1]
        have c0 := (R.at_ _ m1).2
        have c1 : ¬ (rd ys p.f0 = own ∨ rd ys p.f0 = other) := fun hc => m0 (hclo p.f1 m1 p.f0 s2 hc)
        omega
      · rw [e0.2 m0, e1.2 m1]; exact hne
theorem swapI_fn {n : Int} {xs : List S58} (O : OkBs n xs) {ys : List Int} (hy : okCs n ys = true) (hp : Proper xs ys) (land other : Int) (h0 : 0 ≤ land) (h1 : land < n) (g0 : 0 ≤ other) (g1 : other ≤ 9) (k : Nat) (hk : 3000 < k) :
    (rd ys land = other → impl_SwapColours.f k n xs ys land other = some ([], 9)) ∧ (rd ys land ≠ other → ∃ r, impl_SwapColours.f k n xs ys land other = some (r, 0) ∧ okCs n r = true ∧ Proper xs r ∧ rd r land = other) := by
  have hn := O.lands
  have hm := O.many
  obtain ⟨hlen, hyc⟩ := okCs_iff.1 hy
  obtain ⟨k, rfl⟩ : ∃ m, k = m + 1 := ⟨k - 1, by omega⟩
  have ha : xs.all (g_okB ys) = true := List.all_eq_true.2 fun p hp => decide_eq_true (ends_in O hlen p hp)
  have hq1 : land < (ys.length : Int) := by omega
  have hown : 0 ≤ rd ys land ∧ rd ys land ≤ 9 := hyc _ (rd_in h0 hq1)
  have start : impl_SwapColours.f (k + 1) n xs ys land other = (if rd ys land = other then some ([], 9) else (slices_Clone_int64_int64.f ys).bind fun t303 => impl_SwapColours.l0 k xs ys other (rd ys land) t303 [land] 0) := by
    unfold impl_SwapColours.f impl_isLand.f
    rw [impl_ok n xs (by omega) _ (by omega), okBs_mk O, Option.bind_some, if_pos rfl, w64 (by omega) (by omega), within_some, Option.bind_some, decide_eq_true (by omega), Option.bind_some, if_pos rfl, implC_some n ys (by omega) _ (by omega), hy, Option.bind_some, if_pos rfl, within_some, Option.bind_some, decide_eq_true (by omega)]
    simp only [impl_SwapColours.j0, Bool.not_true]
    rw [if_neg (by simp)]
    unfold impl_firstClash.f
    rw [if_pos ha, Option.bind_some, ffrom_none ys xs 0 hp, if_neg (by omega), if_pos h0, if_pos hq1]
  constructor
  · intro e
    rw [start, if_pos e]
  · intro e
    have W : Sw n xs ys (rd ys land) other := ⟨O, hlen, hown, ⟨g0, g1⟩, e⟩
    have R : Rch n ys (rd ys land) other [land] := ⟨by simp, fun r hr => by rw [List.mem_singleton.1 hr]; exact ⟨⟨h0, h1⟩, .inl rfl⟩⟩
    obtain ⟨rl', s1, s2, s3, f⟩ := implS_out W 11 k 0 [land] rfl (by omega) (by omega) R (fun j hj hji => (by omega))
    rw [List.take_zero, Int.natCast_zero] at f
    have e3 : swp ys (rd ys land + other) ys [] = ys := rfl
    rw [e3] at f
    have hcl : slices_Clone_int64_int64.f ys = some ys := by
      unfold slices_Clone_int64_int64.f
      rw [Option.bind_some, if_pos (by simp; omega)]
      rfl
    obtain ⟨c1, c2⟩ := swap_right W hy hp s2 s3
    refine ⟨_, by rw [start, if_neg e, hcl, Option.bind_some]; exact f, c1, c2, ?_⟩
    rw [swp_hit ys _ land h0 rl' ys (fun r hr => (s2.at_ r hr).1.1) s2.nod (s1 land (List.mem_singleton.2 rfl)) hq1]
    omega
end Go.Proofs.Ytcjkklkmlooinaa.Pure
