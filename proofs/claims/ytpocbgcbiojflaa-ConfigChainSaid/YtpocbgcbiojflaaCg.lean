/- What a step makes of a configuration: the plain law. -/
import Derived.Test.YtpocbgcbiojflaaT7
namespace Go.Proofs.Ytpocbgcbiojflaa

namespace Cf

theorem okB_node {e : Int} {l : List Mb} {j : Nat} {m : Mb} (h : okB e l j m = true) : 0 ≤ m.1 ∧ m.1 < 5 := by
  unfold okB at h
  simp only [Bool.and_eq_true, decide_eq_true_eq] at h
  exact h.1.1.1
theorem okB_new {e : Int} {l : List Mb} {j : Nat} {m : Mb} (h : okB e l j m = true) : ∀ y ∈ l.take j, ¬ y.1 = m.1 := by
  unfold okB at h
  simp only [Bool.and_eq_true, Bool.not_eq_true', List.any_eq_false, decide_eq_true_eq] at h
  exact h.1.1.2
theorem okB_since {e : Int} {l : List Mb} {j : Nat} {m : Mb} (h : okB e l j m = true) : 1 ≤ m.2.1 ∧ m.2.1 ≤ e := by
  unfold okB at h
  simp only [Bool.and_eq_true, decide_eq_true_eq] at h
  exact h.1.2
theorem okB_whole {e : Int} {l : List Mb} {j : Nat} {m : Mb} (h : okB e l j m = true) : m.2.2 = true ∨ (j ≠ 0 ∧ l.length ≤ j + 1) := by
  unfold okB at h
  simp only [Bool.and_eq_true, Bool.or_eq_true, decide_eq_true_eq] at h
  exact h.2
theorem okB_of {e : Int} {l : List Mb} {j : Nat} {m : Mb} (h1 : 0 ≤ m.1 ∧ m.1 < 5) (h2 : ∀ y ∈ l.take j, ¬ y.1 = m.1) (h3 : 1 ≤ m.2.1 ∧ m.2.1 ≤ e) (h4 : m.2.2 = true ∨ (j ≠ 0 ∧ l.length ≤ j + 1)) : okB e l j m = true := by
  unfold okB
  simp only [Bool.and_eq_true, Bool.or_eq_true, Bool.not_eq_true', List.any_eq_false, decide_eq_true_eq]
  exact ⟨⟨⟨h1, h2⟩, h3⟩, h4⟩

/-- Each member stands at its node's place. -/
theorem at_self {e : Int} {l : List Mb} (hm : May e l) {k : Nat} {x : Mb} (hx : l[k]? = some x) : at_ l x.1 = (k : Int) :=
  idx_t hx (by simp) fun y hy => by simpa using okB_new (hm.ok k x hx) y hy
theorem mem_self {e : Int} {l : List Mb} (hm : May e l) {k : Nat} {x : Mb} (hx : l[k]? = some x) : mem l x.1 = some x := by
  unfold mem
  rw [at_self hm hx, if_neg (by omega), Int.toNat_natCast, hx]
theorem distinct {e : Int} {l : List Mb} (hm : May e l) {j k : Nat} {x y : Mb} (hx : l[j]? = some x) (hy : l[k]? = some y) (h : x.1 = y.1) : j = k := by
  have h1 := at_self hm hx
  have h2 := at_self hm hy
  rw [h] at h1
  omega
theorem at_none {l : List Mb} {n : Int} (h : ∀ y ∈ l, ¬ y.1 = n) : at_ l n = -1 := idx_f fun y hy => by simpa using h y hy
/-- A greater epoch is no harm. -/
theorem May.up {e e2 : Int} {l : List Mb} (hm : May e l) (h : e ≤ e2) (h2 : e2 ≤ 1099511627776) : May e2 l :=
  ⟨by have := hm.e1; omega, h2, hm.n1, hm.n5, fun j m hj => by
    have h3 := hm.ok j m hj
    have h4 := okB_since h3
    exact okB_of (okB_node h3) (okB_new h3) ⟨h4.1, by omega⟩ (okB_whole h3)⟩
theorem May.set {e : Int} {l : List Mb} (hm : May e l) {j : Nat} {x : Mb} (hx : l[j]? = some x) : May e (l.set j (x.1, x.2.1, true)) := by
  have hj := (List.getElem?_eq_some_iff.1 hx).1
  refine ⟨hm.e1, hm.e2, by rw [List.length_set]; exact hm.n1, by rw [List.length_set]; exact hm.n5, fun i m hi => ?_⟩
  have hold : ∀ (k : Nat) (y : Mb), (l.set j (x.1, x.2.1, true))[k]? = some y → ∃ z, l[k]? = some z ∧ z.1 = y.1 ∧ z.2.1 = y.2.1 ∧ (z.2.2 = true → y.2.2 = true) := fun k y hk => by
    by_cases h : j = k
    · subst h
      rw [List.getElem?_set, if_pos rfl, if_pos hj] at hk
      cases hk
      exact ⟨x, hx, rfl, rfl, fun _ => rfl⟩
    · rw [List.getElem?_set, if_neg h] at hk
      exact ⟨y, hk, rfl, rfl, id⟩
  obtain ⟨z, hz, e1, e2, e3⟩ := hold i m hi
  have h3 := hm.ok i z hz
  refine okB_of (e1 ▸ okB_node h3) (fun y hy => ?_) (e2 ▸ okB_since h3) ?_
  · obtain ⟨k, hk, rfl⟩ := List.mem_take_iff_getElem.1 hy
    have hk' : k < l.length := by rw [List.length_set] at hk; omega
    obtain ⟨u, hu, f1, _, _⟩ := hold k _ (List.getElem?_eq_getElem (by omega))
    rw [← f1, ← e1]
    refine okB_new h3 u (List.mem_take_iff_getElem.2 ⟨k, ?_, ?_⟩)
    · have := (List.getElem?_eq_some_iff.1 hz).1
      rw [List.length_set] at hk
      omega
    · exact (List.getElem?_eq_some_iff.1 hu).2
  · rw [List.length_set]
    rcases okB_whole h3 with h4 | h4
    · exact .inl (e3 h4)
    · exact .inr h4

/-- What a step makes of a configuration that may be. -/
inductive Next (e : Int) (l : List Mb) : Int × List Mb → Prop
  | same : Next e l (e, l)
  | add (n : Int) (h : May (e + 1) (l ++ [(n, e + 1, false)])) : Next e l (e + 1, l ++ [(n, e + 1, false)])
  | rem (j : Nat) (x : Mb) (hx : l[j]? = some x) (h : May (e + 1) (cut l j)) : Next e l (e + 1, cut l j)
  | whole (j : Nat) (x : Mb) (hx : l[j]? = some x) (h : May e (l.set j (x.1, x.2.1, true))) : Next e l (e, l.set j (x.1, x.2.1, true))

theorem step_next {e : Int} {l : List Mb} (hm : May e l) (k n : Int) : Next e l (step e l k n) := by
  unfold step
  split
  · rcases nxt_or e (l ++ [(n, e + 1, false)]) with h | ⟨h, h2⟩
    · rw [h]; exact .same
    · rw [h]; exact .add n ((may_iff _ _).1 h2)
  · split
    · rcases rem_or e l n with h | ⟨j, x, hx, _, h, h2⟩
      · rw [h]; exact .same
      · rw [h]; exact .rem j x hx ((may_iff _ _).1 h2)
    · unfold who
      rcases at_or l n with ⟨h1, _⟩ | ⟨j, x, hx, _, _, h1⟩
      · have : mem l n = none := by unfold mem; rw [h1]; rfl
        rw [this]; exact .same
      · have : mem l n = some x := by unfold mem; rw [h1, if_neg (by omega), Int.toNat_natCast, hx]
        rw [this, h1]
        dsimp only
        split
        · exact .whole j x hx (hm.set hx)
        · exact .same
theorem Next.may {e : Int} {l : List Mb} {s : Int × List Mb} (hm : May e l) (h : Next e l s) : May s.1 s.2 := by
  cases h with
  | same => exact hm
  | add n h => exact h
  | rem j x hx h => exact h
  | whole j x hx h => exact h
theorem Next.ep {e : Int} {l : List Mb} {s : Int × List Mb} (h : Next e l s) : s.1 = e ∨ s.1 = e + 1 := by
  cases h with
  | same => exact .inl rfl
  | add n h => exact .inr rfl
  | rem j x hx h => exact .inr rfl
  | whole j x hx h => exact .inl rfl
theorem cut_len {l : List Mb} {j : Nat} (hj : j < l.length) : (cut l j).length + 1 = l.length := by
  unfold cut
  rw [List.length_append, List.length_take, List.length_drop]
  omega
theorem cut_lo {l : List Mb} {j k : Nat} (hj : j < l.length) (h : k < j) : (cut l j)[k]? = l[k]? := by
  unfold cut
  rw [List.getElem?_append_left (by rw [List.length_take]; omega), List.getElem?_take, if_pos h]
theorem cut_hi {l : List Mb} {j k : Nat} (hj : j < l.length) (h : j < k) : (cut l j)[k - 1]? = l[k]? := by
  unfold cut
  rw [List.getElem?_append_right (by rw [List.length_take]; omega), List.length_take, List.getElem?_drop]
  congr 1
  omega
theorem cut_mem {l : List Mb} {j : Nat} {y : Mb} (hy : y ∈ cut l j) : ∃ k, k ≠ j ∧ l[k]? = some y := by
  unfold cut at hy
  rcases List.mem_append.1 hy with h | h
  · obtain ⟨k, hk, rfl⟩ := List.mem_take_iff_getElem.1 h
    exact ⟨k, by omega, List.getElem?_eq_getElem (by omega)⟩
  · obtain ⟨k, hk, rfl⟩ := List.mem_iff_getElem.1 h
    rw [List.getElem_drop]
    exact ⟨j + 1 + k, by omega, List.getElem?_eq_getElem (by rw [List.length_drop] at hk; omega)⟩
theorem Next.len {e : Int} {l : List Mb} {s : Int × List Mb} (h : Next e l s) : (s.1 = e ↔ s.2.length = l.length) := by
  cases h with
  | same => simp
  | add n h => simp only [List.length_append, List.length_cons, List.length_nil]; omega
  | rem j x hx h =>
    have := cut_len (List.getElem?_eq_some_iff.1 hx).1
    dsimp only
    omega
  | whole j x hx h => simp

/-- What stays of a member. -/
structure Kept (x : Mb) (l2 : List Mb) (i : Nat) (m : Mb) : Prop where
  g : l2[i]? = some m
  a : at_ l2 x.1 = (i : Int)
  n : m.1 = x.1
  s : m.2.1 = x.2.1
  w : x.2.2 = true → m.2.2 = true
/-- A place for each member that stays: in order. -/
theorem Next.places {e : Int} {l : List Mb} {s : Int × List Mb} (hm : May e l) (h : Next e l s) : ∃ p : Nat → Option Nat,
    (∀ k x, l[k]? = some x → (p k = none ∧ at_ s.2 x.1 = -1) ∨ ∃ i m, p k = some i ∧ Kept x s.2 i m) ∧ (∀ k k' i i', p k = some i → p k' = some i' → k < k' → i < i') ∧ ∃ k x i, l[k]? = some x ∧ p k = some i ∧ x.2.2 = true := by
  have h0 : ∃ x, l[0]? = some x ∧ x.2.2 = true := by
    have hn := hm.n1
    refine ⟨l[0], List.getElem?_eq_getElem hn, ?_⟩
    rcases okB_whole (hm.ok 0 _ (List.getElem?_eq_getElem hn)) with h | h
    · exact h
    · exact absurd rfl h.1
  obtain ⟨x0, hx0, hw0⟩ := h0
  cases h with
  | same => exact ⟨some, fun k x hx => .inr ⟨k, x, rfl, hx, at_self hm hx, rfl, rfl, id⟩, fun k k' i i' h1 h2 h3 => by cases h1; cases h2; exact h3, 0, x0, 0, hx0, rfl, hw0⟩
  | add n h =>
    refine ⟨some, fun k x hx => ?_, fun k k' i i' h1 h2 h3 => by cases h1; cases h2; exact h3, 0, x0, 0, hx0, rfl, hw0⟩
    have hx2 : (l ++ [(n, e + 1, false)])[k]? = some x := by rw [List.getElem?_append_left (List.getElem?_eq_some_iff.1 hx).1]; exact hx
    exact .inr ⟨k, x, rfl, hx2, at_self h hx2, rfl, rfl, id⟩
  | rem j x hx h =>
    have hj := (List.getElem?_eq_some_iff.1 hx).1
    have hlo : ∀ (k : Nat) (y : Mb), l[k]? = some y → k < j → Kept y (cut l j) k y := fun k y hy hk => by
      have := cut_lo hj hk
      rw [hy] at this
      exact ⟨this, at_self h this, rfl, rfl, id⟩
    have hhi : ∀ (k : Nat) (y : Mb), l[k]? = some y → j < k → Kept y (cut l j) (k - 1) y := fun k y hy hk => by
      have := cut_hi hj hk
      rw [hy] at this
      exact ⟨this, at_self h this, rfl, rfl, id⟩
    refine ⟨fun k => if k < j then some k else if k = j then none else some (k - 1), fun k y hy => ?_, fun k k' i i' h1 h2 h3 => ?_, ?_⟩
    · rcases Nat.lt_trichotomy k j with hk | hk | hk
      · exact .inr ⟨k, y, by simp [hk], hlo k y hy hk⟩
      · subst hk
        rw [hx] at hy
        cases hy
        refine .inl ⟨by simp, at_none fun z hz he => ?_⟩
        obtain ⟨q, hq, hzq⟩ := cut_mem hz
        exact hq (distinct hm hzq hx he)
      · exact .inr ⟨k - 1, y, by simp [show ¬ k < j by omega, show ¬ k = j by omega], hhi k y hy hk⟩
    · dsimp only at h1 h2
      split at h1 <;> split at h2
      · cases h1; cases h2; exact h3
      · split at h2
        · cases h2
        · cases h1; cases h2; omega
      · split at h1
        · cases h1
        · cases h1; cases h2; omega
      · split at h1
        · cases h1
        · split at h2
          · cases h2
          · cases h1; cases h2; omega
    · have hn := h.n1
      have hz : (cut l j)[0]? = some (cut l j)[0] := List.getElem?_eq_getElem hn
      have hw : (cut l j)[0].2.2 = true := by
        rcases okB_whole (h.ok 0 _ hz) with h | h
        · exact h
        · exact absurd rfl h.1
      by_cases hj0 : j = 0
      · have := cut_hi hj (show j < j + 1 by omega)
        rw [show j + 1 - 1 = 0 by omega, hz] at this
        exact ⟨j + 1, (cut l j)[0], j, this.symm, by simp, hw⟩
      · have := cut_lo hj (show 0 < j by omega)
        rw [hz] at this
        exact ⟨0, (cut l j)[0], 0, this.symm, by simp [show 0 < j by omega], hw⟩
  | whole j x hx h =>
    have hj := (List.getElem?_eq_some_iff.1 hx).1
    refine ⟨some, fun k y hy => ?_, fun k k' i i' h1 h2 h3 => by cases h1; cases h2; exact h3, 0, x0, 0, hx0, rfl, hw0⟩
    by_cases hk : k = j
    · subst hk
      rw [hx] at hy
      cases hy
      have h2 : (l.set k (x.1, x.2.1, true))[k]? = some (x.1, x.2.1, true) := by rw [List.getElem?_set, if_pos rfl, if_pos hj]
      have h3 := at_self h h2
      exact .inr ⟨k, _, rfl, h2, h3, rfl, rfl, fun _ => rfl⟩
    · have h2 : (l.set j (x.1, x.2.1, true))[k]? = some y := by rw [List.getElem?_set, if_neg (fun e => hk e.symm)]; exact hy
      exact .inr ⟨k, y, rfl, h2, at_self h h2, rfl, rfl, id⟩
end Cf
end Go.Proofs.Ytpocbgcbiojflaa
