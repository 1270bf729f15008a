/- Logs: plain law on pieces, and on who is there. -/
import Derived.Test.YtegaejbfhpigjaaLg
namespace Go.Proofs.Ytegaejbfhpigjaa
open Go.RowKit
namespace Lg
theorem frm_pos {α : Type} (l : List α) {i : Int} (n : Int) (h : 1 ≤ i) : frm l i n = (l.drop (i.toNat - 1)).take n.toNat := by
  unfold frm
  split
  · rfl
  · rename_i h1
    rcases Int.lt_or_le (l.length : Int) i with h2 | h2
    · rw [List.drop_of_length_le (by omega)]; simp
    · have : n.toNat = 0 := by omega
      rw [this]; simp
theorem frm_less {α : Type} (l : List α) {i : Int} (n : Int) (h : ¬ 1 ≤ i) : frm l i n = [] := if_neg fun ⟨h1, _⟩ => h h1
theorem frm_len {α : Type} (l : List α) (i n : Int) : (frm l i n).length ≤ l.length := by
  unfold frm
  split
  · rw [List.length_take, List.length_drop]; omega
  · exact Nat.zero_le _
theorem frm_mem {α : Type} {l : List α} {i n : Int} : ∀ x ∈ frm l i n, x ∈ l := fun x hx => by
  unfold frm at hx
  split at hx
  · exact List.mem_of_mem_drop (List.mem_of_mem_take hx)
  · cases hx
/-- One entry more. -/
theorem frm_snoc {α : Type} {l : List α} {k : Nat} {x : α} (hx : l[k]? = some x) {i : Int} (n : Int) (h : 1 ≤ i) :
    frm (l.take (k + 1)) i n = if i ≤ (k : Int) + 1 ∧ ((frm (l.take k) i n).length : Int) < n then frm (l.take k) i n ++ [x] else frm (l.take k) i n := by
  have hk := (List.getElem?_eq_some_iff.1 hx).1
  rw [frm_pos _ n h, frm_pos _ n h, take_snoc hx]
  have hl : (l.take k).length = k := by rw [List.length_take]; omega
  rw [List.drop_append, hl, List.length_take, List.length_drop, hl]
  split
  · rename_i h1
    have e1 : i.toNat - 1 - k = 0 := by omega
    rw [e1, List.drop_zero, List.take_append, List.length_drop, hl]
    congr 1
    rw [List.take_of_length_le (by simp only [List.length_cons, List.length_nil]; omega)]
  · rename_i h1
    rcases Int.lt_or_le ((k : Int) + 1) i with h2 | h2
    · rw [show List.drop (i.toNat - 1 - k) [x] = [] from List.drop_of_length_le (by simp only [List.length_cons, List.length_nil]; omega), List.append_nil]
    · have e1 : i.toNat - 1 - k = 0 := by omega
      rw [e1, List.drop_zero, List.take_append, List.length_drop, hl]
      have e2 : n.toNat - (k - (i.toNat - 1)) = 0 := by omega
      rw [e2, List.take_zero, List.append_nil]
theorem frm_all {α : Type} (l : List α) {n : Int} (h : (l.length : Int) ≤ n) : frm l 1 n = l := by
  rw [frm_pos l n (Int.le_refl 1)]
  simp only [Int.toNat_one, Nat.sub_self, List.drop_zero]
  exact List.take_of_length_le (by omega)

def hasP (client id behind : Int) (e : En) : Bool := decide (behind < e.pos) && decide (e.client = client) && decide (e.id = id)
theorem has_t {l : List En} {c i b : Int} {x : En} (hx : x ∈ l) (h : b < x.pos ∧ x.client = c ∧ x.id = i) : has l c i b = true :=
  List.any_eq_true.2 ⟨x, hx, by simp [h]⟩
theorem has_f {l : List En} {c i b : Int} (h : ∀ x ∈ l, ¬ (b < x.pos ∧ x.client = c ∧ x.id = i)) : has l c i b = false :=
  List.any_eq_false.2 fun x hx => by
    have := h x hx
    simp only [Bool.and_eq_true, decide_eq_true_eq]
    exact fun h' => this ⟨h'.1.1, h'.1.2, h'.2⟩
def whoP (c i : Int) (e : En) : Bool := decide (e.client = c) && decide (e.id = i)
def has2 (l : List En) (c i b : Int) : Bool := (l.drop (min (max b 0) l.length).toNat).any (whoP c i)
/-- Each entry stands at its own position. -/
def Pos (l : List En) : Prop := ∀ (k : Nat) (x : En), l[k]? = some x → x.pos = (k : Int) + 1
theorem has2_has {l : List En} (h : Pos l) (c i b : Int) : has2 l c i b = has l c i b := by
  rw [Bool.eq_iff_iff]
  unfold has2 has
  rw [List.any_eq_true, List.any_eq_true]
  constructor
  · rintro ⟨x, hx, hw⟩
    obtain ⟨j, hj⟩ := List.getElem?_of_mem hx
    rw [List.getElem?_drop] at hj
    have hp := h _ _ hj
    have hlt := (List.getElem?_eq_some_iff.1 hj).1
    refine ⟨x, List.mem_of_getElem? hj, ?_⟩
    simp only [whoP, Bool.and_eq_true, decide_eq_true_eq] at hw ⊢
    exact ⟨⟨by omega, hw.1⟩, hw.2⟩
  · rintro ⟨x, hx, hw⟩
    obtain ⟨j, hj⟩ := List.getElem?_of_mem hx
    have hp := h _ _ hj
    have hlt := (List.getElem?_eq_some_iff.1 hj).1
    simp only [whoP, Bool.and_eq_true, decide_eq_true_eq] at hw ⊢
    refine ⟨x, ?_, hw.1.2, hw.2⟩
    refine List.mem_of_getElem? (i := j - (min (max b 0) l.length).toNat) ?_
    rw [List.getElem?_drop]
    rw [show (min (max b 0) ↑l.length).toNat + (j - (min (max b 0) ↑l.length).toNat) = j by omega]
    exact hj
theorem pos_nil : Pos [] := fun k x hx => by simp at hx
theorem pos_add {l : List En} (h : Pos l) (e : En) : Pos (add l e).1 := by
  unfold add
  split
  · exact h
  · split
    · exact h
    · intro k x hx
      rcases Nat.lt_or_ge k l.length with hk | hk
      · rw [List.getElem?_append_left hk] at hx; exact h k x hx
      · rw [List.getElem?_append_right hk] at hx
        have h0 : k - l.length = 0 := by
          rcases Nat.eq_zero_or_pos (k - l.length) with h0 | h0
          · exact h0
          · rw [List.getElem?_eq_none (by simp only [List.length_cons, List.length_nil]; omega)] at hx; cases hx
        rw [h0] at hx
        obtain rfl : e = x := by simpa using hx
        omega
theorem pos_take {l : List En} (h : Pos l) (n : Nat) : Pos (l.take n) := fun k x hx => by
  rw [List.getElem?_take] at hx
  split at hx
  · exact h k x hx
  · cases hx
theorem pos_step {l : List En} (h : Pos l) (kind n : Int) (e : En) (sy : Int) : Pos (step kind n e l sy).1 := by
  unfold step
  split
  · exact pos_add h _
  · split
    · exact h
    · split
      · unfold cut
        split
        · exact h
        · exact pos_take h _
      · exact h
end Lg
end Go.Proofs.Ytegaejbfhpigjaa
