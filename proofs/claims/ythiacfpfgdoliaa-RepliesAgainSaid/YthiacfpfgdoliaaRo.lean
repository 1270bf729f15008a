/- Whatever is noted: the plain law. -/
import Derived.Test.YthiacfpfgdoliaaRn
namespace Go.Proofs.Ythiacfpfgdoliaa
open Go.RowKit

/-- Cells of an array of numbers. -/
def arr (ks : List Int) : Array Value := (ks.map (Value.int .i64)).toArray
theorem arr_get {ks : List Int} {j : Nat} {v : Int} (h : ks[j]? = some v) : (arr ks)[0 + j * 1]? = some (.int .i64 v) := by
  unfold arr
  rw [Nat.zero_add, Nat.mul_one, List.getElem?_toArray, List.getElem?_map, h]; rfl
theorem arr_set (ks : List Int) (j : Nat) (v : Int) : (arr ks).setIfInBounds (0 + j * 1) (.int .i64 v) = arr (ks.set j v) := by
  unfold arr
  rw [Nat.zero_add, Nat.mul_one, List.setIfInBounds_toArray, List.map_set]
theorem arr_size {ks : List Int} {j : Nat} (h : j < ks.length) : 0 + j * 1 < (arr ks).size := by
  unfold arr
  simp; exact h

namespace Rl
def nid (x : La) : Int := 1 + IntKind.wrap .u64 x.id % 9
theorem lo_up {α : Type} (f : α → Int) (l : List α) (c : Int) : (lo f l c).length + (up f l c).length ≤ l.length := by
  unfold lo up
  induction l with
  | nil => exact Nat.le_refl _
  | cons a l ih =>
    by_cases h1 : f a < c
    · rw [List.filter_cons_of_pos (by simpa using h1), List.filter_cons_of_neg (by simp; omega)]
      simp only [List.length_cons]; omega
    · rw [List.filter_cons_of_neg (by simpa using h1)]
      by_cases h2 : c < f a
      · rw [List.filter_cons_of_pos (by simpa using h2)]
        simp only [List.length_cons]; omega
      · rw [List.filter_cons_of_neg (by simpa using h2)]
        simp only [List.length_cons]; omega
/-- What is known ahead of the i-th note: of each client the place of what was noted last, and one more. -/
structure Kept (l : List La) (i : Nat) (p : List La) (ks : List Int) : Prop where
  may : may p = true
  len : p.length ≤ i
  keys : ∀ x ∈ p, x.r.keys.length ≤ 20
  four : ks.length = 4
  last : ∀ d : Nat, d < 4 → ∃ v : Int, ks[d]? = some v ∧ (v = 0 ∨ ∃ (k : Nat) (x : La), k < i ∧ v = (k : Int) + 1 ∧ l[k]? = some x ∧ p.find? (fun y => decide (fc y = (d : Int))) = some ⟨(d : Int), nid x, x.r⟩)
theorem Kept.first (l : List La) : Kept l 0 [] [0, 0, 0, 0] where
  may := rfl
  len := Nat.le_refl _
  keys := fun x hx => by cases hx
  four := rfl
  last := fun d hd => by
    match d, hd with
    | 0, _ => exact ⟨0, rfl, .inl rfl⟩
    | 1, _ => exact ⟨0, rfl, .inl rfl⟩
    | 2, _ => exact ⟨0, rfl, .inl rfl⟩
    | 3, _ => exact ⟨0, rfl, .inl rfl⟩
theorem Kept.more {l : List La} {i : Nat} {p : List La} {ks : List Int} (h : Kept l i p ks) : Kept l (i + 1) p ks where
  may := h.may
  len := by have := h.len; omega
  keys := h.keys
  four := h.four
  last := fun d hd => by
    obtain ⟨v, h1, h2⟩ := h.last d hd
    refine ⟨v, h1, h2.imp_right ?_⟩
    rintro ⟨k, x, h3, h4⟩
    exact ⟨k, x, by omega, h4⟩
theorem Kept.put {l : List La} {i : Nat} {p : List La} {ks : List Int} (h : Kept l i p ks) {x : La} (hx : l[i]? = some x) {j : Nat} (hj : j < 4) (hf : fits (j : Int) (nid x) = true) (hk : x.r.keys.length ≤ 20) :
    Kept l (i + 1) (put fc p (j : Int) ⟨(j : Int), nid x, x.r⟩) (ks.set j ((i : Int) + 1)) where
  may := (may_iff _).2 ⟨fun y hy => by
    rcases put_mem fc hy with rfl | hy
    · exact hf
    · exact ((may_iff _).1 h.may).ok y hy, put_so fc ((may_iff _).1 h.may).so rfl⟩
  len := by
    have h1 := lo_up fc p (j : Int)
    have h2 := h.len
    show (lo fc p (j : Int) ++ _ :: up fc p (j : Int)).length ≤ _
    rw [List.length_append, List.length_cons]; omega
  keys := fun y hy => by
    rcases put_mem fc hy with rfl | hy
    · exact hk
    · exact h.keys y hy
  four := by rw [List.length_set]; exact h.four
  last := fun d hd => by
    by_cases hdj : d = j
    · subst hdj
      refine ⟨(i : Int) + 1, by rw [List.getElem?_set_self (by rw [h.four]; exact hd)], .inr ⟨i, x, by omega, rfl, hx, ?_⟩⟩
      rw [put_find fc (c := (d : Int)) rfl, if_pos rfl]
    · obtain ⟨v, h1, h2⟩ := h.last d hd
      refine ⟨v, by rw [List.getElem?_set_ne (fun e => hdj e.symm)]; exact h1, h2.imp_right ?_⟩
      rintro ⟨k, y, h3, h4, h5, h6⟩
      refine ⟨k, y, by omega, h4, h5, ?_⟩
      rw [put_find fc (c := (j : Int)) rfl, if_neg (by omega)]
      exact h6
theorem ofL_put {p : List La} {c i : Int} {r : Rp} : ofL (put fc p c ⟨c, i, r⟩) c = i := by
  unfold ofL
  rw [put_find fc (c := c) rfl, if_pos rfl]
theorem note_no {p : List La} {c i : Int} {r : Rp} (hm : may p = true) (hf : fits c i = true) (h : i ≤ ofL p c) : note p c i r = ([], 140) := by
  unfold note
  rw [hm, hf, Bool.and_self, if_pos rfl, if_pos h]
theorem note_ok {p : List La} {c i : Int} {r : Rp} (hm : may p = true) (hf : fits c i = true) (h : ¬ i ≤ ofL p c) : note p c i r = (put fc p c ⟨c, i, r⟩, 0) := by
  unfold note
  rw [hm, hf, Bool.and_self, if_pos rfl, if_neg h]
end Rl
end Go.Proofs.Ythiacfpfgdoliaa
