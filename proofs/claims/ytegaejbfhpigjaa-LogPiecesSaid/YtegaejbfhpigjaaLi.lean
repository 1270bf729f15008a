/- Logs: plain law on what acts keep. -/
import Derived.Test.YtegaejbfhpigjaaT12
namespace Go.Proofs.Ytegaejbfhpigjaa
open Go.RowKit
namespace Lg
theorem frm_at {α : Type} {l : List α} {k : Nat} {x : α} (hx : l[k]? = some x) : frm l ((k + 1 : Nat) : Int) 1 = [x] := by
  have hk := (List.getElem?_eq_some_iff.1 hx).1
  rw [frm_pos _ _ (by omega)]
  have e1 : ((k + 1 : Nat) : Int).toNat - 1 = k := by omega
  rw [e1, Lg.drop_at hx]
  rfl
/-! ### Found so far -/
def fnd (l : List En) (c i : Int) (b k : Nat) : Bool := ((l.take k).drop b).any (whoP c i)
theorem fnd_succ {l : List En} {k : Nat} {x : En} (hx : l[k]? = some x) (c i : Int) (b : Nat) : fnd l c i b (k + 1) = (fnd l c i b k || (decide (b ≤ k) && whoP c i x)) := by
  have hk := (List.getElem?_eq_some_iff.1 hx).1
  unfold fnd
  rw [take_snoc hx, List.drop_append, List.any_append, List.length_take, Nat.min_eq_left (by omega)]
  congr 1
  by_cases h : b ≤ k
  · rw [show b - k = 0 by omega, decide_eq_true h]; simp
  · rw [decide_eq_false h, List.drop_of_length_le (by simp only [List.length_cons, List.length_nil]; omega)]; rfl
theorem fnd_all (l : List En) (c i : Int) (b k : Nat) (hk : l.length ≤ k) : fnd l c i b k = has2 l c i b := by
  unfold fnd has2
  rw [List.take_of_length_le hk]
  by_cases h : b ≤ l.length
  · rw [show (min (max (b : Int) 0) l.length).toNat = b by omega]
  · rw [List.drop_of_length_le (by omega), show (min (max (b : Int) 0) l.length).toNat = l.length by omega, List.drop_of_length_le (Nat.le_refl _)]
/-! ### Pieces -/
theorem frm_piece {α : Type} (l : List α) (j n : Nat) : frm l ((j + 1 : Nat) : Int) (n : Int) = (l.drop j).take n := by
  rw [frm_pos _ _ (by omega)]
  congr 1
theorem take_piece {α : Type} (l : List α) (j n : Nat) : l.take (j + n) = l.take j ++ frm l ((j + 1 : Nat) : Int) (n : Int) := by
  rw [frm_piece, List.take_add]
theorem frm_piece_len {α : Type} (l : List α) (j n : Nat) : (frm l ((j + 1 : Nat) : Int) (n : Int)).length = min n (l.length - j) := by
  rw [frm_piece, List.length_take, List.length_drop]
/-! ### What an act keeps -/
theorem beg_iff (a b : List En) : beg a b = true ↔ a.length ≤ b.length ∧ a = b.take a.length := by
  unfold beg
  rw [Bool.and_eq_true, decide_eq_true_eq, decide_eq_true_eq]
theorem beg_app (a b : List En) : beg a (a ++ b) = true := (beg_iff _ _).2 ⟨by rw [List.length_append]; omega, by simp⟩
theorem beg_take (a : List En) (n : Nat) : beg (a.take n) a = true := (beg_iff _ _).2 ⟨by rw [List.length_take]; omega, by rw [List.length_take, ← List.take_take, List.take_length]⟩
theorem add_beg (l : List En) (e : En) : beg l (add l e).1 = true := by
  unfold add
  split
  · exact beg_self l
  · split
    · exact beg_self l
    · exact beg_app _ _
theorem step_beg {kind n : Int} {e : En} {l : List En} {sy : Int} (h : kind ≠ 5) : beg l (step kind n e l sy).1 = true := by
  unfold step
  split
  · exact add_beg _ _
  · split
    · exact beg_self l
    · exact beg_self l
theorem step_beg5 {kind n : Int} {e : En} {l : List En} {sy : Int} (h : kind = 5) : beg (step kind n e l sy).1 l = true := by
  unfold step
  rw [if_neg (by omega), if_neg (by omega), if_pos h]
  unfold cut
  split
  · exact beg_self l
  · exact beg_take _ _
/-- Stamps never fall. -/
def Mono (l : List En) : Prop := ∀ (k : Nat) (x y : En), l[k]? = some x → l[k + 1]? = some y → x.stamp ≤ y.stamp
theorem mono_nil : Mono [] := fun k x y h => by simp at h
theorem mono_take {l : List En} (h : Mono l) (n : Nat) : Mono (l.take n) := fun k x y hx hy => by
  rw [List.getElem?_take] at hx hy
  split at hx
  · split at hy
    · exact h k x y hx hy
    · cases hy
  · cases hx
theorem mono_add {l : List En} (h : Mono l) (e : En) : Mono (add l e).1 := by
  unfold add
  split
  · exact h
  · split
    · exact h
    · rename_i hs
      intro k x y hx hy
      rcases Nat.lt_or_ge (k + 1) l.length with hk | hk
      · rw [List.getElem?_append_left hk] at hy
        rw [List.getElem?_append_left (by omega)] at hx
        exact h k x y hx hy
      · rw [List.getElem?_append_right hk] at hy
        have h0 : k + 1 - l.length = 0 := by
          rcases Nat.eq_zero_or_pos (k + 1 - l.length) with h0 | h0
          · exact h0
          · rw [List.getElem?_eq_none (by simp only [List.length_cons, List.length_nil]; omega)] at hy; cases hy
        rw [h0] at hy
        obtain rfl : e = y := by simpa using hy
        rw [List.getElem?_append_left (by omega)] at hx
        have hlast : stamp l = x.stamp := by
          unfold stamp
          rw [List.getLast?_eq_getElem?, show l.length - 1 = k by omega, hx]
          rfl
        omega
theorem mono_step {l : List En} (h : Mono l) (kind n : Int) (e : En) (sy : Int) : Mono (step kind n e l sy).1 := by
  unfold step
  split
  · exact mono_add h _
  · split
    · exact h
    · split
      · unfold cut
        split
        · exact h
        · exact mono_take h _
      · exact h
theorem step_sy {kind n : Int} {e : En} {l : List En} {sy : Int} (h : sy ≤ l.length) : (step kind n e l sy).2 ≤ (step kind n e l sy).1.length ∧ (kind ≠ 5 → sy ≤ (step kind n e l sy).2) := by
  unfold step
  split
  · refine ⟨?_, fun _ => Int.le_refl _⟩
    have := (beg_iff _ _).1 (add_beg l (fit kind e l.length (stamp l)))
    dsimp only
    omega
  · split
    · exact ⟨Int.le_refl _, fun _ => h⟩
    · split
      · rename_i h5
        refine ⟨?_, fun h => absurd h5 h⟩
        unfold cut
        split
        · exact h
        · dsimp only; rw [List.length_take]; omega
      · exact ⟨h, fun _ => Int.le_refl _⟩
theorem ans_len (kind n : Int) (e : En) (l : List En) (sy : Int) : ans kind n e l sy = 0 ∨ (ans kind n e l sy ≠ 0 ∧ (step kind n e l sy).1.length = l.length) := by
  unfold ans step
  split
  · unfold add
    split
    · exact .inr ⟨by dsimp only; decide, rfl⟩
    · split
      · exact .inr ⟨by dsimp only; decide, rfl⟩
      · exact .inl rfl
  · split
    · exact .inl rfl
    · split
      · unfold cut
        split
        · exact .inr ⟨by dsimp only; decide, rfl⟩
        · exact .inl rfl
      · exact .inl rfl
end Lg
end Go.Proofs.Ytegaejbfhpigjaa
