/- What spaces that are handed in read as. -/
import Derived.Test.YtimmabejfigleaaT1
import Derived.Test.YtimmabejfigleaaRead
namespace Go.Proofs.Ytimmabejfigleaa
open Go.RowKit

theorem pairs_of {w : World} {A : Option Addr} {len : Nat} {xs : List Value} (hr : Rd w A len 2 xs) (hi : ∀ i, i < len → Is w (.pair .str (.pair .str .unit)) ((xs.drop (i * 2)).take 2)) : ∃ zs : List Pr, zs.length = len ∧ xs = zs.flatMap pE := by
  obtain ⟨zs, h1, h2, _⟩ := rows_enc (q := fun _ => True) pE_len len xs hr.len fun i hil => by
    obtain ⟨⟨a, h1, _⟩, ⟨b, h2, _⟩, h4⟩ := hi i hil
    refine ⟨(a, b), ?_, trivial⟩
    generalize (xs.drop (i * 2)).take 2 = l at h1 h2 h4
    simp only [Sh.n] at h1 h2 h4
    match l, h1, h2, h4 with
    | [x, y], h1, h2, _ => simp at h1 h2; rw [h1, h2]; rfl
  exact ⟨zs, h1, h2⟩
theorem space_of {w : World} {cs : List Value} (h : Is w (.pair (.int .i64) (.pair (.int .i64) (.pair (.sl (.pair .str (.pair .str .unit))) .unit))) cs) :
    ∃ (k y : Int) (A : Option Addr) (cap : Nat) (l : List Pr), cs.toArray = sV k y (A, cap) l.length ∧ Rd w A l.length 2 (l.flatMap pE) ∧ l.length ≤ 9223372036854775807 := by
  obtain ⟨⟨a, h1, _⟩, ⟨b, h2, _⟩, ⟨A, len, cap, xs, h3, h5, h6, hr, hi⟩, h4⟩ := h
  obtain ⟨l, hl, rfl⟩ := pairs_of hr hi
  subst hl
  refine ⟨a, b, A, cap, l, ?_, hr, ?_⟩
  · simp only [Sh.n] at h1 h2 h3 h4
    match cs, h1, h2, h3, h4 with
    | [x, y, z], h1, h2, h3, _ => simp at h1 h2 h3; rw [h1, h2, h3]; rfl
  · unfold maxLen at h6
    omega
end Go.Proofs.Ytimmabejfigleaa
