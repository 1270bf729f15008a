/- What the steps that are handed in read as. -/
import Derived.Test.YtpocbgcbiojflaaL3
namespace Go.Proofs.Ytpocbgcbiojflaa
open Go.RowKit

theorem steps_of {w : World} {A : Option Addr} {len : Nat} {xs : List Value} (hr : Rd w A len 2 xs) (hi : ∀ i, i < len → Is w (.pair (.int .u8) (.pair (.int .i64) .unit)) ((xs.drop (i * 2)).take 2)) :
    ∃ zs : List (Int × Int), zs.length = len ∧ xs = zs.flatMap stE ∧ ∀ s ∈ zs, 0 ≤ s.1 ∧ s.1 < 256 := by
  obtain ⟨zs, h1, h2, h3⟩ := rows_enc (q := fun s => 0 ≤ s.1 ∧ s.1 < 256) stE_len len xs hr.len fun i hil => by
    obtain ⟨⟨a, h1, wa⟩, ⟨b, h2, _⟩, h4⟩ := hi i hil
    have hw := u8_wf wa
    refine ⟨(a, b), ?_, by dsimp only; omega⟩
    generalize (xs.drop (i * 2)).take 2 = l at h1 h2 h4
    simp only [Sh.n] at h1 h2 h4
    match l, h1, h2, h4 with
    | [x, y], h1, h2, _ => simp at h1 h2; rw [h1, h2]; rfl
  exact ⟨zs, h1, h2, h3⟩
end Go.Proofs.Ytpocbgcbiojflaa
