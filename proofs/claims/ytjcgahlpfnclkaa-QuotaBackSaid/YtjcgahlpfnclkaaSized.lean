/- What the form's own reach says of a slice that came in. -/
import Derived.Test.YtjcgahlpfnclkaaRead
import Derived.SizedLaws
namespace Go.Proofs.Ytjcgahlpfnclkaa
open Go.ChangeShapes Go.WideShapes Go.ChangeAt Go.RowKit Go.Deep

theorem ar_sized {H : Type} {enc : TypeId × Value → H} {P : Program} {w : World} {base : Nat} {spare : Nat → Bool} {held : Bool} {ts : List TypeId} {ds : List (DataW H)} {t e : TypeId} {A : Option Addr} {len cap : Nat} {d : DataW H} {ps : List MemPlace} (j : Nat)
    (hz : (DataW.weightsEach P ts ds).all (· ≤ reachBytes) = true) (ht : ts[j]? = some t) (hd : ds[j]? = some d) (hu : P.underlying t = some (.slice e)) (h : DataW.Trod enc P w base spare held t (.slice A len cap) d ps) {by_ : Nat} (hb : P.bytesOf e = by_) : len * by_ ≤ 140737488355328 := by
  obtain ⟨fuel, hf⟩ := h
  rcases open_slice hu (by simpa [Value.cells] using hf) with ⟨hcs, _⟩ | ⟨a', len', cap', m, n, D, Pl, hcs, _, _, _, _, hx, _⟩
  · simp at hcs
    rw [hcs.2.1]; simp
  · simp at hcs
    obtain ⟨_, rfl, _⟩ := hcs
    simp only [Prod.mk.injEq] at hx
    have hs := sized_slice hz ht (hd.trans (congrArg some hx.1)) hu
    subst hb
    simp only [List.length_map, List.length_range] at hs
    have h2 : len * P.bytesOf e ≤ (len + (m - len)) * P.bytesOf e := Nat.mul_le_mul_right _ (by omega)
    have h3 : reachBytes ≤ 140737488355328 := by decide
    omega
end Go.Proofs.Ytjcgahlpfnclkaa
