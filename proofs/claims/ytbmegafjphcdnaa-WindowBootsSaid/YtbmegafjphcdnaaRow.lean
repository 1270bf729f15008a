/- What an argument's reading gives to my walks: a slice of integers as a list of cells. -/
import Derived.Test.YtbmegafjphcdnaaMore
import Derived.OpenShut
import Derived.ChangeSlices
import Derived.ShutString
import Derived.ChangeOld
import Derived.ProofKit
namespace Go.Proofs.Ytbmegafjphcdnaa
open Go.ChangeShapes Go.WideShapes Go.ChangeAt Go.RowKit

theorem int_wf {n : Int} (h : (Lit.int .i64 n).wf = true) : -9223372036854775808 ≤ n ∧ n ≤ 9223372036854775807 := by
  simp only [Lit.wf, Bool.and_eq_true, decide_eq_true_eq] at h
  exact h

theorem Rd.of_cells {w : World} {x : Addr} {len : Nat} {xs : List Value} (hl : xs.length = len) (hc : ∀ j, j < xs.length → w.cell? (x.add j) = xs[j]?) : Rd w (some x) len 1 xs :=
  ⟨by simpa using hl, fun _ => rfl, fun h => by
    have h1 := hc 0 (by omega)
    have h2 : (w.cell? (x.add 0)).isSome = true := by rw [h1, List.getElem?_eq_getElem (by omega)]; rfl
    simp only [World.cell?] at h2
    by_cases hlt : (adr (some x)).block < w.heap.size
    · exact hlt
    · exfalso
      have : w.heap[(x.add 0).block]? = none := by rw [block_add]; exact Array.getElem?_eq_none (by simpa [adr] using hlt)
      simp [this] at h2,
   fun j u hu => by
    have hj := (List.getElem?_eq_some_iff.1 hu).1
    have := hc j hj
    rw [hu] at this
    exact this⟩

theorem rd_ints {P : Program} {W : World} {H : Type} {enc : TypeId × Value → H} {t e : TypeId} {A : Option Addr} {len cap : Nat} {d : DataW H} {ps : List MemPlace} (ht : P.underlying t = some (.slice e)) (he : P.underlying e = some (.int .i64)) (hc : P.cellsOf e = 1)
    (h : DataW.Trod enc P W 0 (fun _ => true) true t (.slice A len cap) d ps) :
    ∃ zs : List Int, Rd W A len 1 (zs.map (Value.int .i64)) ∧ ∀ i, -9223372036854775808 ≤ zs.getD i 0 ∧ zs.getD i 0 ≤ 9223372036854775807 := by
  obtain ⟨fuel, hf⟩ := h
  rcases open_ints ht he hc hf with ⟨hcs, _⟩ | ⟨x, l, c, zs, hcs, _, hl, hm, hz, _, hcell, hwz⟩
  · simp [Value.cells] at hcs
    obtain ⟨rfl, rfl, rfl⟩ := hcs
    exact ⟨[], Rd.nil, fun i => by simp⟩
  · simp [Value.cells] at hcs
    obtain ⟨rfl, rfl, rfl⟩ := hcs
    have hz' : zs.length = cap := by simpa using hz
    refine ⟨zs.take len, Rd.of_cells (by simp; omega) fun j hj => ?_, fun i => ?_⟩
    · simp at hj
      rw [hcell j (by omega)]
      simp [List.getD, show j < zs.length by omega, hj]
    · rcases Nat.lt_or_ge i (zs.take len).length with h | h
      · have : (zs.take len).getD i 0 ∈ zs := by
          rw [List.getD_eq_getElem?_getD, List.getElem?_eq_getElem h]
          exact List.mem_of_mem_take (List.getElem_mem h)
        exact int_wf (hwz _ this)
      · rw [List.getD_eq_getElem?_getD, List.getElem?_eq_none h]; simp
end Go.Proofs.Ytbmegafjphcdnaa
