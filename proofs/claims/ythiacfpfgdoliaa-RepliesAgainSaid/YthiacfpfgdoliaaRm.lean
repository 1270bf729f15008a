/- Tables of replies: further plain laws. -/
import Derived.Test.YthiacfpfgdoliaaRl
namespace Go.Proofs.Ythiacfpfgdoliaa
open Go.RowKit

theorem resC2 {P : Program} {n : Nat} {w0 : World} {R : List Nat} {L : List (Nat × Value)} {M : List Asrt} {v v' : Value} {fn : Func} {s s' s'' b : Nat} {C : Array Value} {e rt : TypeId} {fr : Nat × Nat} (h : fn.results = #[.cell s rt, .tmp s', .tmp s'']) (hs : Env.get L s = some (.pointer (some ⟨b, 0, none⟩)))
    (hs' : Env.get L s' = some v) (hs'' : Env.get L s'' = some v') (hm : Asrt.blk b (.cells C e fr) ∈ M) (ha : aggT P rt = some C.size) :
    ∀ a w, Kn n L a → Hp w0 R M w → (results fn a.tmps).run P w = .ok (.tuple #[.agg C, v, v']) w := fun a w hk hp => by
  have h1 := hk.get _ _ hs
  have h3 := hk.get _ _ hs'
  have h4 := hk.get _ _ hs''
  simp only [Array.getD_eq_getD_getElem?] at h1 h3 h4
  have h2 := run_loadAt_agg (P := P) (t := rt) (ad := ⟨b, 0, none⟩) (w := w) C.toList ha (by simp) fun j u hu => by
    rw [blk_add, Nat.zero_add, cell_of_row w b j C e fr (hp.own _ hm)]; simpa using hu
  simp [Instr.loadAt, Instr.sureAddr] at h2
  simp [results, h, h1, h3, h4, asAddr, h2]
theorem mE_lk {l : List Me} {i : Nat} {x : Me} (hx : l[i]? = some x) : ∀ j u, (rE x.1.r x.2)[j]? = some u → (l.flatMap mE)[i * 77 + 2 + j]? = some u := fun j u hu => by
  rw [Nat.add_assoc, Nat.add_comm 2 j]
  exact enc_atA mE_len hx (j + 2) u hu
theorem map_at {l : List Me} {i : Nat} {x : Me} (hx : l[i]? = some x) : (l.map (·.1))[i]? = some x.1 := by rw [List.getElem?_map, hx]; rfl

namespace Rl
/-! ### How much a table holds -/
def bigs : Nat → List Me → Bool
  | _, [] => false
  | n, x :: l => decide (400 < n + x.1.r.keys.length) || bigs (n + x.1.r.keys.length) l
theorem bigs_cons (n : Nat) (x : Me) (l : List Me) : bigs n (x :: l) = (decide (400 < n + x.1.r.keys.length) || bigs (n + x.1.r.keys.length) l) := rfl
def big (l : List Me) : Bool := decide (20 < l.length) || bigs l.length l
theorem bigs_mem : ∀ {l : List Me} {n : Nat}, bigs n l = false → ∀ x ∈ l, x.1.r.keys.length ≤ 400
  | y :: l, n, h, x, hx => by
    simp only [bigs, Bool.or_eq_false_iff, decide_eq_false_iff_not] at h
    rcases List.mem_cons.1 hx with rfl | hx
    · omega
    · exact bigs_mem h.2 x hx
theorem big_no {l : List Me} (h : big l = false) : l.length ≤ 20 ∧ ∀ x ∈ l, x.1.r.keys.length ≤ 400 := by
  simp only [big, Bool.or_eq_false_iff, decide_eq_false_iff_not] at h
  exact ⟨by omega, bigs_mem h.2⟩
theorem drop_at {l : List Me} {i : Nat} {x : Me} (h : l[i]? = some x) : l.drop i = x :: l.drop (i + 1) := by
  obtain ⟨hi, rfl⟩ := List.getElem?_eq_some_iff.1 h
  exact List.drop_eq_getElem_cons hi
/-! ### What is asked -/
/-- What a client is told again: the reply, is it known, the error's number. -/
def askM (l : List Me) (c i : Int) : (Rp × Hd) × Bool × Int :=
  if may (l.map (·.1)) && fits c i then
    match find l c with
    | some x => if i < x.1.id then ((z, (none, 0)), false, 140) else if x.1.id = i then ((x.1.r, x.2), true, 0) else ((z, (none, 0)), false, 0)
    | none => ((z, (none, 0)), false, 0)
  else ((z, (none, 0)), false, 2)
theorem find_or (m : List Me) (c : Int) : (find m c = none ∧ idx (fun x => decide (x.1.c = c)) m = -1) ∨ ∃ (i : Nat) (x : Me), m[i]? = some x ∧ x.1.c = c ∧ find m c = some x ∧ idx (fun x => decide (x.1.c = c)) m = (i : Int) := by
  rcases idx_or (fun x => decide (x.1.c = c)) m with ⟨h1, h2⟩ | ⟨i, x, h1, h2, h3, h4⟩
  · exact .inl ⟨find_no fun x hx => by simpa using h2 x hx, h1⟩
  · exact .inr ⟨i, x, h1, by simpa using h2, find_at h1 (by simpa using h2) (fun y hy => by simpa using h3 y hy), h4⟩
theorem find_mem {m : List Me} {c : Int} {x : Me} (h : find m c = some x) : x ∈ m ∧ x.1.c = c := ⟨List.mem_of_find?_eq_some h, by simpa using List.find?_some h⟩
end Rl
end Go.Proofs.Ythiacfpfgdoliaa
