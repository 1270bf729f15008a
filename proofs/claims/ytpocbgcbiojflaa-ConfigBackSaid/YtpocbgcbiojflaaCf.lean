/- The plain law of configurations: what the walks show that the program computes, and what follows of it. No program in sight. -/
namespace Go.Proofs.Ytpocbgcbiojflaa

/-- A member: node, since, whole. -/
abbrev Mb := Int × Int × Bool

namespace Cf

def okB (e : Int) (l : List Mb) (j : Nat) (m : Mb) : Bool :=
  decide (0 ≤ m.1 ∧ m.1 < 5) && !((l.take j).any fun y => decide (y.1 = m.1)) && decide (1 ≤ m.2.1 ∧ m.2.1 ≤ e) && (m.2.2 || decide (j ≠ 0 ∧ l.length ≤ j + 1))
def okAll (e : Int) (l : List Mb) : Nat → Bool
  | 0 => true
  | i + 1 => okAll e l i && (match l[i]? with | some m => okB e l i m | none => true)
def may (e : Int) (l : List Mb) : Bool := decide (1 ≤ e ∧ e ≤ 1099511627776 ∧ 1 ≤ l.length ∧ l.length ≤ 5) && okAll e l l.length

theorem okAll_iff (e : Int) (l : List Mb) (i : Nat) : okAll e l i = true ↔ ∀ j m, j < i → l[j]? = some m → okB e l j m = true := by
  induction i with
  | zero => simp [okAll]
  | succ i ih =>
    unfold okAll
    rw [Bool.and_eq_true, ih]
    constructor
    · rintro ⟨h1, h2⟩ j m hj hm
      by_cases h : j = i
      · subst h; rw [hm] at h2; exact h2
      · exact h1 j m (by omega) hm
    · intro h
      refine ⟨fun j m hj hm => h j m (by omega) hm, ?_⟩
      cases hm : l[i]? with
      | none => rfl
      | some m => exact h i m (by omega) hm
structure May (e : Int) (l : List Mb) : Prop where
  e1 : 1 ≤ e
  e2 : e ≤ 1099511627776
  n1 : 1 ≤ l.length
  n5 : l.length ≤ 5
  ok : ∀ j m, l[j]? = some m → okB e l j m = true
theorem may_iff (e : Int) (l : List Mb) : may e l = true ↔ May e l := by
  unfold may
  rw [Bool.and_eq_true, decide_eq_true_eq, okAll_iff]
  exact ⟨fun ⟨⟨h1, h2, h3, h4⟩, h5⟩ => ⟨h1, h2, h3, h4, fun j m h => h5 j m (List.getElem?_eq_some_iff.1 h).1 h⟩, fun h => ⟨⟨h.e1, h.e2, h.n1, h.n5⟩, fun j m _ hm => h.ok j m hm⟩⟩
theorem may_no {e : Int} {l : List Mb} {i : Nat} {m : Mb} (h : l[i]? = some m) (hn : okB e l i m = false) : may e l = false := by
  rw [Bool.eq_false_iff]
  intro h'
  have := ((may_iff e l).1 h').ok i m h
  rw [hn] at this
  cases this
theorem okAll_step {e : Int} {l : List Mb} {i : Nat} {m : Mb} (h : okAll e l i = true) (hm : l[i]? = some m) (hok : okB e l i m = true) : okAll e l (i + 1) = true := by
  unfold okAll
  rw [h, hm]
  exact hok

/-- The place of a node's member; less than nothing: it has none. -/
def idx (p : Mb → Bool) (m : List Mb) : Int := match m.findIdx? p with
  | some i => (i : Int)
  | none => -1
theorem idx_t {p : Mb → Bool} {m : List Mb} {i : Nat} {x : Mb} (h : m[i]? = some x) (hp : p x = true) (hno : ∀ y ∈ m.take i, p y = false) : idx p m = (i : Int) := by
  unfold idx
  have : m.findIdx? p = some i := by
    obtain ⟨hi, he⟩ := List.getElem?_eq_some_iff.1 h
    rw [List.findIdx?_eq_some_iff_getElem]
    refine ⟨hi, by rw [he]; exact hp, fun j hj => ?_⟩
    have := hno m[j] (List.mem_take_iff_getElem.2 ⟨j, by omega, rfl⟩)
    simp [this]
  rw [this]
theorem idx_f {p : Mb → Bool} {m : List Mb} (h : ∀ y ∈ m, p y = false) : idx p m = -1 := by
  unfold idx
  rw [List.findIdx?_eq_none_iff.2 h]
theorem idx_or (p : Mb → Bool) (m : List Mb) : (idx p m = -1 ∧ ∀ y ∈ m, p y = false) ∨ ∃ (i : Nat) (x : Mb), m[i]? = some x ∧ p x = true ∧ (∀ y ∈ m.take i, p y = false) ∧ idx p m = (i : Int) := by
  cases hf : m.findIdx? p with
  | none =>
    rw [List.findIdx?_eq_none_iff] at hf
    exact .inl ⟨idx_f hf, hf⟩
  | some i =>
    obtain ⟨hi, h1, h2⟩ := List.findIdx?_eq_some_iff_getElem.1 hf
    have hx : m[i]? = some m[i] := List.getElem?_eq_getElem hi
    have hno : ∀ y ∈ m.take i, p y = false := fun y hy => by
      obtain ⟨j, hj, rfl⟩ := List.mem_take_iff_getElem.1 hy
      have := h2 j (by omega)
      simpa using this
    exact .inr ⟨i, m[i], hx, h1, hno, idx_t hx h1 hno⟩
def at_ (l : List Mb) (n : Int) : Int := idx (fun y => decide (y.1 = n)) l
/-- A node's place, or none. -/
theorem at_or (l : List Mb) (n : Int) : (at_ l n = -1 ∧ ∀ y ∈ l, ¬ y.1 = n) ∨ ∃ (i : Nat) (x : Mb), l[i]? = some x ∧ x.1 = n ∧ (∀ y ∈ l.take i, ¬ y.1 = n) ∧ at_ l n = (i : Int) := by
  rcases idx_or (fun y => decide (y.1 = n)) l with ⟨h1, h2⟩ | ⟨i, x, h1, h2, h3, h4⟩
  · exact .inl ⟨h1, fun y hy => by simpa using h2 y hy⟩
  · exact .inr ⟨i, x, h1, by simpa using h2, fun y hy => by simpa using h3 y hy, h4⟩
end Cf
end Go.Proofs.Ytpocbgcbiojflaa
