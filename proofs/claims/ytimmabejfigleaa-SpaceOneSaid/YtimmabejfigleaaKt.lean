/- Spaces: more of the plain law. -/
import Derived.Test.YtimmabejfigleaaKs
namespace Go.Proofs.Ytimmabejfigleaa
namespace Ks
theorem get_mem {l : List Pr} (h : l.Pairwise fun a b => lt a.1 b.1 = true) {x : Pr} (hx : x ∈ l) : get l x.1 = some x := by
  rcases get_or h x.1 with ⟨_, _, _, h1⟩ | ⟨v, h2, _, _, _, _, h1⟩
  · rw [h1] at hx
    rcases List.mem_append.1 hx with h3 | h3
    · exact absurd rfl (lt_ne (mem_lo.1 h3).2)
    · exact absurd rfl (lt_ne (mem_up.1 h3).2)
  · rw [h1] at hx
    rcases List.mem_append.1 hx with h3 | h3
    · exact absurd rfl (lt_ne (mem_lo.1 h3).2)
    · rcases List.mem_cons.1 h3 with h3 | h3
      · rw [h2, ← h3]
      · exact absurd rfl (lt_ne (mem_up.1 h3).2)
theorem get_not {l : List Pr} (h : l.Pairwise fun a b => lt a.1 b.1 = true) {k : ByteArray} (hx : ∀ x ∈ l, ¬ x.1 = k) : get l k = none := by
  rcases get_or h k with ⟨h1, _⟩ | ⟨v, _, _, _, _, _, h1⟩
  · exact h1
  · exact absurd rfl (hx (k, v) (by rw [h1]; simp))
theorem rest_filter {l : List Pr} (h : l.Pairwise fun a b => lt a.1 b.1 = true) (k : ByteArray) : l.filter (fun p => !decide (p.1 = k)) = rest l k := by
  have hlo : (lo l k).filter (fun p => !decide (p.1 = k)) = lo l k := List.filter_eq_self.2 fun x hx => by simp [lt_ne (mem_lo.1 hx).2]
  have hup : (up l k).filter (fun p => !decide (p.1 = k)) = up l k := List.filter_eq_self.2 fun x hx => by
    have := lt_ne (mem_up.1 hx).2
    simpa using fun e => this e.symm
  unfold rest
  rcases get_or h k with ⟨_, _, _, h1⟩ | ⟨v, _, _, _, _, _, h1⟩
  · have := congrArg (fun m : List Pr => m.filter fun p => !decide (p.1 = k)) h1
    rw [this, List.filter_append, hlo, hup]
  · have := congrArg (fun m : List Pr => m.filter fun p => !decide (p.1 = k)) h1
    rw [this, List.filter_append, List.filter_cons, hlo, hup]
    simp
theorem rest_put {l : List Pr} {k v : ByteArray} {i : Nat} (hi : i < (lo l k).length) : (rest l k)[i]? = (put l k v)[i]? := by
  unfold rest put
  rw [List.getElem?_append_left hi, List.getElem?_append_left hi]
theorem rest_put2 {l : List Pr} {k v : ByteArray} {i : Nat} (hi : (lo l k).length ≤ i) : (rest l k)[i]? = (put l k v)[i + 1]? := by
  unfold rest put
  rw [List.getElem?_append_right hi, List.getElem?_append_right (by omega), show i + 1 - (lo l k).length = (i - (lo l k).length) + 1 by omega, List.getElem?_cons_succ]
theorem put_mid (l : List Pr) (k v : ByteArray) : (put l k v)[(lo l k).length]? = some (k, v) := by
  unfold put
  simp
theorem put_len (l : List Pr) (k v : ByteArray) : (put l k v).length = (rest l k).length + 1 ∧ (lo l k).length ≤ (rest l k).length ∧ (rest l k).length ≤ l.length + l.length := by
  have h1 : (lo l k).length ≤ l.length := List.length_filter_le _ _
  have h2 : (up l k).length ≤ l.length := List.length_filter_le _ _
  unfold put rest
  simp only [List.length_append, List.length_cons]
  omega
theorem lo_at {l : List Pr} {k v : ByteArray} {i : Nat} {x : Pr} (hi : i < (lo l k).length) (hx : (put l k v)[i]? = some x) : lt x.1 k = true := by
  unfold put at hx
  rw [List.getElem?_append_left hi] at hx
  exact (mem_lo.1 (List.mem_of_getElem? hx)).2
theorem up_at {l : List Pr} {k v : ByteArray} {i : Nat} {x : Pr} (hi : (lo l k).length ≤ i) (hx : (put l k v)[i + 1]? = some x) : lt k x.1 = true := by
  rw [← rest_put2 (v := v) hi] at hx
  unfold rest at hx
  rw [List.getElem?_append_right hi] at hx
  exact (mem_up.1 (List.mem_of_getElem? hx)).2
end Ks
end Go.Proofs.Ytimmabejfigleaa
