/- The plain law of pending lists: what the walks show that the program computes, and what follows of it. No program in sight. -/
import Derived.Test.YtggbiklkigjegaaMap
namespace Go.Proofs.Ytggbiklkigjegaa.Pl
open Mp

def keys (l : List KV) : List Int := l.map (·.1)
def has (l : List KV) (k : Int) : Bool := (getK k l).isSome
def put (most : Int) (l : List KV) (k : Int) (v : ByteArray) : List KV × Bool := if has l k = true ∨ (l.length : Int) < most then (upd k v l, true) else (l, false)

theorem keys_len (l : List KV) : (keys l).length = l.length := by simp [keys]
theorem has_iff (l : List KV) (k : Int) : has l k = true ↔ k ∈ keys l := by
  unfold has keys
  induction l with
  | nil => simp [getK]
  | cons x l ih =>
    unfold getK
    split
    · rename_i h; simp [h]
    · rename_i h
      rw [ih, List.map_cons, List.mem_cons]
      exact ⟨.inr, fun h' => h'.elim (fun e => absurd e.symm h) id⟩
theorem upd_keys (k : Int) (v : ByteArray) (l : List KV) : keys (upd k v l) = if has l k = true then keys l else keys l ++ [k] := by
  unfold has keys
  induction l with
  | nil => simp [getK, upd]
  | cons x l ih =>
    unfold getK upd
    split
    · rename_i h; simp [h]
    · rw [List.map_cons, ih]
      split <;> simp
theorem upd_len (k : Int) (v : ByteArray) (l : List KV) : (upd k v l).length = if has l k = true then l.length else l.length + 1 := by
  have := congrArg List.length (upd_keys k v l)
  rw [keys_len] at this
  rw [this]
  split <;> simp [keys_len]
theorem get_upd (j k : Int) (v : ByteArray) (l : List KV) : getK j (upd k v l) = if j = k then some v else getK j l := by
  induction l with
  | nil => simp only [upd, getK]; by_cases h : j = k <;> simp [h, eq_comm]
  | cons x l ih =>
    unfold upd
    by_cases h : x.1 = k
    · rw [if_pos h]
      simp only [getK]
      by_cases h2 : j = k
      · simp [h2]
      · rw [if_neg h2, if_neg (fun e => h2 e.symm), if_neg (fun e => h2 (e.symm.trans h))]
    · rw [if_neg h]
      simp only [getK]
      by_cases h2 : x.1 = j
      · rw [if_pos h2, if_pos h2, if_neg (fun e => h (h2.trans e))]
      · rw [if_neg h2, if_neg h2, ih]
theorem dele_keys {k : Int} {l : List KV} (h : (keys l).Nodup) : keys (dele k l) = (keys l).filter fun x => !decide (x = k) := by
  unfold keys at *
  induction l with
  | nil => rfl
  | cons x l ih =>
    have h' := List.nodup_cons.1 h
    unfold dele
    by_cases hk : x.1 = k
    · rw [if_pos hk, List.map_cons, List.filter_cons_of_neg (by simp [hk]), List.filter_eq_self.2]
      intro y hy
      have : y ≠ k := fun e => h'.1 (show x.1 ∈ l.map (·.1) by rw [hk, ← e]; exact hy)
      simp [this]
    · rw [if_neg hk, List.map_cons, List.map_cons, List.filter_cons_of_pos (by simp [hk]), ih h'.2]
theorem dele_nodup {k : Int} {l : List KV} (h : (keys l).Nodup) : (keys (dele k l)).Nodup := by
  rw [dele_keys h]
  exact h.filter _
theorem upd_nodup {k : Int} {v : ByteArray} {l : List KV} (h : (keys l).Nodup) : (keys (upd k v l)).Nodup := by
  rw [upd_keys]
  split
  · exact h
  · rename_i hk
    rw [has_iff] at hk
    exact List.nodup_append.2 ⟨h, by simp, fun a ha b hb e => hk (by rw [List.mem_singleton.1 hb] at e; rwa [← e])⟩
theorem get_dele {k : Int} {l : List KV} (h : (keys l).Nodup) (j : Int) : getK j (dele k l) = if j = k then none else getK j l := by
  by_cases hj : j = k
  · subst hj
    rw [if_pos rfl]
    have : has (dele j l) j = false := by
      rw [Bool.eq_false_iff]
      intro hh
      rw [has_iff, dele_keys h] at hh
      simp at hh
    unfold has at this
    simpa using this
  · rw [if_neg hj]
    clear h
    induction l with
    | nil => rfl
    | cons x l ih =>
      unfold dele
      by_cases hk : x.1 = k
      · rw [if_pos hk]
        simp only [getK]
        rw [if_neg (fun e => hj (e.symm.trans hk))]
      · rw [if_neg hk]
        simp only [getK, ih]
theorem dele_len {k : Int} {l : List KV} : (dele k l).length ≤ l.length := by
  induction l with
  | nil => simp [dele]
  | cons x l ih =>
    unfold dele
    split
    · simp
    · simp only [List.length_cons]; omega
theorem dele_no {k : Int} {l : List KV} (h : has l k = false) : dele k l = l := by
  unfold has at h
  induction l with
  | nil => rfl
  | cons x l ih =>
    unfold getK at h
    unfold dele
    split at h
    · cases h
    · rename_i hk
      rw [if_neg hk, ih h]
theorem put_nodup {most : Int} {l : List KV} {k : Int} {v : ByteArray} (h : (keys l).Nodup) : (keys (put most l k v).1).Nodup := by
  unfold put
  split
  · exact upd_nodup h
  · exact h
theorem put_len {most : Int} {l : List KV} {k : Int} {v : ByteArray} : (put most l k v).1.length ≤ l.length + 1 := by
  unfold put
  split
  · rw [upd_len]; split <;> omega
  · exact Nat.le_succ _
end Go.Proofs.Ytggbiklkigjegaa.Pl
