/- What a note makes of a table: the plain law. -/
import Derived.Test.YthiacfpfgdoliaaRm
namespace Go.Proofs.Ythiacfpfgdoliaa
open Go.RowKit

namespace Rl
section
variable {α : Type} (f : α → Int)
def lo (l : List α) (c : Int) : List α := l.filter fun x => decide (f x < c)
def up (l : List α) (c : Int) : List α := l.filter fun x => decide (c < f x)
def put (l : List α) (c : Int) (a : α) : List α := lo f l c ++ a :: up f l c
def So (l : List α) : Prop := l.Pairwise fun a b => f a < f b
theorem lo_none {l : List α} {k : Int} (h : ∀ x ∈ l, k ≤ f x) : lo f l k = [] := by
  unfold lo
  rw [List.filter_eq_nil_iff]
  intro x hx
  have := h x hx
  simp; omega
theorem lo_all {l : List α} {k : Int} (h : ∀ x ∈ l, f x < k) : lo f l k = l := by
  unfold lo
  rw [List.filter_eq_self]
  intro x hx
  simpa using h x hx
theorem up_none {l : List α} {k : Int} (h : ∀ x ∈ l, f x ≤ k) : up f l k = [] := by
  unfold up
  rw [List.filter_eq_nil_iff]
  intro x hx
  have := h x hx
  simp; omega
theorem up_all {l : List α} {k : Int} (h : ∀ x ∈ l, k < f x) : up f l k = l := by
  unfold up
  rw [List.filter_eq_self]
  intro x hx
  simpa using h x hx
theorem lo_snoc {l : List α} (h : So f l) (k : Int) : lo f l (k + 1) = lo f l k ++ (l.find? fun x => decide (f x = k)).toList := by
  induction l with
  | nil => rfl
  | cons a l ih =>
    obtain ⟨h1, h2⟩ := List.pairwise_cons.1 h
    have ih := ih h2
    unfold lo at ih ⊢
    rcases Int.lt_trichotomy (f a) k with hk | hk | hk
    · rw [List.filter_cons_of_pos (by simp; omega), List.filter_cons_of_pos (by simpa using hk), List.find?_cons_of_neg (by simp; omega), ih]; rfl
    · have e1 : l.filter (fun x => decide (f x < k + 1)) = [] := lo_none f (k := k + 1) fun x hx => by have := h1 x hx; omega
      have e2 : l.filter (fun x => decide (f x < k)) = [] := lo_none f (k := k) fun x hx => by have := h1 x hx; omega
      rw [List.filter_cons_of_pos (by simp; omega), List.filter_cons_of_neg (by simp; omega), List.find?_cons_of_pos (by simpa using hk), e1, e2]; rfl
    · have e1 : l.filter (fun x => decide (f x < k + 1)) = [] := lo_none f (k := k + 1) fun x hx => by have := h1 x hx; omega
      have e2 : l.filter (fun x => decide (f x < k)) = [] := lo_none f (k := k) fun x hx => by have := h1 x hx; omega
      have e3 : l.find? (fun x => decide (f x = k)) = none := List.find?_eq_none.2 fun x hx => by have := h1 x hx; simp; omega
      rw [List.filter_cons_of_neg (by simp; omega), List.filter_cons_of_neg (by simp; omega), List.find?_cons_of_neg (by simp; omega), e1, e2, e3]; rfl
theorem put_mem {l : List α} {c : Int} {a x : α} (h : x ∈ put f l c a) : x = a ∨ x ∈ l := by
  rcases List.mem_append.1 h with h | h
  · exact .inr (List.mem_filter.1 h).1
  · rcases List.mem_cons.1 h with h | h
    · exact .inl h
    · exact .inr (List.mem_filter.1 h).1
theorem put_so {l : List α} {c : Int} {a : α} (h : So f l) (ha : f a = c) : So f (put f l c a) := by
  unfold So put
  rw [List.pairwise_append]
  refine ⟨h.filter _, List.pairwise_cons.2 ⟨fun x hx => ?_, h.filter _⟩, fun x hx y hy => ?_⟩
  · have := (List.mem_filter.1 hx).2
    simp at this; omega
  · have h1 := (List.mem_filter.1 hx).2
    simp at h1
    rcases List.mem_cons.1 hy with rfl | hy
    · omega
    · have h2 := (List.mem_filter.1 hy).2
      simp at h2; omega
theorem put_find {l : List α} {c : Int} {a : α} (ha : f a = c) (k : Int) : ((put f l c a).find? fun x => decide (f x = k)) = if k = c then some a else l.find? fun x => decide (f x = k) := by
  unfold put lo up
  rw [List.find?_append, List.find?_filter]
  rcases Int.lt_trichotomy k c with hk | hk | hk
  · rw [if_neg (by omega), List.find?_cons_of_neg (by simp; omega), List.find?_filter]
    have e1 : (fun x => decide (decide (f x < c) = true ∧ decide (f x = k) = true)) = fun x => decide (f x = k) := funext fun x => by
      rw [decide_eq_decide]
      simp; omega
    have e2 : l.find? (fun x => decide (decide (c < f x) = true ∧ decide (f x = k) = true)) = none := List.find?_eq_none.2 fun x hx => by simp; omega
    rw [e1, e2, Option.or_none]
  · have e1 : l.find? (fun x => decide (decide (f x < c) = true ∧ decide (f x = k) = true)) = none := List.find?_eq_none.2 fun x hx => by simp; omega
    rw [if_pos hk, List.find?_cons_of_pos (by simp; omega), e1, Option.none_or]
  · have e1 : l.find? (fun x => decide (decide (f x < c) = true ∧ decide (f x = k) = true)) = none := List.find?_eq_none.2 fun x hx => by simp; omega
    have e2 : (fun x => decide (decide (c < f x) = true ∧ decide (f x = k) = true)) = fun x => decide (f x = k) := funext fun x => by
      rw [decide_eq_decide]
      simp; omega
    rw [if_neg (by omega), List.find?_cons_of_neg (by simp; omega), List.find?_filter, e1, e2, Option.none_or]
/-- What stands at its place among all others. -/
theorem ins_put {l q : List α} {c : Int} (hq : q = l.filter fun x => !decide (f x = c)) {i : Nat} (h1 : ∀ y ∈ q.take i, f y < c) (h2 : ∀ y ∈ q.drop i, c < f y) (a : α) : q.take i ++ a :: q.drop i = put f l c a := by
  have e1 : lo f l c = lo f q c := by
    unfold lo
    rw [hq, List.filter_filter]
    congr 1
    funext x
    rw [← Bool.decide_coe (decide (f x < c) && _), decide_eq_decide]
    simp; omega
  have e2 : up f l c = up f q c := by
    unfold up
    rw [hq, List.filter_filter]
    congr 1
    funext x
    rw [← Bool.decide_coe (decide (c < f x) && _), decide_eq_decide]
    simp; omega
  have e3 : lo f q c = q.take i := by
    conv => lhs; rw [← List.take_append_drop i q]
    have e := lo_none f (l := q.drop i) (k := c) fun x hx => by have := h2 x hx; omega
    have e' := lo_all f h1
    unfold lo at e e' ⊢
    rw [List.filter_append, e, e', List.append_nil]
  have e4 : up f q c = q.drop i := by
    conv => lhs; rw [← List.take_append_drop i q]
    have e := up_none f (l := q.take i) (k := c) fun x hx => by have := h1 x hx; omega
    have e' := up_all f h2
    unfold up at e e' ⊢
    rw [List.filter_append, e, e', List.nil_append]
  unfold put
  rw [e1, e2, e3, e4]
end

def fc (x : La) : Int := x.c
def fm (x : Me) : Int := x.1.c
theorem put_map (l : List Me) (c : Int) (a : Me) : (put fm l c a).map (·.1) = put fc (l.map (·.1)) c a.1 := by
  unfold put lo up
  rw [List.map_append, List.map_cons, List.filter_map, List.filter_map]
  rfl
def ofL (l : List La) (c : Int) : Int := match l.find? fun x => decide (fc x = c) with
  | some x => x.id
  | none => 0
theorem ofM_eq (m : List Me) (c : Int) : ofM m c = ofL (m.map (·.1)) c := by
  unfold ofM ofL find
  rw [List.find?_map]
  cases h : m.find? fun x => decide (x.1.c = c) with
  | none =>
    have : m.find? ((fun x => decide (fc x = c)) ∘ fun x => x.1) = none := h
    rw [this]; rfl
  | some x =>
    have : m.find? ((fun x => decide (fc x = c)) ∘ fun x => x.1) = some x := h
    rw [this]; rfl
/-- What a note makes of a table, and the error's number. -/
def note (l : List La) (c i : Int) (r : Rp) : List La × Int :=
  if may l && fits c i then (if i ≤ ofL l c then ([], 140) else (put fc l c ⟨c, i, r⟩, 0)) else ([], 2)
/-- The same, with where the keys lie. -/
def noteM (l : List Me) (c i : Int) (r : Rp) (h : Hd) : List Me × Int :=
  if may (l.map (·.1)) && fits c i then (if i ≤ ofM l c then ([], 140) else (put fm l c (⟨c, i, r⟩, h), 0)) else ([], 2)
theorem noteM_note (l : List Me) (c i : Int) (r : Rp) (h : Hd) : (noteM l c i r h).1.map (·.1) = (note (l.map (·.1)) c i r).1 ∧ (noteM l c i r h).2 = (note (l.map (·.1)) c i r).2 := by
  unfold noteM note
  rw [ofM_eq]
  split
  · split
    · exact ⟨rfl, rfl⟩
    · exact ⟨put_map _ _ _, rfl⟩
  · exact ⟨rfl, rfl⟩
/-- Where it is to stand. -/
theorem ins_at {l : List La} {out : List Me} {c : Int} (hso : So fc l) (ho : out.map (·.1) = l.filter fun x => !decide (fc x = c)) (a : Me) :
    (idx (fun x => decide (c < x.1.c)) out = -1 ∧ (out.take out.length ++ a :: out.drop out.length).map (·.1) = put fc l c a.1) ∨ ∃ i : Nat, i ≤ out.length ∧ idx (fun x => decide (c < x.1.c)) out = (i : Int) ∧ (out.take i ++ a :: out.drop i).map (·.1) = put fc l c a.1 := by
  have hne : ∀ x ∈ out, ¬ x.1.c = c := fun x hx => by
    have : x.1 ∈ l.filter fun x => !decide (fc x = c) := by rw [← ho]; exact List.mem_map.2 ⟨x, hx, rfl⟩
    have h2 := (List.mem_filter.1 this).2
    exact fun e => by simp [fc, e] at h2
  have hq : So fc (out.map (·.1)) := by rw [ho]; exact hso.filter _
  have key : ∀ i, (∀ y ∈ out.take i, y.1.c < c) → (∀ y ∈ out.drop i, c < y.1.c) → (out.take i ++ a :: out.drop i).map (·.1) = put fc l c a.1 := fun i h1 h2 => by
    rw [List.map_append, List.map_cons, List.map_take, List.map_drop]
    refine ins_put fc ho (fun y hy => ?_) (fun y hy => ?_) a.1
    · rw [← List.map_take] at hy
      obtain ⟨z, hz, rfl⟩ := List.mem_map.1 hy
      exact h1 z hz
    · rw [← List.map_drop] at hy
      obtain ⟨z, hz, rfl⟩ := List.mem_map.1 hy
      exact h2 z hz
  rcases idx_or (fun x => decide (c < x.1.c)) out with ⟨h1, h2⟩ | ⟨i, x, h1, h2, h3, h4⟩
  · refine .inl ⟨h1, key _ (fun y hy => ?_) (fun y hy => ?_)⟩
    · have hy := List.mem_of_mem_take hy
      have e1 := h2 y hy
      have e2 := hne y hy
      simp at e1; omega
    · rw [List.drop_length] at hy; cases hy
  · have hi := lt_of_some h1
    refine .inr ⟨i, by omega, h4, key i (fun y hy => ?_) (fun y hy => ?_)⟩
    · have e1 := h3 y hy
      have e2 := hne y (List.mem_of_mem_take hy)
      simp at e1; omega
    · rw [drop_at h1] at hy
      have e1 : c < x.1.c := by simpa using h2
      rcases List.mem_cons.1 hy with rfl | hy
      · exact e1
      · have hp : (out.drop i).Pairwise fun a b => a.1.c < b.1.c := (List.pairwise_map.1 hq).sublist (List.drop_sublist _ _)
        rw [drop_at h1] at hp
        have := (List.pairwise_cons.1 hp).1 y hy
        omega
end Rl
end Go.Proofs.Ythiacfpfgdoliaa
