/- Spaces: what calls come to, one behind the other: plain laws. -/
import Derived.Test.YtimmabejfigleaaKt
namespace Go.Proofs.Ytimmabejfigleaa
namespace Ks

theorem fit_or (k y : Int) (m : List Pr) : (fits k y m = true ∧ fitR k y m = (k, y, m, 0)) ∨ fitR k y m = (0, 0, [], 120) := by
  unfold fitR
  cases h : fits k y m with
  | true => exact .inl ⟨rfl, rfl⟩
  | false => exact .inr rfl
theorem put_or (k y : Int) (l : List Pr) (a v : ByteArray) : (May k y l ∧ pr (a, v) = true ∧ May k y (put l a v) ∧ putR k y l a v = (k, y, put l a v, 0)) ∨ ∃ e : Int, (e = 2 ∨ e = 120) ∧ putR k y l a v = (0, 0, [], e) := by
  unfold putR
  cases h : (may k y l && pr (a, v)) with
  | false => exact .inr ⟨2, .inl rfl, rfl⟩
  | true =>
    rw [Bool.and_eq_true, may_iff] at h
    rcases fit_or k y (put l a v) with ⟨h1, h2⟩ | h2
    · exact .inl ⟨h.1, h.2, (may_iff _ _ _).1 ((may_put h.1 h.2).trans h1), by rw [if_pos rfl, h2]⟩
    · exact .inr ⟨120, .inr rfl, by rw [if_pos rfl, h2]⟩
theorem swap_or (k y : Int) (l : List Pr) (a o v : ByteArray) : (May k y l ∧ pr (a, v) = true ∧ (∃ p, get l a = some p ∧ p.2 = o) ∧ May k y (put l a v) ∧ swapR k y l a o v = (k, y, put l a v, 0)) ∨
    ∃ e : Int, ¬ e = 0 ∧ swapR k y l a o v = (0, 0, [], e) ∧ (e = 2 ∨ e = 120 ∨ (e = 110 ∧ may k y l = true ∧ pr (a, v) = true ∧ get l a = none) ∨ (e = 111 ∧ ∃ p, may k y l = true ∧ pr (a, v) = true ∧ get l a = some p ∧ ¬ p.2 = o)) := by
  unfold swapR
  cases h : (may k y l && pr (a, v)) with
  | false => exact .inr ⟨2, by decide, rfl, .inl rfl⟩
  | true =>
    have h0 := h
    rw [Bool.and_eq_true] at h0
    rw [Bool.and_eq_true, may_iff] at h
    cases hg : get l a with
    | none => exact .inr ⟨110, by decide, rfl, .inr (.inr (.inl ⟨rfl, h0.1, h0.2, rfl⟩))⟩
    | some p =>
      by_cases ho : p.2 = o
      · rcases fit_or k y (put l a v) with ⟨h1, h2⟩ | h2
        · exact .inl ⟨h.1, h.2, ⟨p, rfl, ho⟩, (may_iff _ _ _).1 ((may_put h.1 h.2).trans h1), by rw [if_pos rfl]; dsimp only; rw [if_pos ho, h2]⟩
        · exact .inr ⟨120, by decide, by rw [if_pos rfl]; dsimp only; rw [if_pos ho, h2], .inr (.inl rfl)⟩
      · exact .inr ⟨111, by decide, by rw [if_pos rfl]; dsimp only; rw [if_neg ho], .inr (.inr (.inr ⟨rfl, p, h0.1, h0.2, rfl, ho⟩))⟩
theorem del_or (k y : Int) (l : List Pr) (a : ByteArray) : (May k y l ∧ pr (a, e) = true ∧ delR k y l a = (k, y, rest l a, 0)) ∨ ∃ e : Int, ¬ e = 0 ∧ (getR k y l a).2 = e ∧ delR k y l a = (0, 0, [], e) := by
  unfold delR getR
  cases h : (may k y l && pr (a, Ks.e)) with
  | false => exact .inr ⟨2, by decide, rfl, rfl⟩
  | true =>
    rw [Bool.and_eq_true, may_iff] at h
    cases hg : get l a with
    | none => exact .inr ⟨110, by decide, rfl, rfl⟩
    | some p => exact .inl ⟨h.1, h.2, rfl⟩
theorem res_or (k y : Int) (l : List Pr) (k' y' : Int) : resR k y l k' y' = (k', y', l, 0) ∨ ∃ e : Int, ¬ e = 0 ∧ resR k y l k' y' = (0, 0, [], e) := by
  unfold resR
  cases h : (may k y l && lim k' y') with
  | false => exact .inr ⟨2, by decide, rfl⟩
  | true =>
    rcases fit_or k' y' l with ⟨h1, h2⟩ | h2
    · exact .inl (by rw [if_pos rfl, h2])
    · exact .inr ⟨120, by decide, by rw [if_pos rfl, h2]⟩
theorem may_len {k y : Int} {l : List Pr} (h : May k y l) : l.length ≤ 64 := by
  have := h.n
  have := h.k1
  omega
theorem putR_len (k y : Int) (l : List Pr) (a v : ByteArray) : (putR k y l a v).2.2.1.length ≤ 64 := by
  rcases put_or k y l a v with ⟨_, _, h, e⟩ | ⟨_, _, e⟩
  · rw [e]; exact may_len h
  · rw [e]; exact Nat.zero_le _
theorem swapR_len (k y : Int) (l : List Pr) (a o v : ByteArray) : (swapR k y l a o v).2.2.1.length ≤ 64 := by
  rcases swap_or k y l a o v with ⟨_, _, _, h, e⟩ | ⟨_, _, e, _⟩
  · rw [e]; exact may_len h
  · rw [e]; exact Nat.zero_le _
theorem delR_len (k y : Int) (l : List Pr) (a : ByteArray) : (delR k y l a).2.2.1.length ≤ 64 := by
  rcases del_or k y l a with ⟨h, _, e⟩ | ⟨_, _, _, e⟩
  · rw [e]; exact may_len (may_rest h a)
  · rw [e]; exact Nat.zero_le _

/-! ### One key's pair, the others' -/
abbrev So (l : List Pr) : Prop := l.Pairwise fun a b => lt a.1 b.1 = true
theorem mem_rest {l : List Pr} {a : ByteArray} {x : Pr} : x ∈ rest l a ↔ x ∈ l ∧ ¬ x.1 = a := by
  unfold rest
  rw [List.mem_append, mem_lo, mem_up]
  constructor
  · rintro (⟨h1, h2⟩ | ⟨h1, h2⟩)
    · exact ⟨h1, lt_ne h2⟩
    · exact ⟨h1, fun e => lt_ne h2 e.symm⟩
  · rintro ⟨h1, h2⟩
    rcases lt_tri x.1 a with h | h | h
    · exact .inl ⟨h1, h⟩
    · exact absurd h h2
    · exact .inr ⟨h1, h⟩
theorem mem_put {l : List Pr} {a v : ByteArray} {x : Pr} : x ∈ put l a v ↔ x = (a, v) ∨ (x ∈ l ∧ ¬ x.1 = a) := by
  rw [← mem_rest]
  unfold put rest
  rw [List.mem_append, List.mem_append, List.mem_cons]
  constructor
  · rintro (h | h | h)
    · exact .inr (.inl h)
    · exact .inl h
    · exact .inr (.inr h)
  · rintro (h | h | h)
    · exact .inr (.inl h)
    · exact .inl h
    · exact .inr (.inr h)
theorem get_congr {l m : List Pr} (hl : So l) (hm : So m) {o : ByteArray} (h : ∀ x : Pr, x.1 = o → (x ∈ l ↔ x ∈ m)) : get l o = get m o := by
  by_cases hx : ∃ x ∈ l, x.1 = o
  · obtain ⟨x, hx, rfl⟩ := hx
    rw [get_mem hl hx, get_mem hm ((h x rfl).1 hx)]
  · have h1 : ∀ x ∈ l, ¬ x.1 = o := fun x hx' e => hx ⟨x, hx', e⟩
    rw [get_not hl h1, get_not hm fun x hx' e => h1 x ((h x e).2 hx') e]
theorem get_put_self {l : List Pr} (h : So l) (a v : ByteArray) : get (put l a v) a = some (a, v) := get_mem (so_put h a v) (mem_put.2 (.inl rfl))
theorem get_put_other {l : List Pr} (h : So l) {a v o : ByteArray} (ho : ¬ o = a) : get (put l a v) o = get l o :=
  get_congr (so_put h a v) h fun x hx => by
    rw [mem_put]
    constructor
    · rintro (rfl | ⟨h1, _⟩)
      · exact absurd hx.symm ho
      · exact h1
    · exact fun h1 => .inr ⟨h1, fun e => ho (hx.symm.trans e)⟩
theorem get_rest_self {l : List Pr} (h : So l) (a : ByteArray) : get (rest l a) a = none := get_not (so_rest h a) fun _ hx => (mem_rest.1 hx).2
theorem get_rest_other {l : List Pr} (h : So l) {a o : ByteArray} (ho : ¬ o = a) : get (rest l a) o = get l o :=
  get_congr (so_rest h a) h fun x hx => by
    rw [mem_rest]
    exact ⟨fun h1 => h1.1, fun h1 => ⟨h1, fun e => ho (hx.symm.trans e)⟩⟩
theorem pr_e {a v : ByteArray} (h : pr (a, v) = true) : pr (a, e) = true := by
  have := of_decide_eq_true h
  exact decide_eq_true ⟨this.1, this.2.1, show Ks.e.size ≤ 64 by decide⟩
theorem getR_of {k y : Int} {l m : List Pr} (h1 : may k y l = true) (h2 : may k y m = true) {o : ByteArray} (h : get l o = get m o) : getR k y l o = getR k y m o := by
  unfold getR
  rw [h1, h2, h]
theorem getR_put_self {k y : Int} {l : List Pr} {a v : ByteArray} (h : May k y l) (hp : pr (a, v) = true) (h2 : May k y (put l a v)) : getR k y (put l a v) a = (v, 0) := by
  unfold getR
  rw [(may_iff _ _ _).2 h2, pr_e hp, get_put_self h.so]
  rfl
theorem getR_put_other {k y : Int} {l : List Pr} {a v o : ByteArray} (h : May k y l) (h2 : May k y (put l a v)) (ho : ¬ o = a) : getR k y (put l a v) o = getR k y l o :=
  getR_of ((may_iff _ _ _).2 h2) ((may_iff _ _ _).2 h) (get_put_other h.so ho)
theorem getR_rest_self {k y : Int} {l : List Pr} {a : ByteArray} (h : May k y l) (hp : pr (a, e) = true) : getR k y (rest l a) a = (e, 110) := by
  unfold getR
  rw [(may_iff _ _ _).2 (may_rest h a), hp, get_rest_self h.so]
  rfl
theorem getR_rest_other {k y : Int} {l : List Pr} {a o : ByteArray} (h : May k y l) (ho : ¬ o = a) : getR k y (rest l a) o = getR k y l o :=
  getR_of ((may_iff _ _ _).2 (may_rest h a)) ((may_iff _ _ _).2 h) (get_rest_other h.so ho)
/-- A swap of the value that is there. -/
theorem swap_was {k y : Int} {l : List Pr} {a v : ByteArray} {e : Int} (h0 : ¬ e = 0) (h : swapR k y l a (getR k y l a).1 v = (0, 0, [], e)) : (getR k y l a).2 = e ∨ e = 120 ∨ e = 2 := by
  rcases swap_or k y l a (getR k y l a).1 v with ⟨_, _, _, _, h1⟩ | ⟨e', _, h1, h2⟩
  · rw [h1] at h
    exact absurd (congrArg (·.2.2.2) h).symm h0
  · rw [h1] at h
    have he : e' = e := congrArg (·.2.2.2) h
    subst he
    rcases h2 with h2 | h2 | ⟨h2, h3, h4, h5⟩ | ⟨h2, p, h3, h4, h5, h6⟩
    · exact .inr (.inr h2)
    · exact .inr (.inl h2)
    · left
      unfold getR
      rw [h3, pr_e h4, h5, h2]
      rfl
    · exfalso
      apply h6
      unfold getR
      rw [h3, pr_e h4, h5]
      rfl

/-! ### Two puts -/
theorem put_put' {a b : ByteArray} (h : ¬ a = b) (l : List Pr) (x y : ByteArray) : put (put l a x) b y = put (put l b y) a x := by
  rcases lt_tri a b with h1 | h1 | h1
  · exact put_put h1 l x y
  · exact absurd h1 h
  · exact (put_put h1 l y x).symm
theorem order {k y : Int} {l : List Pr} {a x b z : ByteArray} (h : ¬ a = b) (h1 : (putR k y l a x).2.2.2 = 0) (h2 : (putR k y l b z).2.2.2 = 0) :
    putR (putR k y l a x).1 (putR k y l a x).2.1 (putR k y l a x).2.2.1 b z = putR (putR k y l b z).1 (putR k y l b z).2.1 (putR k y l b z).2.2.1 a x := by
  rcases put_or k y l a x with ⟨_, p1, m1, e1⟩ | ⟨e, he, e1⟩
  · rcases put_or k y l b z with ⟨_, p2, m2, e2⟩ | ⟨e, he, e2⟩
    · rw [e1, e2]
      dsimp only
      unfold putR
      rw [(may_iff _ _ _).2 m1, (may_iff _ _ _).2 m2, p1, p2, put_put' h]
    · rw [e2] at h2
      dsimp only at h2
      omega
  · rw [e1] at h1
    dsimp only at h1
    omega

/-! ### Lists, one behind the other -/
def zb : ByteArray := ⟨#[0]⟩
/-- From where the next list is told. -/
def fr (l : List Pr) (i : Nat) : ByteArray := if i = 0 then e else (match l[i - 1]? with | some x => x.1 ++ zb | none => e)
theorem lt_e (a : ByteArray) : lt a e = false := by
  unfold lt
  rw [show Ks.e.toList = [] by decide +kernel]
  cases a.toList <;> rfl
theorem fr_succ {l : List Pr} {i : Nat} {x : Pr} (hx : l[i]? = some x) : fr l (i + 1) = x.1 ++ zb := by
  unfold fr
  rw [if_neg (by omega), Nat.add_sub_cancel, hx]
theorem split_at' {l : List Pr} {i : Nat} {x : Pr} (hx : l[i]? = some x) : l = l.take i ++ x :: l.drop (i + 1) := by
  obtain ⟨hi, rfl⟩ := List.getElem?_eq_some_iff.1 hx
  rw [← List.drop_eq_getElem_cons hi, List.take_append_drop]
theorem up_drop {l : List Pr} (h : So l) {i : Nat} {x : Pr} (hx : l[i]? = some x) : up l x.1 = l.drop (i + 1) := by
  have hs := split_at' hx
  have h2 := h
  rw [hs] at h2
  unfold So at h2
  rw [List.pairwise_append, List.pairwise_cons] at h2
  unfold up
  have := congrArg (fun m : List Pr => m.filter fun p => lt x.1 p.1) hs
  rw [this, List.filter_append, List.filter_cons, lt_irr, List.filter_eq_nil_iff.2 fun p hp => ?_, List.filter_eq_self.2 fun p hp => h2.2.1.1 p hp]
  · rfl
  · have := lt_as (h2.2.2 p hp x (.head _))
    simp [this]
theorem ge_fr {l : List Pr} (h : So l) {i : Nat} (hi : i ≤ l.length) : ge l (fr l i) = l.drop i := by
  by_cases h0 : i = 0
  · subst h0
    unfold ge fr
    rw [if_pos rfl, List.drop_zero]
    exact List.filter_eq_self.2 fun p _ => by rw [lt_e]; rfl
  · obtain ⟨j, rfl⟩ : ∃ j, i = j + 1 := ⟨i - 1, by omega⟩
    obtain ⟨x, hx⟩ : ∃ x, l[j]? = some x := ⟨_, List.getElem?_eq_getElem (by omega)⟩
    rw [fr_succ hx, ← up_drop h hx]
    unfold ge up
    exact List.filter_congr fun p _ => by rw [lt_snoc _ _ _ (show zb.toList = [0] by decide +kernel), Bool.not_not]
theorem fr_le {l : List Pr} (h : So l) {i : Nat} {x : Pr} (hx : l[i]? = some x) : lt x.1 (fr l i) = false := by
  by_cases h0 : i = 0
  · subst h0
    unfold fr
    rw [if_pos rfl]
    exact lt_e _
  · obtain ⟨j, rfl⟩ : ∃ j, i = j + 1 := ⟨i - 1, by omega⟩
    have hj := (List.getElem?_eq_some_iff.1 hx).1
    obtain ⟨z, hz⟩ : ∃ z, l[j]? = some z := ⟨_, List.getElem?_eq_getElem (by omega)⟩
    rw [fr_succ hz, lt_snoc _ _ _ (show zb.toList = [0] by decide +kernel)]
    obtain ⟨hi', rfl⟩ := List.getElem?_eq_some_iff.1 hx
    obtain ⟨hj', rfl⟩ := List.getElem?_eq_some_iff.1 hz
    rw [List.pairwise_iff_getElem.1 h j (j + 1) hj' hi' (by omega)]
    rfl
theorem getR_self {k y : Int} {l : List Pr} (h : May k y l) {x : Pr} (hx : x ∈ l) : getR k y l x.1 = (x.2, 0) := by
  unfold getR
  rw [(may_iff _ _ _).2 h, pr_e (h.pr x hx), get_mem h.so hx]
  rfl
end Ks
end Go.Proofs.Ytimmabejfigleaa
