/- Spaces: the plain law. -/
import Derived.Test.YtimmabejfigleaaAuto
namespace Go.Proofs.Ytimmabejfigleaa

/-- A key and its value. -/
abbrev Pr := ByteArray × ByteArray

namespace Ks
theorem bl_irr : ∀ a : List UInt8, Op.bytesLess a a = false
  | [] => rfl
  | a :: x => by
    unfold Op.bytesLess
    rw [bl_irr x]
    simp
theorem bl_tri : ∀ a b : List UInt8, Op.bytesLess a b = true ∨ a = b ∨ Op.bytesLess b a = true
  | [], [] => .inr (.inl rfl)
  | [], _ :: _ => .inl rfl
  | _ :: _, [] => .inr (.inr rfl)
  | a :: x, b :: y => by
    have ih := bl_tri x y
    unfold Op.bytesLess
    simp only [Bool.or_eq_true, Bool.and_eq_true, decide_eq_true_eq, beq_iff_eq]
    rcases Nat.lt_trichotomy a.toNat b.toNat with h | h | h
    · exact .inl (.inl (UInt8.lt_iff_toNat_lt.2 h))
    · obtain rfl := UInt8.toNat_inj.1 h
      rcases ih with h | rfl | h
      · exact .inl (.inr ⟨rfl, h⟩)
      · exact .inr (.inl rfl)
      · exact .inr (.inr (.inr ⟨rfl, h⟩))
    · exact .inr (.inr (.inl (UInt8.lt_iff_toNat_lt.2 h)))
theorem bl_tr : ∀ a b c : List UInt8, Op.bytesLess a b = true → Op.bytesLess b c = true → Op.bytesLess a c = true
  | _, [], _ => fun h => by simp [Op.bytesLess] at h
  | _, _ :: _, [] => fun _ h => by simp [Op.bytesLess] at h
  | [], _ :: _, _ :: _ => fun _ _ => rfl
  | a :: x, b :: y, c :: z => by
    have ih := bl_tr x y z
    unfold Op.bytesLess
    simp only [Bool.or_eq_true, Bool.and_eq_true, decide_eq_true_eq, beq_iff_eq, UInt8.lt_iff_toNat_lt]
    rintro (h1 | ⟨rfl, h1⟩) (h2 | ⟨rfl, h2⟩)
    · exact .inl (by omega)
    · exact .inl h1
    · exact .inl h2
    · exact .inr ⟨rfl, ih h1 h2⟩
/-- A byte more: just above. -/
theorem bl_snoc : ∀ a b : List UInt8, Op.bytesLess a (b ++ [0]) = !Op.bytesLess b a
  | [], [] => rfl
  | [], _ :: _ => rfl
  | a :: x, [] => by
    show Op.bytesLess (a :: x) [0] = !true
    unfold Op.bytesLess
    have : ¬ a < 0 := by rw [UInt8.lt_iff_toNat_lt]; exact Nat.not_lt_zero _
    cases x <;> simp [this, Op.bytesLess]
  | a :: x, b :: y => by
    have ih := bl_snoc x y
    show Op.bytesLess (a :: x) (b :: (y ++ [0])) = !Op.bytesLess (b :: y) (a :: x)
    unfold Op.bytesLess
    rw [ih]
    rcases Nat.lt_trichotomy a.toNat b.toNat with h | h | h
    · have h1 : a < b := UInt8.lt_iff_toNat_lt.2 h
      have h2 : ¬ b < a := by rw [UInt8.lt_iff_toNat_lt]; omega
      have h3 : ¬ b = a := fun e => by rw [e] at h; omega
      simp [h1, h2, h3]
    · obtain rfl := UInt8.toNat_inj.1 h
      have h2 : ¬ a < a := by rw [UInt8.lt_iff_toNat_lt]; omega
      simp [h2]
    · have h1 : b < a := UInt8.lt_iff_toNat_lt.2 h
      have h2 : ¬ a < b := by rw [UInt8.lt_iff_toNat_lt]; omega
      have h3 : ¬ a = b := fun e => by rw [e] at h; omega
      simp [h1, h2, h3]

def lt (a b : ByteArray) : Bool := Op.bytesLess a.toList b.toList
theorem toList_inj {a b : ByteArray} (e : a.toList = b.toList) : a = b := by
  rw [ByteArray.toList_eq, ByteArray.toList_eq] at e
  cases a; cases b; simp at e; simp [e]
theorem lt_irr (a : ByteArray) : lt a a = false := bl_irr _
theorem lt_tri (a b : ByteArray) : lt a b = true ∨ a = b ∨ lt b a = true := by
  rcases bl_tri a.toList b.toList with h | h | h
  · exact .inl h
  · exact .inr (.inl (toList_inj h))
  · exact .inr (.inr h)
theorem lt_tr {a b c : ByteArray} : lt a b = true → lt b c = true → lt a c = true := bl_tr _ _ _
theorem lt_as {a b : ByteArray} (h : lt a b = true) : lt b a = false := by
  rw [Bool.eq_false_iff]
  intro h2
  have := lt_tr h h2
  rw [lt_irr] at this
  cases this
theorem lt_ne {a b : ByteArray} (h : lt a b = true) : ¬ a = b := fun e => by
  subst e
  rw [lt_irr] at h
  cases h
theorem lt_snoc (a b : ByteArray) (z : ByteArray) (hz : z.toList = [0]) : lt a (b ++ z) = !lt b a := by
  unfold lt
  rw [show (b ++ z).toList = b.toList ++ [0] by rw [← hz]; simp [ByteArray.toList_eq], bl_snoc]

def pr (p : Pr) : Bool := decide (1 ≤ p.1.size ∧ p.1.size ≤ 24 ∧ p.2.size ≤ 64)
def cnt (l : List Pr) : Nat := (l.map fun p => p.1.size + p.2.size).sum
def lim (k y : Int) : Bool := decide (0 ≤ k ∧ k ≤ 64 ∧ 0 ≤ y ∧ y ≤ 4096)
/-- May a pair stand at a place, by the one ahead of it? -/
def okB (l : List Pr) (j : Nat) (x : Pr) : Bool := pr x && (decide (j = 0) || (match l[j - 1]? with | some y => lt y.1 x.1 | none => true))
def okAll (l : List Pr) (n : Nat) : Bool := (List.range n).all fun j => match l[j]? with | some x => okB l j x | none => true
def may (k y : Int) (l : List Pr) : Bool := lim k y && decide ((l.length : Int) ≤ k) && okAll l l.length && decide ((cnt l : Int) ≤ y)

theorem okAll_step {l : List Pr} {j : Nat} {x : Pr} (h : okAll l j = true) (hx : l[j]? = some x) (hok : okB l j x = true) : okAll l (j + 1) = true := by
  unfold okAll at h ⊢
  rw [List.range_succ, List.all_append, h]
  simp [hx, hok]
theorem okAll_at {l : List Pr} {n j : Nat} {x : Pr} (h : okAll l n = true) (hj : j < n) (hx : l[j]? = some x) : okB l j x = true := by
  unfold okAll at h
  have := List.all_eq_true.1 h j (List.mem_range.2 hj)
  rw [hx] at this
  exact this
theorem okAll_no {l : List Pr} {j : Nat} {x : Pr} (hx : l[j]? = some x) (hok : okB l j x = false) : okAll l l.length = false := by
  rw [Bool.eq_false_iff]
  intro h
  have := okAll_at h (List.getElem?_eq_some_iff.1 hx).1 hx
  rw [hok] at this
  cases this
theorem may_no {k y : Int} {l : List Pr} {j : Nat} {x : Pr} (hx : l[j]? = some x) (hok : okB l j x = false) : may k y l = false := by
  unfold may
  rw [okAll_no hx hok]
  simp

/-- A space that may be. -/
structure May (k y : Int) (l : List Pr) : Prop where
  k0 : 0 ≤ k
  k1 : k ≤ 64
  y0 : 0 ≤ y
  y1 : y ≤ 4096
  n : (l.length : Int) ≤ k
  pr : ∀ x ∈ l, pr x = true
  so : l.Pairwise fun a b => lt a.1 b.1 = true
  c : (cnt l : Int) ≤ y

theorem so_of {l : List Pr} (h : okAll l l.length = true) : l.Pairwise fun a b => lt a.1 b.1 = true := by
  rw [List.pairwise_iff_getElem]
  intro i j hi hj hij
  induction j with
  | zero => omega
  | succ j ih =>
    have h1 := okAll_at h hj (List.getElem?_eq_getElem hj)
    have h2 : lt (l[j]'(by omega)).1 (l[j + 1]).1 = true := by
      unfold okB at h1
      rw [Nat.add_sub_cancel, List.getElem?_eq_getElem (show j < l.length by omega)] at h1
      simp at h1
      exact h1.2
    rcases Nat.lt_or_eq_of_le (Nat.le_of_lt_succ hij) with h3 | h3
    · exact lt_tr (ih (by omega) h3) h2
    · subst h3; exact h2
theorem okB_so {l : List Pr} (h : l.Pairwise fun a b => lt a.1 b.1 = true) (hp : ∀ x ∈ l, pr x = true) {j : Nat} {x : Pr} (hx : l[j]? = some x) : okB l j x = true := by
  unfold okB
  rw [hp x (List.mem_of_getElem? hx)]
  cases j with
  | zero => simp
  | succ j =>
    obtain ⟨hj, rfl⟩ := List.getElem?_eq_some_iff.1 hx
    rw [Nat.add_sub_cancel, List.getElem?_eq_getElem (show j < l.length by omega)]
    have := List.pairwise_iff_getElem.1 h j (j + 1) (by omega) hj (by omega)
    simp [this]
theorem may_iff (k y : Int) (l : List Pr) : may k y l = true ↔ May k y l := by
  unfold may lim
  simp only [Bool.and_eq_true, decide_eq_true_eq]
  constructor
  · rintro ⟨⟨⟨⟨a, b, c, d⟩, e⟩, f⟩, g⟩
    refine ⟨a, b, c, d, e, fun x hx => ?_, so_of f, g⟩
    obtain ⟨j, hj, rfl⟩ := List.mem_iff_getElem.1 hx
    have := okAll_at f hj (List.getElem?_eq_getElem hj)
    unfold okB at this
    simp only [Bool.and_eq_true] at this
    exact this.1
  · intro h
    refine ⟨⟨⟨⟨h.k0, h.k1, h.y0, h.y1⟩, h.n⟩, ?_⟩, h.c⟩
    unfold okAll
    rw [List.all_eq_true]
    intro j _
    cases hj : l[j]? with
    | none => rfl
    | some x => exact okB_so h.so h.pr hj

/-! ### Keys below, above -/
def lo (l : List Pr) (k : ByteArray) : List Pr := l.filter fun p => lt p.1 k
def up (l : List Pr) (k : ByteArray) : List Pr := l.filter fun p => lt k p.1
def ge (l : List Pr) (k : ByteArray) : List Pr := l.filter fun p => !lt p.1 k
def get (l : List Pr) (k : ByteArray) : Option Pr := (ge l k).head?.bind fun p => if p.1 = k then some p else none
def rest (l : List Pr) (k : ByteArray) : List Pr := lo l k ++ up l k
def put (l : List Pr) (k v : ByteArray) : List Pr := lo l k ++ (k, v) :: up l k

theorem lo_ge {l : List Pr} (h : l.Pairwise fun a b => lt a.1 b.1 = true) (k : ByteArray) : l = lo l k ++ ge l k := by
  induction l with
  | nil => rfl
  | cons a t ih =>
    rw [List.pairwise_cons] at h
    unfold lo ge
    rw [List.filter_cons, List.filter_cons]
    cases hk : lt a.1 k with
    | true =>
      simp only [Bool.not_true, if_true, if_false, List.cons_append, Bool.false_eq_true]
      rw [← show t = (t.filter fun p => lt p.1 k) ++ t.filter fun p => !lt p.1 k from ih h.2]
    | false =>
      have hall : ∀ x ∈ t, lt x.1 k = false := fun x hx => by
        rw [Bool.eq_false_iff]
        intro h2
        have := lt_tr (h.1 x hx) h2
        rw [hk] at this
        cases this
      rw [List.filter_eq_nil_iff.2 (fun x hx => by simp [hall x hx]), List.filter_eq_self.2 (fun x hx => by simp [hall x hx])]
      simp
/-- In a row that rises, a key's pair stands between what is below and what is above. -/
theorem ge_split {l : List Pr} (h : l.Pairwise fun a b => lt a.1 b.1 = true) (k : ByteArray) : (ge l k = up l k ∧ ∀ p ∈ l, ¬ p.1 = k) ∨ ∃ v, ge l k = (k, v) :: up l k := by
  induction l with
  | nil => exact .inl ⟨rfl, fun _ h => by cases h⟩
  | cons a t ih =>
    rw [List.pairwise_cons] at h
    unfold ge up
    rw [List.filter_cons, List.filter_cons]
    rcases lt_tri a.1 k with hk | hk | hk
    · rw [hk, lt_as hk]
      rcases ih h.2 with ⟨h1, h2⟩ | ⟨v, h1⟩
      · refine .inl ⟨h1, fun p hp => ?_⟩
        rcases List.mem_cons.1 hp with rfl | hp
        · exact lt_ne hk
        · exact h2 p hp
      · exact .inr ⟨v, h1⟩
    · subst hk
      rw [lt_irr]
      refine .inr ⟨a.2, ?_⟩
      simp only [Bool.not_false, if_true, if_false, Bool.false_eq_true]
      congr 1
      refine List.filter_congr fun x hx => ?_
      rw [h.1 x hx, lt_as (h.1 x hx)]; rfl
    · rw [hk, lt_as hk]
      refine .inl ⟨?_, fun p hp => ?_⟩
      · simp only [Bool.not_false, if_true]
        congr 1
        refine List.filter_congr fun x hx => ?_
        rw [lt_tr hk (h.1 x hx), lt_as (lt_tr hk (h.1 x hx))]; rfl
      · rcases List.mem_cons.1 hp with rfl | hp
        · exact fun e => lt_ne hk e.symm
        · exact fun e => lt_ne (lt_tr hk (h.1 p hp)) e.symm
theorem mem_lo {l : List Pr} {k : ByteArray} {p : Pr} : p ∈ lo l k ↔ p ∈ l ∧ lt p.1 k = true := List.mem_filter
theorem mem_up {l : List Pr} {k : ByteArray} {p : Pr} : p ∈ up l k ↔ p ∈ l ∧ lt k p.1 = true := List.mem_filter
/-- What a key's pair is. -/
theorem get_none {l : List Pr} {k : ByteArray} (h : ge l k = up l k) : get l k = none := by
  unfold get
  rw [h]
  cases h2 : up l k with
  | nil => rfl
  | cons a t =>
    have h3 : lt k a.1 = true := (mem_up.1 (show a ∈ up l k by rw [h2]; exact .head _)).2
    simp only [List.head?_cons, Option.bind_some]
    rw [if_neg (fun e => lt_ne h3 e.symm)]
theorem get_some {l : List Pr} {k v : ByteArray} (h : ge l k = (k, v) :: up l k) : get l k = some (k, v) := by
  unfold get
  rw [h]
  simp

theorem so_put {l : List Pr} (h : l.Pairwise fun a b => lt a.1 b.1 = true) (k v : ByteArray) : (put l k v).Pairwise fun a b => lt a.1 b.1 = true := by
  unfold put
  rw [List.pairwise_append, List.pairwise_cons]
  refine ⟨h.sublist List.filter_sublist, ⟨fun x hx => (mem_up.1 hx).2, h.sublist List.filter_sublist⟩, fun a ha b hb => ?_⟩
  rcases List.mem_cons.1 hb with rfl | hb
  · exact (mem_lo.1 ha).2
  · exact lt_tr (mem_lo.1 ha).2 (mem_up.1 hb).2
theorem so_rest {l : List Pr} (h : l.Pairwise fun a b => lt a.1 b.1 = true) (k : ByteArray) : (rest l k).Pairwise fun a b => lt a.1 b.1 = true := by
  unfold rest
  rw [List.pairwise_append]
  exact ⟨h.sublist List.filter_sublist, h.sublist List.filter_sublist, fun a ha b hb => lt_tr (mem_lo.1 ha).2 (mem_up.1 hb).2⟩
theorem cnt_app (a b : List Pr) : cnt (a ++ b) = cnt a + cnt b := by
  unfold cnt
  rw [List.map_append, List.sum_append]
theorem cnt_cons (p : Pr) (l : List Pr) : cnt (p :: l) = p.1.size + p.2.size + cnt l := by
  unfold cnt
  rw [List.map_cons, List.sum_cons]

theorem cnt_take {l : List Pr} {i : Nat} {x : Pr} (h : l[i]? = some x) : cnt (l.take (i + 1)) = cnt (l.take i) + (x.1.size + x.2.size) := by
  obtain ⟨hi, rfl⟩ := List.getElem?_eq_some_iff.1 h
  rw [List.take_succ_eq_append_getElem hi, cnt_app, cnt_cons]
  rfl
theorem cnt_le (l : List Pr) (i : Nat) : cnt (l.take i) ≤ cnt l := by
  conv => rhs; rw [← List.take_append_drop i l, cnt_app]
  omega
theorem cnt_pr {l : List Pr} (h : ∀ x ∈ l, pr x = true) : cnt l ≤ 88 * l.length := by
  induction l with
  | nil => exact Nat.le_refl _
  | cons a t ih =>
    have h1 := of_decide_eq_true (h a (.head _))
    have h2 := ih fun x hx => h x (.tail _ hx)
    rw [cnt_cons, List.length_cons]
    omega
theorem pr_all {l : List Pr} (h : okAll l l.length = true) : ∀ x ∈ l, pr x = true := fun x hx => by
  obtain ⟨j, hj, rfl⟩ := List.mem_iff_getElem.1 hx
  have := okAll_at h hj (List.getElem?_eq_getElem hj)
  unfold okB at this
  simp only [Bool.and_eq_true] at this
  exact this.1

/-- The place of the first one that fits; less than nothing: there is none. -/
def idx (p : Pr → Bool) (m : List Pr) : Int := match m.findIdx? p with
  | some i => (i : Int)
  | none => -1
theorem idx_t {p : Pr → Bool} {m : List Pr} {i : Nat} {x : Pr} (h : m[i]? = some x) (hp : p x = true) (hno : ∀ y ∈ m.take i, p y = false) : idx p m = (i : Int) := by
  unfold idx
  have : m.findIdx? p = some i := by
    obtain ⟨hi, he⟩ := List.getElem?_eq_some_iff.1 h
    rw [List.findIdx?_eq_some_iff_getElem]
    refine ⟨hi, by rw [he]; exact hp, fun j hj => ?_⟩
    have := hno m[j] (List.mem_take_iff_getElem.2 ⟨j, by omega, rfl⟩)
    simp [this]
  rw [this]
theorem idx_f {p : Pr → Bool} {m : List Pr} (h : ∀ y ∈ m, p y = false) : idx p m = -1 := by
  unfold idx
  rw [List.findIdx?_eq_none_iff.2 h]
theorem idx_or (p : Pr → Bool) (m : List Pr) : (idx p m = -1 ∧ ∀ y ∈ m, p y = false) ∨ ∃ (i : Nat) (x : Pr), m[i]? = some x ∧ p x = true ∧ (∀ y ∈ m.take i, p y = false) ∧ idx p m = (i : Int) := by
  cases hf : m.findIdx? p with
  | none =>
    rw [List.findIdx?_eq_none_iff] at hf
    exact .inl ⟨idx_f hf, hf⟩
  | some i =>
    obtain ⟨hi, h1, h2⟩ := List.findIdx?_eq_some_iff_getElem.1 hf
    have hx : m[i]? = some m[i] := List.getElem?_eq_getElem hi
    have hno : ∀ y ∈ m.take i, p y = false := fun y hy => by
      obtain ⟨j, hj, rfl⟩ := List.mem_take_iff_getElem.1 hy
      have := h2 j (by omega)
      simpa using this
    exact .inr ⟨i, m[i], hx, h1, hno, idx_t hx h1 hno⟩

theorem idx_ge {l : List Pr} (h : l.Pairwise fun a b => lt a.1 b.1 = true) (k : ByteArray) : (ge l k = [] ∧ get l k = none ∧ idx (fun y => !lt y.1 k) l = -1 ∧ lo l k = l) ∨
    ∃ x t, ge l k = x :: t ∧ idx (fun y => !lt y.1 k) l = ((lo l k).length : Int) ∧ l[(lo l k).length]? = some x ∧ (lo l k).length < l.length ∧ ((x.1 = k ∧ get l k = some x) ∨ (¬ x.1 = k ∧ get l k = none)) := by
  have h1 := lo_ge h k
  cases hg : ge l k with
  | nil =>
    rw [hg, List.append_nil] at h1
    refine .inl ⟨rfl, by unfold get; rw [hg]; rfl, idx_f fun y hy => ?_, h1.symm⟩
    rw [h1] at hy
    rw [(List.mem_filter.1 hy).2]; rfl
  | cons x t =>
    rw [hg] at h1
    have hx : l[(lo l k).length]? = some x := by
      refine (congrArg (fun m : List Pr => m[(lo l k).length]?) h1).trans ?_
      simp
    refine .inr ⟨x, t, rfl, idx_t hx ?_ fun y hy => ?_, hx, (List.getElem?_eq_some_iff.1 hx).1, ?_⟩
    · exact (List.mem_filter.1 (show x ∈ ge l k by rw [hg]; exact .head _)).2
    · have h2 : l.take (lo l k).length = lo l k := by
        refine (congrArg (fun m : List Pr => m.take (lo l k).length) h1).trans ?_
        simp
      rw [h2] at hy
      rw [(List.mem_filter.1 hy).2]; rfl
    · by_cases hk : x.1 = k
      · exact .inl ⟨hk, by unfold get; rw [hg]; simp [hk]⟩
      · exact .inr ⟨hk, by unfold get; rw [hg]; simp [hk]⟩

/-- What fits. -/
def fits (k y : Int) (l : List Pr) : Bool := decide ((l.length : Int) ≤ k) && decide ((cnt l : Int) ≤ y)
theorem may_put {k y : Int} {l : List Pr} (h : May k y l) {a v : ByteArray} (hp : pr (a, v) = true) : may k y (put l a v) = fits k y (put l a v) := by
  cases hf : fits k y (put l a v) with
  | true =>
    unfold fits at hf
    simp only [Bool.and_eq_true, decide_eq_true_eq] at hf
    refine (may_iff _ _ _).2 ⟨h.k0, h.k1, h.y0, h.y1, hf.1, fun x hx => ?_, so_put h.so a v, hf.2⟩
    rcases List.mem_append.1 hx with hx | hx
    · exact h.pr x (mem_lo.1 hx).1
    · rcases List.mem_cons.1 hx with rfl | hx
      · exact hp
      · exact h.pr x (mem_up.1 hx).1
  | false =>
    rw [Bool.eq_false_iff]
    intro h2
    have h3 := (may_iff _ _ _).1 h2
    unfold fits at hf
    rw [decide_eq_true h3.n, decide_eq_true h3.c] at hf
    cases hf
theorem may_sub {k y : Int} {l m : List Pr} (h : May k y l) (hs : m.Sublist l) : May k y m := by
  refine ⟨h.k0, h.k1, h.y0, h.y1, ?_, fun x hx => h.pr x (hs.subset hx), h.so.sublist hs, ?_⟩
  · have := hs.length_le
    have := h.n
    omega
  · have h1 : cnt m ≤ cnt l := by
      clear h
      induction hs with
      | slnil => exact Nat.le_refl _
      | cons a _ ih => rw [cnt_cons]; omega
      | cons_cons a _ ih => rw [cnt_cons, cnt_cons]; omega
    have := h.c
    omega
theorem rest_sub {l : List Pr} (h : l.Pairwise fun a b => lt a.1 b.1 = true) (k : ByteArray) : (rest l k).Sublist l := by
  have h2 := lo_ge h k
  rcases ge_split h k with ⟨h3, _⟩ | ⟨v, h3⟩
  · rw [h3] at h2
    rw [show rest l k = l from h2.symm]
    exact List.Sublist.refl _
  · rw [h3] at h2
    conv => rhs; rw [h2]
    exact List.Sublist.append (List.Sublist.refl _) (List.sublist_cons_self _ _)
theorem may_rest {k y : Int} {l : List Pr} (h : May k y l) (a : ByteArray) : May k y (rest l a) := may_sub h (rest_sub h.so a)

/-- Two puts of unlike keys, in either order. -/
theorem put_put {a b : ByteArray} (h : lt a b = true) (l : List Pr) (x y : ByteArray) : put (put l a x) b y = put (put l b y) a x := by
  have e1 : ∀ p : Pr, (lt p.1 b && lt p.1 a) = lt p.1 a := fun p => by
    cases h1 : lt p.1 a with
    | false => simp
    | true => rw [lt_tr h1 h]; rfl
  have e2 : ∀ p : Pr, (lt a p.1 && lt b p.1) = lt b p.1 := fun p => by
    cases h1 : lt b p.1 with
    | false => simp
    | true => rw [lt_tr h h1]; rfl
  have e3 : ∀ p : Pr, (lt b p.1 && lt p.1 a) = false := fun p => by
    cases h1 : lt b p.1 with
    | false => rfl
    | true => rw [lt_as (lt_tr h h1)]; rfl
  unfold put lo up
  simp only [List.filter_append, List.filter_cons, List.filter_filter, h, lt_as h, if_true, if_false, Bool.false_eq_true]
  have e4 : ∀ p : Pr, (lt p.1 a && lt p.1 b) = lt p.1 a := fun p => by rw [Bool.and_comm, e1]
  have e5 : ∀ p : Pr, (lt b p.1 && lt a p.1) = lt b p.1 := fun p => by rw [Bool.and_comm, e2]
  have e6 : ∀ p : Pr, (lt p.1 a && lt b p.1) = false := fun p => by rw [Bool.and_comm, e3]
  have e7 : ∀ p : Pr, (lt p.1 b && lt a p.1) = (lt a p.1 && lt p.1 b) := fun p => Bool.and_comm _ _
  have e8 : l.filter (fun _ => false) = [] := List.filter_eq_nil_iff.2 fun _ _ => by simp
  simp only [e1, e2, e3, e4, e5, e6, e7, e8, List.nil_append, List.append_nil, List.append_assoc, List.cons_append]

/-- A key's pair, and what stands on both sides of it. -/
theorem get_or {l : List Pr} (h : l.Pairwise fun a b => lt a.1 b.1 = true) (k : ByteArray) : (get l k = none ∧ l.take (lo l k).length = lo l k ∧ l.drop (lo l k).length = up l k ∧ l = lo l k ++ up l k) ∨
    ∃ v, get l k = some (k, v) ∧ l[(lo l k).length]? = some (k, v) ∧ (lo l k).length < l.length ∧ l.take (lo l k).length = lo l k ∧ l.drop ((lo l k).length + 1) = up l k ∧ l = lo l k ++ (k, v) :: up l k := by
  have h1 := lo_ge h k
  rcases ge_split h k with ⟨h2, _⟩ | ⟨v, h2⟩
  · rw [h2] at h1
    refine .inl ⟨get_none h2, ?_, ?_, h1⟩
    · exact (congrArg (fun m : List Pr => m.take (lo l k).length) h1).trans (by simp)
    · exact (congrArg (fun m : List Pr => m.drop (lo l k).length) h1).trans (by simp)
  · rw [h2] at h1
    have hx : l[(lo l k).length]? = some (k, v) := (congrArg (fun m : List Pr => m[(lo l k).length]?) h1).trans (by simp)
    refine .inr ⟨v, get_some h2, hx, (List.getElem?_eq_some_iff.1 hx).1, ?_, ?_, h1⟩
    · exact (congrArg (fun m : List Pr => m.take (lo l k).length) h1).trans (by simp)
    · refine (congrArg (fun m : List Pr => m.drop ((lo l k).length + 1)) h1).trans ?_
      rw [List.drop_append]
      simp

/-- What the calls come to. -/
def e : ByteArray := ⟨#[]⟩
def getR (k y : Int) (l : List Pr) (a : ByteArray) : ByteArray × Int := if (may k y l && pr (a, e)) = true then (match get l a with | some p => (p.2, 0) | none => (e, 110)) else (e, 2)
def fitR (k y : Int) (m : List Pr) : Int × Int × List Pr × Int := if fits k y m = true then (k, y, m, 0) else (0, 0, [], 120)
def putR (k y : Int) (l : List Pr) (a v : ByteArray) : Int × Int × List Pr × Int := if (may k y l && pr (a, v)) = true then fitR k y (put l a v) else (0, 0, [], 2)
def swapR (k y : Int) (l : List Pr) (a o v : ByteArray) : Int × Int × List Pr × Int := if (may k y l && pr (a, v)) = true then (match get l a with | some p => if p.2 = o then fitR k y (put l a v) else (0, 0, [], 111) | none => (0, 0, [], 110)) else (0, 0, [], 2)
def delR (k y : Int) (l : List Pr) (a : ByteArray) : Int × Int × List Pr × Int := if (may k y l && pr (a, e)) = true then (match get l a with | some _ => (k, y, rest l a, 0) | none => (0, 0, [], 110)) else (0, 0, [], 2)
def resR (k y : Int) (l : List Pr) (k' y' : Int) : Int × Int × List Pr × Int := if (may k y l && lim k' y') = true then fitR k' y' l else (0, 0, [], 2)
theorem may_res {k y k' y' : Int} {l : List Pr} (h : May k y l) (h2 : lim k' y' = true) : may k' y' l = fits k' y' l := by
  have h3 := (may_iff _ _ _).2 h
  unfold may at h3
  simp only [Bool.and_eq_true] at h3
  unfold may fits
  rw [h2, h3.1.2]
  simp
end Ks
end Go.Proofs.Ytimmabejfigleaa
