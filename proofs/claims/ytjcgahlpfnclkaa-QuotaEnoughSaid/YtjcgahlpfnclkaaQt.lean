/- The plain law of shares: what the walks show that the program computes, and what follows of it. No program in sight. -/
namespace Go.Proofs.Ytjcgahlpfnclkaa

/-- A share: tenant, keys, space. -/
abbrev S := Int × Int × Int

namespace Qt

def share (x : S) : Bool := decide (1 ≤ x.1 ∧ x.1 ≤ 8 ∧ 0 ≤ x.2.1 ∧ x.2.1 ≤ 64 ∧ 0 ≤ x.2.2 ∧ x.2.2 ≤ 4096)
theorem share_iff (x : S) : share x = true ↔ 1 ≤ x.1 ∧ x.1 ≤ 8 ∧ 0 ≤ x.2.1 ∧ x.2.1 ≤ 64 ∧ 0 ≤ x.2.2 ∧ x.2.2 ≤ 4096 := by simp [share]

/-- Do tenants rise? -/
def rises : List S → Bool
  | [] => true
  | [_] => true
  | a :: b :: l => decide (a.1 < b.1) && rises (b :: l)
abbrev Up (l : List S) : Prop := l.Pairwise fun a b => a.1 < b.1
def sK : List S → Int
  | [] => 0
  | x :: l => x.2.1 + sK l
def sS : List S → Int
  | [] => 0
  | x :: l => x.2.2 + sS l
def shares (l : List S) : Bool := l.all share && rises l
def fits (l : List S) : Bool := decide (sK l ≤ 64 ∧ sS l ≤ 4096)
def may (l : List S) : Bool := shares l && fits l

theorem rises_iff (l : List S) : rises l = true ↔ Up l := by
  induction l with
  | nil => simp [rises, Up]
  | cons a l ih =>
    cases l with
    | nil => simp [rises, Up]
    | cons b l =>
      simp only [rises, Bool.and_eq_true, decide_eq_true_eq, ih]
      constructor
      · rintro ⟨h1, h2⟩
        refine List.pairwise_cons.2 ⟨fun x hx => ?_, h2⟩
        rcases List.mem_cons.1 hx with rfl | hx
        · exact h1
        · exact Int.lt_trans h1 ((List.pairwise_cons.1 h2).1 x hx)
      · intro h
        obtain ⟨h1, h2⟩ := List.pairwise_cons.1 h
        exact ⟨h1 b (by simp), h2⟩
theorem up_snoc (l : List S) (a x : S) (h : l.getLast? = some a) (hl : Up l) (hx : a.1 < x.1) : Up (l ++ [x]) := by
  refine List.pairwise_append.2 ⟨hl, by simp, fun b hb y hy => ?_⟩
  rw [List.mem_singleton.1 hy]
  obtain ⟨m, rfl⟩ := List.getLast?_eq_some_iff.1 h
  rcases List.mem_append.1 hb with hb | hb
  · exact Int.lt_trans ((List.pairwise_append.1 hl).2.2 b hb a (by simp)) hx
  · rw [List.mem_singleton.1 hb]; exact hx

structure Shares (l : List S) : Prop where
  ok : ∀ x ∈ l, share x = true
  up : Up l
structure May (l : List S) : Prop extends Shares l where
  keys : sK l ≤ 64
  space : sS l ≤ 4096
theorem shares_iff (l : List S) : shares l = true ↔ Shares l := by
  unfold shares
  rw [Bool.and_eq_true, List.all_eq_true, rises_iff]
  exact ⟨fun h => ⟨h.1, h.2⟩, fun h => ⟨h.ok, h.up⟩⟩
theorem may_iff (l : List S) : may l = true ↔ May l := by
  unfold may fits
  rw [Bool.and_eq_true, shares_iff, decide_eq_true_eq]
  exact ⟨fun h => ⟨h.1, h.2.1, h.2.2⟩, fun h => ⟨h.toShares, h.keys, h.space⟩⟩

theorem up_len : ∀ (l : List S) (a : Int), Up l → (∀ x ∈ l, a ≤ x.1 ∧ x.1 ≤ 8) → a ≤ 9 → (l.length : Int) ≤ 9 - a
  | [], a, _, _, h9 => by simp; omega
  | x :: l, a, hu, h, _ => by
    have h1 := h x (by simp)
    have := up_len l (x.1 + 1) (List.pairwise_cons.1 hu).2 (fun y hy => ⟨(List.pairwise_cons.1 hu).1 y hy, (h y (by simp [hy])).2⟩) (by omega)
    simp only [List.length_cons, Int.natCast_add]
    omega
theorem Shares.len {l : List S} (h : Shares l) : l.length ≤ 8 := by
  have := up_len l 1 h.up (fun x hx => ⟨((share_iff x).1 (h.ok x hx)).1, ((share_iff x).1 (h.ok x hx)).2.1⟩) (by omega)
  omega
theorem sK_app (a b : List S) : sK (a ++ b) = sK a + sK b := by
  induction a with
  | nil => simp [sK]
  | cons x a ih => simp only [List.cons_append, sK, ih]; omega
theorem sS_app (a b : List S) : sS (a ++ b) = sS a + sS b := by
  induction a with
  | nil => simp [sS]
  | cons x a ih => simp only [List.cons_append, sS, ih]; omega
theorem sums_le (l : List S) (h : ∀ x ∈ l, share x = true) : 0 ≤ sK l ∧ sK l ≤ 64 * l.length ∧ 0 ≤ sS l ∧ sS l ≤ 4096 * l.length := by
  induction l with
  | nil => simp [sK, sS]
  | cons x l ih =>
    have h1 := ih fun y hy => h y (by simp [hy])
    have h2 := (share_iff x).1 (h x (by simp))
    simp only [sK, sS, List.length_cons, Int.natCast_add]
    omega

/-! ### Place by place -/

def Pre (l : List S) (i : Nat) : Prop := Shares (l.take i)
theorem pre_0 (l : List S) : Pre l 0 := ⟨by simp, by simp⟩
theorem take_snoc' {l : List S} {i : Nat} {x : S} (hx : l[i]? = some x) : l.take (i + 1) = l.take i ++ [x] := by rw [List.take_add_one, hx]; rfl
theorem pre_step {l : List S} {i : Nat} {x : S} (h : Pre l i) (hx : l[i]? = some x) (hs : share x = true) (hu : i = 0 ∨ ∃ a, l[i - 1]? = some a ∧ a.1 < x.1) : Pre l (i + 1) := by
  have e := take_snoc' hx
  have hi : i < l.length := (List.getElem?_eq_some_iff.1 hx).1
  refine ⟨fun n hn => ?_, ?_⟩
  · rw [e] at hn
    rcases List.mem_append.1 hn with hn | hn
    · exact h.ok n hn
    · rw [List.mem_singleton.1 hn]; exact hs
  · rw [e]
    rcases hu with rfl | ⟨a, ha, hax⟩
    · simp
    · by_cases hi0 : i = 0
      · subst hi0; simp
      have hl : (l.take i).getLast? = some a := by
        rw [List.getLast?_eq_getElem?, List.length_take, Nat.min_eq_left (by omega), List.getElem?_take, if_pos (by omega), ha]
      exact up_snoc _ a x hl h.up hax
theorem pre_all {l : List S} {i : Nat} (h : Pre l i) (hi : l.length ≤ i) : shares l = true := by
  unfold Pre at h
  rw [List.take_of_length_le hi] at h
  exact (shares_iff l).2 h
theorem no_len {l : List S} (h : 8 < l.length) : shares l = false := by
  rw [Bool.eq_false_iff]; intro h'; have := ((shares_iff l).1 h').len; omega
theorem no_ser {l : List S} {i : Nat} {x : S} (hx : l[i]? = some x) (h : share x = false) : shares l = false := by
  rw [Bool.eq_false_iff]; intro h'
  have := ((shares_iff l).1 h').ok x (List.mem_of_getElem? hx)
  rw [h] at this
  cases this
theorem no_up {l : List S} {i : Nat} {a x : S} (ha : l[i - 1]? = some a) (hx : l[i]? = some x) (h0 : 0 < i) (h : x.1 ≤ a.1) : shares l = false := by
  rw [Bool.eq_false_iff]; intro h'
  have hp := ((shares_iff l).1 h').up
  obtain ⟨h1, e1⟩ := List.getElem?_eq_some_iff.1 ha
  obtain ⟨h2, e2⟩ := List.getElem?_eq_some_iff.1 hx
  have := (List.pairwise_iff_getElem.1 hp) (i - 1) i h1 h2 (by omega)
  rw [e1, e2] at this
  omega
theorem Pre.le8 {l : List S} {i : Nat} (h : Pre l i) (hi : i ≤ l.length) : i ≤ 8 := by
  have := Shares.len h
  rw [List.length_take] at this
  omega
theorem may_no {l : List S} (h : shares l = false) : may l = false := by unfold may; rw [h]; rfl

/-! ### A tenant's share -/

def of (l : List S) (t : Int) : Option S := l.find? fun x => decide (x.1 = t)
/-- The first place of a share of which p holds; less than nothing: there is none. -/
def idx (p : S → Bool) (m : List S) : Int := match m.findIdx? p with
  | some i => (i : Int)
  | none => -1
theorem idx_t {p : S → Bool} {m : List S} {i : Nat} {x : S} (h : m[i]? = some x) (hp : p x = true) (hno : ∀ y ∈ m.take i, p y = false) : idx p m = (i : Int) := by
  unfold idx
  have : m.findIdx? p = some i := by
    obtain ⟨hi, he⟩ := List.getElem?_eq_some_iff.1 h
    rw [List.findIdx?_eq_some_iff_getElem]
    refine ⟨hi, by rw [he]; exact hp, fun j hj => ?_⟩
    have := hno m[j] (List.mem_take_iff_getElem.2 ⟨j, by omega, rfl⟩)
    simp [this]
  rw [this]
theorem idx_f {p : S → Bool} {m : List S} (h : ∀ y ∈ m, p y = false) : idx p m = -1 := by
  unfold idx
  rw [List.findIdx?_eq_none_iff.2 h]
/-- Either there is a first place, or there is none. -/
theorem idx_or (p : S → Bool) (m : List S) : (idx p m = -1 ∧ ∀ y ∈ m, p y = false) ∨ ∃ (i : Nat) (x : S), m[i]? = some x ∧ p x = true ∧ (∀ y ∈ m.take i, p y = false) ∧ idx p m = (i : Int) := by
  cases hf : m.findIdx? p with
  | none =>
    rw [List.findIdx?_eq_none_iff] at hf
    exact .inl ⟨idx_f hf, hf⟩
  | some i =>
    obtain ⟨hi, h1, h2⟩ := List.findIdx?_eq_some_iff_getElem.1 hf
    have hx : m[i]? = some m[i] := List.getElem?_eq_getElem hi
    have hno : ∀ y ∈ m.take i, p y = false := fun y hy => by
      obtain ⟨j, hj, rfl⟩ := List.mem_take_iff_getElem.1 hy
      have := h2 j (by omega)
      simpa using this
    exact .inr ⟨i, m[i], hx, h1, hno, idx_t hx h1 hno⟩
theorem find_at {p : S → Bool} {x : S} : ∀ {l : List S} {i : Nat}, l[i]? = some x → p x = true → (∀ y ∈ l.take i, p y = false) → l.find? p = some x
  | [], i, h, _, _ => by simp at h
  | a :: l, 0, h, hp, _ => by
    simp at h; subst h
    rw [List.find?_cons, hp]
  | a :: l, i + 1, h, hp, hno => by
    rw [List.take_succ_cons] at hno
    rw [List.find?_cons, hno a (by simp)]
    exact find_at (by simpa using h) hp fun y hy => hno y (List.mem_cons_of_mem _ hy)
/-- A tenant's share, and its place. -/
theorem of_or (l : List S) (t : Int) : (of l t = none ∧ idx (fun x => decide (x.1 = t)) l = -1) ∨ ∃ (i : Nat) (x : S), l[i]? = some x ∧ of l t = some x ∧ idx (fun x => decide (x.1 = t)) l = (i : Int) := by
  rcases idx_or (fun x => decide (x.1 = t)) l with ⟨h1, h2⟩ | ⟨i, x, h1, h2, h3, h4⟩
  · refine .inl ⟨?_, h1⟩
    unfold of
    exact List.find?_eq_none.2 fun y hy => by simp [h2 y hy]
  · exact .inr ⟨i, x, h1, find_at h1 h2 h3, h4⟩
theorem of_at {l : List S} {t : Int} {i : Nat} {x : S} (h : l[i]? = some x) (hx : x.1 = t) (hno : ∀ y ∈ l.take i, ¬ y.1 = t) : of l t = some x :=
  find_at h (decide_eq_true hx) fun y hy => decide_eq_false (hno y hy)
theorem of_no {l : List S} {t : Int} (hno : ∀ y ∈ l, ¬ y.1 = t) : of l t = none := by
  unfold of
  exact List.find?_eq_none.2 fun y hy => by simpa using hno y hy

theorem up_inj {l : List S} (h : Up l) {x y : S} (hx : x ∈ l) (hy : y ∈ l) (e : x.1 = y.1) : x = y := by
  induction l with
  | nil => simp at hx
  | cons a l ih =>
    have h' := List.pairwise_cons.1 h
    rcases List.mem_cons.1 hx with rfl | hx'
    · rcases List.mem_cons.1 hy with rfl | hy'
      · rfl
      · have := h'.1 y hy'; omega
    · rcases List.mem_cons.1 hy with rfl | hy'
      · have := h'.1 x hx'; omega
      · exact ih h'.2 hx' hy'
theorem of_some {l : List S} (h : Up l) {t : Int} {x : S} : of l t = some x ↔ x ∈ l ∧ x.1 = t := by
  unfold of
  constructor
  · intro hf
    exact ⟨List.mem_of_find?_eq_some hf, by simpa using List.find?_some hf⟩
  · rintro ⟨h1, h2⟩
    cases hf : l.find? (fun x => decide (x.1 = t)) with
    | none => have := List.find?_eq_none.1 hf x h1; simp [h2] at this
    | some y =>
      rw [up_inj h (List.mem_of_find?_eq_some hf) h1 (by have := List.find?_some hf; simp at this; omega)]
theorem of_none {l : List S} {t : Int} : of l t = none ↔ ∀ x ∈ l, x.1 ≠ t := by
  unfold of
  rw [List.find?_eq_none]
  simp

theorem up_ext {a b : List S} (ha : Up a) (hb : Up b) (h : ∀ x, x ∈ a ↔ x ∈ b) : a = b := by
  induction a generalizing b with
  | nil =>
    cases b with
    | nil => rfl
    | cons y b => have := (h y).2 (by simp); simp at this
  | cons x a ih =>
    cases b with
    | nil => have := (h x).1 (by simp); simp at this
    | cons y b =>
      have ha' := List.pairwise_cons.1 ha
      have hb' := List.pairwise_cons.1 hb
      have hxy : x = y := by
        have h1 := (h x).1 (by simp)
        have h2 := (h y).2 (by simp)
        rcases List.mem_cons.1 h1 with h1 | h1
        · exact h1
        rcases List.mem_cons.1 h2 with h2 | h2
        · exact h2.symm
        have := ha'.1 y h2
        have := hb'.1 x h1
        omega
      subst hxy
      rw [ih ha'.2 hb'.2 fun z => ?_]
      have hz := h z
      rw [List.mem_cons, List.mem_cons] at hz
      constructor
      · intro h1
        rcases hz.1 (.inr h1) with h2 | h2
        · have := ha'.1 z h1; rw [h2] at this; omega
        · exact h2
      · intro h1
        rcases hz.2 (.inr h1) with h2 | h2
        · have := hb'.1 z h1; rw [h2] at this; omega
        · exact h2

/-! ### A share put in -/

def del (l : List S) (t : Int) : List S := l.filter fun y => !decide (y.1 = t)
/-- How many are at most a tenant. -/
def pos (l : List S) (t : Int) : Nat := (l.takeWhile fun y => !decide (t < y.1)).length
def put (l : List S) (x : S) : List S := (del l x.1).take (pos (del l x.1) x.1) ++ x :: (del l x.1).drop (pos (del l x.1) x.1)
def putA (l : List S) (x : S) : List S × Int := if fits (put l x) = true then (put l x, 0) else ([], 120)

theorem tw_of (p : S → Bool) : ∀ (l : List S), ∀ y ∈ l.takeWhile p, p y = true
  | [], y, h => by simp at h
  | a :: l, y, h => by
    rw [List.takeWhile_cons] at h
    split at h
    · rename_i hp
      rcases List.mem_cons.1 h with rfl | h
      · exact hp
      · exact tw_of p l y h
    · simp at h
theorem take_pos (l : List S) (t : Int) : l.take (pos l t) = l.takeWhile fun y => !decide (t < y.1) := by
  unfold pos
  induction l with
  | nil => simp
  | cons a l ih =>
    rw [List.takeWhile_cons]
    split
    · rw [List.length_cons, List.take_succ_cons, ih]
    · simp
/-- The place of the first greater tenant; the end, if there is none. -/
theorem pos_idx (l : List S) (t : Int) : ((pos l t : Nat) : Int) = if idx (fun y => decide (t < y.1)) l < 0 then (l.length : Int) else idx (fun y => decide (t < y.1)) l := by
  rcases idx_or (fun y => decide (t < y.1)) l with ⟨h1, h2⟩ | ⟨i, x, h1, h2, h3, h4⟩
  · rw [h1, if_pos (by decide)]
    unfold pos
    have : l.takeWhile (fun y => !decide (t < y.1)) = l := by
      clear h1
      induction l with
      | nil => rfl
      | cons a l ih => rw [List.takeWhile_cons, h2 a (by simp), Bool.not_false, if_pos rfl, ih fun y hy => h2 y (List.mem_cons_of_mem _ hy)]
    rw [this]
  · rw [h4, if_neg (by omega)]
    have : l.takeWhile (fun y => !decide (t < y.1)) = l.take i := by
      clear h4
      induction l generalizing i with
      | nil => simp at h1
      | cons a l ih =>
        cases i with
        | zero =>
          simp at h1; subst h1
          rw [List.takeWhile_cons, if_neg (by simpa using h2)]; rfl
        | succ i =>
          rw [List.take_succ_cons] at h3 ⊢
          have h3a := h3 a (by simp)
          rw [List.takeWhile_cons, h3a]
          simp only [Bool.not_false, if_true]
          rw [ih i (by simpa using h1) fun y hy => h3 y (List.mem_cons_of_mem _ hy)]
    have hi := (List.getElem?_eq_some_iff.1 h1).1
    unfold pos
    rw [this, List.length_take, Nat.min_eq_left (by omega)]
theorem drop_pos {l : List S} (h : Up l) (t : Int) : ∀ y ∈ l.drop (pos l t), t < y.1 := by
  unfold pos
  induction l with
  | nil => simp
  | cons a l ih =>
    have h' := List.pairwise_cons.1 h
    rw [List.takeWhile_cons]
    split
    · rw [List.length_cons, List.drop_succ_cons]; exact ih h'.2
    · rename_i hc
      intro y hy
      simp at hc hy
      rcases hy with rfl | hy
      · exact hc
      · have := h'.1 y hy; omega
theorem pos_le (l : List S) (t : Int) : pos l t ≤ l.length := (List.takeWhile_sublist _).length_le
theorem mem_del {l : List S} {t : Int} {y : S} : y ∈ del l t ↔ y ∈ l ∧ y.1 ≠ t := by simp [del]
theorem mem_put {l : List S} {x y : S} : y ∈ put l x ↔ y = x ∨ (y ∈ l ∧ y.1 ≠ x.1) := by
  unfold put
  rw [List.mem_append, List.mem_cons, ← mem_del]
  constructor
  · rintro (h | h | h)
    · exact .inr (List.mem_of_mem_take h)
    · exact .inl h
    · exact .inr (List.mem_of_mem_drop h)
  · rintro (h | h)
    · exact .inr (.inl h)
    · rw [← List.take_append_drop (pos (del l x.1) x.1) (del l x.1), List.mem_append] at h
      exact h.elim .inl fun h => .inr (.inr h)
theorem up_put {l : List S} (h : Up l) (x : S) : Up (put l x) := by
  have hd : Up (del l x.1) := h.filter _
  unfold put
  have ht : ∀ y ∈ (del l x.1).take (pos (del l x.1) x.1), y.1 < x.1 := fun y hy => by
    have h1 := (mem_del.1 (List.mem_of_mem_take hy)).2
    rw [take_pos] at hy
    have := tw_of (fun y => !decide (x.1 < y.1)) _ y hy
    simp at this
    omega
  have hr := drop_pos hd x.1
  refine List.pairwise_append.2 ⟨hd.sublist (List.take_sublist _ _), List.pairwise_cons.2 ⟨fun y hy => hr y hy, hd.sublist (List.drop_sublist _ _)⟩, fun a ha b hb => ?_⟩
  have h1 := ht a ha
  rcases List.mem_cons.1 hb with rfl | hb
  · exact h1
  · have := hr b hb; omega
theorem shares_put {l : List S} (h : Shares l) {x : S} (hx : share x = true) : Shares (put l x) :=
  ⟨fun y hy => by
    rcases mem_put.1 hy with rfl | h1
    · exact hx
    · exact h.ok y h1.1, up_put h.up x⟩
theorem of_put {l : List S} (h : Up l) (x : S) (t : Int) : of (put l x) t = if t = x.1 then some x else of l t := by
  have hu := up_put h x
  split
  · rename_i e
    exact (of_some hu).2 ⟨mem_put.2 (.inl rfl), e.symm⟩
  · rename_i e
    cases ho : of l t with
    | none =>
      refine of_none.2 fun y hy => ?_
      rcases mem_put.1 hy with rfl | h1
      · exact fun h => e h.symm
      · exact of_none.1 ho y h1.1
    | some z =>
      have hz := (of_some h).1 ho
      exact (of_some hu).2 ⟨mem_put.2 (.inr ⟨hz.1, by rw [hz.2]; exact e⟩), hz.2⟩
theorem put_len {l : List S} (x : S) : (put l x).length = (del l x.1).length + 1 := by
  unfold put
  have := pos_le (del l x.1) x.1
  simp only [List.length_append, List.length_cons, List.length_take, List.length_drop]
  omega
theorem del_none {l : List S} {t : Int} (h : of l t = none) : del l t = l := by
  unfold del
  rw [List.filter_eq_self]
  intro x hx
  have := of_none.1 h x hx
  simpa using this
theorem sums_del {l : List S} (h : Up l) {t : Int} {x : S} (ho : of l t = some x) : sK (del l t) + x.2.1 = sK l ∧ sS (del l t) + x.2.2 = sS l := by
  induction l with
  | nil => simp [of] at ho
  | cons a l ih =>
    have h' := List.pairwise_cons.1 h
    obtain ⟨hm, hx⟩ := (of_some h).1 ho
    by_cases e : a.1 = t
    · have hax : x = a := up_inj h hm (by simp) (by omega)
      subst hax
      have : del (x :: l) t = l := by
        unfold del
        rw [List.filter_cons_of_neg (by simp [e]), List.filter_eq_self]
        intro y hy
        have := h'.1 y hy
        simp; omega
      rw [this]
      simp only [sK, sS]; omega
    · have hd : del (a :: l) t = a :: del l t := by
        unfold del; rw [List.filter_cons_of_pos (by simp [e])]
      have ho' : of l t = some x := by
        refine (of_some h'.2).2 ⟨?_, hx⟩
        rcases List.mem_cons.1 hm with rfl | hm
        · exact absurd hx e
        · exact hm
      have := ih h'.2 ho'
      rw [hd]
      simp only [sK, sS]; omega
theorem sums_put {l : List S} (x : S) : sK (put l x) = sK (del l x.1) + x.2.1 ∧ sS (put l x) = sS (del l x.1) + x.2.2 := by
  have e1 : sK (del l x.1) = sK ((del l x.1).take (pos (del l x.1) x.1)) + sK ((del l x.1).drop (pos (del l x.1) x.1)) := by rw [← sK_app, List.take_append_drop]
  have e2 : sS (del l x.1) = sS ((del l x.1).take (pos (del l x.1) x.1)) + sS ((del l x.1).drop (pos (del l x.1) x.1)) := by rw [← sS_app, List.take_append_drop]
  unfold put
  rw [sK_app, sS_app, sK, sS]
  omega

/-! ### The document's way: by tenants -/

/-- What it has of the tenants so far. -/
def rput (l : List S) (x : S) : Nat → List S
  | 0 => []
  | n + 1 => rput l x n ++ (if ((n + 1 : Nat) : Int) = x.1 then [x] else (of l ((n + 1 : Nat) : Int)).toList)
theorem mem_rput {l : List S} (h : Up l) {x y : S} (n : Nat) : y ∈ rput l x n ↔ (1 ≤ y.1 ∧ y.1 ≤ n) ∧ (y = x ∨ (y ∈ l ∧ y.1 ≠ x.1)) := by
  induction n with
  | zero => simp [rput]; omega
  | succ n ih =>
    rw [rput, List.mem_append, ih]
    have key : y ∈ (if ((n + 1 : Nat) : Int) = x.1 then [x] else (of l ((n + 1 : Nat) : Int)).toList) ↔ y.1 = ((n + 1 : Nat) : Int) ∧ (y = x ∨ (y ∈ l ∧ y.1 ≠ x.1)) := by
      split
      · rename_i e
        rw [List.mem_singleton]
        constructor
        · rintro rfl; exact ⟨e.symm, .inl rfl⟩
        · rintro ⟨h1, h2 | h2⟩
          · exact h2
          · exact absurd (h1.trans e) h2.2
      · rename_i e
        rw [Option.mem_toList, of_some h]
        constructor
        · rintro ⟨h1, h2⟩; exact ⟨h2, .inr ⟨h1, by rw [h2]; exact e⟩⟩
        · rintro ⟨h1, rfl | h2⟩
          · exact absurd h1.symm e
          · exact ⟨h2.1, h1⟩
    rw [key]
    constructor
    · rintro (⟨h1, h2⟩ | ⟨h1, h2⟩)
      · exact ⟨by omega, h2⟩
      · exact ⟨by omega, h2⟩
    · rintro ⟨h1, h2⟩
      by_cases e : y.1 = ((n + 1 : Nat) : Int)
      · exact .inr ⟨e, h2⟩
      · exact .inl ⟨by omega, h2⟩
theorem up_rput {l : List S} (h : Up l) (x : S) (n : Nat) : Up (rput l x n) := by
  induction n with
  | zero => simp [rput]
  | succ n ih =>
    rw [rput]
    refine List.pairwise_append.2 ⟨ih, ?_, fun a ha b hb => ?_⟩
    · split
      · simp
      · cases of l ((n + 1 : Nat) : Int) <;> simp
    · have h1 := ((mem_rput h n).1 ha).1
      have h2 : b.1 = ((n + 1 : Nat) : Int) := by
        split at hb
        · rename_i e
          rw [List.mem_singleton.1 hb]; exact e.symm
        · exact ((of_some h).1 (Option.mem_toList.1 hb)).2
      omega
theorem rput_put {l : List S} (h : Shares l) {x : S} (hx : share x = true) : rput l x 8 = put l x :=
  up_ext (up_rput h.up x 8) (up_put h.up x) fun y => by
    rw [mem_rput h.up, mem_put]
    refine ⟨fun h => h.2, fun h1 => ⟨?_, h1⟩⟩
    have : share y = true := by
      rcases h1 with rfl | h1
      · exact hx
      · exact h.ok y h1.1
    have := (share_iff y).1 this
    exact ⟨this.1, this.2.1⟩
theorem rput_len (l : List S) (x : S) (n : Nat) : (rput l x n).length ≤ n := by
  induction n with
  | zero => simp [rput]
  | succ n ih =>
    rw [rput, List.length_append]
    have : (if ((n + 1 : Nat) : Int) = x.1 then [x] else (of l ((n + 1 : Nat) : Int)).toList).length ≤ 1 := by
      split
      · simp
      · cases of l ((n + 1 : Nat) : Int) <;> simp
    omega
def reserve (l : List S) (x : S) : List S × Int := if may l = true ∧ share x = true then (if (of l x.1).isSome = true then ([], 161) else putA l x) else ([], 2)
def resize (l : List S) (x : S) : List S × Int := if may l = true ∧ share x = true then (if (of l x.1).isSome = true then putA l x else ([], 160)) else ([], 2)
def left (l : List S) : Int × Int := if may l = true then (64 - sK l, 4096 - sS l) else (0, 0)
/-- The document's put: of its rows so far. -/
def rputA (l : List S) (x : S) : List S × Int := if may (rput l x 8) = true then (rput l x 8, 0) else ([], 120)
theorem rputA_eq {l : List S} (h : Shares l) {x : S} (hx : share x = true) : rputA l x = putA l x := by
  unfold rputA putA
  rw [rput_put h hx]
  have : may (put l x) = fits (put l x) := by unfold may; rw [(shares_iff _).2 (shares_put h hx)]; rfl
  rw [this]
theorem put_small {l : List S} (h : Shares l) {x : S} (hx : share x = true) : (put l x).length ≤ 8 := (shares_put h hx).len
end Qt
end Go.Proofs.Ytjcgahlpfnclkaa
