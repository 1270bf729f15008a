/- The plain law of revoked serials: what the walks show that the program computes, and what follows of it. No program in sight. -/
namespace Go.Proofs.Ytmiimnlboighmaa.Rv

def serial (n : Int) : Bool := decide (1 ≤ n ∧ n ≤ 1099511627776)

/-- Does a row rise? -/
def rises : List Int → Bool
  | [] => true
  | [_] => true
  | a :: b :: l => decide (a < b) && rises (b :: l)

def may (l : List Int) : Bool := decide (l.length ≤ 32) && l.all serial && rises l

theorem rises_iff (l : List Int) : rises l = true ↔ l.Pairwise (· < ·) := by
  induction l with
  | nil => simp [rises]
  | cons a l ih =>
    cases l with
    | nil => simp [rises]
    | cons b l =>
      simp only [rises, Bool.and_eq_true, decide_eq_true_eq, ih]
      constructor
      · rintro ⟨h1, h2⟩
        refine List.pairwise_cons.2 ⟨fun x hx => ?_, h2⟩
        rcases List.mem_cons.1 hx with rfl | hx
        · exact h1
        · exact Int.lt_trans h1 ((List.pairwise_cons.1 h2).1 x hx)
      · intro h
        obtain ⟨h1, h2⟩ := List.pairwise_cons.1 h
        exact ⟨h1 b (by simp), h2⟩

theorem rises_snoc (l : List Int) (a x : Int) (h : l.getLast? = some a) : rises (l ++ [x]) = (rises l && decide (a < x)) := by
  rw [Bool.eq_iff_iff, rises_iff, Bool.and_eq_true, rises_iff, decide_eq_true_eq, List.pairwise_append]
  constructor
  · rintro ⟨h1, _, h3⟩
    exact ⟨h1, h3 a (List.mem_of_getLast? h) x (by simp)⟩
  · rintro ⟨h1, h2⟩
    refine ⟨h1, by simp, fun b hb y hy => ?_⟩
    rw [List.mem_singleton.1 hy]
    obtain ⟨m, rfl⟩ := List.getLast?_eq_some_iff.1 h
    rcases List.mem_append.1 hb with hb | hb
    · exact Int.lt_trans ((List.pairwise_append.1 h1).2.2 b hb a (by simp)) h2
    · rw [List.mem_singleton.1 hb]; exact h2

structure May (l : List Int) : Prop where
  len : l.length ≤ 32
  ser : ∀ n ∈ l, 1 ≤ n ∧ n ≤ 1099511627776
  up : l.Pairwise (· < ·)

theorem may_iff (l : List Int) : may l = true ↔ May l := by
  unfold may
  simp only [Bool.and_eq_true, decide_eq_true_eq, List.all_eq_true, serial, rises_iff]
  exact ⟨fun h => ⟨h.1.1, h.1.2, h.2⟩, fun h => ⟨⟨h.len, h.ser⟩, h.up⟩⟩

/-- Two rows as one: what the program does. -/
def merge : List Int → List Int → List Int
  | [], b => b
  | a :: l, [] => a :: l
  | a :: l, b :: m => if a < b then a :: merge l (b :: m) else if b < a then b :: merge (a :: l) m else merge l (b :: m)
termination_by l m => l.length + m.length

theorem merge_nil (a : List Int) : merge a [] = a := by cases a <;> simp [merge]

theorem mem_merge (a b : List Int) (x : Int) : x ∈ merge a b ↔ x ∈ a ∨ x ∈ b := by
  fun_induction merge a b with
  | case1 b => simp
  | case2 a l => simp
  | case3 a l b m h ih => simp only [List.mem_cons, ih]; simp [or_assoc]
  | case4 a l b m h h2 ih =>
    simp only [List.mem_cons, ih]
    constructor
    · rintro (h | (h | h) | h)
      · exact .inr (.inl h)
      · exact .inl (.inl h)
      · exact .inl (.inr h)
      · exact .inr (.inr h)
    · rintro ((h | h) | h | h)
      · exact .inr (.inl (.inl h))
      · exact .inr (.inl (.inr h))
      · exact .inl h
      · exact .inr (.inr h)
  | case5 a l b m h h2 ih =>
    have e : a = b := by omega
    subst e
    simp only [ih, List.mem_cons]
    constructor
    · rintro (h | h | h)
      · exact .inl (.inr h)
      · exact .inr (.inl h)
      · exact .inr (.inr h)
    · rintro ((h | h) | h | h)
      · exact .inr (.inl h)
      · exact .inl h
      · exact .inr (.inl h)
      · exact .inr (.inr h)

theorem up_merge (a b : List Int) (ha : a.Pairwise (· < ·)) (hb : b.Pairwise (· < ·)) : (merge a b).Pairwise (· < ·) := by
  fun_induction merge a b with
  | case1 b => exact hb
  | case2 a l => exact ha
  | case3 a l b m h ih =>
    obtain ⟨h1, h2⟩ := List.pairwise_cons.1 ha
    obtain ⟨h3, h4⟩ := List.pairwise_cons.1 hb
    refine List.pairwise_cons.2 ⟨fun x hx => ?_, ih h2 hb⟩
    rcases (mem_merge _ _ _).1 hx with hx | hx
    · exact h1 x hx
    · rcases List.mem_cons.1 hx with rfl | hx
      · exact h
      · exact Int.lt_trans h (h3 x hx)
  | case4 a l b m h h2 ih =>
    obtain ⟨h1, h2'⟩ := List.pairwise_cons.1 ha
    obtain ⟨h3, h4⟩ := List.pairwise_cons.1 hb
    refine List.pairwise_cons.2 ⟨fun x hx => ?_, ih ha h4⟩
    rcases (mem_merge _ _ _).1 hx with hx | hx
    · rcases List.mem_cons.1 hx with rfl | hx
      · exact h2
      · exact Int.lt_trans h2 (h1 x hx)
    · exact h3 x hx
  | case5 a l b m h h2 ih => exact ih (List.pairwise_cons.1 ha).2 hb

/-- Two rising rows of the same numbers are one row. -/
theorem up_ext {a b : List Int} (ha : a.Pairwise (· < ·)) (hb : b.Pairwise (· < ·)) (h : ∀ x, x ∈ a ↔ x ∈ b) : a = b := by
  induction a generalizing b with
  | nil =>
    cases b with
    | nil => rfl
    | cons y b => exact absurd ((h y).2 (by simp)) (by simp)
  | cons x a ih =>
    cases b with
    | nil => exact absurd ((h x).1 (by simp)) (by simp)
    | cons y b =>
      obtain ⟨h1, h2⟩ := List.pairwise_cons.1 ha
      obtain ⟨h3, h4⟩ := List.pairwise_cons.1 hb
      have hxy : x = y := by
        rcases List.mem_cons.1 ((h x).1 (by simp)) with e | e
        · exact e
        · rcases List.mem_cons.1 ((h y).2 (by simp)) with e' | e'
          · exact e'.symm
          · have := h3 x e
            have := h1 y e'
            omega
      subst hxy
      congr 1
      refine ih h2 h4 fun z => ?_
      constructor
      · intro hz
        rcases List.mem_cons.1 ((h z).1 (List.mem_cons_of_mem _ hz)) with e | e
        · have := h1 z hz; omega
        · exact e
      · intro hz
        rcases List.mem_cons.1 ((h z).2 (List.mem_cons_of_mem _ hz)) with e | e
        · have := h3 z hz; omega
        · exact e

/-! ### The document's -/

def radd (l : List Int) (n : Int) : List Int := l.takeWhile (· < n) ++ [n] ++ l.filter (n < ·)

theorem tw_lt (l : List Int) (n : Int) : ∀ x ∈ l.takeWhile (· < n), x < n := by
  induction l with
  | nil => simp
  | cons a l ih =>
    intro x hx
    rw [List.takeWhile_cons] at hx
    split at hx
    · rename_i h
      rcases List.mem_cons.1 hx with rfl | hx
      · simpa using h
      · exact ih x hx
    · simp at hx
theorem tw_mem {l : List Int} (h : l.Pairwise (· < ·)) {n x : Int} (hx : x ∈ l) (h1 : x < n) : x ∈ l.takeWhile (· < n) := by
  induction l with
  | nil => simp at hx
  | cons a l ih =>
    obtain ⟨h2, h3⟩ := List.pairwise_cons.1 h
    rcases List.mem_cons.1 hx with rfl | hx
    · rw [List.takeWhile_cons, if_pos (by simpa using h1)]; simp
    · have := h2 x hx
      rw [List.takeWhile_cons, if_pos (by simp; omega)]
      exact List.mem_cons_of_mem _ (ih h3 hx)
theorem mem_radd {l : List Int} (h : l.Pairwise (· < ·)) (n x : Int) : x ∈ radd l n ↔ x ∈ l ∨ x = n := by
  unfold radd
  simp only [List.mem_append, List.mem_singleton, List.mem_filter, decide_eq_true_eq]
  constructor
  · rintro ((hx | hx) | hx)
    · exact .inl ((List.takeWhile_sublist _).subset hx)
    · exact .inr hx
    · exact .inl hx.1
  · rintro (hx | hx)
    · by_cases h1 : x < n
      · exact .inl (.inl (tw_mem h hx h1))
      · by_cases h2 : x = n
        · exact .inl (.inr h2)
        · exact .inr ⟨hx, by omega⟩
    · exact .inl (.inr hx)

theorem up_radd {l : List Int} (h : l.Pairwise (· < ·)) (n : Int) : (radd l n).Pairwise (· < ·) := by
  unfold radd
  rw [List.pairwise_append, List.pairwise_append]
  refine ⟨⟨h.sublist (List.takeWhile_sublist _), by simp, fun a ha b hb => ?_⟩, h.sublist List.filter_sublist, fun a ha b hb => ?_⟩
  · rw [List.mem_singleton.1 hb]
    exact tw_lt l n a ha
  · have h2 := (List.mem_filter.1 hb).2
    simp only [decide_eq_true_eq] at h2
    rcases List.mem_append.1 ha with ha | ha
    · have := tw_lt l n a ha
      omega
    · rw [List.mem_singleton.1 ha]; exact h2

theorem radd_eq {l : List Int} (h : l.Pairwise (· < ·)) (n : Int) : radd l n = merge l [n] :=
  up_ext (up_radd h n) (up_merge _ _ h (by simp)) fun x => by rw [mem_radd h, mem_merge]; simp

/-- The document's union: one number behind the other, until a row is too long. -/
def runion (out : List Int) : List Int → List Int × Int
  | [] => (out, 0)
  | n :: b => if 32 < (radd out n).length then ([], 4) else runion (radd out n) b

theorem len_le_of_sub {a : List Int} : ∀ {b : List Int}, a.Pairwise (· < ·) → (∀ x ∈ a, x ∈ b) → a.length ≤ b.length := by
  induction a with
  | nil => intro b _ _; simp
  | cons x a ih =>
    intro b ha h
    obtain ⟨h1, h2⟩ := List.pairwise_cons.1 ha
    have hx := h x (by simp)
    have := ih (b := b.erase x) h2 fun y hy => (List.mem_erase_of_ne (by have := h1 y hy; omega)).2 (h y (List.mem_cons_of_mem _ hy))
    rw [List.length_erase_of_mem hx] at this
    have hpos : 0 < b.length := List.length_pos_of_mem hx
    simp only [List.length_cons]
    omega

/-- What the program's union answers. -/
def union (a b : List Int) : List Int × Int :=
  if may a = true ∧ may b = true then (if 32 < (merge a b).length then ([], 4) else (merge a b, 0)) else ([], 2)
def add (l : List Int) (n : Int) : List Int × Int := if serial n = true then union l [n] else ([], 2)

/-! ### May, place by place -/

def Pre (l : List Int) (i : Nat) : Prop := (∀ n ∈ l.take i, serial n = true) ∧ (l.take i).Pairwise (· < ·)

theorem pre_0 (l : List Int) : Pre l 0 := ⟨by simp, by simp⟩
theorem pre_step {l : List Int} {i : Nat} {x : Int} (h : Pre l i) (hx : l[i]? = some x) (hs : serial x = true) (hu : i = 0 ∨ ∃ a, l[i - 1]? = some a ∧ a < x) : Pre l (i + 1) := by
  have e : l.take (i + 1) = l.take i ++ [x] := by rw [List.take_add_one, hx]; rfl
  have hi : i < l.length := (List.getElem?_eq_some_iff.1 hx).1
  refine ⟨fun n hn => ?_, ?_⟩
  · rw [e] at hn
    rcases List.mem_append.1 hn with hn | hn
    · exact h.1 n hn
    · rw [List.mem_singleton.1 hn]; exact hs
  · rw [e]
    rcases hu with rfl | ⟨a, ha, hax⟩
    · simp
    · by_cases hi0 : i = 0
      · subst hi0; simp
      have hl : (l.take i).getLast? = some a := by
        rw [List.getLast?_eq_getElem?, List.length_take, Nat.min_eq_left (by omega), List.getElem?_take, if_pos (by omega), ha]
      have := rises_snoc (l.take i) a x hl
      rw [← rises_iff, this, (rises_iff _).2 h.2]
      simpa using hax
theorem pre_all {l : List Int} {i : Nat} (h : Pre l i) (hi : l.length ≤ i) (h32 : l.length ≤ 32) : may l = true := by
  unfold Pre at h
  rw [List.take_of_length_le hi] at h
  exact (may_iff l).2 ⟨h32, fun n hn => by have := h.1 n hn; simpa [serial] using this, h.2⟩
theorem no_len {l : List Int} (h : 32 < l.length) : may l = false := by
  rw [Bool.eq_false_iff]; intro h'; have := ((may_iff l).1 h').len; omega
theorem no_ser {l : List Int} {i : Nat} {x : Int} (hx : l[i]? = some x) (h : serial x = false) : may l = false := by
  rw [Bool.eq_false_iff]; intro h'
  have := ((may_iff l).1 h').ser x (List.mem_of_getElem? hx)
  rw [show serial x = true from decide_eq_true this] at h
  cases h
theorem no_up {l : List Int} {i : Nat} {a x : Int} (ha : l[i - 1]? = some a) (hx : l[i]? = some x) (h0 : 0 < i) (h : x ≤ a) : may l = false := by
  rw [Bool.eq_false_iff]; intro h'
  have hp := ((may_iff l).1 h').up
  obtain ⟨h1, e1⟩ := List.getElem?_eq_some_iff.1 ha
  obtain ⟨h2, e2⟩ := List.getElem?_eq_some_iff.1 hx
  have := (List.pairwise_iff_getElem.1 hp) (i - 1) i h1 h2 (by omega)
  rw [e1, e2] at this
  omega

/-! ### The document's union is the program's -/

theorem runion_eq : ∀ (b out : List Int), out.Pairwise (· < ·) → out.length ≤ 32 → b.Pairwise (· < ·) → runion out b = if 32 < (merge out b).length then ([], 4) else (merge out b, 0)
  | [], out, h1, h2, _ => by rw [merge_nil, if_neg (by omega)]; rfl
  | n :: b, out, h1, h2, h3 => by
    have h4 := (List.pairwise_cons.1 h3).2
    have hr := up_radd h1 n
    have hsub : ∀ x ∈ radd out n, x ∈ merge out (n :: b) := fun x hx => by
      rw [mem_merge]
      rcases (mem_radd h1 n x).1 hx with h | h
      · exact .inl h
      · exact .inr (by simp [h])
    have hlen := len_le_of_sub hr hsub
    have heq : merge (radd out n) b = merge out (n :: b) := up_ext (up_merge _ _ hr h4) (up_merge _ _ h1 h3) fun x => by
      rw [mem_merge, mem_merge, mem_radd h1, List.mem_cons]
      constructor
      · rintro ((h | h) | h)
        · exact .inl h
        · exact .inr (.inl h)
        · exact .inr (.inr h)
      · rintro (h | h | h)
        · exact .inl (.inl h)
        · exact .inl (.inr h)
        · exact .inr h
    unfold runion
    by_cases h5 : 32 < (radd out n).length
    · rw [if_pos h5, if_pos (by omega)]
    · rw [if_neg h5, runion_eq b (radd out n) hr (by omega) h4, heq]

theorem tw_eq {l : List Int} {n : Int} : ∀ {i : Nat}, (∀ x ∈ l.take i, x < n) → (l.length ≤ i ∨ ∃ y, l[i]? = some y ∧ ¬ y < n) → l.takeWhile (· < n) = l.take i := by
  induction l with
  | nil => intro i _ _; simp
  | cons a l ih =>
    intro i h1 h2
    cases i with
    | zero =>
      rcases h2 with h2 | ⟨y, hy, h2⟩
      · simp at h2
      · simp at hy; subst hy
        rw [List.takeWhile_cons, if_neg (by simpa using h2)]; simp
    | succ i =>
      rw [List.take_succ_cons] at h1 ⊢
      rw [List.takeWhile_cons, if_pos (by simpa using h1 a (by simp)), ih (i := i) (fun x hx => h1 x (List.mem_cons_of_mem _ hx))]
      rcases h2 with h2 | ⟨y, hy, h2⟩
      · left; simpa using h2
      · exact .inr ⟨y, by simpa using hy, h2⟩

/-- What the document's Add answers. -/
def raddR (l : List Int) (n : Int) : List Int × Int := if may l = true ∧ serial n = true then (if 32 < (radd l n).length then ([], 4) else (radd l n, 0)) else ([], 2)
theorem may_one (n : Int) : may [n] = serial n := by simp [may, rises, serial]
theorem radd_add (l : List Int) (n : Int) : raddR l n = add l n := by
  unfold raddR add union
  rw [may_one]
  by_cases h2 : serial n = true
  · rw [if_pos h2]
    by_cases h1 : may l = true
    · simp only [h1, h2, and_self, if_true]
      rw [radd_eq ((may_iff l).1 h1).up]
    · rw [if_neg (fun h => h1 h.1), if_neg (fun h => h1 h.1)]
  · rw [if_neg (fun h => h2 h.2), if_neg h2]
/-- What the document's Union answers. -/
def runionR (a b : List Int) : List Int × Int := if may a = true ∧ may b = true then runion a b else ([], 2)
theorem runion_union (a b : List Int) : runionR a b = union a b := by
  unfold runionR union
  by_cases h : may a = true ∧ may b = true
  · rw [if_pos h, if_pos h, runion_eq b a ((may_iff a).1 h.1).up ((may_iff a).1 h.1).len ((may_iff b).1 h.2).up]
  · rw [if_neg h, if_neg h]
theorem radd_may {l : List Int} {n : Int} (h : may l = true) (hs : serial n = true) (hl : ¬ 32 < (radd l n).length) : may (radd l n) = true := by
  have h' := (may_iff l).1 h
  refine (may_iff _).2 ⟨by omega, fun x hx => ?_, up_radd h'.up n⟩
  rcases (mem_radd h'.up n x).1 hx with hx | hx
  · exact h'.ser x hx
  · rw [hx]; simpa [serial] using hs
theorem radd_len (l : List Int) (n : Int) : (radd l n).length ≤ 2 * l.length + 1 := by
  unfold radd
  simp only [List.length_append, List.length_singleton]
  have h1 := (List.takeWhile_sublist (fun x => decide (x < n)) (l := l)).length_le
  have h2 := List.length_filter_le (fun x => decide (n < x)) l
  omega
theorem union_len (a b : List Int) : (union a b).1.length ≤ 32 := by
  unfold union
  split
  · split
    · simp
    · dsimp only; omega
  · simp
theorem add_len (a : List Int) (n : Int) : (add a n).1.length ≤ 32 := by
  unfold add
  split
  · exact union_len _ _
  · simp
end Go.Proofs.Ytmiimnlboighmaa.Rv
