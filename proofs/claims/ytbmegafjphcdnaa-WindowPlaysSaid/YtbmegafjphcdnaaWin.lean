/- The window's plain machine: what the walks show that the program computes, and what follows of it. No program in sight. -/
namespace Go.Proofs.Ytbmegafjphcdnaa.Win

structure St where
  boot : Int
  top : Int
  came : List Bool
deriving DecidableEq

def zeros : List Bool := List.replicate 64 false

def idx (n : Int) : Nat := (n % 64).toNat

theorem idx_lt (n : Int) : idx n < 64 := by unfold idx; omega

theorem idx_inj {m n : Int} (h : idx m = idx n) (h1 : m - n < 64) (h2 : n - m < 64) : m = n := by
  unfold idx at h; omega

/-- j places behind top made free, one behind the other. -/
def clrTo (top : Int) (c : List Bool) : Nat → List Bool
  | 0 => c
  | j + 1 => (clrTo top c j).set (idx (top + j + 1)) false

theorem clrTo_length (top : Int) (c : List Bool) (j : Nat) : (clrTo top c j).length = c.length := by
  induction j with
  | zero => rfl
  | succ j ih => simp [clrTo, ih]

theorem clrTo_get (top : Int) (c : List Bool) (hc : c.length = 64) (j : Nat) (m : Int) (h1 : top - 64 + j < m) (h2 : m ≤ top + j) :
    (clrTo top c j).getD (idx m) false = if m ≤ top then c.getD (idx m) false else false := by
  induction j with
  | zero => rw [if_pos (by omega)]; rfl
  | succ j ih =>
    simp only [clrTo]
    have hl := clrTo_length top c j
    by_cases e : m = top + j + 1
    · subst e
      rw [if_neg (by omega)]
      have := idx_lt (top + j + 1)
      simp [List.getD_eq_getElem?_getD, hl, hc, this]
    · have hne : idx (top + j + 1) ≠ idx m := fun h => e (by have := idx_inj h (by omega) (by omega); omega)
      rw [← ih (by omega) (by omega)]
      simp [List.getD_eq_getElem?_getD, hne]

/-- What 'after' makes of a window. -/
def after (s : St) (boot n : Int) : St :=
  if boot < s.boot ∨ n < 1 then s else
  let x : St := if s.boot < boot then ⟨boot, 0, zeros⟩ else s
  if n ≤ x.top - 64 ∨ (n ≤ x.top ∧ x.came.getD (idx n) false = true) then s else
  let y : St := if x.top ≤ n - 64 then ⟨x.boot, n, zeros⟩ else x
  ⟨y.boot, max y.top n, (clrTo y.top y.came (n - y.top).toNat).set (idx n) true⟩

def take (s : St) (boot n : Int) : St × Int :=
  if boot < 0 ∨ n < 1 then (s, 2) else
  if after s boot n = s then (s, 180) else (after s boot n, 0)

def may (s : St) (boot n : Int) : Bool := decide (0 ≤ boot) && decide (after s boot n ≠ s)

def new : St := ⟨-1, 0, zeros⟩

/-- A window that the program may come to. -/
structure Inv (s : St) : Prop where
  len : s.came.length = 64
  bootLo : -1 ≤ s.boot
  topLo : 0 ≤ s.top
  bootHi : s.boot ≤ 9223372036854775807
  topHi : s.top ≤ 9223372036854775807

theorem new_inv : Inv new := ⟨by decide, by decide, by decide, by decide, by decide⟩

/-- Is a number of the window's own boot held to have come? -/
def seen (s : St) (m : Int) : Prop := m ≤ s.top - 64 ∨ (m ≤ s.top ∧ s.came.getD (idx m) false = true)

instance (s : St) (m : Int) : Decidable (seen s m) := by unfold seen; infer_instance

theorem getD_set_self (c : List Bool) (i : Nat) (v : Bool) (h : i < c.length) : (c.set i v).getD i false = v := by
  simp [List.getD_eq_getElem?_getD, h]
theorem getD_set_other (c : List Bool) (i j : Nat) (v : Bool) (h : i ≠ j) : (c.set i v).getD j false = c.getD j false := by
  simp [List.getD_eq_getElem?_getD, h]
theorem zeros_getD (i : Nat) : zeros.getD i false = false := by
  unfold zeros
  rw [List.getD_eq_getElem?_getD, List.getElem?_replicate]
  split <;> rfl
theorem zeros_length : zeros.length = 64 := by decide

/-- A number that is refused in the window's own boot, or of a lesser one, changes nothing. -/
theorem after_same (s : St) (boot n : Int) (h : boot < s.boot ∨ n < 1 ∨ (boot = s.boot ∧ seen s n)) : after s boot n = s := by
  unfold after
  by_cases h1 : boot < s.boot ∨ n < 1
  · rw [if_pos h1]
  · rw [if_neg h1]
    obtain ⟨rfl, h3⟩ : boot = s.boot ∧ seen s n := by
      rcases h with h | h | h
      · exact absurd (Or.inl h) h1
      · exact absurd (Or.inr h) h1
      · exact h
    simp only [Int.lt_irrefl, if_false]
    unfold seen at h3
    rw [if_pos h3]

/-- The window ahead of a number of a boot that is not lesser. -/
def begun (s : St) (boot : Int) : St := if s.boot < boot then ⟨boot, 0, zeros⟩ else s

theorem after_new (s : St) (boot n : Int) (hi : Inv s) (hb : s.boot ≤ boot) (hn : 1 ≤ n) (h : ¬ (boot = s.boot ∧ seen s n)) :
    (after s boot n).boot = boot ∧ (after s boot n).top = max (begun s boot).top n ∧ (after s boot n).came.length = 64 ∧
    ∀ m, (after s boot n).top - 64 < m → m ≤ (after s boot n).top →
      ((after s boot n).came.getD (idx m) false = true ↔ m = n ∨ (m ≤ (begun s boot).top ∧ (begun s boot).came.getD (idx m) false = true)) := by
  unfold after
  rw [if_neg (by omega)]
  have hx : (if s.boot < boot then (⟨boot, 0, zeros⟩ : St) else s) = begun s boot := rfl
  simp only [hx]
  have hxb : (begun s boot).boot = boot := by
    unfold begun
    split
    · rfl
    · omega
  have hxl : (begun s boot).came.length = 64 := by unfold begun; split; exact zeros_length; exact hi.len
  have hxt : 0 ≤ (begun s boot).top := by
    unfold begun
    split
    · exact Int.le_refl _
    · exact hi.topLo
  have hns : ¬ (n ≤ (begun s boot).top - 64 ∨ (n ≤ (begun s boot).top ∧ (begun s boot).came.getD (idx n) false = true)) := by
    unfold begun
    split
    · rintro (h | ⟨h, _⟩) <;> simp at h <;> omega
    · intro h'; exact h ⟨by omega, h'⟩
  rw [if_neg hns]
  generalize begun s boot = x at *
  by_cases hg : x.top ≤ n - 64
  · rw [if_pos hg]
    simp only
    refine ⟨hxb, by omega, by rw [List.length_set, clrTo_length]; exact zeros_length, ?_⟩
    intro m h1 h2
    have e0 : (n - n).toNat = 0 := by omega
    rw [e0]
    simp only [clrTo]
    by_cases e : m = n
    · subst e
      rw [getD_set_self _ _ _ (by rw [zeros_length]; exact idx_lt m)]
      simp
    · rw [getD_set_other _ _ _ _ (fun h => e (idx_inj h (by omega) (by omega)).symm), zeros_getD]
      constructor
      · intro h; cases h
      · rintro (h | ⟨h, _⟩)
        · exact absurd h e
        · omega
  · rw [if_neg hg]
    refine ⟨hxb, rfl, by rw [List.length_set, clrTo_length]; exact hxl, ?_⟩
    intro m h1 h2
    simp only at h1 h2
    by_cases e : m = n
    · subst e
      rw [getD_set_self _ _ _ (by rw [clrTo_length, hxl]; exact idx_lt m)]
      simp
    · have hne : idx n ≠ idx m := fun h => e (idx_inj h (by omega) (by omega)).symm
      rw [getD_set_other _ _ _ _ hne, clrTo_get x.top x.came hxl _ m (by omega) (by omega)]
      by_cases hm : m ≤ x.top
      · rw [if_pos hm]; constructor
        · intro h; exact Or.inr ⟨hm, h⟩
        · rintro (h | ⟨_, h⟩)
          · exact absurd h e
          · exact h
      · rw [if_neg hm]; constructor
        · intro h; cases h
        · rintro (h | ⟨h, _⟩)
          · exact absurd h e
          · exact absurd h hm

theorem after_ne (s : St) (boot n : Int) (hi : Inv s) (hb : s.boot ≤ boot) (hn : 1 ≤ n) (h : ¬ (boot = s.boot ∧ seen s n)) : after s boot n ≠ s := by
  intro he
  obtain ⟨h1, h2, h3, h4⟩ := after_new s boot n hi hb hn h
  rw [he] at h1 h2 h4
  subst h1
  have hbg : begun s s.boot = s := by unfold begun; rw [if_neg (Int.lt_irrefl _)]
  rw [hbg] at h2 h4
  apply h
  refine ⟨rfl, ?_⟩
  by_cases hlo : n ≤ s.top - 64
  · exact Or.inl hlo
  · exact Or.inr ⟨by omega, (h4 n (by omega) (by omega)).2 (Or.inl rfl)⟩

theorem after_inv (s : St) (boot n : Int) (hi : Inv s) (hb : boot ≤ 9223372036854775807) (hn : n ≤ 9223372036854775807) : Inv (after s boot n) := by
  by_cases h : boot < s.boot ∨ n < 1 ∨ (boot = s.boot ∧ seen s n)
  · rw [after_same s boot n h]; exact hi
  · obtain ⟨h1, h2, h3, _⟩ := after_new s boot n hi (by omega) (by omega) (fun h' => h (Or.inr (Or.inr h')))
    have := hi.topLo; have := hi.topHi; have := hi.bootLo
    have ht : 0 ≤ (begun s boot).top ∧ (begun s boot).top ≤ 9223372036854775807 := by
      unfold begun
      split
      · exact ⟨Int.le_refl _, by simp⟩
      · exact ⟨by omega, by omega⟩
    exact ⟨h3, by omega, by omega, by omega, by omega⟩

theorem take_inv (s : St) (boot n : Int) (hi : Inv s) (hb : boot ≤ 9223372036854775807) (hn : n ≤ 9223372036854775807) : Inv (take s boot n).1 := by
  unfold take
  split
  · exact hi
  · split
    · exact hi
    · exact after_inv s boot n hi hb hn

/-- When a number is taken. -/
theorem take_ok_iff (s : St) (boot n : Int) (hi : Inv s) :
    (take s boot n).2 = 0 ↔ 0 ≤ boot ∧ 1 ≤ n ∧ s.boot ≤ boot ∧ ¬ (boot = s.boot ∧ seen s n) := by
  unfold take
  by_cases h1 : boot < 0 ∨ n < 1
  · rw [if_pos h1]; constructor
    · intro h; cases h
    · omega
  · rw [if_neg h1]
    by_cases h2 : after s boot n = s
    · rw [if_pos h2]; constructor
      · intro h; cases h
      · rintro ⟨_, a, b, c⟩; exact absurd h2 (after_ne s boot n hi b a c)
    · rw [if_neg h2]; constructor
      · intro _
        have h3 : ¬ (boot < s.boot ∨ n < 1 ∨ (boot = s.boot ∧ seen s n)) := fun h => h2 (after_same s boot n h)
        refine ⟨by omega, by omega, by omega, fun h => h3 (Or.inr (Or.inr h))⟩
      · intro _; rfl

theorem take_err (s : St) (boot n : Int) (h : (take s boot n).2 ≠ 0) : (take s boot n).1 = s := by
  unfold take at h ⊢
  split
  · rfl
  · split
    · rfl
    · rename_i h1 h2; rw [if_neg h1, if_neg h2] at h; exact absurd rfl h

theorem take_codes (s : St) (boot n : Int) : (take s boot n).2 = 0 ∨ (take s boot n).2 = 2 ∨ (take s boot n).2 = 180 := by
  unfold take; split
  · simp
  · split <;> simp

theorem take_arg_iff (s : St) (boot n : Int) : (take s boot n).2 = 2 ↔ boot < 0 ∨ n < 1 := by
  unfold take; split
  · simp [*]
  · rename_i h; split <;> simp [h]

theorem take_ok (s : St) (boot n : Int) (h : (take s boot n).2 = 0) : (take s boot n).1 = after s boot n := by
  unfold take at h ⊢
  split
  · rename_i h1; rw [if_pos h1] at h; cases h
  · split
    · rename_i h1 h2; rw [if_neg h1, if_pos h2] at h; cases h
    · rfl

theorem may_iff (s : St) (boot n : Int) : may s boot n = true ↔ (take s boot n).2 = 0 := by
  unfold may take
  by_cases h1 : boot < 0 ∨ n < 1
  · rw [if_pos h1]
    rcases h1 with h1 | h1
    · simp; omega
    · have : after s boot n = s := after_same s boot n (Or.inr (Or.inl h1))
      simp [this]
  · rw [if_neg h1]
    by_cases h2 : after s boot n = s
    · simp [h2]
    · simp [h2]; omega

/-- What a window says of all that it took: 'took b m': was m of boot b taken? -/
structure Knows (s : St) (took : Int → Int → Prop) : Prop where
  inv : Inv s
  le : ∀ b m, took b m → 0 ≤ b ∧ 1 ≤ m ∧ b ≤ s.boot
  top : ∀ m, took s.boot m → m ≤ s.top
  came : ∀ m, 1 ≤ m → s.top - 64 < m → m ≤ s.top → (s.came.getD (idx m) false = true ↔ took s.boot m)
  at_ : s.top = 0 ∨ took s.boot s.top

theorem knows_new : Knows new (fun _ _ => False) :=
  ⟨new_inv, fun _ _ h => h.elim, fun _ h => h.elim, fun m h1 _ h2 => by simp [new] at h2; omega, Or.inl rfl⟩

theorem Knows.step {s : St} {took : Int → Int → Prop} (h : Knows s took) {boot n : Int} (hb : boot ≤ 9223372036854775807) (hn : n ≤ 9223372036854775807) (ht : (take s boot n).2 = 0) :
    ¬ took boot n ∧ (∀ b m, took b m → b ≤ boot) ∧ (take s boot n).1.boot = boot ∧ (take s boot n).1.top = max (begun s boot).top n ∧
      Knows (take s boot n).1 (fun b m => took b m ∨ (b = boot ∧ m = n)) := by
  have hok := (take_ok_iff s boot n h.inv).1 ht
  obtain ⟨h0, h1, h2, h3⟩ := hok
  have e := take_ok s boot n ht
  have hi' : Inv (take s boot n).1 := take_inv s boot n h.inv hb hn
  rw [e] at hi' ⊢
  obtain ⟨g1, g2, g3, g4⟩ := after_new s boot n h.inv h2 h1 h3
  have hnt : ¬ took boot n := by
    intro hk
    have hle := (h.le _ _ hk).2.2
    have hbe : boot = s.boot := by omega
    subst hbe
    apply h3
    refine ⟨rfl, ?_⟩
    have ht' := h.top _ hk
    by_cases hlo : n ≤ s.top - 64
    · exact Or.inl hlo
    · exact Or.inr ⟨ht', (h.came n h1 (by omega) ht').2 hk⟩
  refine ⟨hnt, fun b m hk => by have := (h.le _ _ hk).2.2; omega, g1, g2, hi', ?_, ?_, ?_, ?_⟩
  · rintro b m (hk | ⟨rfl, rfl⟩)
    · have := h.le _ _ hk; rw [g1]; exact ⟨this.1, this.2.1, by omega⟩
    · rw [g1]; exact ⟨h0, h1, by omega⟩
  · rw [g1, g2]
    rintro m (hk | ⟨_, rfl⟩)
    · have hle := (h.le _ _ hk).2.2
      have hbe : boot = s.boot := by omega
      subst hbe
      have : begun s s.boot = s := by unfold begun; rw [if_neg (Int.lt_irrefl _)]
      rw [this]
      have := h.top _ hk; omega
    · omega
  · intro m hm1 hm2 hm3
    rw [g4 m hm2 hm3, g1]
    have hold : (m ≤ (begun s boot).top ∧ (begun s boot).came.getD (idx m) false = true) ↔ took boot m := by
      by_cases hbe : s.boot < boot
      · have eb : begun s boot = ⟨boot, 0, zeros⟩ := by unfold begun; rw [if_pos hbe]
        rw [eb]
        simp only [zeros_getD]
        constructor
        · rintro ⟨_, h⟩; cases h
        · intro hk; have := (h.le _ _ hk).2.2; omega
      · have hbe' : boot = s.boot := by omega
        subst hbe'
        have eb : begun s s.boot = s := by unfold begun; rw [if_neg (Int.lt_irrefl _)]
        rw [eb] at g2 ⊢
        constructor
        · rintro ⟨ha, hb'⟩; exact (h.came m hm1 (by omega) ha).1 hb'
        · intro hk
          have ha := h.top _ hk
          exact ⟨ha, (h.came m hm1 (by omega) ha).2 hk⟩
    rw [hold]
    constructor
    · rintro (rfl | hk)
      · exact Or.inr ⟨rfl, rfl⟩
      · exact Or.inl hk
    · rintro (hk | ⟨_, rfl⟩)
      · exact Or.inr hk
      · exact Or.inl rfl
  · right
    rw [g1, g2]
    by_cases hmx : n ≤ (begun s boot).top
    · have e2 : max (begun s boot).top n = (begun s boot).top := by omega
      rw [e2]
      left
      by_cases hbe : s.boot < boot
      · have eb : begun s boot = ⟨boot, 0, zeros⟩ := by unfold begun; rw [if_pos hbe]
        rw [eb] at hmx; simp at hmx; omega
      · have hbe' : boot = s.boot := by omega
        subst hbe'
        have eb : begun s s.boot = s := by unfold begun; rw [if_neg (Int.lt_irrefl _)]
        rw [eb] at hmx ⊢
        rcases h.at_ with h' | h'
        · omega
        · exact h'
    · have e2 : max (begun s boot).top n = n := by omega
      rw [e2]; exact Or.inr ⟨rfl, rfl⟩

theorem take_argE {s : St} {boot n : Int} (h : boot < 0 ∨ n < 1) : take s boot n = (s, 2) := by unfold take; rw [if_pos h]
theorem take_sameE {s : St} {boot n : Int} (h : ¬ (boot < 0 ∨ n < 1)) (h2 : after s boot n = s) : take s boot n = (s, 180) := by unfold take; rw [if_neg h, if_pos h2]
theorem take_newE {s : St} {boot n : Int} (h : ¬ (boot < 0 ∨ n < 1)) (h2 : after s boot n ≠ s) : take s boot n = (after s boot n, 0) := by unfold take; rw [if_neg h, if_neg h2]
theorem may_F {s : St} {boot n : Int} (h : boot < 0) : may s boot n = false := by unfold may; simp; omega
theorem may_T {s : St} {boot n : Int} (h : ¬ boot < 0) : may s boot n = !decide (after s boot n = s) := by
  unfold may
  have : decide (0 ≤ boot) = true := by simp; omega
  rw [this]; simp

theorem rise (s : St) (boot m : Int) (hi : Inv s) (h0 : 0 ≤ boot) (hb : s.boot ≤ boot) (hm : s.top < m) (hb2 : boot ≤ 9223372036854775807) (hm2 : m ≤ 9223372036854775807) :
    (take s boot m).2 = 0 ∧ Inv (take s boot m).1 ∧ (take s boot m).1.boot = boot ∧ (take s boot m).1.top = m ∧ take (take s boot m).1 boot m = ((take s boot m).1, 180) := by
  have ht := hi.topLo
  have hns : ¬ (boot = s.boot ∧ seen s m) := by
    rintro ⟨_, h | ⟨h, _⟩⟩ <;> omega
  have hok := (take_ok_iff s boot m hi).2 ⟨h0, by omega, hb, hns⟩
  have e := take_ok s boot m hok
  obtain ⟨g1, g2, g3, g4⟩ := after_new s boot m hi hb (by omega) hns
  have hmax : max (begun s boot).top m = m := by
    unfold begun
    split
    · simp; omega
    · omega
  rw [hmax] at g2
  have hinv := take_inv s boot m hi hb2 hm2
  refine ⟨hok, hinv, by rw [e]; exact g1, by rw [e]; exact g2, ?_⟩
  rw [e]
  refine take_sameE (by omega) (after_same _ _ _ (.inr (.inr ⟨g1.symm, .inr ⟨by omega, ?_⟩⟩)))
  exact (g4 m (by omega) (by omega)).2 (.inl rfl)

theorem boots_gt (s : St) (other n : Int) (hi : Inv s) (h0 : 0 ≤ other) (h1 : 1 ≤ n) (h : s.boot < other) : (take s other n).2 = 0 ∧ (take s other n).1.boot = other ∧ (take s other n).1.top = n := by
  have hns : ¬ (other = s.boot ∧ seen s n) := fun h' => by omega
  have hok := (take_ok_iff s other n hi).2 ⟨h0, h1, by omega, hns⟩
  have e := take_ok s other n hok
  obtain ⟨g1, g2, _⟩ := after_new s other n hi (by omega) h1 hns
  have hb : (begun s other).top = 0 := by unfold begun; rw [if_pos h]
  rw [hb] at g2
  refine ⟨hok, by rw [e]; exact g1, by rw [e, g2]; omega⟩
theorem boots_lt (s : St) (other n : Int) (h0 : 0 ≤ other) (h1 : 1 ≤ n) (h : other < s.boot) : take s other n = (s, 180) :=
  take_sameE (by omega) (after_same _ _ _ (.inl h))
theorem take_boot (s : St) (boot n : Int) (hi : Inv s) (h : s.boot = -1 ∨ s.boot = boot) : (take s boot n).1.boot = -1 ∨ (take s boot n).1.boot = boot := by
  by_cases hok : (take s boot n).2 = 0
  · obtain ⟨a, b, c, d⟩ := (take_ok_iff s boot n hi).1 hok
    rw [take_ok s boot n hok]
    exact .inr (after_new s boot n hi c b d).1
  · rw [take_err s boot n hok]; exact h

/-! ### Each number once -/

theorem Knows.congr {s : St} {took took' : Int → Int → Prop} (h : Knows s took) (e : ∀ b m, took b m ↔ took' b m) : Knows s took' := by
  have : took = took' := by funext b m; exact propext (e b m)
  rw [← this]; exact h

theorem once_step {s : St} {T : List (Int × Int)} (h : Knows s (fun b m => (b, m) ∈ T)) {boot n : Int} (hb : boot ≤ 9223372036854775807) (hn : n ≤ 9223372036854775807) (ht : (take s boot n).2 = 0) :
    (boot, n) ∉ T ∧ (∀ p ∈ T, p.1 ≤ boot) ∧ Knows (take s boot n).1 (fun b m => (b, m) ∈ T ++ [(boot, n)]) := by
  obtain ⟨h1, h2, _, _, h5⟩ := h.step hb hn ht
  exact ⟨h1, fun p hp => h2 p.1 p.2 hp, h5.congr fun b m => by simp⟩

/-! ### Numbers less than 64 apart -/

def AnyI (least : Int) (s : St) (c : List Bool) : Prop :=
  ∃ T, Knows s T ∧ s.boot = 3 ∧ c.length = 64 ∧ (∀ j : Nat, j < 64 → (c.getD j false = true ↔ T 3 (least + j))) ∧ ∀ m, T 3 m → m ≤ least + 63

theorem AnyI.inv {least : Int} {s : St} {c : List Bool} (h : AnyI least s c) : Inv s := by obtain ⟨T, h, _⟩ := h; exact h.inv
theorem AnyI.len {least : Int} {s : St} {c : List Bool} (h : AnyI least s c) : c.length = 64 := by obtain ⟨T, _, _, h, _⟩ := h; exact h

theorem any_start (least ahead : Int) (h1 : 1 ≤ ahead) (h2 : ahead < least) (h3 : least ≤ 1099511627776) : AnyI least (take new 3 ahead).1 zeros := by
  have hok := (boots_gt new 3 ahead new_inv (by omega) h1 (by decide)).1
  obtain ⟨_, _, g3, _, g5⟩ := knows_new.step (by omega) (by omega) hok
  refine ⟨_, g5, g3, zeros_length, fun j hj => ?_, fun m hm => ?_⟩
  · rw [zeros_getD]
    constructor
    · intro h; cases h
    · rintro (h | ⟨_, h⟩)
      · exact h.elim
      · omega
  · rcases hm with hm | ⟨_, rfl⟩
    · exact hm.elim
    · omega

theorem any_step {least : Int} {s : St} {c : List Bool} (h : AnyI least s c) (j : Nat) (hj : j < 64) (h1 : 1 ≤ least) (h3 : least ≤ 1099511627776) :
    ((take s 3 (least + j)).2 = 0 ↔ c.getD j false = false) ∧ AnyI least (take s 3 (least + j)).1 (c.set j true) := by
  obtain ⟨T, hk, hb, hl, hc, hT⟩ := h
  have hseen : seen s (least + j) ↔ c.getD j false = true := by
    rw [hc j hj]
    have htop : s.top ≤ least + 63 := by
      rcases hk.at_ with h | h
      · omega
      · rw [hb] at h; exact hT _ h
    unfold seen
    constructor
    · rintro (h | ⟨h, h'⟩)
      · omega
      · have := (hk.came (least + j) (by omega) (by omega) h).1 h'
        rwa [hb] at this
    · intro ht
      have h2 := hk.top (least + j) (by rw [hb]; exact ht)
      exact .inr ⟨h2, (hk.came (least + j) (by omega) (by omega) h2).2 (by rw [hb]; exact ht)⟩
  have hiff : (take s 3 (least + j)).2 = 0 ↔ c.getD j false = false := by
    rw [take_ok_iff s 3 (least + j) hk.inv, hseen]
    constructor
    · rintro ⟨_, _, _, h⟩
      cases hcj : c.getD j false with
      | false => rfl
      | true => exact absurd ⟨hb.symm, hcj⟩ h
    · intro h
      refine ⟨by omega, by omega, by omega, fun h' => ?_⟩
      rw [h] at h'; cases h'.2
  refine ⟨hiff, ?_⟩
  by_cases hok : (take s 3 (least + j)).2 = 0
  · obtain ⟨_, _, g3, _, g5⟩ := hk.step (by omega) (by omega) hok
    refine ⟨_, g5, g3, by simp [hl], fun i hi => ?_, fun m hm => ?_⟩
    · by_cases e : j = i
      · subst e
        rw [getD_set_self _ _ _ (by omega)]
        simp
      · rw [getD_set_other _ _ _ _ e, hc i hi]
        constructor
        · exact .inl
        · rintro (h | ⟨_, h⟩)
          · exact h
          · omega
    · rcases hm with hm | ⟨_, rfl⟩
      · exact hT m hm
      · omega
  · have hcj : c.getD j false = true := by
      cases hcj : c.getD j false with
      | true => rfl
      | false => exact absurd (hiff.2 hcj) hok
    rw [take_err s 3 (least + j) hok]
    refine ⟨T, hk, hb, by simp [hl], fun i hi => ?_, hT⟩
    by_cases e : j = i
    · subst e
      rw [getD_set_self _ _ _ (by omega), ← hc j hj, hcj]
    · rw [getD_set_other _ _ _ _ e]; exact hc i hi

/-! ### The document's window -/

def topOf (C : List Int) : Int := C.foldl (fun t m => if t < m then m else t) 0

theorem fold_top (C : List Int) : ∀ (t : Int), t ≤ C.foldl (fun t m => if t < m then m else t) t ∧ (∀ m ∈ C, m ≤ C.foldl (fun t m => if t < m then m else t) t) ∧ (C.foldl (fun t m => if t < m then m else t) t = t ∨ C.foldl (fun t m => if t < m then m else t) t ∈ C) := by
  induction C with
  | nil => intro t; simp
  | cons a C ih =>
    intro t
    simp only [List.foldl_cons]
    obtain ⟨h1, h2, h3⟩ := ih (if t < a then a else t)
    have hta : t ≤ (if t < a then a else t) ∧ a ≤ (if t < a then a else t) := by split <;> omega
    refine ⟨by omega, fun m hm => ?_, ?_⟩
    · rcases List.mem_cons.1 hm with rfl | hm
      · omega
      · exact h2 m hm
    · rcases h3 with h3 | h3
      · rw [h3]
        split
        · exact .inr (by simp)
        · exact .inl rfl
      · exact .inr (List.mem_cons_of_mem _ h3)

theorem topOf_snoc (C : List Int) (n : Int) : topOf (C ++ [n]) = if topOf C < n then n else topOf C := by unfold topOf; rw [List.foldl_append]; rfl

/-- What the document's window makes of a number: its boot, the numbers that came, the answer. -/
def refTake (b : Int) (C : List Int) (boot n : Int) : Int × List Int × Int :=
  if boot < 0 ∨ n < 1 then (b, C, 2) else
  if boot < b then (b, C, 180) else
  let b' := if b < boot then boot else b
  let C' := if b < boot then [] else C
  if n ≤ topOf C' - 64 then (b', C', 180) else
  if n ∈ C' then (b', C', 180) else (b', C' ++ [n], 0)

def PR (s : St) (b : Int) (C : List Int) : Prop := Knows s (fun b' m => b' = b ∧ m ∈ C) ∧ s.boot = b

theorem PR.inv {s : St} {b : Int} {C : List Int} (h : PR s b C) : Inv s := h.1.inv

theorem PR.top {s : St} {b : Int} {C : List Int} (h : PR s b C) : s.top = topOf C := by
  obtain ⟨hk, rfl⟩ := h
  obtain ⟨h1, h2, h3⟩ := fold_top C 0
  have a : topOf C ≤ s.top := by
    rcases h3 with h3 | h3
    · unfold topOf; rw [h3]; exact hk.inv.topLo
    · exact hk.top _ ⟨rfl, h3⟩
  have c : s.top ≤ topOf C := by
    rcases hk.at_ with h | ⟨_, h⟩
    · rw [h]; exact h1
    · exact h2 _ h
  omega

theorem PR_new : PR new (-1) [] := ⟨knows_new.congr fun b m => by simp, rfl⟩

theorem plays_step {s : St} {b : Int} {C : List Int} (h : PR s b C) {boot n : Int} (hb : boot ≤ 9223372036854775807) (hn : n ≤ 9223372036854775807) :
    (take s boot n).2 = (refTake b C boot n).2.2 ∧ PR (take s boot n).1 (refTake b C boot n).1 (refTake b C boot n).2.1 := by
  have htop := h.top
  obtain ⟨hk, hbb⟩ := h
  have hiff := take_ok_iff s boot n hk.inv
  by_cases ha : boot < 0 ∨ n < 1
  · rw [take_argE ha]
    unfold refTake
    rw [if_pos ha]
    exact ⟨rfl, hk, hbb⟩
  have h2 : (take s boot n).2 ≠ 2 := fun e => ha ((take_arg_iff s boot n).1 e)
  have hno : (take s boot n).2 ≠ 0 → take s boot n = (s, 180) := fun e => by
    have h3 := take_err s boot n e
    rcases take_codes s boot n with h4 | h4 | h4
    · exact absurd h4 e
    · exact absurd h4 h2
    · exact Prod.ext h3 h4
  unfold refTake
  rw [if_neg ha]
  by_cases hlt : boot < b
  · rw [if_pos hlt]
    have e := hno fun e => by have := (hiff.1 e).2.2.1; omega
    rw [e]
    exact ⟨rfl, hk, hbb⟩
  rw [if_neg hlt]
  by_cases hgt : b < boot
  · simp only [if_pos hgt]
    rw [if_neg (by simp [topOf]; omega), if_neg (by simp)]
    have hok : (take s boot n).2 = 0 := hiff.2 ⟨by omega, by omega, by omega, fun h => by omega⟩
    obtain ⟨_, _, g3, _, g5⟩ := hk.step hb hn hok
    refine ⟨hok, ⟨g5.inv, ?_, ?_, ?_, ?_⟩, g3⟩
    · rintro b' m ⟨rfl, hm⟩
      have : m = n := by simpa using hm
      subst this
      exact g5.le _ _ (.inr ⟨rfl, rfl⟩)
    · rintro m ⟨_, hm⟩
      have : m = n := by simpa using hm
      subst this
      exact g5.top _ (.inr ⟨g3, rfl⟩)
    · intro m h1 h2 h3
      rw [g5.came m h1 h2 h3, g3]
      constructor
      · rintro (⟨h, _⟩ | ⟨_, rfl⟩)
        · omega
        · simp
      · rintro ⟨_, hm⟩
        exact .inr ⟨rfl, by simpa using hm⟩
    · rcases g5.at_ with h | ⟨h, _⟩ | ⟨h, h'⟩
      · exact .inl h
      · rw [g3] at h; omega
      · exact .inr ⟨h, by simp [h']⟩
  have hbe : boot = b := by omega
  subst hbe
  simp only [if_neg hgt]
  have hseen : seen s n ↔ n ≤ topOf C - 64 ∨ n ∈ C := by
    unfold seen
    rw [htop]
    constructor
    · rintro (h | ⟨h, h'⟩)
      · exact .inl h
      · by_cases hlo : n ≤ topOf C - 64
        · exact .inl hlo
        · exact .inr ((hk.came n (by omega) (by omega) (by omega)).1 h').2
    · rintro (h | h)
      · exact .inl h
      · by_cases hlo : n ≤ topOf C - 64
        · exact .inl hlo
        · have h3 := hk.top n ⟨hbb, h⟩
          exact .inr ⟨by omega, (hk.came n (by omega) (by omega) (by omega)).2 ⟨hbb, h⟩⟩
  by_cases hlo : n ≤ topOf C - 64
  · rw [if_pos hlo]
    have e := hno fun e => (hiff.1 e).2.2.2 ⟨hbb.symm, hseen.2 (.inl hlo)⟩
    rw [e]
    exact ⟨rfl, hk, hbb⟩
  rw [if_neg hlo]
  by_cases hc : n ∈ C
  · rw [if_pos hc]
    have e := hno fun e => (hiff.1 e).2.2.2 ⟨hbb.symm, hseen.2 (.inr hc)⟩
    rw [e]
    exact ⟨rfl, hk, hbb⟩
  rw [if_neg hc]
  have hok : (take s boot n).2 = 0 := hiff.2 ⟨by omega, by omega, by omega, fun h => by
    rcases hseen.1 h.2 with h' | h'
    · exact hlo h'
    · exact hc h'⟩
  obtain ⟨_, _, g3, _, g5⟩ := hk.step hb hn hok
  refine ⟨hok, g5.congr fun b' m => ?_, g3⟩
  simp only [List.mem_append, List.mem_singleton]
  constructor
  · rintro (⟨h1, h2⟩ | ⟨h1, h2⟩)
    · exact ⟨h1, .inl h2⟩
    · exact ⟨h1, .inr h2⟩
  · rintro ⟨h1, h2 | h2⟩
    · exact .inl ⟨h1, h2⟩
    · exact .inr ⟨h1, h2⟩

theorem refTake_len (b : Int) (C : List Int) (boot n : Int) : (refTake b C boot n).2.1.length ≤ C.length + 1 := by
  unfold refTake
  split
  · simp
  · split
    · simp
    · dsimp only
      have h : (if b < boot then ([] : List Int) else C).length ≤ C.length := by split <;> simp
      generalize (if b < boot then ([] : List Int) else C) = D at h ⊢
      split
      · dsimp only; omega
      · split
        · dsimp only; omega
        · simp; omega
end Go.Proofs.Ytbmegafjphcdnaa.Win
