/- The plain law of rights: what the walks show that the program computes, and what follows of it. No program in sight. -/
namespace Go.Proofs.Ytiekpkkmiciakaa.Rt

/-- A grant: rights, expiry, serial. -/
abbrev G := Int × Int × Int

def may (g : G) : Bool := decide (g.1 ≤ 15 ∧ 0 ≤ g.2.1 ∧ g.2.1 ≤ 1099511627776 ∧ 1 ≤ g.2.2 ∧ g.2.2 ≤ 1099511627776)
def line (l : List G) : Bool := decide (1 ≤ l.length) && decide (l.length ≤ 4) && l.all may
def land (a b : Int) : Int := ((a.toNat &&& b.toNat : Nat) : Int)
def accR (l : List G) : Int := l.foldl (fun r g => land r g.1) 15
def accX (l : List G) : Int := l.foldl (fun x g => min x g.2.1) 1099511627776

theorem land_lo (a b : Int) : 0 ≤ land a b := by unfold land; omega
theorem land_le (a b : Int) (h : 0 ≤ a) : land a b ≤ a := by
  unfold land
  have := Nat.and_le_left (n := a.toNat) (m := b.toNat)
  omega
theorem land_comm (a b : Int) : land a b = land b a := by unfold land; rw [Nat.and_comm]
theorem land_right (a b c : Int) : land (land a b) c = land (land a c) b := by
  unfold land
  simp only [Int.toNat_natCast]
  rw [Nat.and_assoc, Nat.and_comm b.toNat, ← Nat.and_assoc]
theorem land_15 (a : Int) (h0 : 0 ≤ a) (h1 : a ≤ 15) : land 15 a = a := by
  unfold land
  have e : (15 : Int).toNat = 2 ^ 4 - 1 := rfl
  rw [e, Nat.and_comm, Nat.and_two_pow_sub_one_eq_mod]
  omega
theorem land_self (a : Int) (h : 0 ≤ a) : land a a = a := by
  unfold land
  rw [Nat.and_self]; omega

theorem accR_snoc (l : List G) (g : G) : accR (l ++ [g]) = land (accR l) g.1 := by unfold accR; rw [List.foldl_append]; rfl
theorem accX_snoc (l : List G) (g : G) : accX (l ++ [g]) = min (accX l) g.2.1 := by unfold accX; rw [List.foldl_append]; rfl

theorem foldR_bd (l : List G) : ∀ r : Int, 0 ≤ r → 0 ≤ l.foldl (fun r g => land r g.1) r ∧ l.foldl (fun r g => land r g.1) r ≤ r := by
  induction l with
  | nil => intro r h; simp; exact h
  | cons g l ih =>
    intro r h
    have h1 := land_lo r g.1
    have h2 := land_le r g.1 h
    have h3 := ih (land r g.1) h1
    simp only [List.foldl_cons]
    omega
theorem accR_bd (l : List G) : 0 ≤ accR l ∧ accR l ≤ 15 := foldR_bd l 15 (by decide)

theorem line_all {l : List G} (h : line l = true) : 1 ≤ l.length ∧ l.length ≤ 4 ∧ ∀ g ∈ l, may g = true := by
  unfold line at h
  simp only [Bool.and_eq_true, decide_eq_true_eq, List.all_eq_true] at h
  exact ⟨h.1.1, h.1.2, h.2⟩
theorem line_of {l : List G} (h1 : 1 ≤ l.length) (h2 : l.length ≤ 4) (h3 : ∀ g ∈ l, may g = true) : line l = true := by
  unfold line
  simp only [Bool.and_eq_true, decide_eq_true_eq, List.all_eq_true]
  exact ⟨⟨h1, h2⟩, h3⟩
theorem line_no {l : List G} (h : l.length < 1 ∨ 4 < l.length ∨ ∃ g ∈ l, may g = false) : line l = false := by
  rw [Bool.eq_false_iff]
  intro h'
  obtain ⟨h1, h2, h3⟩ := line_all h'
  rcases h with h | h | ⟨g, hg, h⟩
  · omega
  · omega
  · rw [h3 g hg] at h; cases h
theorem all_snoc {l : List G} {g : G} (h : ∀ x ∈ l, may x = true) (hg : may g = true) : ∀ x ∈ l ++ [g], may x = true := by
  intro x hx
  rcases List.mem_append.1 hx with hx | hx
  · exact h x hx
  · rw [List.mem_singleton.1 hx]; exact hg

/-! ### The document's -/

def refR : List G → Int
  | [] => 0
  | g :: l => l.foldl (fun r g => land r g.1) g.1
def refX : List G → Int
  | [] => 0
  | g :: l => l.foldl (fun x g => min x g.2.1) g.2.1

theorem refR_eq {l : List G} (h : line l = true) (h0 : ∀ g ∈ l, 0 ≤ g.1) : refR l = accR l := by
  obtain ⟨h1, h2, h3⟩ := line_all h
  cases l with
  | nil => simp at h1
  | cons g l =>
    have hg := h3 g (by simp)
    simp only [may, decide_eq_true_eq] at hg
    show l.foldl (fun r g => land r g.1) g.1 = (g :: l).foldl (fun r g => land r g.1) 15
    rw [List.foldl_cons, land_15 g.1 (h0 g (by simp)) hg.1]
theorem refX_eq {l : List G} (h : line l = true) : refX l = accX l := by
  obtain ⟨h1, h2, h3⟩ := line_all h
  cases l with
  | nil => simp at h1
  | cons g l =>
    have hg := h3 g (by simp)
    simp only [may, decide_eq_true_eq] at hg
    show l.foldl (fun x g => min x g.2.1) g.2.1 = (g :: l).foldl (fun x g => min x g.2.1) 1099511627776
    rw [List.foldl_cons]
    congr 1
    omega

/-! ### In whatever order -/

theorem perm_line {l m : List G} (h : l.Perm m) : line l = line m := by
  unfold line
  rw [h.length_eq, h.all_eq]
theorem perm_R {l m : List G} (h : l.Perm m) : accR l = accR m := h.foldl_eq' (fun x _ y _ z => land_right z x.1 y.1) 15
theorem perm_X {l m : List G} (h : l.Perm m) : accX l = accX m := h.foldl_eq' (fun x _ y _ z => by omega) _

theorem swap_perm {α : Type} {l : List α} {a b : Nat} {x y : α} (ha : l[a]? = some x) (hb : l[b]? = some y) : l.Perm ((l.set a y).set b x) := by
  obtain ⟨hal, hae⟩ := List.getElem?_eq_some_iff.1 ha
  obtain ⟨hbl, hbe⟩ := List.getElem?_eq_some_iff.1 hb
  have := List.set_set_perm hal hbl
  rw [hae, hbe] at this
  exact this.symm

/-! ### Texts -/

def lt (i : Nat) : UInt8 := match i with | 0 => 114 | 1 => 119 | 2 => 108 | _ => 97
def bits (r : Int) (n : Nat) : List UInt8 := ((List.range n).filter fun i => decide (r / 2 ^ i % 2 = 1)).map lt
def txt (r : Int) : ByteArray := if 15 < r then ⟨#[63]⟩ else if (bits r 4).length = 0 then ⟨#[45]⟩ else ⟨(bits r 4).toArray⟩

theorem bits_t {r : Int} {i : Nat} (h : r / 2 ^ i % 2 = 1) : bits r (i + 1) = bits r i ++ [lt i] := by
  unfold bits
  rw [List.range_succ, List.filter_append, List.map_append]
  simp [h]
theorem bits_f {r : Int} {i : Nat} (h : ¬ r / 2 ^ i % 2 = 1) : bits r (i + 1) = bits r i := by
  unfold bits
  rw [List.range_succ, List.filter_append, List.map_append]
  simp [h]
theorem bits_len (r : Int) (i : Nat) : (bits r i).length ≤ i := by
  unfold bits
  rw [List.length_map]
  have := List.length_filter_le (fun i => decide (r / 2 ^ i % 2 = 1)) (List.range i)
  simpa using this

/-- What a text is read as. -/
def parse (s : ByteArray) : Int × Bool := match (List.range 16).find? (fun (i : Nat) => decide (txt (i : Int) = s)) with
  | some i => ((i : Int), true)
  | none => (0, false)

theorem cases16 {r : Int} (h0 : 0 ≤ r) (h1 : r ≤ 15) : r = 0 ∨ r = 1 ∨ r = 2 ∨ r = 3 ∨ r = 4 ∨ r = 5 ∨ r = 6 ∨ r = 7 ∨ r = 8 ∨ r = 9 ∨ r = 10 ∨ r = 11 ∨ r = 12 ∨ r = 13 ∨ r = 14 ∨ r = 15 := by omega
theorem txt_inj : ∀ i : Fin 16, ∀ j : Fin 16, txt ((i : Nat) : Int) = txt ((j : Nat) : Int) → i = j := by decide +kernel
theorem txt_q : ∀ i : Fin 16, txt ((i : Nat) : Int) ≠ ⟨#[63]⟩ := by decide +kernel

theorem txt_injI {r q : Int} (h0 : 0 ≤ r) (h1 : r ≤ 15) (h2 : 0 ≤ q) (h3 : q ≤ 15) (h : txt r = txt q) : r = q := by
  obtain ⟨a, rfl⟩ := Int.eq_ofNat_of_zero_le h0
  obtain ⟨b, rfl⟩ := Int.eq_ofNat_of_zero_le h2
  have := txt_inj ⟨a, by omega⟩ ⟨b, by omega⟩ h
  have : a = b := by simpa using this
  omega

theorem parse_some {s : ByteArray} {i : Nat} (hi : i < 16) (h : txt (i : Int) = s) : parse s = ((i : Int), true) := by
  unfold parse
  cases hf : (List.range 16).find? (fun (i : Nat) => decide (txt (i : Int) = s)) with
  | none =>
    have := List.find?_eq_none.1 hf i (by simpa using hi)
    simp [h] at this
  | some j =>
    have h1 := List.find?_some hf
    have h2 := List.mem_of_find?_eq_some hf
    simp only [decide_eq_true_eq] at h1
    simp only [List.mem_range] at h2
    have := txt_injI (r := (i : Int)) (q := (j : Int)) (by omega) (by omega) (by omega) (by omega) (h.trans h1.symm)
    have : i = j := by omega
    rw [this]
theorem parse_none {s : ByteArray} (h : ∀ i : Nat, i < 16 → ¬ txt (i : Int) = s) : parse s = (0, false) := by
  unfold parse
  have : (List.range 16).find? (fun (i : Nat) => decide (txt (i : Int) = s)) = none := List.find?_eq_none.2 fun i hi => by
    simp only [List.mem_range] at hi
    simpa using h i hi
  rw [this]
theorem parse_txt {r : Int} (h0 : 0 ≤ r) (h1 : r ≤ 15) : parse (txt r) = (r, true) := by
  obtain ⟨a, rfl⟩ := Int.eq_ofNat_of_zero_le h0
  exact parse_some (by omega) rfl
theorem parse_q {r : Int} (h : 15 < r) : parse (txt r) = (0, false) := parse_none fun i hi => by
  have e : txt r = ⟨#[63]⟩ := by unfold txt; rw [if_pos h]
  rw [e]
  exact txt_q ⟨i, hi⟩
theorem txt_size (r : Int) : (txt r).size ≤ 4 := by
  unfold txt
  have := bits_len r 4
  split
  · decide
  · split
    · decide
    · show (bits r 4).toArray.size ≤ 4
      simpa using this

/-! ### A grant more -/

def has (r need : Int) : Bool := decide (((need.toNat &&& (255 - r.toNat) : Nat) : Int) = 0)

theorem leaves_more {l : List G} {g : G} (hg0 : 0 ≤ g.1) (hg : may g = true) :
    has (accR l) (accR (l ++ [g])) = true ∧ accX (l ++ [g]) ≤ accX l ∧ has g.1 (accR (l ++ [g])) = true ∧ accX (l ++ [g]) ≤ g.2.1 := by
  have hb := accR_bd l
  simp only [may, decide_eq_true_eq] at hg
  rw [accR_snoc, accX_snoc]
  have key : ∀ a b : Fin 16, has ((a : Nat) : Int) (land ((a : Nat) : Int) ((b : Nat) : Int)) = true ∧ has ((b : Nat) : Int) (land ((a : Nat) : Int) ((b : Nat) : Int)) = true := by decide +kernel
  obtain ⟨a, ha⟩ := Int.eq_ofNat_of_zero_le hb.1
  obtain ⟨b, hb'⟩ := Int.eq_ofNat_of_zero_le hg0
  have k := key ⟨a, by omega⟩ ⟨b, by omega⟩
  rw [ha, hb']
  exact ⟨k.1, by omega, k.2, by omega⟩

/-- Has, twice: by the program's andNot and by the law's or. -/
theorem has_iff (r need : Int) (h1 : 0 ≤ r) (h2 : r ≤ 255) (h3 : 0 ≤ need) (h4 : need ≤ 255) : ((need.toNat &&& (255 - r.toNat) : Nat) : Int) = 0 ↔ ((r.toNat ||| need.toNat : Nat) : Int) = r := by
  have key : ∀ a b : Fin 256, decide ((b : Nat) &&& (255 - (a : Nat)) = 0) = decide ((a : Nat) ||| (b : Nat) = (a : Nat)) := by decide +kernel
  obtain ⟨a, rfl⟩ := Int.eq_ofNat_of_zero_le h1
  obtain ⟨b, rfl⟩ := Int.eq_ofNat_of_zero_le h3
  have k := key ⟨a, by omega⟩ ⟨b, by omega⟩
  simp only [Int.toNat_natCast]
  rw [Int.natCast_eq_zero, Int.natCast_inj]
  exact decide_eq_decide.1 k
/-- p is what q has. -/
theorem within_iff (p q : Int) (h1 : 0 ≤ p) (h2 : p ≤ 255) (h3 : 0 ≤ q) (h4 : q ≤ 255) : ((p.toNat &&& (255 - q.toNat) : Nat) : Int) = 0 ↔ land p q = p := by
  have key : ∀ a b : Fin 256, decide ((a : Nat) &&& (255 - (b : Nat)) = 0) = decide ((a : Nat) &&& (b : Nat) = (a : Nat)) := by decide +kernel
  obtain ⟨a, rfl⟩ := Int.eq_ofNat_of_zero_le h1
  obtain ⟨b, rfl⟩ := Int.eq_ofNat_of_zero_le h3
  have k := key ⟨a, by omega⟩ ⟨b, by omega⟩
  unfold land
  simp only [Int.toNat_natCast]
  rw [Int.natCast_eq_zero, Int.natCast_inj]
  exact decide_eq_decide.1 k
end Go.Proofs.Ytiekpkkmiciakaa.Rt
