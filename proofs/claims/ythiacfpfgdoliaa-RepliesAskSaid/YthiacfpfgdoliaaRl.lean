/- Tables of replies: how they lie in memory; the plain law. -/
import Derived.Test.YthiacfpfgdoliaaAuto
namespace Go.Proofs.Ythiacfpfgdoliaa
open Go.RowKit

section
variable {P : Program}
theorem EqR_ints {t : TypeId} {d m : Nat} {k : IntKind} {e : TypeId} (ht : P.underlying t = some (.array m e)) (he : P.underlying e = some (.int k)) (hsz : sizT P e = some 1) (f g : Nat → Int) :
    EqR P (d + 2) t (.agg ((List.range m).map fun i => Value.int k (f i)).toArray) (.agg ((List.range m).map fun i => Value.int k (g i)).toArray) ((List.range m).all fun i => decide (f i = g i)) := .mk fun w => by
  have hs : ∀ w, (sizeOf e).run P w = .ok 1 w := by
    intro w
    obtain ⟨inf, hi, hz⟩ := Option.map_eq_some_iff.1 hsz
    simp [sizeOf, typeInfo, hi, hz]
  have hr : (List.range m).all (fun i => decide (f i = g i)) = (List.range' 0 m 1).all fun i => decide (f i = g i) := by rw [List.range_eq_range']
  rw [hr, Op.equalIn]
  simp only [Sem.run_bind, run_underlying ht, Result.andThen_ok, hs, Std.Legacy.Range.forIn_eq_forIn_range', Std.Legacy.Range.size, Nat.sub_zero, Nat.add_sub_cancel, Nat.div_one]
  have hl : ∀ i ∈ List.range' 0 m 1, i < m := fun i hi => by simpa using (List.mem_range'_1.1 hi).2
  generalize List.range' 0 m 1 = l at hl ⊢
  induction l with
  | nil => simp
  | cons i l ih =>
    have hi : i < m := hl i (by simp)
    have px : (part e ((List.range m).map fun i => Value.int k (f i)).toArray (i * 1)).run P w = .ok (.int k (f i)) w := by
      simp [part, isAgg, run_underlying he, hi]
    have py : (part e ((List.range m).map fun i => Value.int k (g i)).toArray (i * 1)).run P w = .ok (.int k (g i)) w := by
      simp [part, isAgg, run_underlying he, hi]
    have pe : (Op.equalIn (d + 1) e (.int k (f i)) (.int k (g i))).run P w = .ok (decide (f i = g i)) w := (EqR_int he).run w
    simp only [List.forIn_cons, Sem.run_bind, px, py, pe, Result.andThen_ok, List.all_cons]
    cases hb : decide (f i = g i)
    · simp
    · simp only [Bool.not_true, Bool.false_eq_true, if_false, Sem.run_pure, Result.andThen_ok, Bool.true_and]
      exact ih fun j hj => hl j (by simp [hj])

variable {n : Nat} {w0 : World} {R : List Nat} {L : List (Nat × Value)} {M : List Asrt} {ty : TypeId} {K : List (Nat × Value) → List Asrt → Prop}
theorem Yl_loadA_at {b o k : Nat} {C : Array Value} {e t : TypeId} {fr : Nat × Nat} {x : Operand} {vs : List Value} (hx : evl L x = some (.pointer (some ⟨b, o, none⟩))) (h : aggT P t = some k) (hm : Asrt.blk b (.cells C e fr) ∈ M) (hl : vs.length = k) (hc : ∀ i u, vs[i]? = some u → C[o + i]? = some u) :
    Yl P n w0 R (.load t x) ty L M (.agg vs.toArray) :=
  Yl_loadA vs hx h hl fun w hp j u hu => by rw [blk_add, cell_of_row w b _ C e fr (hp.own _ hm)]; exact hc j u hu
/-- A callee that leaves new things of which more is known. -/
theorem Ef_callNX {f : FuncId} {args : Array Operand} {ats : Array TypeId} {vals : List Value} {d : Nat} {β : Type} {V : β → Value} {N0 : β → List Asrt} {φ : β → Prop} (hd : Nat.blt d n = true) (ha : evls L args.toList = some vals) (hen : Enters P f)
    (hc : ∀ w, Hp w0 R M w → Sp P f vals w [] (fun v N => ∃ z : β, φ z ∧ v = V z ∧ N = N0 z)) (h : ∀ z, φ z → K ((d, V z) :: L) (N0 z ++ M)) : Ef P n w0 R (some d) (.call { callee := .value (.func f), args := args, argTypes := ats }) ty L M K :=
  Ef_call hd ha hen hc fun v N ⟨z, h0, h1, h2⟩ => by subst h1 h2; exact h z h0
end

/-- A link's cells. -/
def lkv (n : Nat → Int) : List Value := [
  .int .i64 (n 0), .int .i64 (n 1), .int .u8 (n 2), .int .i64 (n 3), .int .i64 (n 4), .int .i64 (n 5), .int .i64 (n 6), .int .u8 (n 7),
  .int .u8 (n 8), .int .u8 (n 9), .int .u8 (n 10), .int .u8 (n 11), .int .u8 (n 12), .int .u8 (n 13), .int .u8 (n 14), .int .u8 (n 15),
  .int .u8 (n 16), .int .u8 (n 17), .int .u8 (n 18), .int .u8 (n 19), .int .u8 (n 20), .int .u8 (n 21), .int .u8 (n 22), .int .u8 (n 23),
  .int .u8 (n 24), .int .u8 (n 25), .int .u8 (n 26), .int .u8 (n 27), .int .u8 (n 28), .int .u8 (n 29), .int .u8 (n 30), .int .u8 (n 31),
  .int .u8 (n 32), .int .u8 (n 33), .int .u8 (n 34), .int .u8 (n 35), .int .u8 (n 36), .int .u8 (n 37), .int .u8 (n 38), .int .u8 (n 39),
  .int .u8 (n 40), .int .u8 (n 41), .int .u8 (n 42), .int .u8 (n 43), .int .u8 (n 44), .int .u8 (n 45), .int .u8 (n 46), .int .u8 (n 47),
  .int .u8 (n 48), .int .u8 (n 49), .int .u8 (n 50), .int .u8 (n 51), .int .u8 (n 52), .int .u8 (n 53), .int .u8 (n 54), .int .u8 (n 55),
  .int .u8 (n 56), .int .u8 (n 57), .int .u8 (n 58), .int .u8 (n 59), .int .u8 (n 60), .int .u8 (n 61), .int .u8 (n 62), .int .u8 (n 63),
  .int .u8 (n 64), .int .u8 (n 65), .int .u8 (n 66), .int .u8 (n 67), .int .u8 (n 68), .int .u8 (n 69), .int .u8 (n 70)]
/-- A reply. -/
structure Rp where
  err : Int
  val : ByteArray
  keys : List ByteArray
  n : Int
  lk : Nat → Int
/-- What a client was told last. -/
structure La where
  c : Int
  id : Int
  r : Rp
/-- Where a reply's keys lie; their capacity. -/
abbrev Hd := Option Addr × Nat
abbrev Me := La × Hd

def kE (s : ByteArray) : List Value := [.string s]
theorem kE_len (x : ByteArray) : (kE x).length = 1 := rfl
theorem kE_one (x : ByteArray) : ∀ u ∈ kE x, u.oneCell' = true := fun u hu => by
  simp [kE] at hu
  subst hu; rfl
theorem kE_snoc (l : List ByteArray) (x : ByteArray) : (l ++ [x]).flatMap kE = l.flatMap kE ++ [.string x] := by simp [kE]
def rE (r : Rp) (h : Hd) : List Value := .int .i64 r.err :: .string r.val :: .slice h.1 r.keys.length h.2 :: .int .i64 r.n :: lkv r.lk
def mE (m : Me) : List Value := .int .i64 m.1.c :: .int .i64 m.1.id :: rE m.1.r m.2
theorem mE_len (m : Me) : (mE m).length = 77 := rfl
theorem lkv_one (n : Nat → Int) : ∀ u ∈ lkv n, u.oneCell' = true := List.all_eq_true.1 (show (lkv n).all (·.oneCell') = true from rfl)
theorem rE_one (r : Rp) (h : Hd) : ∀ u ∈ rE r h, u.oneCell' = true := List.all_eq_true.1 (show (rE r h).all (·.oneCell') = true from rfl)
theorem mE_one (m : Me) : ∀ u ∈ mE m, u.oneCell' = true := List.all_eq_true.1 (show (mE m).all (·.oneCell') = true from rfl)
theorem mE_snoc (l : List Me) (x : Me) : (l ++ [x]).flatMap mE = l.flatMap mE ++ mE x := by simp
theorem rE_lk (r : Rp) (h : Hd) : ∀ i u, (lkv r.lk)[i]? = some u → (rE r h).toArray[4 + i]? = some u := fun i u hu => by
  rw [List.getElem?_toArray, Nat.add_comm]; exact hu
theorem mE_rE (m : Me) : ∀ i u, (rE m.1.r m.2)[i]? = some u → (mE m).toArray[2 + i]? = some u := fun i u hu => by
  rw [List.getElem?_toArray, Nat.add_comm]; exact hu
/-- A reply's keys, owned. -/
def kA (r : Rp) (h : Hd) : Asrt := .row 9 1 (.slice h.1 r.keys.length h.2) r.keys.length (r.keys.flatMap kE)
def mA (m : Me) : Asrt := kA m.1.r m.2
/-- A reply's keys, as they lie in a world. -/
def In (w : World) (r : Rp) (h : Hd) : Prop := Rd w h.1 r.keys.length 1 (r.keys.flatMap kE)
/-- All keys of a table. -/
def Ins (w : World) (ms : List Me) : Prop := ∀ m ∈ ms, In w m.1.r m.2
theorem Hp.ins_old {w0 w : World} {M : List Asrt} (hp : Hp w0 [] M w) {ms : List Me} (h : Ins w0 ms) : Ins w ms := fun m hm => hp.rd (h m hm) fun _ => List.not_mem_nil
theorem Hp.in_old {w0 w : World} {M : List Asrt} (hp : Hp w0 [] M w) {r : Rp} {h : Hd} (hr : In w0 r h) : In w r h := hp.rd hr fun _ => List.not_mem_nil
theorem Hp.ins_bag {w0 w : World} {R : List Nat} {M : List Asrt} (hp : Hp w0 R M w) {ms : List Me} (hm : bag (ms.map mA) ∈ M) : Ins w ms := fun m h => hp.rdIn hm (List.mem_map.2 ⟨m, h, rfl⟩)
theorem Hp.in_row {w0 w : World} {R : List Nat} {M : List Asrt} (hp : Hp w0 R M w) {r : Rp} {h : Hd} (hm : kA r h ∈ M) : In w r h := hp.rowOf hm

namespace Rl
def z : Rp := ⟨0, ByteArray.empty, [], 0, fun _ => 0⟩
def eqL (a b : Nat → Int) : Bool := (List.range 71).all fun i => decide (a i = b i)
def eqR (a b : Rp) : Bool := decide (a.err = b.err) && decide (a.val = b.val) && decide (a.keys = b.keys) && decide (a.n = b.n) && eqL a.lk b.lk
def eqA (a b : La) : Bool := decide (a.c = b.c) && decide (a.id = b.id) && eqR a.r b.r
/-- Are the first ones the same? -/
def eqTo (a b : List La) (n : Nat) : Bool := (List.range n).all fun i => match a[i]?, b[i]? with | some x, some y => eqA x y | _, _ => true
def same (a b : List La) : Bool := decide (a.length = b.length) && eqTo a b a.length
theorem eqL_self (a : Nat → Int) : eqL a a = true := by simp [eqL]
theorem eqR_self (a : Rp) : eqR a a = true := by simp [eqR, eqL_self]
theorem eqA_self (a : La) : eqA a a = true := by simp [eqA, eqR_self]
theorem eqTo_step {a b : List La} {j : Nat} {x y : La} (h : eqTo a b j = true) (hx : a[j]? = some x) (hy : b[j]? = some y) (hok : eqA x y = true) : eqTo a b (j + 1) = true := by
  unfold eqTo at h ⊢
  rw [List.range_succ, List.all_append, h]
  simp [hx, hy, hok]
theorem eqTo_no {a b : List La} {j n : Nat} {x y : La} (hx : a[j]? = some x) (hy : b[j]? = some y) (hj : j < n) (hok : eqA x y = false) : eqTo a b n = false := by
  rw [Bool.eq_false_iff]
  intro h
  unfold eqTo at h
  have := List.all_eq_true.1 h j (List.mem_range.2 hj)
  rw [hx, hy] at this
  have h2 : eqA x y = true := this
  rw [hok] at h2
  cases h2
theorem same_self (a : List La) : same a a = true := by
  unfold same eqTo
  simp only [decide_true, Bool.true_and, List.all_eq_true]
  intro i _
  cases a[i]? with
  | none => rfl
  | some x => exact eqA_self x

/-! ### Tables -/
def fits (c i : Int) : Bool := decide (0 ≤ c ∧ c < 4 ∧ 1 ≤ i ∧ i ≤ 1099511627776)
def okB (l : List La) (j : Nat) (x : La) : Bool := fits x.c x.id && (decide (j = 0) || (match l[j - 1]? with | some y => decide (y.c < x.c) | none => true))
def okAll (l : List La) (n : Nat) : Bool := (List.range n).all fun j => match l[j]? with | some x => okB l j x | none => true
def may (l : List La) : Bool := okAll l l.length
theorem okAll_step {l : List La} {j : Nat} {x : La} (h : okAll l j = true) (hx : l[j]? = some x) (hok : okB l j x = true) : okAll l (j + 1) = true := by
  unfold okAll at h ⊢
  rw [List.range_succ, List.all_append, h]
  simp [hx, hok]
theorem okAll_at {l : List La} {n j : Nat} {x : La} (h : okAll l n = true) (hj : j < n) (hx : l[j]? = some x) : okB l j x = true := by
  unfold okAll at h
  have := List.all_eq_true.1 h j (List.mem_range.2 hj)
  rw [hx] at this
  exact this
theorem may_no {l : List La} {j : Nat} {x : La} (hx : l[j]? = some x) (hok : okB l j x = false) : may l = false := by
  rw [Bool.eq_false_iff]
  intro h
  have := okAll_at h (List.getElem?_eq_some_iff.1 hx).1 hx
  rw [hok] at this
  cases this
/-- A table. -/
structure May (l : List La) : Prop where
  ok : ∀ x ∈ l, fits x.c x.id = true
  so : l.Pairwise fun a b => a.c < b.c
theorem may_iff (l : List La) : may l = true ↔ May l := by
  constructor
  · intro h
    refine ⟨fun x hx => ?_, ?_⟩
    · obtain ⟨j, hj, rfl⟩ := List.mem_iff_getElem.1 hx
      have := okAll_at h hj (List.getElem?_eq_getElem hj)
      unfold okB at this
      simp only [Bool.and_eq_true] at this
      exact this.1
    · rw [List.pairwise_iff_getElem]
      intro i j hi hj hij
      induction j with
      | zero => omega
      | succ j ih =>
        have h1 := okAll_at h hj (List.getElem?_eq_getElem hj)
        have h2 : (l[j]'(by omega)).c < (l[j + 1]).c := by
          unfold okB at h1
          rw [Nat.add_sub_cancel, List.getElem?_eq_getElem (show j < l.length by omega)] at h1
          simp at h1
          exact h1.2
        rcases Nat.lt_or_eq_of_le (Nat.le_of_lt_succ hij) with h3 | h3
        · exact Int.lt_trans (ih (by omega) h3) h2
        · subst h3; exact h2
  · intro h
    unfold may okAll
    rw [List.all_eq_true]
    intro j _
    cases hj : l[j]? with
    | none => rfl
    | some x =>
      unfold okB
      dsimp only
      rw [h.ok x (List.mem_of_getElem? hj)]
      cases j with
      | zero => simp
      | succ j =>
        obtain ⟨hj', rfl⟩ := List.getElem?_eq_some_iff.1 hj
        rw [Nat.add_sub_cancel, List.getElem?_eq_getElem (show j < l.length by omega)]
        have := List.pairwise_iff_getElem.1 h.so j (j + 1) (by omega) hj' (by omega)
        simp [this]

/-- The place of the first one that fits; less than nothing: there is none. -/
def idx (p : Me → Bool) (m : List Me) : Int := match m.findIdx? p with
  | some i => (i : Int)
  | none => -1
theorem idx_t {p : Me → Bool} {m : List Me} {i : Nat} {x : Me} (h : m[i]? = some x) (hp : p x = true) (hno : ∀ y ∈ m.take i, p y = false) : idx p m = (i : Int) := by
  unfold idx
  have : m.findIdx? p = some i := by
    obtain ⟨hi, he⟩ := List.getElem?_eq_some_iff.1 h
    rw [List.findIdx?_eq_some_iff_getElem]
    refine ⟨hi, by rw [he]; exact hp, fun j hj => ?_⟩
    have := hno m[j] (List.mem_take_iff_getElem.2 ⟨j, by omega, rfl⟩)
    simp [this]
  rw [this]
theorem idx_f {p : Me → Bool} {m : List Me} (h : ∀ y ∈ m, p y = false) : idx p m = -1 := by
  unfold idx
  rw [List.findIdx?_eq_none_iff.2 h]
theorem idx_or (p : Me → Bool) (m : List Me) : (idx p m = -1 ∧ ∀ y ∈ m, p y = false) ∨ ∃ (i : Nat) (x : Me), m[i]? = some x ∧ p x = true ∧ (∀ y ∈ m.take i, p y = false) ∧ idx p m = (i : Int) := by
  cases hf : m.findIdx? p with
  | none =>
    rw [List.findIdx?_eq_none_iff] at hf
    exact .inl ⟨idx_f hf, hf⟩
  | some i =>
    obtain ⟨hi, h1, h2⟩ := List.findIdx?_eq_some_iff_getElem.1 hf
    have hx : m[i]? = some m[i] := List.getElem?_eq_getElem hi
    have hno : ∀ y ∈ m.take i, p y = false := fun y hy => by
      obtain ⟨j, hj, rfl⟩ := List.mem_take_iff_getElem.1 hy
      have := h2 j (by omega)
      simpa using this
    exact .inr ⟨i, m[i], hx, h1, hno, idx_t hx h1 hno⟩

/-- A client's last one. -/
def find (m : List Me) (c : Int) : Option Me := m.find? fun x => decide (x.1.c = c)
def zm : Me := (⟨0, 0, z⟩, (none, 0))
def ofM (m : List Me) (c : Int) : Int := ((find m c).getD zm).1.id
theorem find_no {m : List Me} {c : Int} (h : ∀ x ∈ m, ¬ x.1.c = c) : find m c = none := List.find?_eq_none.2 fun x hx => by simpa using h x hx
theorem find_at {m : List Me} {c : Int} {i : Nat} {x : Me} (hx : m[i]? = some x) (hc : x.1.c = c) (h : ∀ y ∈ m.take i, ¬ y.1.c = c) : find m c = some x := by
  unfold find
  obtain ⟨hi, rfl⟩ := List.getElem?_eq_some_iff.1 hx
  rw [List.find?_eq_some_iff_append]
  refine ⟨by simpa using hc, m.take i, m.drop (i + 1), ?_, fun y hy => by simpa using h y hy⟩
  rw [← List.drop_eq_getElem_cons hi, List.take_append_drop]
end Rl
end Go.Proofs.Ythiacfpfgdoliaa
