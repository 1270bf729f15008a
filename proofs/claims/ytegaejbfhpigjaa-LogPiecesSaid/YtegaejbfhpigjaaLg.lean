/- Logs: entries, how they lie in memory; the plain law. -/
import Derived.Test.YtegaejbfhpigjaaAuto
namespace Go.Proofs.Ytegaejbfhpigjaa
open Go.RowKit

section
variable {P : Program} {n : Nat} {w0 : World} {R : List Nat} {L : List (Nat × Value)} {M : List Asrt} {ty t t' : TypeId} {x : Operand}
theorem Yl_loadA_at {b o k : Nat} {C : Array Value} {e : TypeId} {fr : Nat × Nat} {vs : List Value} (hx : evl L x = some (.pointer (some ⟨b, o, none⟩))) (h : aggT P t = some k) (hm : Asrt.blk b (.cells C e fr) ∈ M) (hl : vs.length = k) (hc : ∀ i u, vs[i]? = some u → C[o + i]? = some u) :
    Yl P n w0 R (.load t x) ty L M (.agg vs.toArray) :=
  Yl_loadA vs hx h hl fun w hp j u hu => by
    rw [blk_add, cell_of_row w b _ C e fr (hp.own _ hm)]; exact hc j u hu
theorem Yl_str_hp {e cap : Nat} {A : Option Addr} {l : List UInt8} (hx : evl L x = some (.slice A l.length cap)) (hs : P.underlying t = some (.slice e)) (he : P.underlying e = some (.int .u8)) (hd : P.underlying t' = some .string)
    (hr : ∀ w, Hp w0 R M w → Rd w A l.length 1 (l.flatMap eU)) : Yl P n w0 R (.convert t t' x) ty L M (.string ⟨l.toArray⟩) := .mk fun a w hk hp => by
  cases A with
  | none =>
    have h0 : l.length = 0 := by
      rcases Nat.eq_zero_or_pos l.length with h | h
      · exact h
      · have := (hr w hp).some_ h; cases this
    have hn : l = [] := List.eq_nil_of_length_eq_zero h0
    subst hn
    have := run_convert_bytes_string (P := P) w t t' e none 0 cap hs he hd
    simp [execOp, hk.ev hx, this, Conv.bytesToString]
    rfl
  | some ad =>
    have := run_convert_bytes_back (P := P) w t t' e ad cap l hs he hd fun j hj => (hr w hp).cell j _ (eU_get l j hj)
    simp [execOp, hk.ev hx, this]
end

/-- An entry. -/
structure En where
  pos : Int
  stamp : Int
  client : Int
  id : Int
  body : List UInt8
deriving DecidableEq
/-- Where a body lies; its capacity. -/
abbrev Hd := Option Addr × Nat
abbrev Me := En × Hd
def bE (e : En) (h : Hd) : List Value := [.int .i64 e.pos, .int .i64 e.stamp, .int .i64 e.client, .int .i64 e.id, .slice h.1 e.body.length h.2]
def mE (m : Me) : List Value := bE m.1 m.2
theorem mE_len (m : Me) : (mE m).length = 5 := rfl
theorem mE_one (m : Me) : ∀ u ∈ mE m, u.oneCell' = true := List.all_eq_true.1 (show (mE m).all (·.oneCell') = true from rfl)
theorem mE_snoc (l : List Me) (x : Me) : (l ++ [x]).flatMap mE = l.flatMap mE ++ mE x := by simp
/-- An act. -/
structure Ac where
  kind : Int
  n : Int
  e : Me
def aE (a : Ac) : List Value := .int .i64 a.kind :: .int .i64 a.n :: mE a.e
theorem aE_len (a : Ac) : (aE a).length = 7 := rfl
theorem aE_e {l : List Ac} {i : Nat} {a : Ac} (ha : l[i]? = some a) : ∀ j u, (mE a.e)[j]? = some u → (l.flatMap aE)[i * 7 + 2 + j]? = some u := fun j u hu => by
  rw [Nat.add_assoc, Nat.add_comm 2 j]
  exact enc_atA aE_len ha (j + 2) u hu
/-- A body, owned. -/
def bA (m : Me) : Asrt := .row 5 1 (.slice m.2.1 m.1.body.length m.2.2) m.1.body.length (m.1.body.flatMap eU)
/-- A body, as it lies in a world. -/
def In (w : World) (m : Me) : Prop := Rd w m.2.1 m.1.body.length 1 (m.1.body.flatMap eU)
def Ins (w : World) (ms : List Me) : Prop := ∀ m ∈ ms, In w m
theorem Hp.in_old {w0 w : World} {M : List Asrt} (hp : Hp w0 [] M w) {m : Me} (hr : In w0 m) : In w m := hp.rd hr fun _ => List.not_mem_nil
theorem Hp.ins_old {w0 w : World} {M : List Asrt} (hp : Hp w0 [] M w) {ms : List Me} (h : Ins w0 ms) : Ins w ms := fun m hm => hp.in_old (h m hm)
theorem Hp.ins_bag {w0 w : World} {R : List Nat} {M : List Asrt} (hp : Hp w0 R M w) {ms : List Me} (hm : bag (ms.map bA) ∈ M) : Ins w ms := fun m h => hp.rdIn hm (List.mem_map.2 ⟨m, h, rfl⟩)
theorem Hp.in_row {w0 w : World} {R : List Nat} {M : List Asrt} (hp : Hp w0 R M w) {m : Me} (hm : bA m ∈ M) : In w m := hp.rowOf hm

namespace Lg
def eqE (a b : En) : Bool := decide (a.pos = b.pos) && decide (a.stamp = b.stamp) && decide (a.client = b.client) && decide (a.id = b.id) && decide (a.body = b.body)
theorem eqE_iff (a b : En) : eqE a b = decide (a = b) := by
  rw [← Bool.decide_coe (eqE a b), decide_eq_decide]
  unfold eqE
  simp only [Bool.and_eq_true, decide_eq_true_eq]
  constructor
  · rintro ⟨⟨⟨⟨h1, h2⟩, h3⟩, h4⟩, h5⟩
    cases a; cases b
    simp_all
  · rintro rfl
    exact ⟨⟨⟨⟨rfl, rfl⟩, rfl⟩, rfl⟩, rfl⟩
/-- Is a row of entries a beginning of another one? -/
def beg (a b : List En) : Bool := decide (a.length ≤ b.length) && decide (a = b.take a.length)
theorem beg_self (a : List En) : beg a a = true := by simp [beg]
theorem str_iff {l m : List UInt8} : ((⟨l.toArray⟩ : ByteArray) = ⟨m.toArray⟩) ↔ l = m := by
  constructor
  · intro h
    have := congrArg (fun b : ByteArray => b.data.toList) h
    simpa using this
  · rintro rfl; rfl

/-- Up to n from the place i (from 1) on. -/
def frm {α : Type} (l : List α) (i n : Int) : List α := if 1 ≤ i ∧ i ≤ (l.length : Int) ∧ 1 ≤ n then (l.drop (i.toNat - 1)).take n.toNat else []
theorem frm_map {α β : Type} (f : α → β) (l : List α) (i n : Int) : frm (l.map f) i n = (frm l i n).map f := by
  unfold frm
  rw [List.length_map]
  split <;> simp [List.map_drop, List.map_take]
theorem frm_no {α : Type} {l : List α} {i n : Int} (h : i < 1 ∨ (l.length : Int) < i ∨ n < 1) : frm l i n = [] := if_neg (by omega)
theorem frm_yes {α : Type} {l : List α} {i n : Int} {j k : Nat} (hi : i = (j : Int) + 1) (hj : j < l.length) (hn : 1 ≤ n) (hk : (k : Int) = min n ((l.length - j : Nat) : Int)) : frm l i n = (l.drop j).take k := by
  unfold frm
  rw [if_pos (by omega)]
  have e1 : i.toNat - 1 = j := by omega
  rw [e1]
  by_cases h : n.toNat ≤ l.length - j
  · congr 1; omega
  · rw [List.take_of_length_le (by rw [List.length_drop]; omega), List.take_of_length_le (by rw [List.length_drop]; omega)]
theorem frm_one {α : Type} (l : List α) (i : Int) : (frm l i 1).length ≤ 1 := by
  unfold frm
  split
  · rw [List.length_take]; exact Nat.min_le_left _ _
  · exact Nat.zero_le _
/-- No entry. -/
def zero : En := ⟨0, 0, 0, 0, []⟩
/-- The last one's stamp. -/
def stamp (l : List En) : Int := (l.getLast?.map (·.stamp)).getD 0
theorem stamp_at {l : List Me} {k : Nat} (hk : l.length = k + 1) : ∃ x : Me, l[k]? = some x ∧ stamp (l.map (·.1)) = x.1.stamp := by
  obtain ⟨x, hx⟩ : ∃ x, l[k]? = some x := ⟨l[k]'(by omega), List.getElem?_eq_getElem (by omega)⟩
  refine ⟨x, hx, ?_⟩
  have h1 : l.getLast? = some x := by rw [List.getLast?_eq_getElem?, hk]; exact hx
  simp [stamp, List.getLast?_map, h1]

/-! ### How much acts hold -/
def great : Nat → List Ac → Bool
  | _, [] => false
  | n, a :: l => decide (5000 < n + a.e.1.body.length + 50) || great (n + a.e.1.body.length + 50) l
theorem great_cons (n : Nat) (a : Ac) (l : List Ac) : great n (a :: l) = (decide (5000 < n + a.e.1.body.length + 50) || great (n + a.e.1.body.length + 50) l) := rfl
theorem great_no : ∀ {l : List Ac} {n : Nat}, great n l = false → n ≤ 5000 → n + 50 * l.length ≤ 5000 ∧ ∀ a ∈ l, a.e.1.body.length ≤ 5000
  | [], n, _, hn => ⟨by simpa using hn, fun a ha => by cases ha⟩
  | x :: l, n, h, hn => by
    rw [great_cons, Bool.or_eq_false_iff, decide_eq_false_iff_not] at h
    obtain ⟨h1, h2⟩ := great_no h.2 (by omega)
    refine ⟨by rw [List.length_cons]; omega, fun a ha => ?_⟩
    rcases List.mem_cons.1 ha with rfl | ha
    · omega
    · exact h2 a ha
theorem drop_at {α : Type} {l : List α} {i : Nat} {x : α} (h : l[i]? = some x) : l.drop i = x :: l.drop (i + 1) := by
  obtain ⟨hi, rfl⟩ := List.getElem?_eq_some_iff.1 h
  exact List.drop_eq_getElem_cons hi
/-! ### What an act makes of a log -/
def add (l : List En) (e : En) : List En × Int := if e.pos ≠ (l.length : Int) + 1 then (l, 230) else if e.stamp < stamp l then (l, 2) else (l ++ [e], 0)
def cut (l : List En) (sy n : Int) : (List En × Int) × Int := if n < 0 ∨ (l.length : Int) < n then ((l, sy), 2) else ((l.take n.toNat, min sy n), 0)
def fit (kind : Int) (e : En) (size stamp : Int) : En := if kind = 3 then { e with pos := size + 1, stamp := max e.stamp stamp } else e
/-- The last act's log, and how many are synced. -/
def step (kind n : Int) (e : En) (l : List En) (sy : Int) : List En × Int :=
  if 0 ≤ kind ∧ kind ≤ 3 then ((add l (fit kind e l.length (stamp l))).1, sy) else if kind = 4 then (l, l.length) else if kind = 5 then (cut l sy n).1 else (l, sy)
theorem add_len (l : List En) (e : En) : (add l e).1.length ≤ l.length + 1 := by
  unfold add
  split
  · exact Nat.le_succ _
  · split
    · exact Nat.le_succ _
    · rw [List.length_append]; exact Nat.le_refl _
theorem cut_len (l : List En) (sy n : Int) : (cut l sy n).1.1.length ≤ l.length := by
  unfold cut
  split
  · exact Nat.le_refl _
  · dsimp only; rw [List.length_take]; exact Nat.min_le_right _ _
theorem step_len (kind n : Int) (e : En) (l : List En) (sy : Int) : (step kind n e l sy).1.length ≤ l.length + 1 := by
  unfold step
  split
  · exact add_len _ _
  · split
    · exact Nat.le_succ _
    · split
      · exact Nat.le_trans (cut_len _ _ _) (Nat.le_succ _)
      · exact Nat.le_succ _
theorem fit_body (kind : Int) (e : En) (size st : Int) : (fit kind e size st).body = e.body := by
  unfold fit
  split <;> rfl
theorem step_mem {kind n : Int} {e : En} {l : List En} {sy : Int} {k : Nat} (hl : ∀ x ∈ l, x.body.length ≤ k) (he : e.body.length ≤ k) : ∀ x ∈ (step kind n e l sy).1, x.body.length ≤ k := fun x hx => by
  unfold step at hx
  split at hx
  · unfold add at hx
    dsimp only at hx
    split at hx
    · exact hl x hx
    · split at hx
      · exact hl x hx
      · rcases List.mem_append.1 hx with h | h
        · exact hl x h
        · rw [List.mem_singleton.1 h, fit_body]; exact he
  · split at hx
    · exact hl x hx
    · split at hx
      · unfold cut at hx
        split at hx
        · exact hl x hx
        · exact hl x (List.mem_of_mem_take hx)
      · exact hl x hx
/-- Is there an entry of a client and an id behind a position? -/
def has (l : List En) (client id behind : Int) : Bool := l.any fun e => decide (behind < e.pos) && decide (e.client = client) && decide (e.id = id)
end Lg
end Go.Proofs.Ytegaejbfhpigjaa
