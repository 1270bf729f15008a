/- What acts that are handed in read as. -/
import Derived.Test.YtegaejbfhpigjaaLg
import Derived.Test.YtegaejbfhpigjaaReadZ
namespace Go.Proofs.Ytegaejbfhpigjaa
open Go.RowKit

theorem iz_sl {w : World} {e : Sh} {A : Option Addr} {len cap : Nat} (h : Iz w (.sl e) (Value.slice A len cap).cells.toList) : len ≤ 140737488355328 ∧ ∃ xs : List Value, Rd w A len e.n xs ∧ ∀ i, i < len → Iz w e ((xs.drop (i * e.n)).take e.n) := by
  obtain ⟨A', len', cap', xs, h1, _, _, h2, h3, h4⟩ := h
  have e : [Value.slice A len cap] = [Value.slice A' len' cap'] := h1
  simp only [List.cons.injEq, Value.slice.injEq, and_true] at e
  obtain ⟨rfl, rfl, rfl⟩ := e
  exact ⟨h2, xs, h3, h4⟩
theorem iz_st {w : World} {sh : Sh} {cs : List Value} (h : Iz w sh (Value.agg cs.toArray).cells.toList) : Iz w sh cs := h
theorem iz_pair {w : World} {a b : Sh} {cs : List Value} (h : Iz w (.pair a b) cs) : ∃ c1 c2, cs = c1 ++ c2 ∧ Iz w a c1 ∧ Iz w b c2 := ⟨_, _, (List.take_append_drop a.n cs).symm, h.1, h.2⟩
abbrev shE : Sh := .pair (.int .i64) (.pair (.int .i64) (.pair (.int .i64) (.pair (.int .i64) (.pair (.sl (.int .u8)) .unit))))
abbrev shA : Sh := .pair (.int .i64) (.pair (.int .i64) (.pair shE .unit))

theorem bytes_of {w : World} {A : Option Addr} {len : Nat} {xs : List Value} (hr : Rd w A len 1 xs) (hi : ∀ i, i < len → Iz w (.int .u8) ((xs.drop (i * 1)).take 1)) : ∃ l : List UInt8, l.length = len ∧ xs = l.flatMap eU := by
  obtain ⟨l, h1, h2, _⟩ := rows_enc (q := fun _ => True) eU_len len xs hr.len fun i hil => by
    obtain ⟨n, h1, h2⟩ := hi i hil
    obtain ⟨h3, h4⟩ := u8_wf h2
    refine ⟨UInt8.ofNat n.toNat, ?_, trivial⟩
    refine h1.trans ?_
    unfold eU
    rw [UInt8.toNat_ofNat_of_lt' (show n.toNat < 256 by omega), Int.toNat_of_nonneg h3]
  exact ⟨l, h1, h2⟩
theorem entry_of {w : World} {cs : List Value} (h : Iz w shE cs) : ∃ m : Me, cs = mE m ∧ In w m ∧ m.1.body.length ≤ 140737488355328 := by
  obtain ⟨_, _, rfl, ⟨a, rfl, _⟩, g1⟩ := iz_pair h
  obtain ⟨_, _, rfl, ⟨b, rfl, _⟩, g2⟩ := iz_pair g1
  obtain ⟨_, _, rfl, ⟨c, rfl, _⟩, g3⟩ := iz_pair g2
  obtain ⟨_, _, rfl, ⟨d, rfl, _⟩, g4⟩ := iz_pair g3
  obtain ⟨_, _, rfl, ⟨A, len, cap, xs, rfl, _, _, lz, hr, hi⟩, g5⟩ := iz_pair g4
  obtain rfl : _ = [] := g5
  obtain ⟨l, rfl, rfl⟩ := bytes_of hr hi
  exact ⟨(⟨a, b, c, d, l⟩, (A, cap)), rfl, hr, lz⟩
theorem act_of {w : World} {cs : List Value} (h : Iz w shA cs) : ∃ a : Ac, cs = aE a ∧ In w a.e ∧ a.e.1.body.length ≤ 140737488355328 := by
  obtain ⟨_, _, rfl, ⟨a, rfl, _⟩, g1⟩ := iz_pair h
  obtain ⟨_, _, rfl, ⟨b, rfl, _⟩, g2⟩ := iz_pair g1
  obtain ⟨_, _, rfl, g3, g4⟩ := iz_pair g2
  obtain ⟨m, rfl, h1, h2⟩ := entry_of g3
  obtain rfl : _ = [] := g4
  refine ⟨⟨a, b, m⟩, ?_, h1, h2⟩
  rw [List.append_nil]
  rfl
theorem acts_of {w : World} {A : Option Addr} {len : Nat} {xs : List Value} (hr : Rd w A len 7 xs) (hi : ∀ i, i < len → Iz w shA ((xs.drop (i * 7)).take 7)) : ∃ l : List Ac, l.length = len ∧ xs = l.flatMap aE ∧ Ins w (l.map (·.e)) ∧ ∀ a ∈ l, a.e.1.body.length ≤ 140737488355328 := by
  obtain ⟨l, h1, h2, h3⟩ := rows_enc (q := fun a : Ac => In w a.e ∧ a.e.1.body.length ≤ 140737488355328) aE_len len xs hr.len fun i hil => act_of (hi i hil)
  refine ⟨l, h1, h2, fun x hx => ?_, fun x hx => (h3 x hx).2⟩
  obtain ⟨a, ha, rfl⟩ := List.mem_map.1 hx
  exact (h3 a ha).1
end Go.Proofs.Ytegaejbfhpigjaa
