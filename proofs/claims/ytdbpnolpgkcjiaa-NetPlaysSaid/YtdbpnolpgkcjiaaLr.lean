/- What packets and acts that are handed in read as. -/
import Derived.Test.YtdbpnolpgkcjiaaNt
import Derived.Test.YtdbpnolpgkcjiaaReadZ
namespace Go.Proofs.Ytdbpnolpgkcjiaa
open Go.RowKit Go.Conc

theorem iz_sl {w : World} {e : Sh} {A : Option Addr} {len cap : Nat} (h : Iz w (.sl e) (Value.slice A len cap).cells.toList) : len ≤ 140737488355328 ∧ ∃ xs : List Value, Rd w A len e.n xs ∧ ∀ i, i < len → Iz w e ((xs.drop (i * e.n)).take e.n) := by
  obtain ⟨A', len', cap', xs, h1, _, _, h2, h3, h4⟩ := h
  have e : [Value.slice A len cap] = [Value.slice A' len' cap'] := h1
  simp only [List.cons.injEq, Value.slice.injEq, and_true] at e
  obtain ⟨rfl, rfl, rfl⟩ := e
  exact ⟨h2, xs, h3, h4⟩
theorem iz_st {w : World} {sh : Sh} {cs : List Value} (h : Iz w sh (Value.agg cs.toArray).cells.toList) : Iz w sh cs := h
theorem iz_pair {w : World} {a b : Sh} {cs : List Value} (h : Iz w (.pair a b) cs) : ∃ c1 c2, cs = c1 ++ c2 ∧ Iz w a c1 ∧ Iz w b c2 := ⟨_, _, (List.take_append_drop a.n cs).symm, h.1, h.2⟩
abbrev shP : Sh := .sl (.int .u8)
abbrev shA : Sh := .pair (.int .i64) (.pair (.int .i64) (.pair (.sl shP) .unit))

theorem bytes_of {w : World} {A : Option Addr} {len : Nat} {xs : List Value} (hr : Rd w A len 1 xs) (hi : ∀ i, i < len → Iz w (.int .u8) ((xs.drop (i * 1)).take 1)) : ∃ l : List UInt8, l.length = len ∧ xs = l.flatMap eU := by
  obtain ⟨l, h1, h2, _⟩ := rows_enc (q := fun _ => True) eU_len len xs hr.len fun i hil => by
    obtain ⟨n, h1, h2⟩ := hi i hil
    obtain ⟨h3, h4⟩ := u8_wf h2
    refine ⟨UInt8.ofNat n.toNat, ?_, trivial⟩
    refine h1.trans ?_
    unfold eU
    rw [UInt8.toNat_ofNat_of_lt' (show n.toNat < 256 by omega), Int.toNat_of_nonneg h3]
  exact ⟨l, h1, h2⟩
theorem packet_of {w : World} {cs : List Value} (h : Iz w shP cs) : ∃ p : Pk, cs = pE p ∧ In w p ∧ p.1.length ≤ 140737488355328 := by
  obtain ⟨A, len, cap, xs, rfl, _, _, lz, hr, hi⟩ := h
  obtain ⟨l, rfl, rfl⟩ := bytes_of hr hi
  exact ⟨(l, (A, cap)), rfl, hr, lz⟩
theorem packets_of {w : World} {A : Option Addr} {len : Nat} {xs : List Value} (hr : Rd w A len 1 xs) (hi : ∀ i, i < len → Iz w shP ((xs.drop (i * 1)).take 1)) : ∃ l : List Pk, l.length = len ∧ xs = l.flatMap pE ∧ Ins w l ∧ ∀ p ∈ l, p.1.length ≤ 140737488355328 := by
  obtain ⟨l, h1, h2, h3⟩ := rows_enc (q := fun p : Pk => In w p ∧ p.1.length ≤ 140737488355328) pE_len len xs hr.len fun i hil => packet_of (hi i hil)
  exact ⟨l, h1, h2, fun x hx => (h3 x hx).1, fun x hx => (h3 x hx).2⟩
theorem act_of {w : World} {cs : List Value} (h : Iz w shA cs) : ∃ a : Ac, cs = aE a ∧ ArgIn w a ∧ a.l.length ≤ 140737488355328 ∧ ∀ p ∈ a.l, p.1.length ≤ 140737488355328 := by
  obtain ⟨_, _, rfl, ⟨a, rfl, _⟩, g1⟩ := iz_pair h
  obtain ⟨_, _, rfl, ⟨b, rfl, _⟩, g2⟩ := iz_pair g1
  obtain ⟨_, _, rfl, ⟨A, len, cap, xs, rfl, _, _, lz, hr, hi⟩, g3⟩ := iz_pair g2
  obtain rfl : _ = [] := g3
  obtain ⟨l, rfl, rfl, h2, h3⟩ := packets_of hr hi
  exact ⟨⟨a, b, l, (A, cap)⟩, rfl, ⟨hr, h2⟩, lz, h3⟩
theorem acts_of {w : World} {A : Option Addr} {len : Nat} {xs : List Value} (hr : Rd w A len 3 xs) (hi : ∀ i, i < len → Iz w shA ((xs.drop (i * 3)).take 3)) : ∃ l : List Ac, l.length = len ∧ xs = l.flatMap aE ∧ (∀ a ∈ l, ArgIn w a) ∧ (∀ a ∈ l, a.l.length ≤ 140737488355328) ∧ ∀ a ∈ l, ∀ p ∈ a.l, p.1.length ≤ 140737488355328 := by
  obtain ⟨l, h1, h2, h3⟩ := rows_enc (q := fun a : Ac => ArgIn w a ∧ a.l.length ≤ 140737488355328 ∧ ∀ p ∈ a.l, p.1.length ≤ 140737488355328) aE_len len xs hr.len fun i hil => act_of (hi i hil)
  exact ⟨l, h1, h2, fun a h => (h3 a h).1, fun a h => (h3 a h).2.1, fun a h => (h3 a h).2.2⟩
theorem ints_of {w : World} {A : Option Addr} {len : Nat} {xs : List Value} (hr : Rd w A len 1 xs) (hi : ∀ i, i < len → Iz w (.int .i64) ((xs.drop (i * 1)).take 1)) : ∃ l : List Int, l.length = len ∧ xs = l.flatMap (eI .i64) := by
  obtain ⟨l, h1, h2, _⟩ := rows_enc (q := fun _ => True) (eI_len .i64) len xs hr.len fun i hil => by
    obtain ⟨n, h1, _⟩ := hi i hil
    exact ⟨n, h1, trivial⟩
  exact ⟨l, h1, h2⟩
end Go.Proofs.Ytdbpnolpgkcjiaa
