/- What tables and replies that are handed in read as. -/
import Derived.Test.YthiacfpfgdoliaaRl
import Derived.Test.YthiacfpfgdoliaaReadZ
namespace Go.Proofs.Ythiacfpfgdoliaa
open Go.RowKit

theorem iz_sl {w : World} {e : Sh} {A : Option Addr} {len cap : Nat} (h : Iz w (.sl e) (Value.slice A len cap).cells.toList) : len ≤ 140737488355328 ∧ ∃ xs : List Value, Rd w A len e.n xs ∧ ∀ i, i < len → Iz w e ((xs.drop (i * e.n)).take e.n) := by
  obtain ⟨A', len', cap', xs, h1, _, _, h2, h3, h4⟩ := h
  have e : [Value.slice A len cap] = [Value.slice A' len' cap'] := h1
  simp only [List.cons.injEq, Value.slice.injEq, and_true] at e
  obtain ⟨rfl, rfl, rfl⟩ := e
  exact ⟨h2, xs, h3, h4⟩
theorem iz_st {w : World} {sh : Sh} {cs : List Value} (h : Iz w sh (Value.agg cs.toArray).cells.toList) : Iz w sh cs := h
theorem iz_pair {w : World} {a b : Sh} {cs : List Value} (h : Iz w (.pair a b) cs) : ∃ c1 c2, cs = c1 ++ c2 ∧ Iz w a c1 ∧ Iz w b c2 := ⟨_, _, (List.take_append_drop a.n cs).symm, h.1, h.2⟩

/-- The kinds of a shape that is made of integers. -/
def kinds : Sh → Option (List IntKind)
  | .int k => some [k]
  | .arr n (.int k) => some (List.replicate n k)
  | .unit => some []
  | .pair a b => match kinds a, kinds b with | some x, some y => some (x ++ y) | _, _ => none
  | _ => none
theorem kinds_of {w : World} : ∀ (sh : Sh) (ks : List IntKind) (cs : List Value), kinds sh = some ks → Iz w sh cs → cs.length = ks.length ∧ ∀ i, ∃ m : Int, i < ks.length → cs[i]? = some (.int (ks.getD i .i64) m)
  | .int k, ks, cs, hk, h => by
    obtain rfl := Option.some.inj hk
    obtain ⟨n, rfl, _⟩ := h
    exact ⟨rfl, fun i => ⟨n, fun hi => by
      have : i = 0 := by simpa using hi
      subst this; rfl⟩⟩
  | .arr n (.int k), ks, cs, hk, h => by
    obtain rfl := Option.some.inj hk
    obtain ⟨h1, h2⟩ := h
    have h1 : cs.length = n * 1 := h1
    refine ⟨by rw [h1, List.length_replicate, Nat.mul_one], fun i => ?_⟩
    by_cases hi : i < n
    · obtain ⟨m, h3, _⟩ := h2 i hi
      have h3 : (cs.drop (i * 1)).take 1 = [.int k m] := h3
      refine ⟨m, fun _ => ?_⟩
      have h4 : ((cs.drop (i * 1)).take 1)[0]? = some (.int k m) := by rw [h3]; rfl
      rw [List.getElem?_take_of_lt (by decide), List.getElem?_drop, Nat.mul_one, Nat.add_zero] at h4
      rw [h4, List.getD_eq_getElem?_getD, List.getElem?_replicate, if_pos hi]; rfl
    · exact ⟨0, fun h => absurd (by simpa using h) hi⟩
  | .unit, ks, cs, hk, h => by
    obtain rfl := Option.some.inj hk
    have h : cs = [] := h
    subst h
    exact ⟨rfl, fun i => ⟨0, fun h => absurd h (Nat.not_lt_zero _)⟩⟩
  | .pair a b, ks, cs, hk, h => by
    obtain ⟨c1, c2, rfl, h1, h2⟩ := iz_pair h
    unfold kinds at hk
    split at hk
    · rename_i x y hx hy
      obtain rfl := Option.some.inj hk
      obtain ⟨g1, g2⟩ := kinds_of a x c1 hx h1
      obtain ⟨g3, g4⟩ := kinds_of b y c2 hy h2
      refine ⟨by rw [List.length_append, List.length_append, g1, g3], fun i => ?_⟩
      by_cases hi : i < x.length
      · obtain ⟨m, hm⟩ := g2 i
        refine ⟨m, fun _ => ?_⟩
        rw [List.getElem?_append_left (by omega), hm hi, List.getD_eq_getElem?_getD, List.getD_eq_getElem?_getD, List.getElem?_append_left hi]
      · obtain ⟨m, hm⟩ := g4 (i - x.length)
        refine ⟨m, fun hl => ?_⟩
        rw [List.length_append] at hl
        rw [List.getElem?_append_right (by omega), g1, hm (by omega), List.getD_eq_getElem?_getD, List.getD_eq_getElem?_getD, List.getElem?_append_right (by omega)]
    · cases hk
  | .arr _ .bool, _, _, hk, _ => by cases hk
  | .arr _ .str, _, _, hk, _ => by cases hk
  | .arr _ (.sl _), _, _, hk, _ => by cases hk
  | .arr _ (.arr _ _), _, _, hk, _ => by cases hk
  | .arr _ .unit, _, _, hk, _ => by cases hk
  | .arr _ (.pair _ _), _, _, hk, _ => by cases hk
  | .bool, _, _, hk, _ => by cases hk
  | .str, _, _, hk, _ => by cases hk
  | .sl _, _, _, hk, _ => by cases hk

/-- The shapes. -/
abbrev shL : Sh := .pair (.int .i64) (.pair (.int .i64) (.pair (.int .u8) (.pair (.int .i64) (.pair (.int .i64) (.pair (.int .i64) (.pair (.int .i64) (.pair (.arr 32 (.int .u8)) (.pair (.arr 32 (.int .u8)) .unit))))))))
abbrev shR : Sh := .pair (.int .i64) (.pair .str (.pair (.sl .str) (.pair (.int .i64) (.pair shL .unit))))
abbrev shM : Sh := .pair (.int .i64) (.pair (.int .i64) (.pair shR .unit))

theorem link_of {w : World} {cs : List Value} (h : Iz w shL cs) : ∃ n, cs = lkv n := by
  obtain ⟨h1, h2⟩ := kinds_of shL _ cs rfl h
  obtain ⟨n, hn⟩ := Classical.axiomOfChoice h2
  refine ⟨n, ?_⟩
  have h1 : cs.length = 71 := h1
  have e : lkv n = (List.range 71).map fun i => Value.int (((kinds shL).getD []).getD i .i64) (n i) := rfl
  rw [e]
  apply List.ext_getElem?
  intro i
  by_cases hi : i < 71
  · rw [hn i hi, List.getElem?_map, List.getElem?_range hi]; rfl
  · rw [List.getElem?_eq_none (by omega), List.getElem?_eq_none (by rw [List.length_map, List.length_range]; omega)]
theorem reply_of {w : World} {cs : List Value} (h : Iz w shR cs) : ∃ (r : Rp) (z : Hd), cs = rE r z ∧ In w r z ∧ r.keys.length ≤ 140737488355328 := by
  obtain ⟨_, _, rfl, ⟨e, rfl, _⟩, g1⟩ := iz_pair h
  obtain ⟨_, _, rfl, ⟨s, rfl, _⟩, g2⟩ := iz_pair g1
  obtain ⟨_, _, rfl, ⟨A, len, cap, xs, rfl, _, _, lz, hr, hi⟩, g3⟩ := iz_pair g2
  obtain ⟨_, _, rfl, ⟨n, rfl, _⟩, g4⟩ := iz_pair g3
  obtain ⟨_, _, rfl, g5, g6⟩ := iz_pair g4
  obtain ⟨lk, rfl⟩ := link_of g5
  obtain rfl : _ = [] := g6
  obtain ⟨keys, k1, rfl, _⟩ := rows_enc (q := fun _ => True) kE_len len xs hr.len fun i hil => by
    obtain ⟨s, h1, _⟩ := hi i hil
    exact ⟨s, h1, trivial⟩
  subst k1
  refine ⟨⟨e, s, keys, n, lk⟩, (A, cap), ?_, hr, lz⟩
  rw [List.append_nil]
  rfl
theorem last_of {w : World} {cs : List Value} (h : Iz w shM cs) : ∃ x : Me, cs = mE x ∧ In w x.1.r x.2 ∧ x.1.r.keys.length ≤ 140737488355328 := by
  obtain ⟨_, _, rfl, ⟨c, rfl, _⟩, g1⟩ := iz_pair h
  obtain ⟨_, _, rfl, ⟨i, rfl, _⟩, g2⟩ := iz_pair g1
  obtain ⟨_, _, rfl, g3, g4⟩ := iz_pair g2
  obtain ⟨r, z, rfl, h1, h2⟩ := reply_of g3
  obtain rfl : _ = [] := g4
  refine ⟨(⟨c, i, r⟩, z), ?_, h1, h2⟩
  rw [List.append_nil]
  rfl
theorem table_of {w : World} {A : Option Addr} {len : Nat} {xs : List Value} (hr : Rd w A len 77 xs) (hi : ∀ i, i < len → Iz w shM ((xs.drop (i * 77)).take 77)) : ∃ l : List Me, l.length = len ∧ xs = l.flatMap mE ∧ Ins w l ∧ ∀ x ∈ l, x.1.r.keys.length ≤ 140737488355328 := by
  obtain ⟨l, h1, h2, h3⟩ := rows_enc (q := fun x : Me => In w x.1.r x.2 ∧ x.1.r.keys.length ≤ 140737488355328) mE_len len xs hr.len fun i hil => last_of (hi i hil)
  exact ⟨l, h1, h2, fun x hx => (h3 x hx).1, fun x hx => (h3 x hx).2⟩
end Go.Proofs.Ythiacfpfgdoliaa
