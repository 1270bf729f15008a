/- Calls on tables that hold the same as another one. -/
import Derived.Test.YthiacfpfgdoliaaT10
namespace Go.Proofs.Ythiacfpfgdoliaa
open Go.RowKit

theorem kE_set (zs : List ByteArray) (i : Nat) (s : ByteArray) : (zs.flatMap kE).set (i * 1) (.string s) = (zs.set i s).flatMap kE := by
  have e : ∀ l : List ByteArray, l.flatMap kE = l.map Value.string := fun l => by
    induction l with
    | nil => rfl
    | cons a l ih => rw [List.flatMap_cons, ih]; rfl
  rw [e, e, Nat.mul_one, List.map_set]
theorem len_map {m : List Me} {p : List La} (h : m.map (·.1) = p) : m.length = p.length := by rw [← h, List.length_map]
theorem keys_map {m : List Me} {p : List La} {k : Nat} (h : m.map (·.1) = p) (hk : ∀ x ∈ p, x.r.keys.length ≤ k) : ∀ x ∈ m, x.1.r.keys.length ≤ k := fun x hx => hk _ (by rw [← h]; exact List.mem_map.2 ⟨x, hx, rfl⟩)
theorem keys_la {l : List Me} {k : Nat} (hk : ∀ x ∈ l, x.1.r.keys.length ≤ k) : ∀ x ∈ l.map (·.1), x.r.keys.length ≤ k := fun x hx => by
  obtain ⟨y, hy, rfl⟩ := List.mem_map.1 hx
  exact hk y hy

namespace Rl
def askL (l : List La) (c i : Int) : Rp × Bool × Int :=
  if may l && fits c i then
    match l.find? fun x => decide (fc x = c) with
    | some x => if i < x.id then (z, false, 140) else if x.id = i then (x.r, true, 0) else (z, false, 0)
    | none => (z, false, 0)
  else (z, false, 2)
theorem find_map (m : List Me) (c : Int) : ((m.map (·.1)).find? fun x => decide (fc x = c)) = (find m c).map (·.1) := by
  rw [List.find?_map]; rfl
theorem ask_map (m : List Me) (c i : Int) : ((askM m c i).1.1, (askM m c i).2) = askL (m.map (·.1)) c i := by
  unfold askM askL
  rw [find_map]
  split
  · cases find m c with
    | none => rfl
    | some x =>
      dsimp only [Option.map_some]
      split
      · rfl
      · split <;> rfl
  · rfl
theorem next_or {l : List La} {c i : Int} (hf : fits c i = true) : (may l = false ∧ askL l c i = (z, false, 2)) ∨ (may l = true ∧ ((i < ofL l c ∧ askL l c i = (z, false, 140)) ∨ (∃ r, ofL l c = i ∧ askL l c i = (r, true, 0)) ∨ (ofL l c < i ∧ askL l c i = (z, false, 0)))) := by
  have h1 : 1 ≤ i := (of_decide_eq_true hf).2.2.1
  unfold askL ofL
  rw [hf]
  cases may l
  · exact .inl ⟨rfl, rfl⟩
  · refine .inr ⟨rfl, ?_⟩
    rw [Bool.and_self, if_pos rfl]
    cases l.find? fun x => decide (fc x = c) with
    | none => exact .inr (.inr ⟨by show (0 : Int) < i; omega, rfl⟩)
    | some x =>
      dsimp only
      by_cases g1 : i < x.id
      · rw [if_pos g1]; exact .inl ⟨g1, rfl⟩
      · rw [if_neg g1]
        by_cases g2 : x.id = i
        · rw [if_pos g2]; exact .inr (.inl ⟨x.r, g2, rfl⟩)
        · rw [if_neg g2]; exact .inr (.inr ⟨by omega, rfl⟩)
end Rl

section
variable {p : List La} (A : Option Addr) (c : Nat) (m : List Me) (w : World) (hm : m.map (·.1) = p) (hr : Rd w A m.length 77 (m.flatMap mE)) (hlen : p.length ≤ 200)
include hm hr hlen
theorem may_q (b : Bool) (hb : Rl.may p = b) : Sp Try.prog 19 [.slice A m.length c] w [] fun v N => v = .bool b ∧ N = [] := may_v A m.length c m w hr rfl (by have := len_map hm; omega) b (by rw [hm]; exact hb)
theorem of_q (t : Int) (q : Int) (hq : Rl.ofL p t = q) : Sp Try.prog 18 [.slice A m.length c, .int .i64 t] w [] fun v N => v = .int .i64 q ∧ N = [] := by
  have h1 := of_c A m.length c m t w hr rfl (by have := len_map hm; omega)
  rwa [Rl.ofM_eq, hm, hq] at h1
theorem from_q : Sp Try.prog 21 [.slice A m.length c] w [] fun v N => ∃ z : Option Addr × Nat, v = .slice z.1 m.length z.2 ∧ N = [rD m z] := from_c A m.length c m w hr rfl (by have := len_map hm; omega)
variable (hin : Ins w m) (h4 : ∀ x ∈ p, x.r.keys.length ≤ 400)
include hin h4
theorem ask_q (t i : Int) (q : Rp × Bool × Int) (hq : Rl.askL p t i = q) : Sp Try.prog 15 [.slice A m.length c, .int .i64 t, .int .i64 i] w [] fun v N => ∃ y : Option Addr × Nat, v = .tuple #[.agg (rE q.1 y).toArray, .bool q.2.1, .int .i64 q.2.2] ∧ N = [kA q.1 y] := by
  have h1 := ask_c A m.length c m t i w hr rfl (by have := len_map hm; omega) hin (keys_map hm h4)
  have e := Rl.ask_map m t i
  rw [hm, hq] at e
  rw [← e]
  exact h1
theorem note_q (t i : Int) (r : Rp) (h : Hd) (ha : In w r h) (hk : r.keys.length ≤ 400) (q : List La × Int) (hq : Rl.note p t i r = q) : Sp Try.prog 22 [.slice A m.length c, .int .i64 t, .int .i64 i, .agg (rE r h).toArray] w [] fun v N => ∃ y : (Option Addr × Nat) × List Me, y.2.map (·.1) = q.1 ∧ v = .tuple #[.slice y.1.1 y.2.length y.1.2, .int .i64 q.2] ∧ N = [rM y.2 y.1, bag (y.2.map mA)] := by
  have h1 := note_c A m.length c m t i r h w hr rfl (by have := len_map hm; omega) hin (keys_map hm h4) ha hk
  rw [hm, hq] at h1
  exact h1
end

section
variable {p q : List La} (A : Option Addr) (c : Nat) (m : List Me) (B : Option Addr) (d : Nat) (m2 : List Me) (w : World) (hm : m.map (·.1) = p) (hm2 : m2.map (·.1) = q) (hr : Rd w A m.length 77 (m.flatMap mE)) (hr2 : Rd w B m2.length 77 (m2.flatMap mE)) (hin : Ins w m) (hin2 : Ins w m2) (hlen : p.length ≤ 400) (h4 : ∀ x ∈ p, x.r.keys.length ≤ 400)
include hm hm2 hr hr2 hin hin2 hlen h4
theorem same_q (b : Bool) (hb : Rl.same p q = b) : Sp Try.prog 9 [.slice A m.length c, .slice B m2.length d] w [] fun v N => v = .bool b ∧ N = [] :=
  same_v A c m B d m2 w hr hr2 hin hin2 (by have := len_map hm; omega) (fun x hx => Nat.le_trans (keys_map hm h4 x hx) (by decide)) b (by rw [hm, hm2]; exact hb)
theorem rsame_q (b : Bool) (hb : Rl.same p q = b) : Sp Try.prog 11 [.slice A m.length c, .slice B m2.length d] w [] fun v N => v = .bool b ∧ N = [] :=
  rsame_v A c m B d m2 w hr hr2 hin hin2 (by have := len_map hm; omega) (fun x hx => Nat.le_trans (keys_map hm h4 x hx) (by decide)) b (by rw [hm, hm2]; exact hb)
end
end Go.Proofs.Ythiacfpfgdoliaa
