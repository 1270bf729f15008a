/- What laws on logs need besides: drawn regions in two parts; calls of acts, of From, of At; what rows of copies are turned to. -/
import Derived.Test.YtegaejbfhpigjaaT13
namespace Go.Proofs.Ytegaejbfhpigjaa
open Go.RowKit

/-! ### A drawn region in two parts -/
section
variable {P : Program} {n : Nat} {w0 : World} {R : List Nat} {L : List (Nat × Value)} {M : List Asrt} {ops : Array Oper}
theorem wpAnyH_more {md : Region.Mode} {Q : Exit → Act → World → Prop} {S S' : World → Prop} (hS : ∀ w, S' w → S w) : ∀ (fuel : Nat) (listed : Array Bool) (a : Act) (w : World), wpAnyH P md ops Q S' fuel listed a w → wpAnyH P md ops Q S fuel listed a w
  | 0, _, _, _, h => h
  | fuel + 1, _, _, _, h => ⟨h.1, fun i hi => wpOp_mono (fun _ _ h' => ⟨hS _ h'.1, wpAnyH_more hS fuel _ _ _ h'.2⟩) (h.2 i hi)⟩
theorem wpOp_regQ {K1 K2 : List (Nat × Value) → List Asrt → Prop} {i : Nat} {X : Act → World → Prop} {a : Act} {w : World} (h : wpOp P ops (regQ n w0 R K1) i X a w) : wpOp P ops (regQ n w0 R K2) i X a w := by
  unfold wpOp at *
  cases ho : ops[i]? with
  | none => rw [ho] at h; exact h
  | some o =>
    rw [ho] at h
    dsimp only at h ⊢
    split
    · rename_i hw
      rw [if_pos hw] at h
      rcases h with h | ⟨_, h⟩
      · left
        unfold Oper.wp at *
        generalize (execOp a.eval o).run P w = r at *
        cases r with
        | ok nx w' => cases nx <;> exact h
        | halt x w' => cases x <;> exact h
      · exact (noOut h).elim
    · rename_i hw
      rw [if_neg hw] at h
      exact h
theorem wpS_pre {K : List (Nat × Value) → List Asrt → Prop} {suf : List (Nat × Bool)} (hs : Region.noSelect ops = true) : ∀ (pre : List (Nat × Bool)) (listed : Array Bool) (a : Act) (w : World), chkS ops (pre ++ suf) listed = true → Hp w0 R [] w →
    wpS P ops (Hp w0 R []) (regQ n w0 R fun L' M' => TS P n w0 R ops M' K suf L' M') pre a w → wpAnyH P .any ops (regQ n w0 R K) (Hp w0 R []) (pre ++ suf).length listed a w
  | [], listed, a, w, hc, _, h => by
    obtain ⟨L', M', hk, hp, ht⟩ := h
    exact wpAnyH_more (S' := Hp w0 R M') (fun _ h => h.weaken (List.nil_sublist _)) _ _ _ _ (wpS_sound hs (fun _ _ _ _ _ h => h) suf listed a w hc hp (ht.run a w hk hp hp))
  | (i, true) :: r, listed, a, w, hc, hS, h => by
    simp only [List.cons_append, chkS, Bool.and_eq_true] at hc
    obtain ⟨o, v, ho, hy, hr⟩ := h
    exact wpAnyH_take ho hs hc.1.2 hc.1.1 (fun _ _ _ h => h) hy hS (wpS_pre hs r _ _ _ hc.2 hS hr)
  | (i, false) :: r, listed, a, w, hc, hS, h => by
    simp only [List.cons_append, chkS, Bool.and_eq_true, beq_iff_eq] at hc
    refine wpAnyH_all hc.1 (by simp) fun j hj => ?_
    obtain rfl : j = i := by simpa using hj
    exact wpOp_mono (fun a' w' ⟨hS', h'⟩ => ⟨hS', wpS_pre hs r _ _ _ hc.2 hS' h'⟩) (wpOp_regQ h)
/-- First pre, of which nothing in memory is kept; then suf, of which all is kept that is known then. -/
theorem T.draw2 {id : Nat} {Q : Exit → List (Nat × Value) → List Asrt → Prop} (pre suf : List (Nat × Bool)) (hm : P.follows .mixedOrders = true) (hB : drawOK ops (pre ++ suf) = true)
    (h : TS P n w0 R ops [] (fun L' M' => TS P n w0 R ops M' (Q .normal) suf L' M') pre L M) : T P n w0 R (.region id ops true) Q L M := by
  refine .mk fun a w hk hp => ?_
  simp only [drawOK, Bool.and_eq_true, beq_iff_eq] at hB
  have hd : Hp w0 R M w.drew := hp.drew
  refine wp_mono (Q := regQ n w0 R (Q .normal)) (wp_region_held (S := Hp w0 R []) hm ?_) fun e a' w' hq => by
    cases e <;> first | exact hq | exact hq.elim
  have := wpS_pre (K := Q .normal) hB.1.1 pre _ a w.drew hB.2 (hd.weaken (List.nil_sublist _)) (h.run a w.drew hk hd (hd.weaken (List.nil_sublist _)))
  rw [hB.1.2] at this
  exact this
end

/-! ### Calls -/
section
variable {P : Program} {n : Nat} {w0 : World} {R : List Nat} {L : List (Nat × Value)} {M : List Asrt} {ty : TypeId} {K : List (Nat × Value) → List Asrt → Prop}
theorem Ef_callXY {f : FuncId} {args : Array Operand} {ats : Array TypeId} {vals : List Value} {d b b' : Nat} {S M' : List Asrt} {Rs : List Nat} {X : Value} {q : List En} {s s' : Int} (mk : List Bool) (hd : Nat.blt d n = true) (ha : evls L args.toList = some vals) (hen : Enters P f)
    (hS : sel mk M = S) (hM' : oth mk M = M') (hRs : S.flatMap Asrt.foot = Rs) (hc : ∀ w, Hp w0 R M w → Hp w Rs S w → Sp P f vals w Rs (fun v N => ∃ y : (Hd × List Me) × Hd × List Me, (y.1.2.map (·.1) = q ∧ y.2.2.map (·.1) = q) ∧ v = X ∧ N = xL b y.1.1 y.1.2 s ++ yL b' y.2.1 y.2.2 s'))
    (h : ∀ z xs z' ys, xs.map (·.1) = q → ys.map (·.1) = q → K ((d, X) :: L) ((xL b z xs s ++ yL b' z' ys s') ++ M')) : Ef P n w0 R (some d) (.call { callee := .value (.func f), args := args, argTypes := ats }) ty L M K :=
  Ef_callS mk hd ha hen hS hM' hRs (fun w hp => hc w hp (by subst hRs; exact hp.hand mk hS)) fun v N ⟨⟨⟨z, xs⟩, z', ys⟩, h0, h1, h2⟩ => by subst h1 h2; exact h z xs z' ys h0.1 h0.2
theorem Ef_callX1 {f : FuncId} {args : Array Operand} {ats : Array TypeId} {vals : List Value} {d b : Nat} {S M' : List Asrt} {Rs : List Nat} {X : Value} {q : List En} {s : Int} (mk : List Bool) (hd : Nat.blt d n = true) (ha : evls L args.toList = some vals) (hen : Enters P f)
    (hS : sel mk M = S) (hM' : oth mk M = M') (hRs : S.flatMap Asrt.foot = Rs) (hc : ∀ w, Hp w0 R M w → Hp w Rs S w → Sp P f vals w Rs (fun v N => ∃ y : Hd × List Me, y.2.map (·.1) = q ∧ v = X ∧ N = xL b y.1 y.2 s))
    (h : ∀ z xs, xs.map (·.1) = q → K ((d, X) :: L) (xL b z xs s ++ M')) : Ef P n w0 R (some d) (.call { callee := .value (.func f), args := args, argTypes := ats }) ty L M K :=
  Ef_callS mk hd ha hen hS hM' hRs (fun w hp => hc w hp (by subst hRs; exact hp.hand mk hS)) fun v N ⟨⟨z, xs⟩, h0, h1, h2⟩ => by subst h1 h2; exact h z xs h0
theorem Ef_callF {f : FuncId} {args : Array Operand} {ats : Array TypeId} {vals : List Value} {d : Nat} {q : List En} (hd : Nat.blt d n = true) (ha : evls L args.toList = some vals) (hen : Enters P f)
    (hc : ∀ w, Hp w0 R M w → Sp P f vals w [] (fun v N => ∃ y : Hd × List Me, y.2.map (·.1) = q ∧ v = .slice y.1.1 y.2.length y.1.2 ∧ N = [rM y.2 y.1, bag (y.2.map bA)]))
    (h : ∀ A c ms, ms.map (·.1) = q → K ((d, .slice A ms.length c) :: L) (rM ms (A, c) :: bag (ms.map bA) :: M)) : Ef P n w0 R (some d) (.call { callee := .value (.func f), args := args, argTypes := ats }) ty L M K :=
  Ef_call hd ha hen hc fun v N ⟨⟨⟨A, c⟩, ms⟩, h0, h1, h2⟩ => by subst h1 h2; exact h A c ms h0
end

theorem len_map {m : List Me} {q : List En} (h : m.map (·.1) = q) : m.length = q.length := by rw [← h, List.length_map]
theorem bodies_map {m : List Me} {q : List En} {k : Nat} (h : m.map (·.1) = q) (hq : ∀ x ∈ q, x.body.length ≤ k) : ∀ x ∈ m, x.1.body.length ≤ k := fun x hx => hq x.1 (h ▸ List.mem_map.2 ⟨x, hx, rfl⟩)

section
variable (b : Nat) (A : Option Addr) (len cap : Nat) (sy : Int) (l : List Me) (q : List En) (hq : l.map (·.1) = q) (hql : q.length ≤ 200)
include hq hql
section
variable (w : World) (hr : Rd w A len 5 (l.flatMap mE)) (hl : l.length = len) (hin : Ins w l) (hqb : ∀ x ∈ q, x.body.length ≤ 6000)
include hr hl hin hqb
theorem from_q (i n : Int) (hb : w.heap[b]? = some (.cells (lgC true (.slice A len cap) sy) 50 (0, 0))) (hcap : len ≤ cap) : Sp Try.prog 19 [.pointer (some ⟨b, 0, none⟩), .int .i64 i, .int .i64 n] w [] fun v N => ∃ y : Hd × List Me, y.2.map (·.1) = Lg.frm q i n ∧ v = .slice y.1.1 y.2.length y.1.2 ∧ N = [rM y.2 y.1, bag (y.2.map bA)] := by
  have h1 := len_map hq
  have := from_c b A len cap sy l i n w hb hr hl hcap (by omega) hin (bodies_map hq hqb)
  rw [hq] at this
  exact this
theorem all_q (hb : w.heap[b]? = some (.cells (lgC true (.slice A len cap) sy) 50 (0, 0))) (hcap : len ≤ cap) : Sp Try.prog 19 [.pointer (some ⟨b, 0, none⟩), .int .i64 1, .int .i64 1000] w [] fun v N => ∃ y : Hd × List Me, y.2.map (·.1) = q ∧ v = .slice y.1.1 y.2.length y.1.2 ∧ N = [rM y.2 y.1, bag (y.2.map bA)] := by
  have := from_q b A len cap sy l q hq hql w hr hl hin hqb 1 1000 hb hcap
  rw [Lg.frm_all q (by omega)] at this
  exact this
theorem rfrom_q (i n : Int) (hb : w.heap[b]? = some (.cells (lrC (.slice A len cap) sy) 36 (0, 0))) : Sp Try.prog 22 [.pointer (some ⟨b, 0, none⟩), .int .i64 i, .int .i64 n] w [] fun v N => ∃ y : Hd × List Me, y.2.map (·.1) = Lg.frm q i n ∧ v = .slice y.1.1 y.2.length y.1.2 ∧ N = [rM y.2 y.1, bag (y.2.map bA)] := by
  have h1 := len_map hq
  have := rfrom_c b A len cap sy l w hb hr hl (by omega) hin (bodies_map hq hqb) i n
  rw [hq] at this
  exact this
end
theorem at_q (w : World) (hr : Rd w A len 5 (l.flatMap mE)) (hl : l.length = len) (hin : Ins w l) (hqb : ∀ x ∈ q, x.body.length ≤ 6000) (i : Int) (hb : w.heap[b]? = some (.cells (lgC true (.slice A len cap) sy) 50 (0, 0))) (hcap : len ≤ cap) : Sp Try.prog 21 [.pointer (some ⟨b, 0, none⟩), .int .i64 i] w [] fun v N => ∃ z : Hd, v = .tuple #[.agg (mE ((Lg.frm q i 1).head?.getD Lg.zero, z)).toArray, .bool (Lg.frm q i 1).head?.isSome] ∧ N = [bA ((Lg.frm q i 1).head?.getD Lg.zero, z)] :=
  at_c _ i (Lg.frm q i 1) w (Lg.frm_one q i) fun w' hp => from_q b A len cap sy l q hq hql w' (hp.rd hr fun _ => List.not_mem_nil) hl (hp.ins_old hin) hqb i 1 (hp.blk_old hb List.not_mem_nil) hcap
end

theorem oneMe {ms : List Me} {e : En} (h : ms.map (·.1) = [e]) : ∃ z : Hd, ms = [(e, z)] := by
  obtain ⟨⟨me, mh⟩, rfl⟩ : ∃ m, ms = [m] := List.length_eq_one_iff.1 (by have := congrArg List.length h; simpa using this)
  obtain rfl : me = e := by simpa using h
  exact ⟨mh, rfl⟩

theorem oneAt {ms : List Me} {e : En} (h : ms.map (·.1) = [e]) : ∃ z : Hd, ms[0]? = some (e, z) := by
  obtain ⟨z, rfl⟩ := oneMe h
  exact ⟨z, rfl⟩

/-! ### Rows of copies that are turned -/
/-- Where a body lies, and how long it is. -/
def fo (x : Me) : Hd × Nat := (x.2, x.1.body.length)
theorem fo_at {ms m3 : List Me} (h : ms.map fo = m3.map fo) {j : Nat} {x : Me} (hx : m3[j]? = some x) : ∃ y, ms[j]? = some y ∧ fo y = fo x := by
  have h1 : (ms.map fo)[j]? = some (fo x) := by rw [h, List.getElem?_map, hx]; rfl
  rw [List.getElem?_map] at h1
  cases hy : ms[j]? with
  | none => rw [hy] at h1; cases h1
  | some y => rw [hy] at h1; exact ⟨y, rfl, Option.some.inj h1⟩
theorem fo_len {ms m3 : List Me} (h : ms.map fo = m3.map fo) : ms.length = m3.length := by have := congrArg List.length h; simpa using this
theorem cut_at {α : Type} {l : List α} {j : Nat} {x : α} (h : l[j]? = some x) : l = l.take j ++ x :: l.drop (j + 1) := by
  obtain ⟨hj, rfl⟩ := List.getElem?_eq_some_iff.1 h
  rw [← List.drop_eq_getElem_cons hj, List.take_append_drop]
theorem set_cut {α : Type} {l : List α} {j : Nat} {x : α} (h : l[j]? = some x) (y : α) : l.set j y = l.take j ++ y :: l.drop (j + 1) := by
  have hj := (List.getElem?_eq_some_iff.1 h).1
  rw [List.set_eq_take_append_cons_drop, if_pos hj]
theorem fo_set {ms : List Me} {j : Nat} {x y : Me} (h : ms[j]? = some x) (hf : fo y = fo x) : (ms.set j y).map fo = ms.map fo := by
  conv => rhs; rw [cut_at h]
  rw [set_cut h, List.map_append, List.map_append, List.map_cons, List.map_cons, hf]
theorem mE_set {ms : List Me} {j : Nat} {x : Me} (h : ms[j]? = some x) (s : Int) : (ms.flatMap mE).set (j * 5 + 1) (.int .i64 s) = (ms.set j ({ x.1 with stamp := s }, x.2)).flatMap mE := by
  have hj := (List.getElem?_eq_some_iff.1 h).1
  have hl : ((ms.take j).flatMap mE).length = j * 5 := by rw [flat_length mE_len, List.length_take, Nat.min_eq_left (by omega)]
  rw [set_cut h, List.flatMap_append, List.flatMap_cons]
  conv => lhs; rw [cut_at h]
  rw [List.flatMap_append, List.flatMap_cons, List.set_append_right _ _ (by omega), hl, Nat.add_sub_cancel_left, List.set_append_left _ _ (by rw [mE_len]; decide)]
  rfl
end Go.Proofs.Ytegaejbfhpigjaa
