/- Copies of replies and of tables: what a call of each comes to. -/
import Derived.Test.YthiacfpfgdoliaaT4
namespace Go.Proofs.Ythiacfpfgdoliaa
open Go.RowKit
set_option maxRecDepth 20000

theorem b_build55 (c i : Int) (r : Rp) (h : Hd) (w : World) : (Instr.build 55 #[(0, .int .i64 c), (1, .int .i64 i), (2, .agg (rE r h).toArray)]).run Try.prog w = .ok (.agg (mE (⟨c, i, r⟩, h)).toArray) w := by kernel_rfl
theorem b_build44 (c i : Int) (r : Rp) (h : Hd) (w : World) : (Instr.build 44 #[(0, .int .i64 c), (1, .int .i64 i), (2, .agg (rE r h).toArray)]).run Try.prog w = .ok (.agg (mE (⟨c, i, r⟩, h)).toArray) w := by kernel_rfl

/-- A row of keys, of the program's table, of the document's. -/
def rK (l : List ByteArray) (z : Hd) : Asrt := .row 9 1 (.slice z.1 l.length z.2) l.length (l.flatMap kE)
def rM (l : List Me) (z : Hd) : Asrt := .row 55 77 (.slice z.1 l.length z.2) l.length (l.flatMap mE)
def rD (l : List Me) (z : Hd) : Asrt := .row 44 77 (.slice z.1 l.length z.2) l.length (l.flatMap mE)

section
variable (A : Option Addr) (len cap : Nat) (l : List ByteArray) (w : World) (hr : Rd w A len 1 (l.flatMap kE)) (hl : l.length = len) (h4 : len ≤ 400)
include hr hl h4
theorem clone_c : Sp Try.prog 34 [.slice A len cap] w [] fun v N => ∃ z : Option Addr × Nat, v = .slice z.1 l.length z.2 ∧ N = [rK l z] := by
  have oL := one_flat kE_one l
  cases A with
  | none =>
    have h0 : len = 0 := by
      rcases Nat.eq_zero_or_pos len with h | h
      · exact h
      · have := hr.some_ h; cases this
    have hn : l = [] := List.eq_nil_of_length_eq_zero (by omega)
    subst hn
    refine Sp.enter (n := 8) Try.func34 rfl rfl rfl (Hp.refl w) ?_
    refine T.row0e 9 1 ?_
    repeat' (first       | (first | ((((refine' Ef_appG_row (news := mE _) rfl rfl rfl ?q1 ?q2 ?q3 (mE_one _) ?q4 ?q5 ?_); (case q1 => exact app_of rfl); (case q2 => (first | exact at0 | exact at1 | exact at2 | exact at3 | exact at4 | exact at5 | exact at6)); (case q3 => (repeat (first | exact .head _ | apply List.Mem.tail))); (case q4 => omega); (case q5 => omega))); (first | ((fail_if_success have := A1); intro A1 c1) | intro _ _)))  | refine w1 ?_ | (refine w2 ?_ ?_ <;> intro hc) | (first | ((refine' ⟨_, Yl_eql_nil rfl rfl ?q1, ?_⟩); (case q1 => exact und_of rfl))) | (refine w4 ?_; (intro _)) | (refine w5 ?_; (first | ((fail_if_success have := A1); intro A1 c1) | intro _ _)) | refine w3 ?_ ?_ | fail_if_success skip)
    exact ret_n [rK [] (none, 0)] (res1 rfl rfl) (List.Sublist.refl _) ⟨(none, 0), rfl, rfl⟩
  | some a =>
    refine Sp.enter (n := 8) Try.func34 rfl rfl rfl (Hp.refl w) ?_
    repeat' (first       | (first | ((((refine' Ef_appG_row (news := mE _) rfl rfl rfl ?q1 ?q2 ?q3 (mE_one _) ?q4 ?q5 ?_); (case q1 => exact app_of rfl); (case q2 => (first | exact at0 | exact at1 | exact at2 | exact at3 | exact at4 | exact at5 | exact at6)); (case q3 => (repeat (first | exact .head _ | apply List.Mem.tail))); (case q4 => omega); (case q5 => omega))); (first | ((fail_if_success have := A1); intro A1 c1) | intro _ _)))  | refine w1 ?_ | (refine w2 ?_ ?_ <;> intro hc) | (first | ((refine' ⟨_, Yl_eql_nil rfl rfl ?q1, ?_⟩); (case q1 => exact und_of rfl))) | (refine w4 ?_; (intro _)) | (refine w5 ?_; (first | ((fail_if_success have := A1); intro A1 c1) | intro _ _)) | refine w3 ?_ ?_ | fail_if_success skip)
    subst hl
    exact ret_n [rK l (A1, c1)] (res1 rfl rfl) (List.Sublist.refl _) ⟨(A1, c1), rfl, rfl⟩
end

section
variable (r : Rp) (h : Hd) (w : World) (ha : In w r h) (h4 : r.keys.length ≤ 400)
include ha h4
set_option maxHeartbeats 1000000 in
theorem copied_c : Sp Try.prog 28 [.agg (rE r h).toArray] w [] fun v N => ∃ z : Option Addr × Nat, v = .agg (rE r z).toArray ∧ N = [kA r z] := by
  have hcl := fun w h1 => clone_c h.1 r.keys.length h.2 r.keys w h1 rfl h4
  have oR := fun z => rE_one r z
  refine Sp.enter (n := 8) Try.func28 rfl rfl rfl (Hp.refl w) ?_
  repeat' (first
      | ((with_reducible refine is_load ?_); (first | ((refine' ⟨_, Yl_loadA_hp rfl ?qa ?qb ?ql ?qc, ?_⟩); (case qa => exact agg_of rfl); (case qb => (first | exact fun _ hp => hp.rd hr fun _ => List.not_mem_nil)); (case qc => assumption); (case ql => rfl))))
      | ((with_reducible refine ie_store ?_); (first | ((refine' Ef_storeA' rfl rfl ?q1 (rE_one _ _) ?q2 ?q3 ?_); (case q1 => exact siz_of rfl); (case q2 => (first | exact at0 | exact at1 | exact at2 | exact at3 | exact at4 | exact at5 | exact at6)); (case q3 => rfl)) | ((refine' Ef_storeC (C' := (rE r (A1, c1)).toArray) rfl rfl ?q1 ?q2 ?q3 ?q4 ?q5 ?_); (case q1 => rfl); (case q2 => exact siz_of rfl); (case q3 => (first | exact at0 | exact at1 | exact at2 | exact at3 | exact at4 | exact at5 | exact at6)); (case q4 => exact Nat.le_of_ble_eq_true rfl); (case q5 => rfl)) | ((refine' Ef_storeC (C' := (rE x.1.r (A2, c2)).toArray) rfl rfl ?q1 ?q2 ?q3 ?q4 ?q5 ?_); (case q1 => rfl); (case q2 => exact siz_of rfl); (case q3 => (first | exact at0 | exact at1 | exact at2 | exact at3 | exact at4 | exact at5 | exact at6)); (case q4 => exact Nat.le_of_ble_eq_true rfl); (case q5 => rfl))))
      | ((with_reducible refine ie_callf ?_); (first | ((with_reducible refine g_call 34 ?_); (first | (refine Ef_callN rfl rfl ent_34 (fun w hp => hcl w (hp.in_old ha)) ?_; rintro ⟨A1, c1⟩)))))
      | (first | ((((refine' Ef_appG_row (news := mE _) rfl rfl rfl ?q1 ?q2 ?q3 (mE_one _) ?q4 ?q5 ?_); (case q1 => exact app_of rfl); (case q2 => (first | exact at0 | exact at1 | exact at2 | exact at3 | exact at4 | exact at5 | exact at6)); (case q3 => (repeat (first | exact .head _ | apply List.Mem.tail))); (case q4 => omega); (case q5 => omega))); (first | ((fail_if_success have := A1); intro A1 c1) | ((fail_if_success have := A2); intro A2 c2) | intro _ _)))
      | refine w1 ?_
      | (refine w2 ?_ ?_ <;> intro hc)
      | (first | ((refine' ⟨_, Yl_eql_nil rfl rfl ?q1, ?_⟩); (case q1 => exact und_of rfl)))
      | (refine w4 ?_; (intro _))
      | (refine w5 ?_; (first | ((fail_if_success have := A1); intro A1 c1) | ((fail_if_success have := A2); intro A2 c2) | intro _ _))
      | refine w3 ?_ ?_
      | fail_if_success skip)
  exact ret_n [kA r (A1, c1)] (resC rfl rfl (by (repeat (first | exact .head _ | apply List.Mem.tail))) (agg_of rfl)) (by (repeat (first | exact List.nil_sublist _ | refine List.Sublist.cons_cons _ ?_ | refine List.Sublist.cons _ ?_))) ⟨(A1, c1), rfl, rfl⟩
end

section
variable (A : Option Addr) (len cap : Nat) (l : List Me) (w : World) (hr : Rd w A len 77 (l.flatMap mE)) (hl : l.length = len) (hle : len ≤ 300)
include hr hl hle
set_option maxHeartbeats 2000000 in
theorem from_c : Sp Try.prog 21 [.slice A len cap] w [] fun v N => ∃ z : Option Addr × Nat, v = .slice z.1 l.length z.2 ∧ N = [rD l z] := by
  refine Sp.enter (n := 31) Try.func21 rfl rfl rfl (Hp.refl w) ?_
  refine T.row0e 44 77 ?_
  repeat' (first
      | ((with_reducible refine is_load ?_); (first | ((refine' ⟨_, Yl_loadA_hp rfl ?qa ?qb ?ql ?qc, ?_⟩); (case qa => exact agg_of rfl); (case qb => (first | exact fun _ hp => hp.rd hr fun _ => List.not_mem_nil)); (case qc => assumption); (case ql => rfl))))
      | ((with_reducible refine is_build ?_); (first | refine ⟨_, Yl_build rfl (b_build55 _ _ _ _), ?_⟩ | refine ⟨_, Yl_build rfl (b_build44 _ _ _ _), ?_⟩))
      | (first | ((((refine' Ef_appG_row (news := mE _) rfl rfl rfl ?q1 ?q2 ?q3 (mE_one _) ?q4 ?q5 ?_); (case q1 => exact app_of rfl); (case q2 => (first | exact at0 | exact at1 | exact at2 | exact at3 | exact at4 | exact at5 | exact at6)); (case q3 => (repeat (first | exact .head _ | apply List.Mem.tail))); (case q4 => omega); (case q5 => omega))); (first | ((fail_if_success have := A1); intro A1 c1) | ((fail_if_success have := A2); intro A2 c2) | intro _ _)))
      | ((with_reducible refine g_draw ?_); (first  | (((with_reducible refine' T.draw0 (id := 5) [(0, true), (1, true), (2, true), (3, true), (4, true), (5, true), (6, true), (7, true), (8, true), (9, true), (10, true), (11, true), (12, false), (13, false), (14, false), (15, false), (16, false), (17, false), (18, false), (19, false)] mixd ?q1 ?_); (case q1 => kernel_rfl)))))
      | refine w1 ?_
      | (refine w2 ?_ ?_ <;> intro hc)
      | (first | ((refine' ⟨_, Yl_eql_nil rfl rfl ?q1, ?_⟩); (case q1 => exact und_of rfl)))
      | (refine w4 ?_; (intro _))
      | (refine w5 ?_; (first | ((fail_if_success have := A1); intro A1 c1) | ((fail_if_success have := A2); intro A2 c2) | intro _ _))
      | refine w3 ?_ ?_
      | fail_if_success skip)
  refine T.loop (α := Nat × Option Addr × Nat) (fun z => [(0, .slice A len cap), (3, .slice z.2.1 z.1 z.2.2), (4, .int .i64 (z.1 : Int))]) (fun z => [.row 44 77 (.slice z.2.1 z.1 z.2.2) z.1 ((l.take z.1).flatMap mE)]) (fun z => z.1 ≤ len) (fun z => len - z.1) (0, none, 0) ?_ ?_ ?_ ?_
  · (repeat (first | exact Sub.nil | refine Sub.cons rfl ?_))
  · (repeat (first | exact List.nil_sublist _ | refine List.Sublist.cons_cons _ ?_ | refine List.Sublist.cons _ ?_))
  · exact Nat.zero_le _
  · rintro ⟨i, A1, c1⟩ hi
    dsimp only at hi ⊢
    by_cases hlt : i < len
    · obtain ⟨x, hx⟩ := some_of_lt (l := l) (i := i) (by omega)
      have e0 : (l.flatMap mE)[i * 77 + 0]? = some (.int .i64 x.1.c) := enc_at mE_len hx (by omega)
      have e1 : (l.flatMap mE)[i * 77 + 1]? = some (.int .i64 x.1.id) := enc_at mE_len hx (j := 1) (by decide)
      have eA := mE_lk hx
      have oX := mE_one x
      repeat' (first
          | ((with_reducible refine is_load ?_); (first | ((refine' ⟨_, Yl_loadA_hp rfl ?qa ?qb ?ql ?qc, ?_⟩); (case qa => exact agg_of rfl); (case qb => (first | exact fun _ hp => hp.rd hr fun _ => List.not_mem_nil)); (case qc => assumption); (case ql => rfl))))
          | ((with_reducible refine is_build ?_); (first | refine ⟨_, Yl_build rfl (b_build55 _ _ _ _), ?_⟩ | refine ⟨_, Yl_build rfl (b_build44 _ _ _ _), ?_⟩))
          | (first | ((((refine' Ef_appG_row (news := mE _) rfl rfl rfl ?q1 ?q2 ?q3 (mE_one _) ?q4 ?q5 ?_); (case q1 => exact app_of rfl); (case q2 => (first | exact at0 | exact at1 | exact at2 | exact at3 | exact at4 | exact at5 | exact at6)); (case q3 => (repeat (first | exact .head _ | apply List.Mem.tail))); (case q4 => omega); (case q5 => omega))); (first | ((fail_if_success have := A1); intro A1 c1) | ((fail_if_success have := A2); intro A2 c2) | intro _ _)))
          | ((with_reducible refine g_draw ?_); (first  | (((with_reducible refine' T.draw0 (id := 5) [(0, true), (1, true), (2, true), (3, true), (4, true), (5, true), (6, true), (7, true), (8, true), (9, true), (10, true), (11, true), (12, false), (13, false), (14, false), (15, false), (16, false), (17, false), (18, false), (19, false)] mixd ?q1 ?_); (case q1 => kernel_rfl)))))
          | refine w1 ?_
          | (refine w2 ?_ ?_ <;> intro hc)
          | (first | ((refine' ⟨_, Yl_eql_nil rfl rfl ?q1, ?_⟩); (case q1 => exact und_of rfl)))
          | (refine w4 ?_; (intro _))
          | (refine w5 ?_; (first | ((fail_if_success have := A1); intro A1 c1) | ((fail_if_success have := A2); intro A2 c2) | intro _ _))
          | refine w3 ?_ ?_
          | fail_if_success skip)
      refine loopQ_n (i + 1, A2, c2) ?_ ?_ (show i + 1 ≤ len by omega) (show len - (i + 1) < len - i by omega)
      · (repeat (first | exact Sub.nil | refine Sub.cons rfl ?_))
      · rw [take_snoc hx, mE_snoc]; (repeat (first | exact List.nil_sublist _ | refine List.Sublist.cons_cons _ ?_ | refine List.Sublist.cons _ ?_))
    · have hil : i = l.length := by omega
      repeat' (first
          | ((with_reducible refine is_load ?_); (first | ((refine' ⟨_, Yl_loadA_hp rfl ?qa ?qb ?ql ?qc, ?_⟩); (case qa => exact agg_of rfl); (case qb => (first | exact fun _ hp => hp.rd hr fun _ => List.not_mem_nil)); (case qc => assumption); (case ql => rfl))))
          | ((with_reducible refine is_build ?_); (first | refine ⟨_, Yl_build rfl (b_build55 _ _ _ _), ?_⟩ | refine ⟨_, Yl_build rfl (b_build44 _ _ _ _), ?_⟩))
          | (first | ((((refine' Ef_appG_row (news := mE _) rfl rfl rfl ?q1 ?q2 ?q3 (mE_one _) ?q4 ?q5 ?_); (case q1 => exact app_of rfl); (case q2 => (first | exact at0 | exact at1 | exact at2 | exact at3 | exact at4 | exact at5 | exact at6)); (case q3 => (repeat (first | exact .head _ | apply List.Mem.tail))); (case q4 => omega); (case q5 => omega))); (first | ((fail_if_success have := A1); intro A1 c1) | ((fail_if_success have := A2); intro A2 c2) | intro _ _)))
          | ((with_reducible refine g_draw ?_); (first  | (((with_reducible refine' T.draw0 (id := 5) [(0, true), (1, true), (2, true), (3, true), (4, true), (5, true), (6, true), (7, true), (8, true), (9, true), (10, true), (11, true), (12, false), (13, false), (14, false), (15, false), (16, false), (17, false), (18, false), (19, false)] mixd ?q1 ?_); (case q1 => kernel_rfl)))))
          | refine w1 ?_
          | (refine w2 ?_ ?_ <;> intro hc)
          | (first | ((refine' ⟨_, Yl_eql_nil rfl rfl ?q1, ?_⟩); (case q1 => exact und_of rfl)))
          | (refine w4 ?_; (intro _))
          | (refine w5 ?_; (first | ((fail_if_success have := A1); intro A1 c1) | ((fail_if_success have := A2); intro A2 c2) | intro _ _))
          | refine w3 ?_ ?_
          | fail_if_success skip)
      refine ret_n [rD l (A1, c1)] (res1 rfl rfl) ?_ ⟨(A1, c1), by rw [hil], rfl⟩
      unfold rD
      rw [← hil, List.take_of_length_le (by omega)]
      (repeat (first | exact List.nil_sublist _ | refine List.Sublist.cons_cons _ ?_ | refine List.Sublist.cons _ ?_))

variable (hin : Ins w l) (h4 : ∀ x ∈ l, x.1.r.keys.length ≤ 400)
include hin h4
set_option maxHeartbeats 4000000 in
theorem to_c : Sp Try.prog 10 [.slice A len cap] w [] fun v N => ∃ y : Hd × List Me, y.2.map (·.1) = l.map (·.1) ∧ v = .slice y.1.1 y.2.length y.1.2 ∧ N = [rM y.2 y.1, bag (y.2.map mA)] := by
  refine Sp.enter (n := 38) Try.func10 rfl rfl rfl (Hp.refl w) ?_
  refine T.mem (fun _ h => h.bagNil) ?_
  refine T.row0e 55 77 ?_
  repeat' (first
      | ((with_reducible refine is_load ?_); (first | ((refine' ⟨_, Yl_loadA_hp rfl ?qa ?qb ?ql ?qc, ?_⟩); (case qa => exact agg_of rfl); (case qb => (first | exact fun _ hp => hp.rd hr fun _ => List.not_mem_nil)); (case qc => assumption); (case ql => rfl))))
      | ((with_reducible refine is_build ?_); (first | refine ⟨_, Yl_build rfl (b_build55 _ _ _ _), ?_⟩ | refine ⟨_, Yl_build rfl (b_build44 _ _ _ _), ?_⟩))
      | ((with_reducible refine ie_store ?_); (first | ((refine' Ef_storeA' rfl rfl ?q1 (rE_one _ _) ?q2 ?q3 ?_); (case q1 => exact siz_of rfl); (case q2 => (first | exact at0 | exact at1 | exact at2 | exact at3 | exact at4 | exact at5 | exact at6)); (case q3 => rfl)) | ((refine' Ef_storeC (C' := (rE r (A1, c1)).toArray) rfl rfl ?q1 ?q2 ?q3 ?q4 ?q5 ?_); (case q1 => rfl); (case q2 => exact siz_of rfl); (case q3 => (first | exact at0 | exact at1 | exact at2 | exact at3 | exact at4 | exact at5 | exact at6)); (case q4 => exact Nat.le_of_ble_eq_true rfl); (case q5 => rfl)) | ((refine' Ef_storeC (C' := (rE x.1.r (A2, c2)).toArray) rfl rfl ?q1 ?q2 ?q3 ?q4 ?q5 ?_); (case q1 => rfl); (case q2 => exact siz_of rfl); (case q3 => (first | exact at0 | exact at1 | exact at2 | exact at3 | exact at4 | exact at5 | exact at6)); (case q4 => exact Nat.le_of_ble_eq_true rfl); (case q5 => rfl))))
      | (first | ((((refine' Ef_appG_row (news := mE _) rfl rfl rfl ?q1 ?q2 ?q3 (mE_one _) ?q4 ?q5 ?_); (case q1 => exact app_of rfl); (case q2 => (first | exact at0 | exact at1 | exact at2 | exact at3 | exact at4 | exact at5 | exact at6)); (case q3 => (repeat (first | exact .head _ | apply List.Mem.tail))); (case q4 => omega); (case q5 => omega))); (first | ((fail_if_success have := A1); intro A1 c1) | ((fail_if_success have := A2); intro A2 c2) | ((fail_if_success have := A3); intro A3 c3) | intro _ _)))
      | ((with_reducible refine g_draw ?_); (first | (((with_reducible refine' T.draw0 (id := 7) [(0, true), (1, true), (2, true), (3, true), (4, true), (5, true), (6, true), (7, true), (8, true), (9, true), (10, true), (11, false), (12, false), (13, false), (14, false), (15, false)] mixd ?q1 ?_); (case q1 => kernel_rfl)))))
      | refine w1 ?_
      | (refine w2 ?_ ?_ <;> intro hc)
      | (first | ((refine' ⟨_, Yl_eql_nil rfl rfl ?q1, ?_⟩); (case q1 => exact und_of rfl)))
      | (refine w4 ?_; (intro _))
      | (refine w5 ?_; (first | ((fail_if_success have := A1); intro A1 c1) | ((fail_if_success have := A2); intro A2 c2) | ((fail_if_success have := A3); intro A3 c3) | intro _ _))
      | refine w3 ?_ ?_
      | fail_if_success skip)
  refine T.loopM (α := Nat × (Option Addr × Nat) × List Me) (fun z => [(0, .slice A len cap), (3, .slice z.2.1.1 z.2.2.length z.2.1.2), (4, .int .i64 (z.1 : Int))]) (fun z => [rM z.2.2 z.2.1, bag (z.2.2.map mA)]) (fun z => z.1 ≤ len ∧ z.2.2.map (·.1) = (l.take z.1).map (·.1)) (fun z => len - z.1) (0, (none, 0), []) ?_ ?_ ?_ ?_
  · (repeat (first | exact Sub.nil | refine Sub.cons rfl ?_))
  · exact fun _ h => h.ofPart (by unfold rM; (repeat (first | exact Part.nil | refine Part.p0 ?_ | refine Part.p1 ?_ | refine Part.p2 ?_ | refine Part.p3 ?_ | refine Part.p4 ?_ | refine Part.p5 ?_ | refine Part.p6 ?_)))
  · exact ⟨Nat.zero_le _, rfl⟩
  · rintro ⟨i, ⟨A1, c1⟩, ms⟩ ⟨hi, hms⟩
    dsimp only at hi hms ⊢
    have hml : ms.length = i := by have := congrArg List.length hms; simpa [hl, Nat.min_eq_left hi] using this
    by_cases hlt : i < len
    · obtain ⟨x, hx⟩ := some_of_lt (l := l) (i := i) (by omega)
      have e0 : (l.flatMap mE)[i * 77 + 0]? = some (.int .i64 x.1.c) := enc_at mE_len hx (by omega)
      have e1 : (l.flatMap mE)[i * 77 + 1]? = some (.int .i64 x.1.id) := enc_at mE_len hx (j := 1) (by decide)
      have eA := mE_lk hx
      have oX := fun z => mE_one (x.1, z)
      have oR := fun z => rE_one x.1.r z
      have hxk : Rd w x.2.1 x.1.r.keys.length 1 (x.1.r.keys.flatMap kE) := hin x (mem_of_some hx)
      have oK := one_flat kE_one x.1.r.keys
      have hx4 := h4 x (mem_of_some hx)
      repeat' (first
          | ((with_reducible refine is_load ?_); (first | ((refine' ⟨_, Yl_loadA_hp rfl ?qa ?qb ?ql ?qc, ?_⟩); (case qa => exact agg_of rfl); (case qb => (first | exact fun _ hp => hp.rd hr fun _ => List.not_mem_nil)); (case qc => assumption); (case ql => rfl))))
          | ((with_reducible refine is_build ?_); (first | refine ⟨_, Yl_build rfl (b_build55 _ _ _ _), ?_⟩ | refine ⟨_, Yl_build rfl (b_build44 _ _ _ _), ?_⟩))
          | ((with_reducible refine ie_store ?_); (first | ((refine' Ef_storeA' rfl rfl ?q1 (rE_one _ _) ?q2 ?q3 ?_); (case q1 => exact siz_of rfl); (case q2 => (first | exact at0 | exact at1 | exact at2 | exact at3 | exact at4 | exact at5 | exact at6)); (case q3 => rfl)) | ((refine' Ef_storeC (C' := (rE r (A1, c1)).toArray) rfl rfl ?q1 ?q2 ?q3 ?q4 ?q5 ?_); (case q1 => rfl); (case q2 => exact siz_of rfl); (case q3 => (first | exact at0 | exact at1 | exact at2 | exact at3 | exact at4 | exact at5 | exact at6)); (case q4 => exact Nat.le_of_ble_eq_true rfl); (case q5 => rfl)) | ((refine' Ef_storeC (C' := (rE x.1.r (A2, c2)).toArray) rfl rfl ?q1 ?q2 ?q3 ?q4 ?q5 ?_); (case q1 => rfl); (case q2 => exact siz_of rfl); (case q3 => (first | exact at0 | exact at1 | exact at2 | exact at3 | exact at4 | exact at5 | exact at6)); (case q4 => exact Nat.le_of_ble_eq_true rfl); (case q5 => rfl))))
          | (first | ((((refine' Ef_appG_row (news := mE _) rfl rfl rfl ?q1 ?q2 ?q3 (mE_one _) ?q4 ?q5 ?_); (case q1 => exact app_of rfl); (case q2 => (first | exact at0 | exact at1 | exact at2 | exact at3 | exact at4 | exact at5 | exact at6)); (case q3 => (repeat (first | exact .head _ | apply List.Mem.tail))); (case q4 => omega); (case q5 => omega))); (first | ((fail_if_success have := A1); intro A1 c1) | ((fail_if_success have := A2); intro A2 c2) | ((fail_if_success have := A3); intro A3 c3) | intro _ _)))
          | ((with_reducible refine g_draw ?_); (first | (((with_reducible refine' T.draw0 (id := 7) [(0, true), (1, true), (2, true), (3, true), (4, true), (5, true), (6, true), (7, true), (8, true), (9, true), (10, true), (11, false), (12, false), (13, false), (14, false), (15, false)] mixd ?q1 ?_); (case q1 => kernel_rfl)))))
          | refine w1 ?_
          | (refine w2 ?_ ?_ <;> intro hc)
          | (first | ((refine' ⟨_, Yl_eql_nil rfl rfl ?q1, ?_⟩); (case q1 => exact und_of rfl)))
          | (refine w4 ?_; (intro _))
          | (refine w5 ?_; (first | ((fail_if_success have := A1); intro A1 c1) | ((fail_if_success have := A2); intro A2 c2) | ((fail_if_success have := A3); intro A3 c3) | intro _ _))
          | refine w3 ?_ ?_
          | fail_if_success skip)
      refine loopH_n (i + 1, (A3, c3), ms ++ [(x.1, (A2, c2))]) ?_ ?_ ⟨show i + 1 ≤ len by omega, by rw [take_snoc hx, List.map_append, List.map_append, hms]; rfl⟩ (show len - (i + 1) < len - i by omega)
      · rw [List.length_append]; (repeat (first | exact Sub.nil | refine Sub.cons rfl ?_))
      · intro w' hp
        have hp2 := (hp.ofPart (M' := [kA x.1.r (A2, c2), bag (ms.map mA), .row 55 77 (.slice A3 (ms.length + 1) c3) (ms.length + 1) (ms.flatMap mE ++ mE (x.1, (A2, c2)))]) (by (repeat (first | exact Part.nil | refine Part.p0 ?_ | refine Part.p1 ?_ | refine Part.p2 ?_ | refine Part.p3 ?_ | refine Part.p4 ?_ | refine Part.p5 ?_ | refine Part.p6 ?_)))).bagAdd
        dsimp only
        unfold rM
        rw [List.length_append, mE_snoc, List.map_append]
        exact hp2.ofPart (by (repeat (first | exact Part.nil | refine Part.p0 ?_ | refine Part.p1 ?_ | refine Part.p2 ?_ | refine Part.p3 ?_ | refine Part.p4 ?_ | refine Part.p5 ?_ | refine Part.p6 ?_)))
    · have hil : i = l.length := by omega
      rw [List.take_of_length_le (by omega)] at hms
      repeat' (first
          | ((with_reducible refine is_load ?_); (first | ((refine' ⟨_, Yl_loadA_hp rfl ?qa ?qb ?ql ?qc, ?_⟩); (case qa => exact agg_of rfl); (case qb => (first | exact fun _ hp => hp.rd hr fun _ => List.not_mem_nil)); (case qc => assumption); (case ql => rfl))))
          | ((with_reducible refine is_build ?_); (first | refine ⟨_, Yl_build rfl (b_build55 _ _ _ _), ?_⟩ | refine ⟨_, Yl_build rfl (b_build44 _ _ _ _), ?_⟩))
          | ((with_reducible refine ie_store ?_); (first | ((refine' Ef_storeA' rfl rfl ?q1 (rE_one _ _) ?q2 ?q3 ?_); (case q1 => exact siz_of rfl); (case q2 => (first | exact at0 | exact at1 | exact at2 | exact at3 | exact at4 | exact at5 | exact at6)); (case q3 => rfl)) | ((refine' Ef_storeC (C' := (rE r (A1, c1)).toArray) rfl rfl ?q1 ?q2 ?q3 ?q4 ?q5 ?_); (case q1 => rfl); (case q2 => exact siz_of rfl); (case q3 => (first | exact at0 | exact at1 | exact at2 | exact at3 | exact at4 | exact at5 | exact at6)); (case q4 => exact Nat.le_of_ble_eq_true rfl); (case q5 => rfl)) | ((refine' Ef_storeC (C' := (rE x.1.r (A2, c2)).toArray) rfl rfl ?q1 ?q2 ?q3 ?q4 ?q5 ?_); (case q1 => rfl); (case q2 => exact siz_of rfl); (case q3 => (first | exact at0 | exact at1 | exact at2 | exact at3 | exact at4 | exact at5 | exact at6)); (case q4 => exact Nat.le_of_ble_eq_true rfl); (case q5 => rfl))))
          | (first | ((((refine' Ef_appG_row (news := mE _) rfl rfl rfl ?q1 ?q2 ?q3 (mE_one _) ?q4 ?q5 ?_); (case q1 => exact app_of rfl); (case q2 => (first | exact at0 | exact at1 | exact at2 | exact at3 | exact at4 | exact at5 | exact at6)); (case q3 => (repeat (first | exact .head _ | apply List.Mem.tail))); (case q4 => omega); (case q5 => omega))); (first | ((fail_if_success have := A1); intro A1 c1) | ((fail_if_success have := A2); intro A2 c2) | ((fail_if_success have := A3); intro A3 c3) | intro _ _)))
          | ((with_reducible refine g_draw ?_); (first | (((with_reducible refine' T.draw0 (id := 7) [(0, true), (1, true), (2, true), (3, true), (4, true), (5, true), (6, true), (7, true), (8, true), (9, true), (10, true), (11, false), (12, false), (13, false), (14, false), (15, false)] mixd ?q1 ?_); (case q1 => kernel_rfl)))))
          | refine w1 ?_
          | (refine w2 ?_ ?_ <;> intro hc)
          | (first | ((refine' ⟨_, Yl_eql_nil rfl rfl ?q1, ?_⟩); (case q1 => exact und_of rfl)))
          | (refine w4 ?_; (intro _))
          | (refine w5 ?_; (first | ((fail_if_success have := A1); intro A1 c1) | ((fail_if_success have := A2); intro A2 c2) | ((fail_if_success have := A3); intro A3 c3) | intro _ _))
          | refine w3 ?_ ?_
          | fail_if_success skip)
      exact ret_n [rM ms (A1, c1), bag (ms.map mA)] (res1 rfl rfl) (by (repeat (first | exact List.nil_sublist _ | refine List.Sublist.cons_cons _ ?_ | refine List.Sublist.cons _ ?_))) ⟨((A1, c1), ms), hms, rfl, rfl⟩
end
end Go.Proofs.Ythiacfpfgdoliaa
