/- Law: whether a row of entries is a beginning of another one: what a call comes to. -/
import Derived.Test.YtegaejbfhpigjaaT1
namespace Go.Proofs.Ytegaejbfhpigjaa
open Go.RowKit
set_option maxRecDepth 20000

section
variable (A : Option Addr) (c : Nat) (l : List Ac) (B : Option Addr) (d : Nat) (m : List Ac) (w : World) (ha : Rd w A l.length 7 (l.flatMap aE)) (hb : Rd w B m.length 7 (m.flatMap aE)) (hia : Ins w (l.map (·.e))) (hib : Ins w (m.map (·.e)))
  (hle : l.length ≤ 140737488355328) (hle2 : m.length ≤ 140737488355328) (hlk : ∀ a ∈ l, a.e.1.body.length ≤ 140737488355328) (hlk2 : ∀ a ∈ m, a.e.1.body.length ≤ 140737488355328)
include ha hb hia hib hle hle2 hlk hlk2
set_option maxHeartbeats 8000000 in
theorem begins_law : Sp Try.prog 3 [.slice A l.length c, .slice B m.length d] w [] fun v N => v = .bool true ∧ N = [] := by
  have hg1 := fun w h => great_v A c l w h (by omega) hlk _ rfl
  have hg2 := fun w h => great_v B d m w h (by omega) hlk2 _ rfl
  cases h1 : Lg.great 0 l
  · rw [h1] at hg1
    cases h2 : Lg.great 0 m
    · rw [h2] at hg2
      obtain ⟨g1, g2⟩ := Lg.great_no h1 (Nat.zero_le _)
      obtain ⟨g3, g4⟩ := Lg.great_no h2 (Nat.zero_le _)
      have hXl : (l.map (·.e)).length = l.length := List.length_map _
      have hYl : (m.map (·.e)).length = m.length := List.length_map _
      have hXa : ∀ (i : Nat) (x : Ac), l[i]? = some x → (l.map (·.e))[i]? = some x.e := fun i x h => by rw [List.getElem?_map, h]; rfl
      have hYa : ∀ (i : Nat) (x : Ac), m[i]? = some x → (m.map (·.e))[i]? = some x.e := fun i x h => by rw [List.getElem?_map, h]; rfl
      have hXk : ∀ x ∈ l.map (·.e), x.1.body.length ≤ 9223372036854775806 := fun x hx => by
        obtain ⟨a, ha, rfl⟩ := List.mem_map.1 hx
        have := g2 a ha; omega
      generalize l.map (·.e) = X at hia hXl hXa hXk
      generalize m.map (·.e) = Y at hib hYl hYa
      obtain ⟨q, hq⟩ : ∃ q, Lg.beg (X.map (·.1)) (Y.map (·.1)) = q := ⟨_, rfl⟩
      clear g2 g4 h1 h2 hlk hlk2
      refine Sp.enter (n := 55) Try.func3 rfl rfl rfl (Hp.refl w) ?_
      refine T.row0e 27 5 ?_
      refine T.row0e 27 5 ?_
      repeat' (first
          | ((with_reducible refine is_load ?_); (first | ((refine' ⟨_, Yl_loadA_hp rfl ?qa ?qb ?ql ?qc, ?_⟩); (case qa => exact agg_of rfl); (case qb => (first | exact fun _ hp => hp.rd ha fun _ => List.not_mem_nil | exact fun _ hp => hp.rd hb fun _ => List.not_mem_nil)); (case qc => assumption); (case ql => rfl))))
          | ((with_reducible refine ie_callf ?_); (first
          | ((with_reducible refine g_call 10 ?_); (first | refine Ef_callP rfl rfl ent_10 (fun w hp => hg1 w (hp.rd ha fun _ => List.not_mem_nil)) ?_ | refine Ef_callP rfl rfl ent_10 (fun w hp => hg2 w (hp.rd hb fun _ => List.not_mem_nil)) ?_))
          | ((with_reducible refine g_call 11 ?_); (first | ((refine' Ef_callP rfl rfl ent_11 (fun w hp => begins_v A1 c1 X A2 c2 Y w (hp.rowOf ?q1) (hp.rowOf ?q2) (hp.ins_old hia) (hp.ins_old hib) ?q3 (hp.capOf (e := 27) (k := 5) (xs := Y.flatMap mE) ?q4) _ hq) ?_); (case q1 => (repeat (first | exact .head _ | apply List.Mem.tail))); (case q2 => (repeat (first | exact .head _ | apply List.Mem.tail))); (case q3 => omega); (case q4 => (repeat (first | exact .head _ | apply List.Mem.tail)))) | ((refine' Ef_callP rfl rfl ent_11 (fun w hp => begins_v A1 c1 X A1 c1 X w (hp.rowOf ?q1) (hp.rowOf ?q2) (hp.ins_old hia) (hp.ins_old hia) ?q3 (hp.capOf (e := 27) (k := 5) (xs := X.flatMap mE) ?q4) _ (Lg.beg_self _)) ?_); (case q1 => (repeat (first | exact .head _ | apply List.Mem.tail))); (case q2 => (repeat (first | exact .head _ | apply List.Mem.tail))); (case q3 => omega); (case q4 => (repeat (first | exact .head _ | apply List.Mem.tail))))))
          | ((with_reducible refine g_call 12 ?_); (first | ((refine' Ef_callP rfl rfl ent_12 (fun w hp => rbegins_v A1 c1 X A2 c2 Y w (hp.rowOf ?q1) (hp.rowOf ?q2) (hp.ins_old hia) (hp.ins_old hib) ?q3 hXk (hp.capOf (e := 27) (k := 5) (xs := Y.flatMap mE) ?q4) _ hq) ?_); (case q1 => (repeat (first | exact .head _ | apply List.Mem.tail))); (case q2 => (repeat (first | exact .head _ | apply List.Mem.tail))); (case q3 => omega); (case q4 => (repeat (first | exact .head _ | apply List.Mem.tail))))))))
          | (first | ((((refine' Ef_appG_row (news := mE _) rfl rfl rfl ?q1 ?q2 ?q3 (mE_one _) ?q4 ?q5 ?_); (case q1 => exact app_of rfl); (case q2 => (first | exact at0 | exact at1 | exact at2 | exact at3 | exact at4 | exact at5 | exact at6)); (case q3 => (repeat (first | exact .head _ | apply List.Mem.tail))); (case q4 => omega); (case q5 => omega))); (first | ((fail_if_success have := A1); intro A1 c1) | ((fail_if_success have := A2); intro A2 c2) | ((fail_if_success have := A3); intro A3 c3) | intro _ _)))
          | refine w1 ?_
          | (refine w2 ?_ ?_ <;> intro hc)
          | (refine w4 ?_; (intro _))
          | (refine w5 ?_; (first | ((fail_if_success have := A1); intro A1 c1) | ((fail_if_success have := A2); intro A2 c2) | ((fail_if_success have := A3); intro A3 c3) | intro _ _))
          | refine w3 ?_ ?_
          | fail_if_success skip)
      refine T.loop (α := Nat × Option Addr × Nat) (fun z => [(0, .slice A l.length c), (1, .slice B m.length d), (5, .slice z.2.1 z.1 z.2.2), (6, .slice none 0 0), (7, .int .i64 (z.1 : Int))]) (fun z => [.row 27 5 (.slice z.2.1 z.1 z.2.2) z.1 ((X.take z.1).flatMap mE), .row 27 5 (.slice none 0 0) 0 []]) (fun z => z.1 ≤ l.length) (fun z => l.length - z.1) (0, none, 0) ?_ ?_ ?_ ?_
      · (repeat (first | exact Sub.nil | refine Sub.cons rfl ?_))
      · (repeat (first | exact List.nil_sublist _ | refine List.Sublist.cons_cons _ ?_ | refine List.Sublist.cons _ ?_))
      · exact Nat.zero_le _
      · rintro ⟨i, A1, c1⟩ hi
        dsimp only at hi ⊢
        by_cases hlt : i < l.length
        · obtain ⟨x, hx⟩ := some_of_lt (l := l) (i := i) hlt
          have eA := aE_e hx
          repeat' (first
              | ((with_reducible refine is_load ?_); (first | ((refine' ⟨_, Yl_loadA_hp rfl ?qa ?qb ?ql ?qc, ?_⟩); (case qa => exact agg_of rfl); (case qb => (first | exact fun _ hp => hp.rd ha fun _ => List.not_mem_nil | exact fun _ hp => hp.rd hb fun _ => List.not_mem_nil)); (case qc => assumption); (case ql => rfl))))
              | ((with_reducible refine ie_callf ?_); (first
              | ((with_reducible refine g_call 10 ?_); (first | refine Ef_callP rfl rfl ent_10 (fun w hp => hg1 w (hp.rd ha fun _ => List.not_mem_nil)) ?_ | refine Ef_callP rfl rfl ent_10 (fun w hp => hg2 w (hp.rd hb fun _ => List.not_mem_nil)) ?_))
              | ((with_reducible refine g_call 11 ?_); (first | ((refine' Ef_callP rfl rfl ent_11 (fun w hp => begins_v A1 c1 X A2 c2 Y w (hp.rowOf ?q1) (hp.rowOf ?q2) (hp.ins_old hia) (hp.ins_old hib) ?q3 (hp.capOf (e := 27) (k := 5) (xs := Y.flatMap mE) ?q4) _ hq) ?_); (case q1 => (repeat (first | exact .head _ | apply List.Mem.tail))); (case q2 => (repeat (first | exact .head _ | apply List.Mem.tail))); (case q3 => omega); (case q4 => (repeat (first | exact .head _ | apply List.Mem.tail)))) | ((refine' Ef_callP rfl rfl ent_11 (fun w hp => begins_v A1 c1 X A1 c1 X w (hp.rowOf ?q1) (hp.rowOf ?q2) (hp.ins_old hia) (hp.ins_old hia) ?q3 (hp.capOf (e := 27) (k := 5) (xs := X.flatMap mE) ?q4) _ (Lg.beg_self _)) ?_); (case q1 => (repeat (first | exact .head _ | apply List.Mem.tail))); (case q2 => (repeat (first | exact .head _ | apply List.Mem.tail))); (case q3 => omega); (case q4 => (repeat (first | exact .head _ | apply List.Mem.tail))))))
              | ((with_reducible refine g_call 12 ?_); (first | ((refine' Ef_callP rfl rfl ent_12 (fun w hp => rbegins_v A1 c1 X A2 c2 Y w (hp.rowOf ?q1) (hp.rowOf ?q2) (hp.ins_old hia) (hp.ins_old hib) ?q3 hXk (hp.capOf (e := 27) (k := 5) (xs := Y.flatMap mE) ?q4) _ hq) ?_); (case q1 => (repeat (first | exact .head _ | apply List.Mem.tail))); (case q2 => (repeat (first | exact .head _ | apply List.Mem.tail))); (case q3 => omega); (case q4 => (repeat (first | exact .head _ | apply List.Mem.tail))))))))
              | (first | ((((refine' Ef_appG_row (news := mE _) rfl rfl rfl ?q1 ?q2 ?q3 (mE_one _) ?q4 ?q5 ?_); (case q1 => exact app_of rfl); (case q2 => (first | exact at0 | exact at1 | exact at2 | exact at3 | exact at4 | exact at5 | exact at6)); (case q3 => (repeat (first | exact .head _ | apply List.Mem.tail))); (case q4 => omega); (case q5 => omega))); (first | ((fail_if_success have := A1); intro A1 c1) | ((fail_if_success have := A2); intro A2 c2) | ((fail_if_success have := A3); intro A3 c3) | intro _ _)))
              | refine w1 ?_
              | (refine w2 ?_ ?_ <;> intro hc)
              | (refine w4 ?_; (intro _))
              | (refine w5 ?_; (first | ((fail_if_success have := A1); intro A1 c1) | ((fail_if_success have := A2); intro A2 c2) | ((fail_if_success have := A3); intro A3 c3) | intro _ _))
              | refine w3 ?_ ?_
              | fail_if_success skip)
          refine loopQ_n (i + 1, A2, c2) ?_ ?_ (show i + 1 ≤ l.length by omega) (show l.length - (i + 1) < l.length - i by omega)
          · (repeat (first | exact Sub.nil | refine Sub.cons rfl ?_))
          · rw [take_snoc (hXa i x hx), mE_snoc]; (repeat (first | exact List.nil_sublist _ | refine List.Sublist.cons_cons _ ?_ | refine List.Sublist.cons _ ?_))
        · obtain rfl : i = X.length := by omega
          rw [List.take_length]
          repeat' (first
              | ((with_reducible refine is_load ?_); (first | ((refine' ⟨_, Yl_loadA_hp rfl ?qa ?qb ?ql ?qc, ?_⟩); (case qa => exact agg_of rfl); (case qb => (first | exact fun _ hp => hp.rd ha fun _ => List.not_mem_nil | exact fun _ hp => hp.rd hb fun _ => List.not_mem_nil)); (case qc => assumption); (case ql => rfl))))
              | ((with_reducible refine ie_callf ?_); (first
              | ((with_reducible refine g_call 10 ?_); (first | refine Ef_callP rfl rfl ent_10 (fun w hp => hg1 w (hp.rd ha fun _ => List.not_mem_nil)) ?_ | refine Ef_callP rfl rfl ent_10 (fun w hp => hg2 w (hp.rd hb fun _ => List.not_mem_nil)) ?_))
              | ((with_reducible refine g_call 11 ?_); (first | ((refine' Ef_callP rfl rfl ent_11 (fun w hp => begins_v A1 c1 X A2 c2 Y w (hp.rowOf ?q1) (hp.rowOf ?q2) (hp.ins_old hia) (hp.ins_old hib) ?q3 (hp.capOf (e := 27) (k := 5) (xs := Y.flatMap mE) ?q4) _ hq) ?_); (case q1 => (repeat (first | exact .head _ | apply List.Mem.tail))); (case q2 => (repeat (first | exact .head _ | apply List.Mem.tail))); (case q3 => omega); (case q4 => (repeat (first | exact .head _ | apply List.Mem.tail)))) | ((refine' Ef_callP rfl rfl ent_11 (fun w hp => begins_v A1 c1 X A1 c1 X w (hp.rowOf ?q1) (hp.rowOf ?q2) (hp.ins_old hia) (hp.ins_old hia) ?q3 (hp.capOf (e := 27) (k := 5) (xs := X.flatMap mE) ?q4) _ (Lg.beg_self _)) ?_); (case q1 => (repeat (first | exact .head _ | apply List.Mem.tail))); (case q2 => (repeat (first | exact .head _ | apply List.Mem.tail))); (case q3 => omega); (case q4 => (repeat (first | exact .head _ | apply List.Mem.tail))))))
              | ((with_reducible refine g_call 12 ?_); (first | ((refine' Ef_callP rfl rfl ent_12 (fun w hp => rbegins_v A1 c1 X A2 c2 Y w (hp.rowOf ?q1) (hp.rowOf ?q2) (hp.ins_old hia) (hp.ins_old hib) ?q3 hXk (hp.capOf (e := 27) (k := 5) (xs := Y.flatMap mE) ?q4) _ hq) ?_); (case q1 => (repeat (first | exact .head _ | apply List.Mem.tail))); (case q2 => (repeat (first | exact .head _ | apply List.Mem.tail))); (case q3 => omega); (case q4 => (repeat (first | exact .head _ | apply List.Mem.tail))))))))
              | (first | ((((refine' Ef_appG_row (news := mE _) rfl rfl rfl ?q1 ?q2 ?q3 (mE_one _) ?q4 ?q5 ?_); (case q1 => exact app_of rfl); (case q2 => (first | exact at0 | exact at1 | exact at2 | exact at3 | exact at4 | exact at5 | exact at6)); (case q3 => (repeat (first | exact .head _ | apply List.Mem.tail))); (case q4 => omega); (case q5 => omega))); (first | ((fail_if_success have := A1); intro A1 c1) | ((fail_if_success have := A2); intro A2 c2) | ((fail_if_success have := A3); intro A3 c3) | intro _ _)))
              | refine w1 ?_
              | (refine w2 ?_ ?_ <;> intro hc)
              | (refine w4 ?_; (intro _))
              | (refine w5 ?_; (first | ((fail_if_success have := A1); intro A1 c1) | ((fail_if_success have := A2); intro A2 c2) | ((fail_if_success have := A3); intro A3 c3) | intro _ _))
              | refine w3 ?_ ?_
              | fail_if_success skip)
          refine T.loop (α := Nat × Option Addr × Nat) (fun z => [(1, .slice B m.length d), (5, .slice A1 X.length c1), (6, .slice z.2.1 z.1 z.2.2), (8, .int .i64 (z.1 : Int))]) (fun z => [.row 27 5 (.slice A1 X.length c1) X.length (X.flatMap mE), .row 27 5 (.slice z.2.1 z.1 z.2.2) z.1 ((Y.take z.1).flatMap mE)]) (fun z => z.1 ≤ m.length) (fun z => m.length - z.1) (0, none, 0) ?_ ?_ ?_ ?_
          · (repeat (first | exact Sub.nil | refine Sub.cons rfl ?_))
          · (repeat (first | exact List.nil_sublist _ | refine List.Sublist.cons_cons _ ?_ | refine List.Sublist.cons _ ?_))
          · exact Nat.zero_le _
          · rintro ⟨j, A2, c2⟩ hj
            dsimp only at hj ⊢
            by_cases hltj : j < m.length
            · obtain ⟨x, hx⟩ := some_of_lt (l := m) (i := j) hltj
              have eA := aE_e hx
              repeat' (first
                  | ((with_reducible refine is_load ?_); (first | ((refine' ⟨_, Yl_loadA_hp rfl ?qa ?qb ?ql ?qc, ?_⟩); (case qa => exact agg_of rfl); (case qb => (first | exact fun _ hp => hp.rd ha fun _ => List.not_mem_nil | exact fun _ hp => hp.rd hb fun _ => List.not_mem_nil)); (case qc => assumption); (case ql => rfl))))
                  | ((with_reducible refine ie_callf ?_); (first
                  | ((with_reducible refine g_call 10 ?_); (first | refine Ef_callP rfl rfl ent_10 (fun w hp => hg1 w (hp.rd ha fun _ => List.not_mem_nil)) ?_ | refine Ef_callP rfl rfl ent_10 (fun w hp => hg2 w (hp.rd hb fun _ => List.not_mem_nil)) ?_))
                  | ((with_reducible refine g_call 11 ?_); (first | ((refine' Ef_callP rfl rfl ent_11 (fun w hp => begins_v A1 c1 X A2 c2 Y w (hp.rowOf ?q1) (hp.rowOf ?q2) (hp.ins_old hia) (hp.ins_old hib) ?q3 (hp.capOf (e := 27) (k := 5) (xs := Y.flatMap mE) ?q4) _ hq) ?_); (case q1 => (repeat (first | exact .head _ | apply List.Mem.tail))); (case q2 => (repeat (first | exact .head _ | apply List.Mem.tail))); (case q3 => omega); (case q4 => (repeat (first | exact .head _ | apply List.Mem.tail)))) | ((refine' Ef_callP rfl rfl ent_11 (fun w hp => begins_v A1 c1 X A1 c1 X w (hp.rowOf ?q1) (hp.rowOf ?q2) (hp.ins_old hia) (hp.ins_old hia) ?q3 (hp.capOf (e := 27) (k := 5) (xs := X.flatMap mE) ?q4) _ (Lg.beg_self _)) ?_); (case q1 => (repeat (first | exact .head _ | apply List.Mem.tail))); (case q2 => (repeat (first | exact .head _ | apply List.Mem.tail))); (case q3 => omega); (case q4 => (repeat (first | exact .head _ | apply List.Mem.tail))))))
                  | ((with_reducible refine g_call 12 ?_); (first | ((refine' Ef_callP rfl rfl ent_12 (fun w hp => rbegins_v A1 c1 X A2 c2 Y w (hp.rowOf ?q1) (hp.rowOf ?q2) (hp.ins_old hia) (hp.ins_old hib) ?q3 hXk (hp.capOf (e := 27) (k := 5) (xs := Y.flatMap mE) ?q4) _ hq) ?_); (case q1 => (repeat (first | exact .head _ | apply List.Mem.tail))); (case q2 => (repeat (first | exact .head _ | apply List.Mem.tail))); (case q3 => omega); (case q4 => (repeat (first | exact .head _ | apply List.Mem.tail))))))))
                  | (first | ((((refine' Ef_appG_row (news := mE _) rfl rfl rfl ?q1 ?q2 ?q3 (mE_one _) ?q4 ?q5 ?_); (case q1 => exact app_of rfl); (case q2 => (first | exact at0 | exact at1 | exact at2 | exact at3 | exact at4 | exact at5 | exact at6)); (case q3 => (repeat (first | exact .head _ | apply List.Mem.tail))); (case q4 => omega); (case q5 => omega))); (first | ((fail_if_success have := A1); intro A1 c1) | ((fail_if_success have := A2); intro A2 c2) | ((fail_if_success have := A3); intro A3 c3) | intro _ _)))
                  | refine w1 ?_
                  | (refine w2 ?_ ?_ <;> intro hc)
                  | (refine w4 ?_; (intro _))
                  | (refine w5 ?_; (first | ((fail_if_success have := A1); intro A1 c1) | ((fail_if_success have := A2); intro A2 c2) | ((fail_if_success have := A3); intro A3 c3) | intro _ _))
                  | refine w3 ?_ ?_
                  | fail_if_success skip)
              refine loopQ_n (j + 1, A3, c3) ?_ ?_ (show j + 1 ≤ m.length by omega) (show m.length - (j + 1) < m.length - j by omega)
              · (repeat (first | exact Sub.nil | refine Sub.cons rfl ?_))
              · rw [take_snoc (hYa j x hx), mE_snoc]; (repeat (first | exact List.nil_sublist _ | refine List.Sublist.cons_cons _ ?_ | refine List.Sublist.cons _ ?_))
            · obtain rfl : j = Y.length := by omega
              rw [List.take_length]
              cases q
              all_goals
                repeat' (first
                    | ((with_reducible refine is_load ?_); (first | ((refine' ⟨_, Yl_loadA_hp rfl ?qa ?qb ?ql ?qc, ?_⟩); (case qa => exact agg_of rfl); (case qb => (first | exact fun _ hp => hp.rd ha fun _ => List.not_mem_nil | exact fun _ hp => hp.rd hb fun _ => List.not_mem_nil)); (case qc => assumption); (case ql => rfl))))
                    | ((with_reducible refine ie_callf ?_); (first
                    | ((with_reducible refine g_call 10 ?_); (first | refine Ef_callP rfl rfl ent_10 (fun w hp => hg1 w (hp.rd ha fun _ => List.not_mem_nil)) ?_ | refine Ef_callP rfl rfl ent_10 (fun w hp => hg2 w (hp.rd hb fun _ => List.not_mem_nil)) ?_))
                    | ((with_reducible refine g_call 11 ?_); (first | ((refine' Ef_callP rfl rfl ent_11 (fun w hp => begins_v A1 c1 X A2 c2 Y w (hp.rowOf ?q1) (hp.rowOf ?q2) (hp.ins_old hia) (hp.ins_old hib) ?q3 (hp.capOf (e := 27) (k := 5) (xs := Y.flatMap mE) ?q4) _ hq) ?_); (case q1 => (repeat (first | exact .head _ | apply List.Mem.tail))); (case q2 => (repeat (first | exact .head _ | apply List.Mem.tail))); (case q3 => omega); (case q4 => (repeat (first | exact .head _ | apply List.Mem.tail)))) | ((refine' Ef_callP rfl rfl ent_11 (fun w hp => begins_v A1 c1 X A1 c1 X w (hp.rowOf ?q1) (hp.rowOf ?q2) (hp.ins_old hia) (hp.ins_old hia) ?q3 (hp.capOf (e := 27) (k := 5) (xs := X.flatMap mE) ?q4) _ (Lg.beg_self _)) ?_); (case q1 => (repeat (first | exact .head _ | apply List.Mem.tail))); (case q2 => (repeat (first | exact .head _ | apply List.Mem.tail))); (case q3 => omega); (case q4 => (repeat (first | exact .head _ | apply List.Mem.tail))))))
                    | ((with_reducible refine g_call 12 ?_); (first | ((refine' Ef_callP rfl rfl ent_12 (fun w hp => rbegins_v A1 c1 X A2 c2 Y w (hp.rowOf ?q1) (hp.rowOf ?q2) (hp.ins_old hia) (hp.ins_old hib) ?q3 hXk (hp.capOf (e := 27) (k := 5) (xs := Y.flatMap mE) ?q4) _ hq) ?_); (case q1 => (repeat (first | exact .head _ | apply List.Mem.tail))); (case q2 => (repeat (first | exact .head _ | apply List.Mem.tail))); (case q3 => omega); (case q4 => (repeat (first | exact .head _ | apply List.Mem.tail))))))))
                    | (first | ((((refine' Ef_appG_row (news := mE _) rfl rfl rfl ?q1 ?q2 ?q3 (mE_one _) ?q4 ?q5 ?_); (case q1 => exact app_of rfl); (case q2 => (first | exact at0 | exact at1 | exact at2 | exact at3 | exact at4 | exact at5 | exact at6)); (case q3 => (repeat (first | exact .head _ | apply List.Mem.tail))); (case q4 => omega); (case q5 => omega))); (first | ((fail_if_success have := A1); intro A1 c1) | ((fail_if_success have := A2); intro A2 c2) | ((fail_if_success have := A3); intro A3 c3) | intro _ _)))
                    | refine w1 ?_
                    | (refine w2 ?_ ?_ <;> intro hc)
                    | (refine w4 ?_; (intro _))
                    | (refine w5 ?_; (first | ((fail_if_success have := A1); intro A1 c1) | ((fail_if_success have := A2); intro A2 c2) | ((fail_if_success have := A3); intro A3 c3) | intro _ _))
                    | refine w3 ?_ ?_
                    | fail_if_success skip)
                exact ret_n [] (res1 rfl rfl) (List.nil_sublist _) ⟨rfl, rfl⟩
    · rw [h2] at hg2
      refine Sp.enter (n := 55) Try.func3 rfl rfl rfl (Hp.refl w) ?_
      repeat' (first
          | ((with_reducible refine is_load ?_); (first | ((refine' ⟨_, Yl_loadA_hp rfl ?qa ?qb ?ql ?qc, ?_⟩); (case qa => exact agg_of rfl); (case qb => (first | exact fun _ hp => hp.rd ha fun _ => List.not_mem_nil | exact fun _ hp => hp.rd hb fun _ => List.not_mem_nil)); (case qc => assumption); (case ql => rfl))))
          | ((with_reducible refine ie_callf ?_); (first
          | ((with_reducible refine g_call 10 ?_); (first | refine Ef_callP rfl rfl ent_10 (fun w hp => hg1 w (hp.rd ha fun _ => List.not_mem_nil)) ?_ | refine Ef_callP rfl rfl ent_10 (fun w hp => hg2 w (hp.rd hb fun _ => List.not_mem_nil)) ?_))
          | ((with_reducible refine g_call 11 ?_); (first | ((refine' Ef_callP rfl rfl ent_11 (fun w hp => begins_v A1 c1 X A2 c2 Y w (hp.rowOf ?q1) (hp.rowOf ?q2) (hp.ins_old hia) (hp.ins_old hib) ?q3 (hp.capOf (e := 27) (k := 5) (xs := Y.flatMap mE) ?q4) _ hq) ?_); (case q1 => (repeat (first | exact .head _ | apply List.Mem.tail))); (case q2 => (repeat (first | exact .head _ | apply List.Mem.tail))); (case q3 => omega); (case q4 => (repeat (first | exact .head _ | apply List.Mem.tail)))) | ((refine' Ef_callP rfl rfl ent_11 (fun w hp => begins_v A1 c1 X A1 c1 X w (hp.rowOf ?q1) (hp.rowOf ?q2) (hp.ins_old hia) (hp.ins_old hia) ?q3 (hp.capOf (e := 27) (k := 5) (xs := X.flatMap mE) ?q4) _ (Lg.beg_self _)) ?_); (case q1 => (repeat (first | exact .head _ | apply List.Mem.tail))); (case q2 => (repeat (first | exact .head _ | apply List.Mem.tail))); (case q3 => omega); (case q4 => (repeat (first | exact .head _ | apply List.Mem.tail))))))
          | ((with_reducible refine g_call 12 ?_); (first | ((refine' Ef_callP rfl rfl ent_12 (fun w hp => rbegins_v A1 c1 X A2 c2 Y w (hp.rowOf ?q1) (hp.rowOf ?q2) (hp.ins_old hia) (hp.ins_old hib) ?q3 hXk (hp.capOf (e := 27) (k := 5) (xs := Y.flatMap mE) ?q4) _ hq) ?_); (case q1 => (repeat (first | exact .head _ | apply List.Mem.tail))); (case q2 => (repeat (first | exact .head _ | apply List.Mem.tail))); (case q3 => omega); (case q4 => (repeat (first | exact .head _ | apply List.Mem.tail))))))))
          | (first | ((((refine' Ef_appG_row (news := mE _) rfl rfl rfl ?q1 ?q2 ?q3 (mE_one _) ?q4 ?q5 ?_); (case q1 => exact app_of rfl); (case q2 => (first | exact at0 | exact at1 | exact at2 | exact at3 | exact at4 | exact at5 | exact at6)); (case q3 => (repeat (first | exact .head _ | apply List.Mem.tail))); (case q4 => omega); (case q5 => omega))); (first | ((fail_if_success have := A1); intro A1 c1) | ((fail_if_success have := A2); intro A2 c2) | ((fail_if_success have := A3); intro A3 c3) | intro _ _)))
          | refine w1 ?_
          | (refine w2 ?_ ?_ <;> intro hc)
          | (refine w4 ?_; (intro _))
          | (refine w5 ?_; (first | ((fail_if_success have := A1); intro A1 c1) | ((fail_if_success have := A2); intro A2 c2) | ((fail_if_success have := A3); intro A3 c3) | intro _ _))
          | refine w3 ?_ ?_
          | fail_if_success skip)
      exact ret_n [] (res1 rfl rfl) (List.nil_sublist _) ⟨rfl, rfl⟩
  · rw [h1] at hg1
    refine Sp.enter (n := 55) Try.func3 rfl rfl rfl (Hp.refl w) ?_
    repeat' (first
        | ((with_reducible refine is_load ?_); (first | ((refine' ⟨_, Yl_loadA_hp rfl ?qa ?qb ?ql ?qc, ?_⟩); (case qa => exact agg_of rfl); (case qb => (first | exact fun _ hp => hp.rd ha fun _ => List.not_mem_nil | exact fun _ hp => hp.rd hb fun _ => List.not_mem_nil)); (case qc => assumption); (case ql => rfl))))
        | ((with_reducible refine ie_callf ?_); (first
        | ((with_reducible refine g_call 10 ?_); (first | refine Ef_callP rfl rfl ent_10 (fun w hp => hg1 w (hp.rd ha fun _ => List.not_mem_nil)) ?_ | refine Ef_callP rfl rfl ent_10 (fun w hp => hg2 w (hp.rd hb fun _ => List.not_mem_nil)) ?_))
        | ((with_reducible refine g_call 11 ?_); (first | ((refine' Ef_callP rfl rfl ent_11 (fun w hp => begins_v A1 c1 X A2 c2 Y w (hp.rowOf ?q1) (hp.rowOf ?q2) (hp.ins_old hia) (hp.ins_old hib) ?q3 (hp.capOf (e := 27) (k := 5) (xs := Y.flatMap mE) ?q4) _ hq) ?_); (case q1 => (repeat (first | exact .head _ | apply List.Mem.tail))); (case q2 => (repeat (first | exact .head _ | apply List.Mem.tail))); (case q3 => omega); (case q4 => (repeat (first | exact .head _ | apply List.Mem.tail)))) | ((refine' Ef_callP rfl rfl ent_11 (fun w hp => begins_v A1 c1 X A1 c1 X w (hp.rowOf ?q1) (hp.rowOf ?q2) (hp.ins_old hia) (hp.ins_old hia) ?q3 (hp.capOf (e := 27) (k := 5) (xs := X.flatMap mE) ?q4) _ (Lg.beg_self _)) ?_); (case q1 => (repeat (first | exact .head _ | apply List.Mem.tail))); (case q2 => (repeat (first | exact .head _ | apply List.Mem.tail))); (case q3 => omega); (case q4 => (repeat (first | exact .head _ | apply List.Mem.tail))))))
        | ((with_reducible refine g_call 12 ?_); (first | ((refine' Ef_callP rfl rfl ent_12 (fun w hp => rbegins_v A1 c1 X A2 c2 Y w (hp.rowOf ?q1) (hp.rowOf ?q2) (hp.ins_old hia) (hp.ins_old hib) ?q3 hXk (hp.capOf (e := 27) (k := 5) (xs := Y.flatMap mE) ?q4) _ hq) ?_); (case q1 => (repeat (first | exact .head _ | apply List.Mem.tail))); (case q2 => (repeat (first | exact .head _ | apply List.Mem.tail))); (case q3 => omega); (case q4 => (repeat (first | exact .head _ | apply List.Mem.tail))))))))
        | (first | ((((refine' Ef_appG_row (news := mE _) rfl rfl rfl ?q1 ?q2 ?q3 (mE_one _) ?q4 ?q5 ?_); (case q1 => exact app_of rfl); (case q2 => (first | exact at0 | exact at1 | exact at2 | exact at3 | exact at4 | exact at5 | exact at6)); (case q3 => (repeat (first | exact .head _ | apply List.Mem.tail))); (case q4 => omega); (case q5 => omega))); (first | ((fail_if_success have := A1); intro A1 c1) | ((fail_if_success have := A2); intro A2 c2) | ((fail_if_success have := A3); intro A3 c3) | intro _ _)))
        | refine w1 ?_
        | (refine w2 ?_ ?_ <;> intro hc)
        | (refine w4 ?_; (intro _))
        | (refine w5 ?_; (first | ((fail_if_success have := A1); intro A1 c1) | ((fail_if_success have := A2); intro A2 c2) | ((fail_if_success have := A3); intro A3 c3) | intro _ _))
        | refine w3 ?_ ?_
        | fail_if_success skip)
    exact ret_n [] (res1 rfl rfl) (List.nil_sublist _) ⟨rfl, rfl⟩
end
end Go.Proofs.Ytegaejbfhpigjaa
