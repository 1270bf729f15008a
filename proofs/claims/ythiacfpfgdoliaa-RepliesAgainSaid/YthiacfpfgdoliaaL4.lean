/- Law: whatever is noted, each client is told again what was noted of it last: what a call comes to. -/
import Derived.Test.YthiacfpfgdoliaaT11
import Derived.Test.YthiacfpfgdoliaaRo
namespace Go.Proofs.Ythiacfpfgdoliaa
open Go.RowKit
set_option maxRecDepth 20000

theorem wrap_mod (i m : Int) (h0 : 0 < m) (h1 : m ≤ 100000) : IntKind.wrap .i64 (IntKind.wrap .u64 i % m) = IntKind.wrap .u64 i % m := by
  have h2 := Int.emod_nonneg (IntKind.wrap .u64 i) (show m ≠ 0 by omega)
  have h3 := Int.emod_lt_of_pos (IntKind.wrap .u64 i) h0
  exact IntWalk.i64_in _ (by omega)

section
variable (A : Option Addr) (c : Nat) (l : List Me) (w : World) (ha : Rd w A l.length 77 (l.flatMap mE)) (hia : Ins w l) (hle : l.length ≤ 140737488355328) (hlk : ∀ x ∈ l, x.1.r.keys.length ≤ 140737488355328)
include ha hia hle hlk
set_option maxHeartbeats 16000000 in
theorem again_law : Sp Try.prog 7 [.slice A l.length c] w [] fun v N => v = .bool true ∧ N = [] := by
  by_cases h40 : 40 < l.length
  · refine Sp.enter (n := 155) Try.func7 rfl rfl rfl (Hp.refl w) ?_
    repeat' (first
        | ((with_reducible refine is_load ?_); (first | ((refine' ⟨_, Yl_loadA_hp rfl ?qa ?qb ?ql ?qc, ?_⟩); (case qa => exact agg_of rfl); (case qb => (first | exact fun _ hp => hp.rd ha fun _ => List.not_mem_nil)); (case qc => assumption); (case ql => rfl)) | ((refine' ⟨_, Yl_loadA_at rfl ?qa ?qb ?ql ?qc, ?_⟩); (case qa => exact agg_of rfl); (case qb => (repeat (first | exact .head _ | apply List.Mem.tail))); (case qc => (first | exact mE_rE _)); (case ql => rfl))))
        | ((with_reducible refine is_idx ?_); (first | ((refine' ⟨_, Yl_index_arr rfl rfl ?q1 ?q2 ?q3, ?_⟩); (case q1 => exact und_of rfl); (case q2 => exact siz_of rfl); (case q3 => omega))))
        | ((with_reducible refine ie_store ?_); (first | ((refine' Ef_storeA' rfl rfl ?q1 (rE_one _ _) ?q2 ?q3 ?_); (case q1 => exact siz_of rfl); (case q2 => (first | exact at0 | exact at1 | exact at2 | exact at3 | exact at4 | exact at5 | exact at6)); (case q3 => rfl)) | ((refine' Ef_storeA' rfl rfl ?q1 (mE_one _) ?q2 ?q3 ?_); (case q1 => exact siz_of rfl); (case q2 => (first | exact at0 | exact at1 | exact at2 | exact at3 | exact at4 | exact at5 | exact at6)); (case q3 => rfl)) | ((refine' Ef_storeC (C' := arr (ks.set j ((i : Int) + 1))) rfl rfl ?q1 ?q2 ?q3 (arr_size hj4) (arr_set _ _ _) ?_); (case q1 => rfl); (case q2 => exact siz_of rfl); (case q3 => (first | exact at0 | exact at1 | exact at2 | exact at3 | exact at4 | exact at5 | exact at6)))))
        | ((with_reducible refine ie_callf ?_); (first
        | ((with_reducible refine g_call 14 ?_); (first | refine Ef_callP rfl rfl ent_14 (fun w _ => awake_v w) ?_))
        | ((with_reducible refine g_call 18 ?_); (first | ((refine' Ef_callP rfl rfl ent_18 (fun w hp => hofa w (hp.rowOf ?q1)) ?_); (case q1 => (repeat (first | exact .head _ | apply List.Mem.tail)))) | ((refine' Ef_callP rfl rfl ent_18 (fun w hp => hofb A3 c3 m3 w hm3 (hp.rowOf ?q1)) ?_); (case q1 => (repeat (first | exact .head _ | apply List.Mem.tail)))) | ((refine' Ef_callP rfl rfl ent_18 (fun w hp => of_q A1 c1 m w rfl (hp.rowOf ?q1) hl2 (d : Int) _ hof3) ?_); (case q1 => (repeat (first | exact .head _ | apply List.Mem.tail)))) | ((refine' Ef_callP rfl rfl ent_18 (fun w hp => of_q A3 c3 m3 w hm3 (hp.rowOf ?q1) hl2 (d : Int) _ hof3) ?_); (case q1 => (repeat (first | exact .head _ | apply List.Mem.tail))))))
        | ((with_reducible refine g_call 22 ?_); (first | (((refine' Ef_callNX rfl rfl ent_22 (fun w hp => hno w (hp.rowOf ?q1) (hp.ins_bag ?q2) (hp.in_old hxi)) ?_); (case q1 => (repeat (first | exact .head _ | apply List.Mem.tail))); (case q2 => (repeat (first | exact .head _ | apply List.Mem.tail)))); rintro ⟨⟨A3, c3⟩, m3⟩ hm3)))
        | ((with_reducible refine g_call 15 ?_); (first | (((refine' Ef_callN rfl rfl ent_15 (fun w hp => hsk w (hp.rowOf ?q1) (hp.ins_bag ?q2)) ?_); (case q1 => (repeat (first | exact .head _ | apply List.Mem.tail))); (case q2 => (repeat (first | exact .head _ | apply List.Mem.tail)))); rintro ⟨A5, c5⟩)))
        | ((with_reducible refine g_call 12 ?_); (first | ((refine' Ef_callP rfl rfl ent_12 (fun w hp => sreply_v y.1.r y.1.r (A5, c5) y.2 w (hp.in_row ?q1) (hp.in_old hyi) hy4 _ (Rl.eqR_self _)) ?_); (case q1 => (repeat (first | exact .head _ | apply List.Mem.tail))))))
        | ((with_reducible refine g_call 19 ?_); (first | ((refine' Ef_callP rfl rfl ent_19 (fun w hp => may_q A1 c1 m w rfl (hp.rowOf ?q1) hl2 _ hI.may) ?_); (case q1 => (repeat (first | exact .head _ | apply List.Mem.tail))))))))
        | refine w1 ?_
        | (refine w2 ?_ ?_ <;> intro hc)
        | (first | ((refine' ⟨_, Yl_convW (k := .i64) (k' := .u64) rfl ?q1 ?q2, ?_⟩); (case q1 => exact und_of rfl); (case q2 => exact und_of rfl)) | ((refine' ⟨_, Yl_convI (k := .u64) (k' := .i64) rfl ?q1 ?q2 hmod1, ?_⟩); (case q1 => exact und_of rfl); (case q2 => exact und_of rfl)) | ((refine' ⟨_, Yl_convI (k := .u64) (k' := .i64) rfl ?q1 ?q2 hmod2, ?_⟩); (case q1 => exact und_of rfl); (case q2 => exact und_of rfl)) | ((refine' ⟨_, Yl_convI (k := .u64) (k' := .i64) rfl ?q1 ?q2 hmod3, ?_⟩); (case q1 => exact und_of rfl); (case q2 => exact und_of rfl)) | ((refine' ⟨_, Yl_remE rfl rfl ?q1 ?q2 hn1, ?_⟩); (case q1 => exact wrap_u64_lo _); (case q2 => decide)) | ((refine' ⟨_, Yl_remE rfl rfl ?q1 ?q2 hn2, ?_⟩); (case q1 => exact wrap_u64_lo _); (case q2 => decide)) | ((refine' ⟨_, Yl_remE rfl rfl ?q1 ?q2 hn3, ?_⟩); (case q1 => exact wrap_u64_lo _); (case q2 => decide)))
        | (refine w4 ?_; (first | ((fail_if_success have := b1); intro b1) | intro _))
        | (refine w5 ?_; (first | ((fail_if_success have := A1); intro A1 c1) | ((fail_if_success have := A2); intro A2 c2) | ((fail_if_success have := A3); intro A3 c3) | ((fail_if_success have := A4); intro A4 c4) | ((fail_if_success have := A5); intro A5 c5) | intro _ _))
        | refine w3 ?_ ?_
        | fail_if_success skip)
    exact ret_n [] (res1 rfl rfl) (List.nil_sublist _) ⟨rfl, rfl⟩
  refine Sp.enter (n := 155) Try.func7 rfl rfl rfl (Hp.refl w) ?_
  refine T.mem (fun _ h => h.bagNil) ?_
  refine T.row0e 55 77 ?_
  repeat' (first
      | ((with_reducible refine is_load ?_); (first | ((refine' ⟨_, Yl_loadA_hp rfl ?qa ?qb ?ql ?qc, ?_⟩); (case qa => exact agg_of rfl); (case qb => (first | exact fun _ hp => hp.rd ha fun _ => List.not_mem_nil)); (case qc => assumption); (case ql => rfl)) | ((refine' ⟨_, Yl_loadA_at rfl ?qa ?qb ?ql ?qc, ?_⟩); (case qa => exact agg_of rfl); (case qb => (repeat (first | exact .head _ | apply List.Mem.tail))); (case qc => (first | exact mE_rE _)); (case ql => rfl))))
      | ((with_reducible refine is_idx ?_); (first | ((refine' ⟨_, Yl_index_arr rfl rfl ?q1 ?q2 ?q3, ?_⟩); (case q1 => exact und_of rfl); (case q2 => exact siz_of rfl); (case q3 => omega))))
      | ((with_reducible refine ie_store ?_); (first | ((refine' Ef_storeA' rfl rfl ?q1 (rE_one _ _) ?q2 ?q3 ?_); (case q1 => exact siz_of rfl); (case q2 => (first | exact at0 | exact at1 | exact at2 | exact at3 | exact at4 | exact at5 | exact at6)); (case q3 => rfl)) | ((refine' Ef_storeA' rfl rfl ?q1 (mE_one _) ?q2 ?q3 ?_); (case q1 => exact siz_of rfl); (case q2 => (first | exact at0 | exact at1 | exact at2 | exact at3 | exact at4 | exact at5 | exact at6)); (case q3 => rfl)) | ((refine' Ef_storeC (C' := arr (ks.set j ((i : Int) + 1))) rfl rfl ?q1 ?q2 ?q3 (arr_size hj4) (arr_set _ _ _) ?_); (case q1 => rfl); (case q2 => exact siz_of rfl); (case q3 => (first | exact at0 | exact at1 | exact at2 | exact at3 | exact at4 | exact at5 | exact at6)))))
      | ((with_reducible refine ie_callf ?_); (first
      | ((with_reducible refine g_call 14 ?_); (first | refine Ef_callP rfl rfl ent_14 (fun w _ => awake_v w) ?_))
      | ((with_reducible refine g_call 18 ?_); (first | ((refine' Ef_callP rfl rfl ent_18 (fun w hp => hofa w (hp.rowOf ?q1)) ?_); (case q1 => (repeat (first | exact .head _ | apply List.Mem.tail)))) | ((refine' Ef_callP rfl rfl ent_18 (fun w hp => hofb A3 c3 m3 w hm3 (hp.rowOf ?q1)) ?_); (case q1 => (repeat (first | exact .head _ | apply List.Mem.tail)))) | ((refine' Ef_callP rfl rfl ent_18 (fun w hp => of_q A1 c1 m w rfl (hp.rowOf ?q1) hl2 (d : Int) _ hof3) ?_); (case q1 => (repeat (first | exact .head _ | apply List.Mem.tail)))) | ((refine' Ef_callP rfl rfl ent_18 (fun w hp => of_q A3 c3 m3 w hm3 (hp.rowOf ?q1) hl2 (d : Int) _ hof3) ?_); (case q1 => (repeat (first | exact .head _ | apply List.Mem.tail))))))
      | ((with_reducible refine g_call 22 ?_); (first | (((refine' Ef_callNX rfl rfl ent_22 (fun w hp => hno w (hp.rowOf ?q1) (hp.ins_bag ?q2) (hp.in_old hxi)) ?_); (case q1 => (repeat (first | exact .head _ | apply List.Mem.tail))); (case q2 => (repeat (first | exact .head _ | apply List.Mem.tail)))); rintro ⟨⟨A3, c3⟩, m3⟩ hm3)))
      | ((with_reducible refine g_call 15 ?_); (first | (((refine' Ef_callN rfl rfl ent_15 (fun w hp => hsk w (hp.rowOf ?q1) (hp.ins_bag ?q2)) ?_); (case q1 => (repeat (first | exact .head _ | apply List.Mem.tail))); (case q2 => (repeat (first | exact .head _ | apply List.Mem.tail)))); rintro ⟨A5, c5⟩)))
      | ((with_reducible refine g_call 12 ?_); (first | ((refine' Ef_callP rfl rfl ent_12 (fun w hp => sreply_v y.1.r y.1.r (A5, c5) y.2 w (hp.in_row ?q1) (hp.in_old hyi) hy4 _ (Rl.eqR_self _)) ?_); (case q1 => (repeat (first | exact .head _ | apply List.Mem.tail))))))
      | ((with_reducible refine g_call 19 ?_); (first | ((refine' Ef_callP rfl rfl ent_19 (fun w hp => may_q A1 c1 m w rfl (hp.rowOf ?q1) hl2 _ hI.may) ?_); (case q1 => (repeat (first | exact .head _ | apply List.Mem.tail))))))))
      | refine w1 ?_
      | (refine w2 ?_ ?_ <;> intro hc)
      | (first | ((refine' ⟨_, Yl_convW (k := .i64) (k' := .u64) rfl ?q1 ?q2, ?_⟩); (case q1 => exact und_of rfl); (case q2 => exact und_of rfl)) | ((refine' ⟨_, Yl_convI (k := .u64) (k' := .i64) rfl ?q1 ?q2 hmod1, ?_⟩); (case q1 => exact und_of rfl); (case q2 => exact und_of rfl)) | ((refine' ⟨_, Yl_convI (k := .u64) (k' := .i64) rfl ?q1 ?q2 hmod2, ?_⟩); (case q1 => exact und_of rfl); (case q2 => exact und_of rfl)) | ((refine' ⟨_, Yl_convI (k := .u64) (k' := .i64) rfl ?q1 ?q2 hmod3, ?_⟩); (case q1 => exact und_of rfl); (case q2 => exact und_of rfl)) | ((refine' ⟨_, Yl_remE rfl rfl ?q1 ?q2 hn1, ?_⟩); (case q1 => exact wrap_u64_lo _); (case q2 => decide)) | ((refine' ⟨_, Yl_remE rfl rfl ?q1 ?q2 hn2, ?_⟩); (case q1 => exact wrap_u64_lo _); (case q2 => decide)) | ((refine' ⟨_, Yl_remE rfl rfl ?q1 ?q2 hn3, ?_⟩); (case q1 => exact wrap_u64_lo _); (case q2 => decide)))
      | (refine w4 ?_; (first | ((fail_if_success have := b1); intro b1) | intro _))
      | (refine w5 ?_; (first | ((fail_if_success have := A1); intro A1 c1) | ((fail_if_success have := A2); intro A2 c2) | ((fail_if_success have := A3); intro A3 c3) | ((fail_if_success have := A4); intro A4 c4) | ((fail_if_success have := A5); intro A5 c5) | intro _ _))
      | refine w3 ?_ ?_
      | fail_if_success skip)
  refine T.loopM (α := Nat × (Option Addr × Nat) × List Me × List Int) (fun z => [(0, .slice A l.length c), (3, .slice z.2.1.1 z.2.2.1.length z.2.1.2), (4, .pointer (some ⟨b1, 0, none⟩)), (5, .int .i64 (z.1 : Int))]) (fun z => [rM z.2.2.1 z.2.1, bag (z.2.2.1.map mA), .blk b1 (.cells (arr z.2.2.2) 59 (0, 0))]) (fun z => z.1 ≤ l.length ∧ Rl.Kept (l.map (·.1)) z.1 (z.2.2.1.map (·.1)) z.2.2.2) (fun z => l.length - z.1) (0, (none, 0), [], [0, 0, 0, 0]) ?_ ?_ ?_ ?_
  · (repeat (first | exact Sub.nil | refine Sub.cons rfl ?_))
  · exact fun _ h => h.ofPart (by unfold rM; (repeat (first | exact Part.nil | refine Part.p0 ?_ | refine Part.p1 ?_ | refine Part.p2 ?_ | refine Part.p3 ?_ | refine Part.p4 ?_ | refine Part.p5 ?_ | refine Part.p6 ?_)))
  · exact ⟨Nat.zero_le _, Rl.Kept.first _⟩
  · rintro ⟨i, ⟨A1, c1⟩, m, ks⟩ ⟨hi, hI⟩
    dsimp only at hi hI ⊢
    have hml := hI.len
    have hl2 : (m.map (·.1)).length ≤ 200 := by omega
    have hk4 : ∀ x ∈ m.map (·.1), x.r.keys.length ≤ 400 := fun x hx => Nat.le_trans (hI.keys x hx) (by decide)
    by_cases hlt : i < l.length
    · obtain ⟨x, hx⟩ := some_of_lt (l := l) (i := i) hlt
      have e0 : (l.flatMap mE)[i * 77 + 0]? = some (.int .i64 x.1.c) := enc_at mE_len hx (by omega)
      have e1 : (l.flatMap mE)[i * 77 + 1]? = some (.int .i64 x.1.id) := enc_at mE_len hx (j := 1) (by decide)
      have e4 : (l.flatMap mE)[i * 77 + 2 + 2]? = some (.slice x.2.1 x.1.r.keys.length x.2.2) := enc_at mE_len hx (j := 4) (by decide)
      have eA := mE_lk hx
      have hxi := hia x (mem_of_some hx)
      have hxk := hlk x (mem_of_some hx)
      by_cases h20 : 20 < x.1.r.keys.length
      · repeat' (first
          | ((with_reducible refine is_load ?_); (first | ((refine' ⟨_, Yl_loadA_hp rfl ?qa ?qb ?ql ?qc, ?_⟩); (case qa => exact agg_of rfl); (case qb => (first | exact fun _ hp => hp.rd ha fun _ => List.not_mem_nil)); (case qc => assumption); (case ql => rfl)) | ((refine' ⟨_, Yl_loadA_at rfl ?qa ?qb ?ql ?qc, ?_⟩); (case qa => exact agg_of rfl); (case qb => (repeat (first | exact .head _ | apply List.Mem.tail))); (case qc => (first | exact mE_rE _)); (case ql => rfl))))
          | ((with_reducible refine is_idx ?_); (first | ((refine' ⟨_, Yl_index_arr rfl rfl ?q1 ?q2 ?q3, ?_⟩); (case q1 => exact und_of rfl); (case q2 => exact siz_of rfl); (case q3 => omega))))
          | ((with_reducible refine ie_store ?_); (first | ((refine' Ef_storeA' rfl rfl ?q1 (rE_one _ _) ?q2 ?q3 ?_); (case q1 => exact siz_of rfl); (case q2 => (first | exact at0 | exact at1 | exact at2 | exact at3 | exact at4 | exact at5 | exact at6)); (case q3 => rfl)) | ((refine' Ef_storeA' rfl rfl ?q1 (mE_one _) ?q2 ?q3 ?_); (case q1 => exact siz_of rfl); (case q2 => (first | exact at0 | exact at1 | exact at2 | exact at3 | exact at4 | exact at5 | exact at6)); (case q3 => rfl)) | ((refine' Ef_storeC (C' := arr (ks.set j ((i : Int) + 1))) rfl rfl ?q1 ?q2 ?q3 (arr_size hj4) (arr_set _ _ _) ?_); (case q1 => rfl); (case q2 => exact siz_of rfl); (case q3 => (first | exact at0 | exact at1 | exact at2 | exact at3 | exact at4 | exact at5 | exact at6)))))
          | ((with_reducible refine ie_callf ?_); (first
          | ((with_reducible refine g_call 14 ?_); (first | refine Ef_callP rfl rfl ent_14 (fun w _ => awake_v w) ?_))
          | ((with_reducible refine g_call 18 ?_); (first | ((refine' Ef_callP rfl rfl ent_18 (fun w hp => hofa w (hp.rowOf ?q1)) ?_); (case q1 => (repeat (first | exact .head _ | apply List.Mem.tail)))) | ((refine' Ef_callP rfl rfl ent_18 (fun w hp => hofb A3 c3 m3 w hm3 (hp.rowOf ?q1)) ?_); (case q1 => (repeat (first | exact .head _ | apply List.Mem.tail)))) | ((refine' Ef_callP rfl rfl ent_18 (fun w hp => of_q A1 c1 m w rfl (hp.rowOf ?q1) hl2 (d : Int) _ hof3) ?_); (case q1 => (repeat (first | exact .head _ | apply List.Mem.tail)))) | ((refine' Ef_callP rfl rfl ent_18 (fun w hp => of_q A3 c3 m3 w hm3 (hp.rowOf ?q1) hl2 (d : Int) _ hof3) ?_); (case q1 => (repeat (first | exact .head _ | apply List.Mem.tail))))))
          | ((with_reducible refine g_call 22 ?_); (first | (((refine' Ef_callNX rfl rfl ent_22 (fun w hp => hno w (hp.rowOf ?q1) (hp.ins_bag ?q2) (hp.in_old hxi)) ?_); (case q1 => (repeat (first | exact .head _ | apply List.Mem.tail))); (case q2 => (repeat (first | exact .head _ | apply List.Mem.tail)))); rintro ⟨⟨A3, c3⟩, m3⟩ hm3)))
          | ((with_reducible refine g_call 15 ?_); (first | (((refine' Ef_callN rfl rfl ent_15 (fun w hp => hsk w (hp.rowOf ?q1) (hp.ins_bag ?q2)) ?_); (case q1 => (repeat (first | exact .head _ | apply List.Mem.tail))); (case q2 => (repeat (first | exact .head _ | apply List.Mem.tail)))); rintro ⟨A5, c5⟩)))
          | ((with_reducible refine g_call 12 ?_); (first | ((refine' Ef_callP rfl rfl ent_12 (fun w hp => sreply_v y.1.r y.1.r (A5, c5) y.2 w (hp.in_row ?q1) (hp.in_old hyi) hy4 _ (Rl.eqR_self _)) ?_); (case q1 => (repeat (first | exact .head _ | apply List.Mem.tail))))))
          | ((with_reducible refine g_call 19 ?_); (first | ((refine' Ef_callP rfl rfl ent_19 (fun w hp => may_q A1 c1 m w rfl (hp.rowOf ?q1) hl2 _ hI.may) ?_); (case q1 => (repeat (first | exact .head _ | apply List.Mem.tail))))))))
          | refine w1 ?_
          | (refine w2 ?_ ?_ <;> intro hc)
          | (first | ((refine' ⟨_, Yl_convW (k := .i64) (k' := .u64) rfl ?q1 ?q2, ?_⟩); (case q1 => exact und_of rfl); (case q2 => exact und_of rfl)) | ((refine' ⟨_, Yl_convI (k := .u64) (k' := .i64) rfl ?q1 ?q2 hmod1, ?_⟩); (case q1 => exact und_of rfl); (case q2 => exact und_of rfl)) | ((refine' ⟨_, Yl_convI (k := .u64) (k' := .i64) rfl ?q1 ?q2 hmod2, ?_⟩); (case q1 => exact und_of rfl); (case q2 => exact und_of rfl)) | ((refine' ⟨_, Yl_convI (k := .u64) (k' := .i64) rfl ?q1 ?q2 hmod3, ?_⟩); (case q1 => exact und_of rfl); (case q2 => exact und_of rfl)) | ((refine' ⟨_, Yl_remE rfl rfl ?q1 ?q2 hn1, ?_⟩); (case q1 => exact wrap_u64_lo _); (case q2 => decide)) | ((refine' ⟨_, Yl_remE rfl rfl ?q1 ?q2 hn2, ?_⟩); (case q1 => exact wrap_u64_lo _); (case q2 => decide)) | ((refine' ⟨_, Yl_remE rfl rfl ?q1 ?q2 hn3, ?_⟩); (case q1 => exact wrap_u64_lo _); (case q2 => decide)))
          | (refine w4 ?_; (first | ((fail_if_success have := b1); intro b1) | intro _))
          | (refine w5 ?_; (first | ((fail_if_success have := A1); intro A1 c1) | ((fail_if_success have := A2); intro A2 c2) | ((fail_if_success have := A3); intro A3 c3) | ((fail_if_success have := A4); intro A4 c4) | ((fail_if_success have := A5); intro A5 c5) | intro _ _))
          | refine w3 ?_ ?_
          | fail_if_success skip)
        exact ret_n [] (res1 rfl rfl) (List.nil_sublist _) ⟨rfl, rfl⟩
      have hmod1 := wrap_mod x.1.c 4 (by decide) (by decide)
      have hmod2 := wrap_mod x.1.id 9 (by decide) (by decide)
      have g3 := Int.emod_nonneg (IntKind.wrap .u64 x.1.id) (show (9 : Int) ≠ 0 by omega)
      have g4 := Int.emod_lt_of_pos (IntKind.wrap .u64 x.1.id) (show (0 : Int) < 9 by omega)
      obtain ⟨j, hj4, hn1⟩ := rem_nat (IntKind.wrap .u64 x.1.c) 4 (by decide)
      have hn1 : IntKind.wrap .u64 x.1.c % 4 = (j : Int) := hn1
      rw [hn1] at hmod1
      have hput := fun hf hk => hI.put (map_at hx) hj4 hf hk
      unfold Rl.nid at hput
      generalize hn2 : IntKind.wrap .u64 x.1.id % 9 = u2 at hmod2 g3 g4 hput
      have hf : Rl.fits (j : Int) (1 + u2) = true := decide_eq_true (by omega)
      have hput := hput hf (by omega)
      have hofa := fun w h => of_q A1 c1 m w rfl h hl2 (j : Int) _ rfl
      have hj4 : j < ks.length := by rw [hI.four]; exact hj4
      by_cases hst : 1 + u2 ≤ Rl.ofL (m.map (·.1)) (j : Int)
      · have hno : ∀ w, Rd w A1 m.length 77 (m.flatMap mE) → Ins w m → In w x.1.r x.2 → Sp Try.prog 22 [.slice A1 m.length c1, .int .i64 (j : Int), .int .i64 (1 + u2), .agg (rE x.1.r x.2).toArray] w [] fun v N => ∃ y : (Option Addr × Nat) × List Me, y.2.map (·.1) = ([] : List La) ∧ v = .tuple #[.slice y.1.1 0 y.1.2, .int .i64 140] ∧ N = [rM y.2 y.1, bag (y.2.map mA)] := fun w h1 h2 h3 =>
          (note_q A1 c1 m w rfl h1 hl2 h2 hk4 (j : Int) (1 + u2) x.1.r x.2 h3 (by omega) _ (Rl.note_no hI.may hf hst)).mono fun v N ⟨y, k1, k2, k3⟩ => ⟨y, k1, by have e : y.2.length = 0 := len_map k1; rw [k2, e], k3⟩
        generalize Rl.ofL (m.map (·.1)) (j : Int) = was at hofa hst
        have hI := hI.more
        clear hput
        repeat' (first
            | ((with_reducible refine is_load ?_); (first | ((refine' ⟨_, Yl_loadA_hp rfl ?qa ?qb ?ql ?qc, ?_⟩); (case qa => exact agg_of rfl); (case qb => (first | exact fun _ hp => hp.rd ha fun _ => List.not_mem_nil)); (case qc => assumption); (case ql => rfl)) | ((refine' ⟨_, Yl_loadA_at rfl ?qa ?qb ?ql ?qc, ?_⟩); (case qa => exact agg_of rfl); (case qb => (repeat (first | exact .head _ | apply List.Mem.tail))); (case qc => (first | exact mE_rE _)); (case ql => rfl))))
            | ((with_reducible refine is_idx ?_); (first | ((refine' ⟨_, Yl_index_arr rfl rfl ?q1 ?q2 ?q3, ?_⟩); (case q1 => exact und_of rfl); (case q2 => exact siz_of rfl); (case q3 => omega))))
            | ((with_reducible refine ie_store ?_); (first | ((refine' Ef_storeA' rfl rfl ?q1 (rE_one _ _) ?q2 ?q3 ?_); (case q1 => exact siz_of rfl); (case q2 => (first | exact at0 | exact at1 | exact at2 | exact at3 | exact at4 | exact at5 | exact at6)); (case q3 => rfl)) | ((refine' Ef_storeA' rfl rfl ?q1 (mE_one _) ?q2 ?q3 ?_); (case q1 => exact siz_of rfl); (case q2 => (first | exact at0 | exact at1 | exact at2 | exact at3 | exact at4 | exact at5 | exact at6)); (case q3 => rfl)) | ((refine' Ef_storeC (C' := arr (ks.set j ((i : Int) + 1))) rfl rfl ?q1 ?q2 ?q3 (arr_size hj4) (arr_set _ _ _) ?_); (case q1 => rfl); (case q2 => exact siz_of rfl); (case q3 => (first | exact at0 | exact at1 | exact at2 | exact at3 | exact at4 | exact at5 | exact at6)))))
            | ((with_reducible refine ie_callf ?_); (first
            | ((with_reducible refine g_call 14 ?_); (first | refine Ef_callP rfl rfl ent_14 (fun w _ => awake_v w) ?_))
            | ((with_reducible refine g_call 18 ?_); (first | ((refine' Ef_callP rfl rfl ent_18 (fun w hp => hofa w (hp.rowOf ?q1)) ?_); (case q1 => (repeat (first | exact .head _ | apply List.Mem.tail)))) | ((refine' Ef_callP rfl rfl ent_18 (fun w hp => hofb A3 c3 m3 w hm3 (hp.rowOf ?q1)) ?_); (case q1 => (repeat (first | exact .head _ | apply List.Mem.tail)))) | ((refine' Ef_callP rfl rfl ent_18 (fun w hp => of_q A1 c1 m w rfl (hp.rowOf ?q1) hl2 (d : Int) _ hof3) ?_); (case q1 => (repeat (first | exact .head _ | apply List.Mem.tail)))) | ((refine' Ef_callP rfl rfl ent_18 (fun w hp => of_q A3 c3 m3 w hm3 (hp.rowOf ?q1) hl2 (d : Int) _ hof3) ?_); (case q1 => (repeat (first | exact .head _ | apply List.Mem.tail))))))
            | ((with_reducible refine g_call 22 ?_); (first | (((refine' Ef_callNX rfl rfl ent_22 (fun w hp => hno w (hp.rowOf ?q1) (hp.ins_bag ?q2) (hp.in_old hxi)) ?_); (case q1 => (repeat (first | exact .head _ | apply List.Mem.tail))); (case q2 => (repeat (first | exact .head _ | apply List.Mem.tail)))); rintro ⟨⟨A3, c3⟩, m3⟩ hm3)))
            | ((with_reducible refine g_call 15 ?_); (first | (((refine' Ef_callN rfl rfl ent_15 (fun w hp => hsk w (hp.rowOf ?q1) (hp.ins_bag ?q2)) ?_); (case q1 => (repeat (first | exact .head _ | apply List.Mem.tail))); (case q2 => (repeat (first | exact .head _ | apply List.Mem.tail)))); rintro ⟨A5, c5⟩)))
            | ((with_reducible refine g_call 12 ?_); (first | ((refine' Ef_callP rfl rfl ent_12 (fun w hp => sreply_v y.1.r y.1.r (A5, c5) y.2 w (hp.in_row ?q1) (hp.in_old hyi) hy4 _ (Rl.eqR_self _)) ?_); (case q1 => (repeat (first | exact .head _ | apply List.Mem.tail))))))
            | ((with_reducible refine g_call 19 ?_); (first | ((refine' Ef_callP rfl rfl ent_19 (fun w hp => may_q A1 c1 m w rfl (hp.rowOf ?q1) hl2 _ hI.may) ?_); (case q1 => (repeat (first | exact .head _ | apply List.Mem.tail))))))))
            | refine w1 ?_
            | (refine w2 ?_ ?_ <;> intro hc)
            | (first | ((refine' ⟨_, Yl_convW (k := .i64) (k' := .u64) rfl ?q1 ?q2, ?_⟩); (case q1 => exact und_of rfl); (case q2 => exact und_of rfl)) | ((refine' ⟨_, Yl_convI (k := .u64) (k' := .i64) rfl ?q1 ?q2 hmod1, ?_⟩); (case q1 => exact und_of rfl); (case q2 => exact und_of rfl)) | ((refine' ⟨_, Yl_convI (k := .u64) (k' := .i64) rfl ?q1 ?q2 hmod2, ?_⟩); (case q1 => exact und_of rfl); (case q2 => exact und_of rfl)) | ((refine' ⟨_, Yl_convI (k := .u64) (k' := .i64) rfl ?q1 ?q2 hmod3, ?_⟩); (case q1 => exact und_of rfl); (case q2 => exact und_of rfl)) | ((refine' ⟨_, Yl_remE rfl rfl ?q1 ?q2 hn1, ?_⟩); (case q1 => exact wrap_u64_lo _); (case q2 => decide)) | ((refine' ⟨_, Yl_remE rfl rfl ?q1 ?q2 hn2, ?_⟩); (case q1 => exact wrap_u64_lo _); (case q2 => decide)) | ((refine' ⟨_, Yl_remE rfl rfl ?q1 ?q2 hn3, ?_⟩); (case q1 => exact wrap_u64_lo _); (case q2 => decide)))
            | (refine w4 ?_; (first | ((fail_if_success have := b1); intro b1) | intro _))
            | (refine w5 ?_; (first | ((fail_if_success have := A1); intro A1 c1) | ((fail_if_success have := A2); intro A2 c2) | ((fail_if_success have := A3); intro A3 c3) | ((fail_if_success have := A4); intro A4 c4) | ((fail_if_success have := A5); intro A5 c5) | intro _ _))
            | refine w3 ?_ ?_
            | fail_if_success skip)
        refine T.loop (α := Nat) (fun d => [(0, .slice A l.length c), (3, .slice A1 m.length c1), (4, .pointer (some ⟨b1, 0, none⟩)), (5, .int .i64 (i : Int)), (11, .int .i64 (d : Int))]) (fun _ => [rM m (A1, c1), bag (m.map mA), .blk b1 (.cells (arr ks) 59 (0, 0))]) (fun d => d ≤ 4) (fun d => 4 - d) 0 ?_ ?_ ?_ ?_
        · (repeat (first | exact Sub.nil | refine Sub.cons rfl ?_))
        · (repeat (first | exact List.nil_sublist _ | refine List.Sublist.cons_cons _ ?_ | refine List.Sublist.cons _ ?_))
        · exact Nat.zero_le _
        · intro d hd
          by_cases hd4 : d < 4
          · obtain ⟨v, hv, hcase⟩ := hI.last d hd4
            have ev := arr_get hv
            rcases hcase with rfl | ⟨k, yy, hki, rfl, hyy, hfd⟩
            · repeat' (first
                | ((with_reducible refine is_load ?_); (first | ((refine' ⟨_, Yl_loadA_hp rfl ?qa ?qb ?ql ?qc, ?_⟩); (case qa => exact agg_of rfl); (case qb => (first | exact fun _ hp => hp.rd ha fun _ => List.not_mem_nil)); (case qc => assumption); (case ql => rfl)) | ((refine' ⟨_, Yl_loadA_at rfl ?qa ?qb ?ql ?qc, ?_⟩); (case qa => exact agg_of rfl); (case qb => (repeat (first | exact .head _ | apply List.Mem.tail))); (case qc => (first | exact mE_rE _)); (case ql => rfl))))
                | ((with_reducible refine is_idx ?_); (first | ((refine' ⟨_, Yl_index_arr rfl rfl ?q1 ?q2 ?q3, ?_⟩); (case q1 => exact und_of rfl); (case q2 => exact siz_of rfl); (case q3 => omega))))
                | ((with_reducible refine ie_store ?_); (first | ((refine' Ef_storeA' rfl rfl ?q1 (rE_one _ _) ?q2 ?q3 ?_); (case q1 => exact siz_of rfl); (case q2 => (first | exact at0 | exact at1 | exact at2 | exact at3 | exact at4 | exact at5 | exact at6)); (case q3 => rfl)) | ((refine' Ef_storeA' rfl rfl ?q1 (mE_one _) ?q2 ?q3 ?_); (case q1 => exact siz_of rfl); (case q2 => (first | exact at0 | exact at1 | exact at2 | exact at3 | exact at4 | exact at5 | exact at6)); (case q3 => rfl)) | ((refine' Ef_storeC (C' := arr (ks.set j ((i : Int) + 1))) rfl rfl ?q1 ?q2 ?q3 (arr_size hj4) (arr_set _ _ _) ?_); (case q1 => rfl); (case q2 => exact siz_of rfl); (case q3 => (first | exact at0 | exact at1 | exact at2 | exact at3 | exact at4 | exact at5 | exact at6)))))
                | ((with_reducible refine ie_callf ?_); (first
                | ((with_reducible refine g_call 14 ?_); (first | refine Ef_callP rfl rfl ent_14 (fun w _ => awake_v w) ?_))
                | ((with_reducible refine g_call 18 ?_); (first | ((refine' Ef_callP rfl rfl ent_18 (fun w hp => hofa w (hp.rowOf ?q1)) ?_); (case q1 => (repeat (first | exact .head _ | apply List.Mem.tail)))) | ((refine' Ef_callP rfl rfl ent_18 (fun w hp => hofb A3 c3 m3 w hm3 (hp.rowOf ?q1)) ?_); (case q1 => (repeat (first | exact .head _ | apply List.Mem.tail)))) | ((refine' Ef_callP rfl rfl ent_18 (fun w hp => of_q A1 c1 m w rfl (hp.rowOf ?q1) hl2 (d : Int) _ hof3) ?_); (case q1 => (repeat (first | exact .head _ | apply List.Mem.tail)))) | ((refine' Ef_callP rfl rfl ent_18 (fun w hp => of_q A3 c3 m3 w hm3 (hp.rowOf ?q1) hl2 (d : Int) _ hof3) ?_); (case q1 => (repeat (first | exact .head _ | apply List.Mem.tail))))))
                | ((with_reducible refine g_call 22 ?_); (first | (((refine' Ef_callNX rfl rfl ent_22 (fun w hp => hno w (hp.rowOf ?q1) (hp.ins_bag ?q2) (hp.in_old hxi)) ?_); (case q1 => (repeat (first | exact .head _ | apply List.Mem.tail))); (case q2 => (repeat (first | exact .head _ | apply List.Mem.tail)))); rintro ⟨⟨A3, c3⟩, m3⟩ hm3)))
                | ((with_reducible refine g_call 15 ?_); (first | (((refine' Ef_callN rfl rfl ent_15 (fun w hp => hsk w (hp.rowOf ?q1) (hp.ins_bag ?q2)) ?_); (case q1 => (repeat (first | exact .head _ | apply List.Mem.tail))); (case q2 => (repeat (first | exact .head _ | apply List.Mem.tail)))); rintro ⟨A5, c5⟩)))
                | ((with_reducible refine g_call 12 ?_); (first | ((refine' Ef_callP rfl rfl ent_12 (fun w hp => sreply_v y.1.r y.1.r (A5, c5) y.2 w (hp.in_row ?q1) (hp.in_old hyi) hy4 _ (Rl.eqR_self _)) ?_); (case q1 => (repeat (first | exact .head _ | apply List.Mem.tail))))))
                | ((with_reducible refine g_call 19 ?_); (first | ((refine' Ef_callP rfl rfl ent_19 (fun w hp => may_q A1 c1 m w rfl (hp.rowOf ?q1) hl2 _ hI.may) ?_); (case q1 => (repeat (first | exact .head _ | apply List.Mem.tail))))))))
                | refine w1 ?_
                | (refine w2 ?_ ?_ <;> intro hc)
                | (first | ((refine' ⟨_, Yl_convW (k := .i64) (k' := .u64) rfl ?q1 ?q2, ?_⟩); (case q1 => exact und_of rfl); (case q2 => exact und_of rfl)) | ((refine' ⟨_, Yl_convI (k := .u64) (k' := .i64) rfl ?q1 ?q2 hmod1, ?_⟩); (case q1 => exact und_of rfl); (case q2 => exact und_of rfl)) | ((refine' ⟨_, Yl_convI (k := .u64) (k' := .i64) rfl ?q1 ?q2 hmod2, ?_⟩); (case q1 => exact und_of rfl); (case q2 => exact und_of rfl)) | ((refine' ⟨_, Yl_convI (k := .u64) (k' := .i64) rfl ?q1 ?q2 hmod3, ?_⟩); (case q1 => exact und_of rfl); (case q2 => exact und_of rfl)) | ((refine' ⟨_, Yl_remE rfl rfl ?q1 ?q2 hn1, ?_⟩); (case q1 => exact wrap_u64_lo _); (case q2 => decide)) | ((refine' ⟨_, Yl_remE rfl rfl ?q1 ?q2 hn2, ?_⟩); (case q1 => exact wrap_u64_lo _); (case q2 => decide)) | ((refine' ⟨_, Yl_remE rfl rfl ?q1 ?q2 hn3, ?_⟩); (case q1 => exact wrap_u64_lo _); (case q2 => decide)))
                | (refine w4 ?_; (first | ((fail_if_success have := b1); intro b1) | intro _))
                | (refine w5 ?_; (first | ((fail_if_success have := A1); intro A1 c1) | ((fail_if_success have := A2); intro A2 c2) | ((fail_if_success have := A3); intro A3 c3) | ((fail_if_success have := A4); intro A4 c4) | ((fail_if_success have := A5); intro A5 c5) | intro _ _))
                | refine w3 ?_ ?_
                | fail_if_success skip)
              refine loopQ_n (d + 1) ?_ (List.Sublist.refl _) (show d + 1 ≤ 4 by omega) (show 4 - (d + 1) < 4 - d by omega)
              · (repeat (first | exact Sub.nil | refine Sub.cons rfl ?_))
            · obtain ⟨y, hy⟩ := some_of_lt (l := l) (i := k) (by omega)
              obtain rfl : y.1 = yy := by
                rw [List.getElem?_map, hy] at hyy
                exact Option.some.inj hyy
              have hyk : l[((k : Int) + 1 - 1).toNat]? = some y := by
                rw [show ((k : Int) + 1 - 1).toNat = k by omega]; exact hy
              have eB := enc_atA mE_len hyk
              have hmod3 := wrap_mod y.1.id 9 (by decide) (by decide)
              have g5 := Int.emod_nonneg (IntKind.wrap .u64 y.1.id) (show (9 : Int) ≠ 0 by omega)
              have g6 := Int.emod_lt_of_pos (IntKind.wrap .u64 y.1.id) (show (0 : Int) < 9 by omega)
              have hfd2 := hfd
              unfold Rl.nid at hfd2
              generalize hn3 : IntKind.wrap .u64 y.1.id % 9 = u3 at hmod3 g5 g6 hfd2
              have hf3 : Rl.fits (d : Int) (1 + u3) = true := decide_eq_true (by omega)
              have hask : Rl.askL (m.map (·.1)) (d : Int) (1 + u3) = (y.1.r, true, 0) := by
                unfold Rl.askL
                rw [hI.may, hf3, Bool.and_self, if_pos rfl, hfd2]
                dsimp only
                rw [if_neg (by omega), if_pos rfl]
              have hof3 : Rl.ofL (m.map (·.1)) (d : Int) = 1 + u3 := by
                unfold Rl.ofL
                rw [hfd2]
              have hsk := fun w h1 h2 => ask_q (p := (m.map (·.1))) A1 c1 m w rfl h1 hl2 h2 hk4 (d : Int) (1 + u3) _ hask
              dsimp only at hsk
              have hyi := hia y (mem_of_some hy)
              have hy4 : y.1.r.keys.length ≤ 9223372036854775806 := by have := hlk y (mem_of_some hy); omega
              clear hfd hfd2 hyy
              repeat' (first
                  | ((with_reducible refine is_load ?_); (first | ((refine' ⟨_, Yl_loadA_hp rfl ?qa ?qb ?ql ?qc, ?_⟩); (case qa => exact agg_of rfl); (case qb => (first | exact fun _ hp => hp.rd ha fun _ => List.not_mem_nil)); (case qc => assumption); (case ql => rfl)) | ((refine' ⟨_, Yl_loadA_at rfl ?qa ?qb ?ql ?qc, ?_⟩); (case qa => exact agg_of rfl); (case qb => (repeat (first | exact .head _ | apply List.Mem.tail))); (case qc => (first | exact mE_rE _)); (case ql => rfl))))
                  | ((with_reducible refine is_idx ?_); (first | ((refine' ⟨_, Yl_index_arr rfl rfl ?q1 ?q2 ?q3, ?_⟩); (case q1 => exact und_of rfl); (case q2 => exact siz_of rfl); (case q3 => omega))))
                  | ((with_reducible refine ie_store ?_); (first | ((refine' Ef_storeA' rfl rfl ?q1 (rE_one _ _) ?q2 ?q3 ?_); (case q1 => exact siz_of rfl); (case q2 => (first | exact at0 | exact at1 | exact at2 | exact at3 | exact at4 | exact at5 | exact at6)); (case q3 => rfl)) | ((refine' Ef_storeA' rfl rfl ?q1 (mE_one _) ?q2 ?q3 ?_); (case q1 => exact siz_of rfl); (case q2 => (first | exact at0 | exact at1 | exact at2 | exact at3 | exact at4 | exact at5 | exact at6)); (case q3 => rfl)) | ((refine' Ef_storeC (C' := arr (ks.set j ((i : Int) + 1))) rfl rfl ?q1 ?q2 ?q3 (arr_size hj4) (arr_set _ _ _) ?_); (case q1 => rfl); (case q2 => exact siz_of rfl); (case q3 => (first | exact at0 | exact at1 | exact at2 | exact at3 | exact at4 | exact at5 | exact at6)))))
                  | ((with_reducible refine ie_callf ?_); (first
                  | ((with_reducible refine g_call 14 ?_); (first | refine Ef_callP rfl rfl ent_14 (fun w _ => awake_v w) ?_))
                  | ((with_reducible refine g_call 18 ?_); (first | ((refine' Ef_callP rfl rfl ent_18 (fun w hp => hofa w (hp.rowOf ?q1)) ?_); (case q1 => (repeat (first | exact .head _ | apply List.Mem.tail)))) | ((refine' Ef_callP rfl rfl ent_18 (fun w hp => hofb A3 c3 m3 w hm3 (hp.rowOf ?q1)) ?_); (case q1 => (repeat (first | exact .head _ | apply List.Mem.tail)))) | ((refine' Ef_callP rfl rfl ent_18 (fun w hp => of_q A1 c1 m w rfl (hp.rowOf ?q1) hl2 (d : Int) _ hof3) ?_); (case q1 => (repeat (first | exact .head _ | apply List.Mem.tail)))) | ((refine' Ef_callP rfl rfl ent_18 (fun w hp => of_q A3 c3 m3 w hm3 (hp.rowOf ?q1) hl2 (d : Int) _ hof3) ?_); (case q1 => (repeat (first | exact .head _ | apply List.Mem.tail))))))
                  | ((with_reducible refine g_call 22 ?_); (first | (((refine' Ef_callNX rfl rfl ent_22 (fun w hp => hno w (hp.rowOf ?q1) (hp.ins_bag ?q2) (hp.in_old hxi)) ?_); (case q1 => (repeat (first | exact .head _ | apply List.Mem.tail))); (case q2 => (repeat (first | exact .head _ | apply List.Mem.tail)))); rintro ⟨⟨A3, c3⟩, m3⟩ hm3)))
                  | ((with_reducible refine g_call 15 ?_); (first | (((refine' Ef_callN rfl rfl ent_15 (fun w hp => hsk w (hp.rowOf ?q1) (hp.ins_bag ?q2)) ?_); (case q1 => (repeat (first | exact .head _ | apply List.Mem.tail))); (case q2 => (repeat (first | exact .head _ | apply List.Mem.tail)))); rintro ⟨A5, c5⟩)))
                  | ((with_reducible refine g_call 12 ?_); (first | ((refine' Ef_callP rfl rfl ent_12 (fun w hp => sreply_v y.1.r y.1.r (A5, c5) y.2 w (hp.in_row ?q1) (hp.in_old hyi) hy4 _ (Rl.eqR_self _)) ?_); (case q1 => (repeat (first | exact .head _ | apply List.Mem.tail))))))
                  | ((with_reducible refine g_call 19 ?_); (first | ((refine' Ef_callP rfl rfl ent_19 (fun w hp => may_q A1 c1 m w rfl (hp.rowOf ?q1) hl2 _ hI.may) ?_); (case q1 => (repeat (first | exact .head _ | apply List.Mem.tail))))))))
                  | refine w1 ?_
                  | (refine w2 ?_ ?_ <;> intro hc)
                  | (first | ((refine' ⟨_, Yl_convW (k := .i64) (k' := .u64) rfl ?q1 ?q2, ?_⟩); (case q1 => exact und_of rfl); (case q2 => exact und_of rfl)) | ((refine' ⟨_, Yl_convI (k := .u64) (k' := .i64) rfl ?q1 ?q2 hmod1, ?_⟩); (case q1 => exact und_of rfl); (case q2 => exact und_of rfl)) | ((refine' ⟨_, Yl_convI (k := .u64) (k' := .i64) rfl ?q1 ?q2 hmod2, ?_⟩); (case q1 => exact und_of rfl); (case q2 => exact und_of rfl)) | ((refine' ⟨_, Yl_convI (k := .u64) (k' := .i64) rfl ?q1 ?q2 hmod3, ?_⟩); (case q1 => exact und_of rfl); (case q2 => exact und_of rfl)) | ((refine' ⟨_, Yl_remE rfl rfl ?q1 ?q2 hn1, ?_⟩); (case q1 => exact wrap_u64_lo _); (case q2 => decide)) | ((refine' ⟨_, Yl_remE rfl rfl ?q1 ?q2 hn2, ?_⟩); (case q1 => exact wrap_u64_lo _); (case q2 => decide)) | ((refine' ⟨_, Yl_remE rfl rfl ?q1 ?q2 hn3, ?_⟩); (case q1 => exact wrap_u64_lo _); (case q2 => decide)))
                  | (refine w4 ?_; (first | ((fail_if_success have := b1); intro b1) | intro _))
                  | (refine w5 ?_; (first | ((fail_if_success have := A1); intro A1 c1) | ((fail_if_success have := A2); intro A2 c2) | ((fail_if_success have := A3); intro A3 c3) | ((fail_if_success have := A4); intro A4 c4) | ((fail_if_success have := A5); intro A5 c5) | intro _ _))
                  | refine w3 ?_ ?_
                  | fail_if_success skip)
              refine loopQ_n (d + 1) ?_ (by (repeat (first | exact List.nil_sublist _ | refine List.Sublist.cons_cons _ ?_ | refine List.Sublist.cons _ ?_))) (show d + 1 ≤ 4 by omega) (show 4 - (d + 1) < 4 - d by omega)
              · (repeat (first | exact Sub.nil | refine Sub.cons rfl ?_))
          · repeat' (first
              | ((with_reducible refine is_load ?_); (first | ((refine' ⟨_, Yl_loadA_hp rfl ?qa ?qb ?ql ?qc, ?_⟩); (case qa => exact agg_of rfl); (case qb => (first | exact fun _ hp => hp.rd ha fun _ => List.not_mem_nil)); (case qc => assumption); (case ql => rfl)) | ((refine' ⟨_, Yl_loadA_at rfl ?qa ?qb ?ql ?qc, ?_⟩); (case qa => exact agg_of rfl); (case qb => (repeat (first | exact .head _ | apply List.Mem.tail))); (case qc => (first | exact mE_rE _)); (case ql => rfl))))
              | ((with_reducible refine is_idx ?_); (first | ((refine' ⟨_, Yl_index_arr rfl rfl ?q1 ?q2 ?q3, ?_⟩); (case q1 => exact und_of rfl); (case q2 => exact siz_of rfl); (case q3 => omega))))
              | ((with_reducible refine ie_store ?_); (first | ((refine' Ef_storeA' rfl rfl ?q1 (rE_one _ _) ?q2 ?q3 ?_); (case q1 => exact siz_of rfl); (case q2 => (first | exact at0 | exact at1 | exact at2 | exact at3 | exact at4 | exact at5 | exact at6)); (case q3 => rfl)) | ((refine' Ef_storeA' rfl rfl ?q1 (mE_one _) ?q2 ?q3 ?_); (case q1 => exact siz_of rfl); (case q2 => (first | exact at0 | exact at1 | exact at2 | exact at3 | exact at4 | exact at5 | exact at6)); (case q3 => rfl)) | ((refine' Ef_storeC (C' := arr (ks.set j ((i : Int) + 1))) rfl rfl ?q1 ?q2 ?q3 (arr_size hj4) (arr_set _ _ _) ?_); (case q1 => rfl); (case q2 => exact siz_of rfl); (case q3 => (first | exact at0 | exact at1 | exact at2 | exact at3 | exact at4 | exact at5 | exact at6)))))
              | ((with_reducible refine ie_callf ?_); (first
              | ((with_reducible refine g_call 14 ?_); (first | refine Ef_callP rfl rfl ent_14 (fun w _ => awake_v w) ?_))
              | ((with_reducible refine g_call 18 ?_); (first | ((refine' Ef_callP rfl rfl ent_18 (fun w hp => hofa w (hp.rowOf ?q1)) ?_); (case q1 => (repeat (first | exact .head _ | apply List.Mem.tail)))) | ((refine' Ef_callP rfl rfl ent_18 (fun w hp => hofb A3 c3 m3 w hm3 (hp.rowOf ?q1)) ?_); (case q1 => (repeat (first | exact .head _ | apply List.Mem.tail)))) | ((refine' Ef_callP rfl rfl ent_18 (fun w hp => of_q A1 c1 m w rfl (hp.rowOf ?q1) hl2 (d : Int) _ hof3) ?_); (case q1 => (repeat (first | exact .head _ | apply List.Mem.tail)))) | ((refine' Ef_callP rfl rfl ent_18 (fun w hp => of_q A3 c3 m3 w hm3 (hp.rowOf ?q1) hl2 (d : Int) _ hof3) ?_); (case q1 => (repeat (first | exact .head _ | apply List.Mem.tail))))))
              | ((with_reducible refine g_call 22 ?_); (first | (((refine' Ef_callNX rfl rfl ent_22 (fun w hp => hno w (hp.rowOf ?q1) (hp.ins_bag ?q2) (hp.in_old hxi)) ?_); (case q1 => (repeat (first | exact .head _ | apply List.Mem.tail))); (case q2 => (repeat (first | exact .head _ | apply List.Mem.tail)))); rintro ⟨⟨A3, c3⟩, m3⟩ hm3)))
              | ((with_reducible refine g_call 15 ?_); (first | (((refine' Ef_callN rfl rfl ent_15 (fun w hp => hsk w (hp.rowOf ?q1) (hp.ins_bag ?q2)) ?_); (case q1 => (repeat (first | exact .head _ | apply List.Mem.tail))); (case q2 => (repeat (first | exact .head _ | apply List.Mem.tail)))); rintro ⟨A5, c5⟩)))
              | ((with_reducible refine g_call 12 ?_); (first | ((refine' Ef_callP rfl rfl ent_12 (fun w hp => sreply_v y.1.r y.1.r (A5, c5) y.2 w (hp.in_row ?q1) (hp.in_old hyi) hy4 _ (Rl.eqR_self _)) ?_); (case q1 => (repeat (first | exact .head _ | apply List.Mem.tail))))))
              | ((with_reducible refine g_call 19 ?_); (first | ((refine' Ef_callP rfl rfl ent_19 (fun w hp => may_q A1 c1 m w rfl (hp.rowOf ?q1) hl2 _ hI.may) ?_); (case q1 => (repeat (first | exact .head _ | apply List.Mem.tail))))))))
              | refine w1 ?_
              | (refine w2 ?_ ?_ <;> intro hc)
              | (first | ((refine' ⟨_, Yl_convW (k := .i64) (k' := .u64) rfl ?q1 ?q2, ?_⟩); (case q1 => exact und_of rfl); (case q2 => exact und_of rfl)) | ((refine' ⟨_, Yl_convI (k := .u64) (k' := .i64) rfl ?q1 ?q2 hmod1, ?_⟩); (case q1 => exact und_of rfl); (case q2 => exact und_of rfl)) | ((refine' ⟨_, Yl_convI (k := .u64) (k' := .i64) rfl ?q1 ?q2 hmod2, ?_⟩); (case q1 => exact und_of rfl); (case q2 => exact und_of rfl)) | ((refine' ⟨_, Yl_convI (k := .u64) (k' := .i64) rfl ?q1 ?q2 hmod3, ?_⟩); (case q1 => exact und_of rfl); (case q2 => exact und_of rfl)) | ((refine' ⟨_, Yl_remE rfl rfl ?q1 ?q2 hn1, ?_⟩); (case q1 => exact wrap_u64_lo _); (case q2 => decide)) | ((refine' ⟨_, Yl_remE rfl rfl ?q1 ?q2 hn2, ?_⟩); (case q1 => exact wrap_u64_lo _); (case q2 => decide)) | ((refine' ⟨_, Yl_remE rfl rfl ?q1 ?q2 hn3, ?_⟩); (case q1 => exact wrap_u64_lo _); (case q2 => decide)))
              | (refine w4 ?_; (first | ((fail_if_success have := b1); intro b1) | intro _))
              | (refine w5 ?_; (first | ((fail_if_success have := A1); intro A1 c1) | ((fail_if_success have := A2); intro A2 c2) | ((fail_if_success have := A3); intro A3 c3) | ((fail_if_success have := A4); intro A4 c4) | ((fail_if_success have := A5); intro A5 c5) | intro _ _))
              | refine w3 ?_ ?_
              | fail_if_success skip)
            refine loopH_n (i + 1, (A1, c1), m, ks) ?_ (fun _ hp => hp.ofPart (by (repeat (first | exact Part.nil | refine Part.p0 ?_ | refine Part.p1 ?_ | refine Part.p2 ?_ | refine Part.p3 ?_ | refine Part.p4 ?_ | refine Part.p5 ?_ | refine Part.p6 ?_)))) ⟨show i + 1 ≤ _ by omega, hI⟩ (show l.length - (i + 1) < l.length - i by omega)
            · (repeat (first | exact Sub.nil | refine Sub.cons rfl ?_))
      · have hno := fun w h1 h2 h3 => note_q A1 c1 m w rfl h1 hl2 h2 hk4 (j : Int) (1 + u2) x.1.r x.2 h3 (by omega) _ (Rl.note_ok hI.may hf hst)
        generalize Rl.ofL (m.map (·.1)) (j : Int) = was at hofa hst
        have hI := hput
        have hofp : Rl.ofL (Rl.put Rl.fc (m.map (·.1)) (j : Int) ⟨(j : Int), 1 + u2, x.1.r⟩) (j : Int) = 1 + u2 := Rl.ofL_put
        generalize Rl.put Rl.fc (m.map (·.1)) (j : Int) ⟨(j : Int), 1 + u2, x.1.r⟩ = p at hno hI hofp
        have hml := hI.len
        have hl2 : p.length ≤ 200 := by omega
        have hk4 : ∀ x ∈ p, x.r.keys.length ≤ 400 := fun x hx => Nat.le_trans (hI.keys x hx) (by decide)
        have hofb := fun A3 c3 (m3 : List Me) w (hm3 : m3.map (·.1) = p) h => of_q A3 c3 m3 w hm3 h hl2 (j : Int) _ hofp
        clear hput
        repeat' (first
            | ((with_reducible refine is_load ?_); (first | ((refine' ⟨_, Yl_loadA_hp rfl ?qa ?qb ?ql ?qc, ?_⟩); (case qa => exact agg_of rfl); (case qb => (first | exact fun _ hp => hp.rd ha fun _ => List.not_mem_nil)); (case qc => assumption); (case ql => rfl)) | ((refine' ⟨_, Yl_loadA_at rfl ?qa ?qb ?ql ?qc, ?_⟩); (case qa => exact agg_of rfl); (case qb => (repeat (first | exact .head _ | apply List.Mem.tail))); (case qc => (first | exact mE_rE _)); (case ql => rfl))))
            | ((with_reducible refine is_idx ?_); (first | ((refine' ⟨_, Yl_index_arr rfl rfl ?q1 ?q2 ?q3, ?_⟩); (case q1 => exact und_of rfl); (case q2 => exact siz_of rfl); (case q3 => omega))))
            | ((with_reducible refine ie_store ?_); (first | ((refine' Ef_storeA' rfl rfl ?q1 (rE_one _ _) ?q2 ?q3 ?_); (case q1 => exact siz_of rfl); (case q2 => (first | exact at0 | exact at1 | exact at2 | exact at3 | exact at4 | exact at5 | exact at6)); (case q3 => rfl)) | ((refine' Ef_storeA' rfl rfl ?q1 (mE_one _) ?q2 ?q3 ?_); (case q1 => exact siz_of rfl); (case q2 => (first | exact at0 | exact at1 | exact at2 | exact at3 | exact at4 | exact at5 | exact at6)); (case q3 => rfl)) | ((refine' Ef_storeC (C' := arr (ks.set j ((i : Int) + 1))) rfl rfl ?q1 ?q2 ?q3 (arr_size hj4) (arr_set _ _ _) ?_); (case q1 => rfl); (case q2 => exact siz_of rfl); (case q3 => (first | exact at0 | exact at1 | exact at2 | exact at3 | exact at4 | exact at5 | exact at6)))))
            | ((with_reducible refine ie_callf ?_); (first
            | ((with_reducible refine g_call 14 ?_); (first | refine Ef_callP rfl rfl ent_14 (fun w _ => awake_v w) ?_))
            | ((with_reducible refine g_call 18 ?_); (first | ((refine' Ef_callP rfl rfl ent_18 (fun w hp => hofa w (hp.rowOf ?q1)) ?_); (case q1 => (repeat (first | exact .head _ | apply List.Mem.tail)))) | ((refine' Ef_callP rfl rfl ent_18 (fun w hp => hofb A3 c3 m3 w hm3 (hp.rowOf ?q1)) ?_); (case q1 => (repeat (first | exact .head _ | apply List.Mem.tail)))) | ((refine' Ef_callP rfl rfl ent_18 (fun w hp => of_q A1 c1 m w rfl (hp.rowOf ?q1) hl2 (d : Int) _ hof3) ?_); (case q1 => (repeat (first | exact .head _ | apply List.Mem.tail)))) | ((refine' Ef_callP rfl rfl ent_18 (fun w hp => of_q A3 c3 m3 w hm3 (hp.rowOf ?q1) hl2 (d : Int) _ hof3) ?_); (case q1 => (repeat (first | exact .head _ | apply List.Mem.tail))))))
            | ((with_reducible refine g_call 22 ?_); (first | (((refine' Ef_callNX rfl rfl ent_22 (fun w hp => hno w (hp.rowOf ?q1) (hp.ins_bag ?q2) (hp.in_old hxi)) ?_); (case q1 => (repeat (first | exact .head _ | apply List.Mem.tail))); (case q2 => (repeat (first | exact .head _ | apply List.Mem.tail)))); rintro ⟨⟨A3, c3⟩, m3⟩ hm3)))
            | ((with_reducible refine g_call 15 ?_); (first | (((refine' Ef_callN rfl rfl ent_15 (fun w hp => hsk w (hp.rowOf ?q1) (hp.ins_bag ?q2)) ?_); (case q1 => (repeat (first | exact .head _ | apply List.Mem.tail))); (case q2 => (repeat (first | exact .head _ | apply List.Mem.tail)))); rintro ⟨A5, c5⟩)))
            | ((with_reducible refine g_call 12 ?_); (first | ((refine' Ef_callP rfl rfl ent_12 (fun w hp => sreply_v y.1.r y.1.r (A5, c5) y.2 w (hp.in_row ?q1) (hp.in_old hyi) hy4 _ (Rl.eqR_self _)) ?_); (case q1 => (repeat (first | exact .head _ | apply List.Mem.tail))))))
            | ((with_reducible refine g_call 19 ?_); (first | ((refine' Ef_callP rfl rfl ent_19 (fun w hp => may_q A1 c1 m w rfl (hp.rowOf ?q1) hl2 _ hI.may) ?_); (case q1 => (repeat (first | exact .head _ | apply List.Mem.tail))))))))
            | refine w1 ?_
            | (refine w2 ?_ ?_ <;> intro hc)
            | (first | ((refine' ⟨_, Yl_convW (k := .i64) (k' := .u64) rfl ?q1 ?q2, ?_⟩); (case q1 => exact und_of rfl); (case q2 => exact und_of rfl)) | ((refine' ⟨_, Yl_convI (k := .u64) (k' := .i64) rfl ?q1 ?q2 hmod1, ?_⟩); (case q1 => exact und_of rfl); (case q2 => exact und_of rfl)) | ((refine' ⟨_, Yl_convI (k := .u64) (k' := .i64) rfl ?q1 ?q2 hmod2, ?_⟩); (case q1 => exact und_of rfl); (case q2 => exact und_of rfl)) | ((refine' ⟨_, Yl_convI (k := .u64) (k' := .i64) rfl ?q1 ?q2 hmod3, ?_⟩); (case q1 => exact und_of rfl); (case q2 => exact und_of rfl)) | ((refine' ⟨_, Yl_remE rfl rfl ?q1 ?q2 hn1, ?_⟩); (case q1 => exact wrap_u64_lo _); (case q2 => decide)) | ((refine' ⟨_, Yl_remE rfl rfl ?q1 ?q2 hn2, ?_⟩); (case q1 => exact wrap_u64_lo _); (case q2 => decide)) | ((refine' ⟨_, Yl_remE rfl rfl ?q1 ?q2 hn3, ?_⟩); (case q1 => exact wrap_u64_lo _); (case q2 => decide)))
            | (refine w4 ?_; (first | ((fail_if_success have := b1); intro b1) | intro _))
            | (refine w5 ?_; (first | ((fail_if_success have := A1); intro A1 c1) | ((fail_if_success have := A2); intro A2 c2) | ((fail_if_success have := A3); intro A3 c3) | ((fail_if_success have := A4); intro A4 c4) | ((fail_if_success have := A5); intro A5 c5) | intro _ _))
            | refine w3 ?_ ?_
            | fail_if_success skip)
        refine T.loop (α := Nat) (fun d => [(0, .slice A l.length c), (3, .slice A3 m3.length c3), (4, .pointer (some ⟨b1, 0, none⟩)), (5, .int .i64 (i : Int)), (11, .int .i64 (d : Int))]) (fun _ => [rM m3 (A3, c3), bag (m3.map mA), .blk b1 (.cells (arr (ks.set j ((i : Int) + 1))) 59 (0, 0))]) (fun d => d ≤ 4) (fun d => 4 - d) 0 ?_ ?_ ?_ ?_
        · (repeat (first | exact Sub.nil | refine Sub.cons rfl ?_))
        · (repeat (first | exact List.nil_sublist _ | refine List.Sublist.cons_cons _ ?_ | refine List.Sublist.cons _ ?_))
        · exact Nat.zero_le _
        · intro d hd
          by_cases hd4 : d < 4
          · obtain ⟨v, hv, hcase⟩ := hI.last d hd4
            have ev := arr_get hv
            rcases hcase with rfl | ⟨k, yy, hki, rfl, hyy, hfd⟩
            · repeat' (first
                | ((with_reducible refine is_load ?_); (first | ((refine' ⟨_, Yl_loadA_hp rfl ?qa ?qb ?ql ?qc, ?_⟩); (case qa => exact agg_of rfl); (case qb => (first | exact fun _ hp => hp.rd ha fun _ => List.not_mem_nil)); (case qc => assumption); (case ql => rfl)) | ((refine' ⟨_, Yl_loadA_at rfl ?qa ?qb ?ql ?qc, ?_⟩); (case qa => exact agg_of rfl); (case qb => (repeat (first | exact .head _ | apply List.Mem.tail))); (case qc => (first | exact mE_rE _)); (case ql => rfl))))
                | ((with_reducible refine is_idx ?_); (first | ((refine' ⟨_, Yl_index_arr rfl rfl ?q1 ?q2 ?q3, ?_⟩); (case q1 => exact und_of rfl); (case q2 => exact siz_of rfl); (case q3 => omega))))
                | ((with_reducible refine ie_store ?_); (first | ((refine' Ef_storeA' rfl rfl ?q1 (rE_one _ _) ?q2 ?q3 ?_); (case q1 => exact siz_of rfl); (case q2 => (first | exact at0 | exact at1 | exact at2 | exact at3 | exact at4 | exact at5 | exact at6)); (case q3 => rfl)) | ((refine' Ef_storeA' rfl rfl ?q1 (mE_one _) ?q2 ?q3 ?_); (case q1 => exact siz_of rfl); (case q2 => (first | exact at0 | exact at1 | exact at2 | exact at3 | exact at4 | exact at5 | exact at6)); (case q3 => rfl)) | ((refine' Ef_storeC (C' := arr (ks.set j ((i : Int) + 1))) rfl rfl ?q1 ?q2 ?q3 (arr_size hj4) (arr_set _ _ _) ?_); (case q1 => rfl); (case q2 => exact siz_of rfl); (case q3 => (first | exact at0 | exact at1 | exact at2 | exact at3 | exact at4 | exact at5 | exact at6)))))
                | ((with_reducible refine ie_callf ?_); (first
                | ((with_reducible refine g_call 14 ?_); (first | refine Ef_callP rfl rfl ent_14 (fun w _ => awake_v w) ?_))
                | ((with_reducible refine g_call 18 ?_); (first | ((refine' Ef_callP rfl rfl ent_18 (fun w hp => hofa w (hp.rowOf ?q1)) ?_); (case q1 => (repeat (first | exact .head _ | apply List.Mem.tail)))) | ((refine' Ef_callP rfl rfl ent_18 (fun w hp => hofb A3 c3 m3 w hm3 (hp.rowOf ?q1)) ?_); (case q1 => (repeat (first | exact .head _ | apply List.Mem.tail)))) | ((refine' Ef_callP rfl rfl ent_18 (fun w hp => of_q A1 c1 m w rfl (hp.rowOf ?q1) hl2 (d : Int) _ hof3) ?_); (case q1 => (repeat (first | exact .head _ | apply List.Mem.tail)))) | ((refine' Ef_callP rfl rfl ent_18 (fun w hp => of_q A3 c3 m3 w hm3 (hp.rowOf ?q1) hl2 (d : Int) _ hof3) ?_); (case q1 => (repeat (first | exact .head _ | apply List.Mem.tail))))))
                | ((with_reducible refine g_call 22 ?_); (first | (((refine' Ef_callNX rfl rfl ent_22 (fun w hp => hno w (hp.rowOf ?q1) (hp.ins_bag ?q2) (hp.in_old hxi)) ?_); (case q1 => (repeat (first | exact .head _ | apply List.Mem.tail))); (case q2 => (repeat (first | exact .head _ | apply List.Mem.tail)))); rintro ⟨⟨A3, c3⟩, m3⟩ hm3)))
                | ((with_reducible refine g_call 15 ?_); (first | (((refine' Ef_callN rfl rfl ent_15 (fun w hp => hsk w (hp.rowOf ?q1) (hp.ins_bag ?q2)) ?_); (case q1 => (repeat (first | exact .head _ | apply List.Mem.tail))); (case q2 => (repeat (first | exact .head _ | apply List.Mem.tail)))); rintro ⟨A5, c5⟩)))
                | ((with_reducible refine g_call 12 ?_); (first | ((refine' Ef_callP rfl rfl ent_12 (fun w hp => sreply_v y.1.r y.1.r (A5, c5) y.2 w (hp.in_row ?q1) (hp.in_old hyi) hy4 _ (Rl.eqR_self _)) ?_); (case q1 => (repeat (first | exact .head _ | apply List.Mem.tail))))))
                | ((with_reducible refine g_call 19 ?_); (first | ((refine' Ef_callP rfl rfl ent_19 (fun w hp => may_q A1 c1 m w rfl (hp.rowOf ?q1) hl2 _ hI.may) ?_); (case q1 => (repeat (first | exact .head _ | apply List.Mem.tail))))))))
                | refine w1 ?_
                | (refine w2 ?_ ?_ <;> intro hc)
                | (first | ((refine' ⟨_, Yl_convW (k := .i64) (k' := .u64) rfl ?q1 ?q2, ?_⟩); (case q1 => exact und_of rfl); (case q2 => exact und_of rfl)) | ((refine' ⟨_, Yl_convI (k := .u64) (k' := .i64) rfl ?q1 ?q2 hmod1, ?_⟩); (case q1 => exact und_of rfl); (case q2 => exact und_of rfl)) | ((refine' ⟨_, Yl_convI (k := .u64) (k' := .i64) rfl ?q1 ?q2 hmod2, ?_⟩); (case q1 => exact und_of rfl); (case q2 => exact und_of rfl)) | ((refine' ⟨_, Yl_convI (k := .u64) (k' := .i64) rfl ?q1 ?q2 hmod3, ?_⟩); (case q1 => exact und_of rfl); (case q2 => exact und_of rfl)) | ((refine' ⟨_, Yl_remE rfl rfl ?q1 ?q2 hn1, ?_⟩); (case q1 => exact wrap_u64_lo _); (case q2 => decide)) | ((refine' ⟨_, Yl_remE rfl rfl ?q1 ?q2 hn2, ?_⟩); (case q1 => exact wrap_u64_lo _); (case q2 => decide)) | ((refine' ⟨_, Yl_remE rfl rfl ?q1 ?q2 hn3, ?_⟩); (case q1 => exact wrap_u64_lo _); (case q2 => decide)))
                | (refine w4 ?_; (first | ((fail_if_success have := b1); intro b1) | intro _))
                | (refine w5 ?_; (first | ((fail_if_success have := A1); intro A1 c1) | ((fail_if_success have := A2); intro A2 c2) | ((fail_if_success have := A3); intro A3 c3) | ((fail_if_success have := A4); intro A4 c4) | ((fail_if_success have := A5); intro A5 c5) | intro _ _))
                | refine w3 ?_ ?_
                | fail_if_success skip)
              refine loopQ_n (d + 1) ?_ (List.Sublist.refl _) (show d + 1 ≤ 4 by omega) (show 4 - (d + 1) < 4 - d by omega)
              · (repeat (first | exact Sub.nil | refine Sub.cons rfl ?_))
            · obtain ⟨y, hy⟩ := some_of_lt (l := l) (i := k) (by omega)
              obtain rfl : y.1 = yy := by
                rw [List.getElem?_map, hy] at hyy
                exact Option.some.inj hyy
              have hyk : l[((k : Int) + 1 - 1).toNat]? = some y := by
                rw [show ((k : Int) + 1 - 1).toNat = k by omega]; exact hy
              have eB := enc_atA mE_len hyk
              have hmod3 := wrap_mod y.1.id 9 (by decide) (by decide)
              have g5 := Int.emod_nonneg (IntKind.wrap .u64 y.1.id) (show (9 : Int) ≠ 0 by omega)
              have g6 := Int.emod_lt_of_pos (IntKind.wrap .u64 y.1.id) (show (0 : Int) < 9 by omega)
              have hfd2 := hfd
              unfold Rl.nid at hfd2
              generalize hn3 : IntKind.wrap .u64 y.1.id % 9 = u3 at hmod3 g5 g6 hfd2
              have hf3 : Rl.fits (d : Int) (1 + u3) = true := decide_eq_true (by omega)
              have hask : Rl.askL p (d : Int) (1 + u3) = (y.1.r, true, 0) := by
                unfold Rl.askL
                rw [hI.may, hf3, Bool.and_self, if_pos rfl, hfd2]
                dsimp only
                rw [if_neg (by omega), if_pos rfl]
              have hof3 : Rl.ofL p (d : Int) = 1 + u3 := by
                unfold Rl.ofL
                rw [hfd2]
              have hsk := fun w h1 h2 => ask_q (p := p) A3 c3 m3 w hm3 h1 hl2 h2 hk4 (d : Int) (1 + u3) _ hask
              dsimp only at hsk
              have hyi := hia y (mem_of_some hy)
              have hy4 : y.1.r.keys.length ≤ 9223372036854775806 := by have := hlk y (mem_of_some hy); omega
              clear hfd hfd2 hyy
              repeat' (first
                  | ((with_reducible refine is_load ?_); (first | ((refine' ⟨_, Yl_loadA_hp rfl ?qa ?qb ?ql ?qc, ?_⟩); (case qa => exact agg_of rfl); (case qb => (first | exact fun _ hp => hp.rd ha fun _ => List.not_mem_nil)); (case qc => assumption); (case ql => rfl)) | ((refine' ⟨_, Yl_loadA_at rfl ?qa ?qb ?ql ?qc, ?_⟩); (case qa => exact agg_of rfl); (case qb => (repeat (first | exact .head _ | apply List.Mem.tail))); (case qc => (first | exact mE_rE _)); (case ql => rfl))))
                  | ((with_reducible refine is_idx ?_); (first | ((refine' ⟨_, Yl_index_arr rfl rfl ?q1 ?q2 ?q3, ?_⟩); (case q1 => exact und_of rfl); (case q2 => exact siz_of rfl); (case q3 => omega))))
                  | ((with_reducible refine ie_store ?_); (first | ((refine' Ef_storeA' rfl rfl ?q1 (rE_one _ _) ?q2 ?q3 ?_); (case q1 => exact siz_of rfl); (case q2 => (first | exact at0 | exact at1 | exact at2 | exact at3 | exact at4 | exact at5 | exact at6)); (case q3 => rfl)) | ((refine' Ef_storeA' rfl rfl ?q1 (mE_one _) ?q2 ?q3 ?_); (case q1 => exact siz_of rfl); (case q2 => (first | exact at0 | exact at1 | exact at2 | exact at3 | exact at4 | exact at5 | exact at6)); (case q3 => rfl)) | ((refine' Ef_storeC (C' := arr (ks.set j ((i : Int) + 1))) rfl rfl ?q1 ?q2 ?q3 (arr_size hj4) (arr_set _ _ _) ?_); (case q1 => rfl); (case q2 => exact siz_of rfl); (case q3 => (first | exact at0 | exact at1 | exact at2 | exact at3 | exact at4 | exact at5 | exact at6)))))
                  | ((with_reducible refine ie_callf ?_); (first
                  | ((with_reducible refine g_call 14 ?_); (first | refine Ef_callP rfl rfl ent_14 (fun w _ => awake_v w) ?_))
                  | ((with_reducible refine g_call 18 ?_); (first | ((refine' Ef_callP rfl rfl ent_18 (fun w hp => hofa w (hp.rowOf ?q1)) ?_); (case q1 => (repeat (first | exact .head _ | apply List.Mem.tail)))) | ((refine' Ef_callP rfl rfl ent_18 (fun w hp => hofb A3 c3 m3 w hm3 (hp.rowOf ?q1)) ?_); (case q1 => (repeat (first | exact .head _ | apply List.Mem.tail)))) | ((refine' Ef_callP rfl rfl ent_18 (fun w hp => of_q A1 c1 m w rfl (hp.rowOf ?q1) hl2 (d : Int) _ hof3) ?_); (case q1 => (repeat (first | exact .head _ | apply List.Mem.tail)))) | ((refine' Ef_callP rfl rfl ent_18 (fun w hp => of_q A3 c3 m3 w hm3 (hp.rowOf ?q1) hl2 (d : Int) _ hof3) ?_); (case q1 => (repeat (first | exact .head _ | apply List.Mem.tail))))))
                  | ((with_reducible refine g_call 22 ?_); (first | (((refine' Ef_callNX rfl rfl ent_22 (fun w hp => hno w (hp.rowOf ?q1) (hp.ins_bag ?q2) (hp.in_old hxi)) ?_); (case q1 => (repeat (first | exact .head _ | apply List.Mem.tail))); (case q2 => (repeat (first | exact .head _ | apply List.Mem.tail)))); rintro ⟨⟨A3, c3⟩, m3⟩ hm3)))
                  | ((with_reducible refine g_call 15 ?_); (first | (((refine' Ef_callN rfl rfl ent_15 (fun w hp => hsk w (hp.rowOf ?q1) (hp.ins_bag ?q2)) ?_); (case q1 => (repeat (first | exact .head _ | apply List.Mem.tail))); (case q2 => (repeat (first | exact .head _ | apply List.Mem.tail)))); rintro ⟨A5, c5⟩)))
                  | ((with_reducible refine g_call 12 ?_); (first | ((refine' Ef_callP rfl rfl ent_12 (fun w hp => sreply_v y.1.r y.1.r (A5, c5) y.2 w (hp.in_row ?q1) (hp.in_old hyi) hy4 _ (Rl.eqR_self _)) ?_); (case q1 => (repeat (first | exact .head _ | apply List.Mem.tail))))))
                  | ((with_reducible refine g_call 19 ?_); (first | ((refine' Ef_callP rfl rfl ent_19 (fun w hp => may_q A1 c1 m w rfl (hp.rowOf ?q1) hl2 _ hI.may) ?_); (case q1 => (repeat (first | exact .head _ | apply List.Mem.tail))))))))
                  | refine w1 ?_
                  | (refine w2 ?_ ?_ <;> intro hc)
                  | (first | ((refine' ⟨_, Yl_convW (k := .i64) (k' := .u64) rfl ?q1 ?q2, ?_⟩); (case q1 => exact und_of rfl); (case q2 => exact und_of rfl)) | ((refine' ⟨_, Yl_convI (k := .u64) (k' := .i64) rfl ?q1 ?q2 hmod1, ?_⟩); (case q1 => exact und_of rfl); (case q2 => exact und_of rfl)) | ((refine' ⟨_, Yl_convI (k := .u64) (k' := .i64) rfl ?q1 ?q2 hmod2, ?_⟩); (case q1 => exact und_of rfl); (case q2 => exact und_of rfl)) | ((refine' ⟨_, Yl_convI (k := .u64) (k' := .i64) rfl ?q1 ?q2 hmod3, ?_⟩); (case q1 => exact und_of rfl); (case q2 => exact und_of rfl)) | ((refine' ⟨_, Yl_remE rfl rfl ?q1 ?q2 hn1, ?_⟩); (case q1 => exact wrap_u64_lo _); (case q2 => decide)) | ((refine' ⟨_, Yl_remE rfl rfl ?q1 ?q2 hn2, ?_⟩); (case q1 => exact wrap_u64_lo _); (case q2 => decide)) | ((refine' ⟨_, Yl_remE rfl rfl ?q1 ?q2 hn3, ?_⟩); (case q1 => exact wrap_u64_lo _); (case q2 => decide)))
                  | (refine w4 ?_; (first | ((fail_if_success have := b1); intro b1) | intro _))
                  | (refine w5 ?_; (first | ((fail_if_success have := A1); intro A1 c1) | ((fail_if_success have := A2); intro A2 c2) | ((fail_if_success have := A3); intro A3 c3) | ((fail_if_success have := A4); intro A4 c4) | ((fail_if_success have := A5); intro A5 c5) | intro _ _))
                  | refine w3 ?_ ?_
                  | fail_if_success skip)
              refine loopQ_n (d + 1) ?_ (by (repeat (first | exact List.nil_sublist _ | refine List.Sublist.cons_cons _ ?_ | refine List.Sublist.cons _ ?_))) (show d + 1 ≤ 4 by omega) (show 4 - (d + 1) < 4 - d by omega)
              · (repeat (first | exact Sub.nil | refine Sub.cons rfl ?_))
          · repeat' (first
              | ((with_reducible refine is_load ?_); (first | ((refine' ⟨_, Yl_loadA_hp rfl ?qa ?qb ?ql ?qc, ?_⟩); (case qa => exact agg_of rfl); (case qb => (first | exact fun _ hp => hp.rd ha fun _ => List.not_mem_nil)); (case qc => assumption); (case ql => rfl)) | ((refine' ⟨_, Yl_loadA_at rfl ?qa ?qb ?ql ?qc, ?_⟩); (case qa => exact agg_of rfl); (case qb => (repeat (first | exact .head _ | apply List.Mem.tail))); (case qc => (first | exact mE_rE _)); (case ql => rfl))))
              | ((with_reducible refine is_idx ?_); (first | ((refine' ⟨_, Yl_index_arr rfl rfl ?q1 ?q2 ?q3, ?_⟩); (case q1 => exact und_of rfl); (case q2 => exact siz_of rfl); (case q3 => omega))))
              | ((with_reducible refine ie_store ?_); (first | ((refine' Ef_storeA' rfl rfl ?q1 (rE_one _ _) ?q2 ?q3 ?_); (case q1 => exact siz_of rfl); (case q2 => (first | exact at0 | exact at1 | exact at2 | exact at3 | exact at4 | exact at5 | exact at6)); (case q3 => rfl)) | ((refine' Ef_storeA' rfl rfl ?q1 (mE_one _) ?q2 ?q3 ?_); (case q1 => exact siz_of rfl); (case q2 => (first | exact at0 | exact at1 | exact at2 | exact at3 | exact at4 | exact at5 | exact at6)); (case q3 => rfl)) | ((refine' Ef_storeC (C' := arr (ks.set j ((i : Int) + 1))) rfl rfl ?q1 ?q2 ?q3 (arr_size hj4) (arr_set _ _ _) ?_); (case q1 => rfl); (case q2 => exact siz_of rfl); (case q3 => (first | exact at0 | exact at1 | exact at2 | exact at3 | exact at4 | exact at5 | exact at6)))))
              | ((with_reducible refine ie_callf ?_); (first
              | ((with_reducible refine g_call 14 ?_); (first | refine Ef_callP rfl rfl ent_14 (fun w _ => awake_v w) ?_))
              | ((with_reducible refine g_call 18 ?_); (first | ((refine' Ef_callP rfl rfl ent_18 (fun w hp => hofa w (hp.rowOf ?q1)) ?_); (case q1 => (repeat (first | exact .head _ | apply List.Mem.tail)))) | ((refine' Ef_callP rfl rfl ent_18 (fun w hp => hofb A3 c3 m3 w hm3 (hp.rowOf ?q1)) ?_); (case q1 => (repeat (first | exact .head _ | apply List.Mem.tail)))) | ((refine' Ef_callP rfl rfl ent_18 (fun w hp => of_q A1 c1 m w rfl (hp.rowOf ?q1) hl2 (d : Int) _ hof3) ?_); (case q1 => (repeat (first | exact .head _ | apply List.Mem.tail)))) | ((refine' Ef_callP rfl rfl ent_18 (fun w hp => of_q A3 c3 m3 w hm3 (hp.rowOf ?q1) hl2 (d : Int) _ hof3) ?_); (case q1 => (repeat (first | exact .head _ | apply List.Mem.tail))))))
              | ((with_reducible refine g_call 22 ?_); (first | (((refine' Ef_callNX rfl rfl ent_22 (fun w hp => hno w (hp.rowOf ?q1) (hp.ins_bag ?q2) (hp.in_old hxi)) ?_); (case q1 => (repeat (first | exact .head _ | apply List.Mem.tail))); (case q2 => (repeat (first | exact .head _ | apply List.Mem.tail)))); rintro ⟨⟨A3, c3⟩, m3⟩ hm3)))
              | ((with_reducible refine g_call 15 ?_); (first | (((refine' Ef_callN rfl rfl ent_15 (fun w hp => hsk w (hp.rowOf ?q1) (hp.ins_bag ?q2)) ?_); (case q1 => (repeat (first | exact .head _ | apply List.Mem.tail))); (case q2 => (repeat (first | exact .head _ | apply List.Mem.tail)))); rintro ⟨A5, c5⟩)))
              | ((with_reducible refine g_call 12 ?_); (first | ((refine' Ef_callP rfl rfl ent_12 (fun w hp => sreply_v y.1.r y.1.r (A5, c5) y.2 w (hp.in_row ?q1) (hp.in_old hyi) hy4 _ (Rl.eqR_self _)) ?_); (case q1 => (repeat (first | exact .head _ | apply List.Mem.tail))))))
              | ((with_reducible refine g_call 19 ?_); (first | ((refine' Ef_callP rfl rfl ent_19 (fun w hp => may_q A1 c1 m w rfl (hp.rowOf ?q1) hl2 _ hI.may) ?_); (case q1 => (repeat (first | exact .head _ | apply List.Mem.tail))))))))
              | refine w1 ?_
              | (refine w2 ?_ ?_ <;> intro hc)
              | (first | ((refine' ⟨_, Yl_convW (k := .i64) (k' := .u64) rfl ?q1 ?q2, ?_⟩); (case q1 => exact und_of rfl); (case q2 => exact und_of rfl)) | ((refine' ⟨_, Yl_convI (k := .u64) (k' := .i64) rfl ?q1 ?q2 hmod1, ?_⟩); (case q1 => exact und_of rfl); (case q2 => exact und_of rfl)) | ((refine' ⟨_, Yl_convI (k := .u64) (k' := .i64) rfl ?q1 ?q2 hmod2, ?_⟩); (case q1 => exact und_of rfl); (case q2 => exact und_of rfl)) | ((refine' ⟨_, Yl_convI (k := .u64) (k' := .i64) rfl ?q1 ?q2 hmod3, ?_⟩); (case q1 => exact und_of rfl); (case q2 => exact und_of rfl)) | ((refine' ⟨_, Yl_remE rfl rfl ?q1 ?q2 hn1, ?_⟩); (case q1 => exact wrap_u64_lo _); (case q2 => decide)) | ((refine' ⟨_, Yl_remE rfl rfl ?q1 ?q2 hn2, ?_⟩); (case q1 => exact wrap_u64_lo _); (case q2 => decide)) | ((refine' ⟨_, Yl_remE rfl rfl ?q1 ?q2 hn3, ?_⟩); (case q1 => exact wrap_u64_lo _); (case q2 => decide)))
              | (refine w4 ?_; (first | ((fail_if_success have := b1); intro b1) | intro _))
              | (refine w5 ?_; (first | ((fail_if_success have := A1); intro A1 c1) | ((fail_if_success have := A2); intro A2 c2) | ((fail_if_success have := A3); intro A3 c3) | ((fail_if_success have := A4); intro A4 c4) | ((fail_if_success have := A5); intro A5 c5) | intro _ _))
              | refine w3 ?_ ?_
              | fail_if_success skip)
            refine loopH_n (i + 1, (A3, c3), m3, (ks.set j ((i : Int) + 1))) ?_ (fun _ hp => hp.ofPart (by (repeat (first | exact Part.nil | refine Part.p0 ?_ | refine Part.p1 ?_ | refine Part.p2 ?_ | refine Part.p3 ?_ | refine Part.p4 ?_ | refine Part.p5 ?_ | refine Part.p6 ?_)))) ⟨show i + 1 ≤ _ by omega, by rw [show m3.map (·.1) = p from hm3]; exact hI⟩ (show l.length - (i + 1) < l.length - i by omega)
            · (repeat (first | exact Sub.nil | refine Sub.cons rfl ?_))
    · repeat' (first
        | ((with_reducible refine is_load ?_); (first | ((refine' ⟨_, Yl_loadA_hp rfl ?qa ?qb ?ql ?qc, ?_⟩); (case qa => exact agg_of rfl); (case qb => (first | exact fun _ hp => hp.rd ha fun _ => List.not_mem_nil)); (case qc => assumption); (case ql => rfl)) | ((refine' ⟨_, Yl_loadA_at rfl ?qa ?qb ?ql ?qc, ?_⟩); (case qa => exact agg_of rfl); (case qb => (repeat (first | exact .head _ | apply List.Mem.tail))); (case qc => (first | exact mE_rE _)); (case ql => rfl))))
        | ((with_reducible refine is_idx ?_); (first | ((refine' ⟨_, Yl_index_arr rfl rfl ?q1 ?q2 ?q3, ?_⟩); (case q1 => exact und_of rfl); (case q2 => exact siz_of rfl); (case q3 => omega))))
        | ((with_reducible refine ie_store ?_); (first | ((refine' Ef_storeA' rfl rfl ?q1 (rE_one _ _) ?q2 ?q3 ?_); (case q1 => exact siz_of rfl); (case q2 => (first | exact at0 | exact at1 | exact at2 | exact at3 | exact at4 | exact at5 | exact at6)); (case q3 => rfl)) | ((refine' Ef_storeA' rfl rfl ?q1 (mE_one _) ?q2 ?q3 ?_); (case q1 => exact siz_of rfl); (case q2 => (first | exact at0 | exact at1 | exact at2 | exact at3 | exact at4 | exact at5 | exact at6)); (case q3 => rfl)) | ((refine' Ef_storeC (C' := arr (ks.set j ((i : Int) + 1))) rfl rfl ?q1 ?q2 ?q3 (arr_size hj4) (arr_set _ _ _) ?_); (case q1 => rfl); (case q2 => exact siz_of rfl); (case q3 => (first | exact at0 | exact at1 | exact at2 | exact at3 | exact at4 | exact at5 | exact at6)))))
        | ((with_reducible refine ie_callf ?_); (first
        | ((with_reducible refine g_call 14 ?_); (first | refine Ef_callP rfl rfl ent_14 (fun w _ => awake_v w) ?_))
        | ((with_reducible refine g_call 18 ?_); (first | ((refine' Ef_callP rfl rfl ent_18 (fun w hp => hofa w (hp.rowOf ?q1)) ?_); (case q1 => (repeat (first | exact .head _ | apply List.Mem.tail)))) | ((refine' Ef_callP rfl rfl ent_18 (fun w hp => hofb A3 c3 m3 w hm3 (hp.rowOf ?q1)) ?_); (case q1 => (repeat (first | exact .head _ | apply List.Mem.tail)))) | ((refine' Ef_callP rfl rfl ent_18 (fun w hp => of_q A1 c1 m w rfl (hp.rowOf ?q1) hl2 (d : Int) _ hof3) ?_); (case q1 => (repeat (first | exact .head _ | apply List.Mem.tail)))) | ((refine' Ef_callP rfl rfl ent_18 (fun w hp => of_q A3 c3 m3 w hm3 (hp.rowOf ?q1) hl2 (d : Int) _ hof3) ?_); (case q1 => (repeat (first | exact .head _ | apply List.Mem.tail))))))
        | ((with_reducible refine g_call 22 ?_); (first | (((refine' Ef_callNX rfl rfl ent_22 (fun w hp => hno w (hp.rowOf ?q1) (hp.ins_bag ?q2) (hp.in_old hxi)) ?_); (case q1 => (repeat (first | exact .head _ | apply List.Mem.tail))); (case q2 => (repeat (first | exact .head _ | apply List.Mem.tail)))); rintro ⟨⟨A3, c3⟩, m3⟩ hm3)))
        | ((with_reducible refine g_call 15 ?_); (first | (((refine' Ef_callN rfl rfl ent_15 (fun w hp => hsk w (hp.rowOf ?q1) (hp.ins_bag ?q2)) ?_); (case q1 => (repeat (first | exact .head _ | apply List.Mem.tail))); (case q2 => (repeat (first | exact .head _ | apply List.Mem.tail)))); rintro ⟨A5, c5⟩)))
        | ((with_reducible refine g_call 12 ?_); (first | ((refine' Ef_callP rfl rfl ent_12 (fun w hp => sreply_v y.1.r y.1.r (A5, c5) y.2 w (hp.in_row ?q1) (hp.in_old hyi) hy4 _ (Rl.eqR_self _)) ?_); (case q1 => (repeat (first | exact .head _ | apply List.Mem.tail))))))
        | ((with_reducible refine g_call 19 ?_); (first | ((refine' Ef_callP rfl rfl ent_19 (fun w hp => may_q A1 c1 m w rfl (hp.rowOf ?q1) hl2 _ hI.may) ?_); (case q1 => (repeat (first | exact .head _ | apply List.Mem.tail))))))))
        | refine w1 ?_
        | (refine w2 ?_ ?_ <;> intro hc)
        | (first | ((refine' ⟨_, Yl_convW (k := .i64) (k' := .u64) rfl ?q1 ?q2, ?_⟩); (case q1 => exact und_of rfl); (case q2 => exact und_of rfl)) | ((refine' ⟨_, Yl_convI (k := .u64) (k' := .i64) rfl ?q1 ?q2 hmod1, ?_⟩); (case q1 => exact und_of rfl); (case q2 => exact und_of rfl)) | ((refine' ⟨_, Yl_convI (k := .u64) (k' := .i64) rfl ?q1 ?q2 hmod2, ?_⟩); (case q1 => exact und_of rfl); (case q2 => exact und_of rfl)) | ((refine' ⟨_, Yl_convI (k := .u64) (k' := .i64) rfl ?q1 ?q2 hmod3, ?_⟩); (case q1 => exact und_of rfl); (case q2 => exact und_of rfl)) | ((refine' ⟨_, Yl_remE rfl rfl ?q1 ?q2 hn1, ?_⟩); (case q1 => exact wrap_u64_lo _); (case q2 => decide)) | ((refine' ⟨_, Yl_remE rfl rfl ?q1 ?q2 hn2, ?_⟩); (case q1 => exact wrap_u64_lo _); (case q2 => decide)) | ((refine' ⟨_, Yl_remE rfl rfl ?q1 ?q2 hn3, ?_⟩); (case q1 => exact wrap_u64_lo _); (case q2 => decide)))
        | (refine w4 ?_; (first | ((fail_if_success have := b1); intro b1) | intro _))
        | (refine w5 ?_; (first | ((fail_if_success have := A1); intro A1 c1) | ((fail_if_success have := A2); intro A2 c2) | ((fail_if_success have := A3); intro A3 c3) | ((fail_if_success have := A4); intro A4 c4) | ((fail_if_success have := A5); intro A5 c5) | intro _ _))
        | refine w3 ?_ ?_
        | fail_if_success skip)
      exact ret_n [] (res1 rfl rfl) (List.nil_sublist _) ⟨rfl, rfl⟩
end
end Go.Proofs.Ythiacfpfgdoliaa
