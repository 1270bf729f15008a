/- Law: each entry stands at its own position; stamps never fall: what a call comes to. -/
import Derived.Test.YtegaejbfhpigjaaT15
import Derived.Test.YtegaejbfhpigjaaLi
namespace Go.Proofs.Ytegaejbfhpigjaa
open Go.RowKit
set_option maxRecDepth 20000

section
variable (A : Option Addr) (c : Nat) (l : List Ac) (w : World) (ha : Rd w A l.length 7 (l.flatMap aE)) (hia : Ins w (l.map (·.e))) (hle : l.length ≤ 140737488355328) (hlk : ∀ a ∈ l, a.e.1.body.length ≤ 140737488355328)
include ha hia hle hlk
set_option maxHeartbeats 16000000 in
theorem places_law : Sp Try.prog 9 [.slice A l.length c] w [] fun v N => v = .bool true ∧ N = [] := by
  have hg1 := fun w h => great_v A c l w h (by omega) hlk _ rfl
  cases h1 : Lg.great 0 l
  · rw [h1] at hg1
    obtain ⟨g1, g2⟩ := Lg.great_no h1 (Nat.zero_le _)
    clear hlk h1
    refine Sp.enter (n := 127) Try.func9 rfl rfl rfl (Hp.refl w) ?_
    refine T.mem (fun _ h => h.bagNil) ?_
    refine T.row0e 27 5 ?_
    repeat' (first
        | ((with_reducible refine is_load ?_); (first | ((refine' ⟨_, Yl_loadA_hp (vs := aE x) rfl ?qa ?qb ?ql ?qc, ?_⟩); (case qa => exact agg_of rfl); (case qb => exact fun _ hp => hp.rd ha fun _ => List.not_mem_nil); (case qc => exact eA); (case ql => rfl)) | ((refine' ⟨_, Yl_load_row rfl ?q1 ?q2 f0, ?_⟩); (case q1 => exact one_of rfl); (case q2 => (repeat (first | exact .head _ | apply List.Mem.tail)))) | ((refine' ⟨_, Yl_load_row rfl ?q1 ?q2 f1, ?_⟩); (case q1 => exact one_of rfl); (case q2 => (repeat (first | exact .head _ | apply List.Mem.tail)))) | ((refine' ⟨_, Yl_load_row rfl ?q1 ?q2 f2, ?_⟩); (case q1 => exact one_of rfl); (case q2 => (repeat (first | exact .head _ | apply List.Mem.tail))))))
        | ((with_reducible refine is_idx ?_); (first | ((refine' ⟨_, Yl_indexZ (j := k') rfl rfl ?q1 ?q2 ?q3 ?q4 hA3, ?_⟩); (case q1 => omega); (case q2 => exact und_of rfl); (case q3 => exact siz_of rfl); (case q4 => omega))))
        | ((with_reducible refine ie_callf ?_); (first
        | ((with_reducible refine g_call 26 ?_); (first | refine Ef_callP rfl rfl ent_26 (fun w _ => awake_c w) ?_))
        | ((with_reducible refine g_call 10 ?_); (first | refine Ef_callP rfl rfl ent_10 (fun w hp => hg1 w (hp.rd ha fun _ => List.not_mem_nil)) ?_))
        | ((with_reducible refine g_call 13 ?_); (first | (refine Ef_callN rfl rfl ent_13 (fun w _ => new_c w) ?_; rintro b)))
        | ((with_reducible refine g_call 27 ?_); (first | (refine Ef_callX1 [true, true, true] rfl rfl ent_27 rfl rfl rfl (fun w hp hp2 => hdo w _ hp2 (hp.in_old hxi) (fun h => hp.outS [true, true, true] rfl (hxi.lt h) List.not_mem_nil)) ?_; intro z2 xs hxs; have hl2 := len_map hxs)))
        | ((with_reducible refine g_call 15 ?_); (first | ((refine' Ef_callP rfl rfl ent_15 (fun w hp => len_v b z2.1 xs.length z2.2 s' w (hp.blkOf ?q1)) ?_); (case q1 => (repeat (first | exact .head _ | apply List.Mem.tail))))))
        | ((with_reducible refine g_call 16 ?_); (first | ((refine' Ef_callP rfl rfl ent_16 (fun w hp => synced_v b z1.1 lx.length z1.2 s w (hp.blkOf ?q1)) ?_); (case q1 => (repeat (first | exact .head _ | apply List.Mem.tail)))) | ((refine' Ef_callP rfl rfl ent_16 (fun w hp => synced_v b z2.1 xs.length z2.2 s' w (hp.blkOf ?q1)) ?_); (case q1 => (repeat (first | exact .head _ | apply List.Mem.tail))))))
        | ((with_reducible refine g_call 19 ?_); (first | (((refine' Ef_callF rfl rfl ent_19 (fun w hp => all_q b z2.1 xs.length z2.2 s' xs q' hxs ?q1 w (hp.lrRd ?q2) rfl (hp.ins_bag ?q3) hsb (hp.blkOf ?q4) (hp.lrCap ?q5)) ?_); (case q1 => omega); (case q2 => (repeat (first | exact .head _ | apply List.Mem.tail))); (case q3 => (repeat (first | exact .head _ | apply List.Mem.tail))); (case q4 => (repeat (first | exact .head _ | apply List.Mem.tail))); (case q5 => (repeat (first | exact .head _ | apply List.Mem.tail)))); intro A3 c3 ms hms; have hl3 := len_map hms)))
        | ((with_reducible refine g_call 11 ?_); (first
        | ((refine' Ef_callP rfl rfl ent_11 (fun w hp => begins_v A1 c1 ws A3 c3 ms w (hp.rowOf ?q1) (hp.rowOf ?q2) (hp.ins_bag ?q3) (hp.ins_bag ?q4) ?q5 (hp.capOf (e := 27) (k := 5) (xs := ms.flatMap mE) ?q6) true ?q7) ?_); (case q1 => (repeat (first | exact .head _ | apply List.Mem.tail))); (case q2 => (repeat (first | exact .head _ | apply List.Mem.tail))); (case q3 => (repeat (first | exact .head _ | apply List.Mem.tail))); (case q4 => (repeat (first | exact .head _ | apply List.Mem.tail))); (case q5 => omega); (case q6 => (repeat (first | exact .head _ | apply List.Mem.tail))); (case q7 => rw [hws, hms]; exact hbg hk5))
        | ((refine' Ef_callP rfl rfl ent_11 (fun w hp => begins_v A3 c3 ms A1 c1 ws w (hp.rowOf ?q1) (hp.rowOf ?q2) (hp.ins_bag ?q3) (hp.ins_bag ?q4) ?q5 (hp.capOf (e := 27) (k := 5) (xs := ws.flatMap mE) ?q6) true ?q7) ?_); (case q1 => (repeat (first | exact .head _ | apply List.Mem.tail))); (case q2 => (repeat (first | exact .head _ | apply List.Mem.tail))); (case q3 => (repeat (first | exact .head _ | apply List.Mem.tail))); (case q4 => (repeat (first | exact .head _ | apply List.Mem.tail))); (case q5 => omega); (case q6 => (repeat (first | exact .head _ | apply List.Mem.tail))); (case q7 => rw [hws, hms]; exact hbg5 hk5))))))
        | ((with_reducible refine g_draw ?_); (first | (((with_reducible refine' T.drawM (id := 18) [(0, true), (1, true), (2, true), (3, true), (4, true), (5, false), (6, false), (7, false), (8, false), (9, false), (10, false), (11, false), (12, true), (13, true), (14, true), (15, true), (16, true), (17, true), (18, false), (19, false), (20, false), (21, false), (22, false), (23, false), (24, false), (25, false)] mixd ?q1 ?_); (case q1 => kernel_rfl)))))
        | refine w1 ?_
        | (refine w2 ?_ ?_ <;> intro hc)
        | (refine w4 ?_; (intro _))
        | (refine w5 ?_; (first | ((fail_if_success have := A1); intro A1 c1) | ((fail_if_success have := A2); intro A2 c2) | ((fail_if_success have := A3); intro A3 c3) | intro _ _))
        | refine w3 ?_ ?_
        | fail_if_success skip)
    refine T.loopM (α := Nat × (Hd × List Me) × (Hd × List Me) × Int) (fun z => [(0, .slice A l.length c), (3, .pointer (some ⟨b, 0, none⟩)), (4, .slice z.2.2.1.1.1 z.2.2.1.2.length z.2.2.1.1.2), (5, .int .i64 (z.1 : Int))]) (fun z => xL b z.2.1.1 z.2.1.2 z.2.2.2 ++ [rM z.2.2.1.2 z.2.2.1.1, bag (z.2.2.1.2.map bA)])
      (fun z => z.1 ≤ l.length ∧ z.2.2.1.2.map (·.1) = z.2.1.2.map (·.1) ∧ (z.2.1.2.map (·.1)).length ≤ z.1 ∧ (∀ x ∈ z.2.1.2.map (·.1), x.body.length ≤ 6000) ∧ Lg.Pos (z.2.1.2.map (·.1)) ∧ Lg.Mono (z.2.1.2.map (·.1)) ∧ z.2.2.2 ≤ (z.2.1.2.map (·.1)).length) (fun z => l.length - z.1) (0, ((none, 0), []), ((none, 0), []), 0) ?_ ?_ ?_ ?_
    · (repeat (first | exact Sub.nil | refine Sub.cons rfl ?_))
    · exact fun _ h => h.ofPart (by dsimp only [xL, rM]; (repeat (first | exact Part.nil | refine Part.p0 ?_ | refine Part.p1 ?_ | refine Part.p2 ?_ | refine Part.p3 ?_ | refine Part.p4 ?_ | refine Part.p5 ?_ | refine Part.p6 ?_)))
    · exact ⟨Nat.zero_le _, rfl, Nat.zero_le _, fun x hx => by simp at hx, Lg.pos_nil, Lg.mono_nil, Int.le_refl _⟩
    · rintro ⟨i, ⟨z1, lx⟩, ⟨⟨A1, c1⟩, ws⟩, s⟩ ⟨hi, hws, hqi, hqb, hpos, hmono, hsq⟩
      dsimp only at hi hws hqi hqb hpos hmono hsq ⊢
      by_cases hlt : i < l.length
      · obtain ⟨x, hx⟩ := some_of_lt (l := l) (i := i) hlt
        have eA := enc_atA aE_len hx
        have eK : (l.flatMap aE)[i * 7 + 0]? = some (.int .i64 x.kind) := enc_at aE_len hx (j := 0) (by decide)
        have hxi : In w x.e := hia _ (List.mem_map.2 ⟨x, mem_of_some hx, rfl⟩)
        have hx5 : x.e.1.body.length ≤ 6000 := Nat.le_trans (g2 x (mem_of_some hx)) (by decide)
        have hdo := fun w R hp h1 h2 => do_c b z1 lx s x w R hp (by rw [List.length_map] at hqi; omega) h1 h2 hx5
        have hwl := len_map hws
        generalize lx.map (·.1) = q at hdo hws hwl hqi hqb hpos hmono hsq
        have hsl := Lg.step_len x.kind x.n x.e.1 q s
        have hsb := Lg.step_mem (kind := x.kind) (n := x.n) (sy := s) hqb hx5
        have hsp := Lg.pos_step hpos x.kind x.n x.e.1 s
        have hsm := Lg.mono_step hmono x.kind x.n x.e.1 s
        have hss := Lg.step_sy (kind := x.kind) (n := x.n) (e := x.e.1) hsq
        have hbg := fun h : x.kind ≠ 5 => Lg.step_beg (n := x.n) (e := x.e.1) (l := q) (sy := s) h
        have hbg5 := fun h : x.kind = 5 => Lg.step_beg5 (n := x.n) (e := x.e.1) (l := q) (sy := s) h
        have han := Lg.ans_len x.kind x.n x.e.1 q s
        generalize Lg.step x.kind x.n x.e.1 q s = S at hdo hsl hsb hsp hsm hss hbg hbg5 han
        generalize Lg.ans x.kind x.n x.e.1 q s = an at hdo han
        obtain ⟨q', s'⟩ := S
        dsimp only at hdo hsl hsb hsp hsm hss hbg hbg5 han
        obtain ⟨hss1, hss2⟩ := hss
        have hs5 : x.kind = 5 ∨ s ≤ s' := by
          by_cases h : x.kind = 5
          · exact .inl h
          · exact .inr (hss2 h)
        have hk5 : x.kind = 5 ∨ x.kind ≠ 5 := by omega
        rcases hk5 with hk5 | hk5
        all_goals
          rcases han with han | ⟨han, hql⟩
        all_goals
          repeat' (first
              | ((with_reducible refine is_load ?_); (first | ((refine' ⟨_, Yl_loadA_hp (vs := aE x) rfl ?qa ?qb ?ql ?qc, ?_⟩); (case qa => exact agg_of rfl); (case qb => exact fun _ hp => hp.rd ha fun _ => List.not_mem_nil); (case qc => exact eA); (case ql => rfl)) | ((refine' ⟨_, Yl_load_row rfl ?q1 ?q2 f0, ?_⟩); (case q1 => exact one_of rfl); (case q2 => (repeat (first | exact .head _ | apply List.Mem.tail)))) | ((refine' ⟨_, Yl_load_row rfl ?q1 ?q2 f1, ?_⟩); (case q1 => exact one_of rfl); (case q2 => (repeat (first | exact .head _ | apply List.Mem.tail)))) | ((refine' ⟨_, Yl_load_row rfl ?q1 ?q2 f2, ?_⟩); (case q1 => exact one_of rfl); (case q2 => (repeat (first | exact .head _ | apply List.Mem.tail))))))
              | ((with_reducible refine is_idx ?_); (first | ((refine' ⟨_, Yl_indexZ (j := k') rfl rfl ?q1 ?q2 ?q3 ?q4 hA3, ?_⟩); (case q1 => omega); (case q2 => exact und_of rfl); (case q3 => exact siz_of rfl); (case q4 => omega))))
              | ((with_reducible refine ie_callf ?_); (first
              | ((with_reducible refine g_call 26 ?_); (first | refine Ef_callP rfl rfl ent_26 (fun w _ => awake_c w) ?_))
              | ((with_reducible refine g_call 10 ?_); (first | refine Ef_callP rfl rfl ent_10 (fun w hp => hg1 w (hp.rd ha fun _ => List.not_mem_nil)) ?_))
              | ((with_reducible refine g_call 13 ?_); (first | (refine Ef_callN rfl rfl ent_13 (fun w _ => new_c w) ?_; rintro b)))
              | ((with_reducible refine g_call 27 ?_); (first | (refine Ef_callX1 [true, true, true] rfl rfl ent_27 rfl rfl rfl (fun w hp hp2 => hdo w _ hp2 (hp.in_old hxi) (fun h => hp.outS [true, true, true] rfl (hxi.lt h) List.not_mem_nil)) ?_; intro z2 xs hxs; have hl2 := len_map hxs)))
              | ((with_reducible refine g_call 15 ?_); (first | ((refine' Ef_callP rfl rfl ent_15 (fun w hp => len_v b z2.1 xs.length z2.2 s' w (hp.blkOf ?q1)) ?_); (case q1 => (repeat (first | exact .head _ | apply List.Mem.tail))))))
              | ((with_reducible refine g_call 16 ?_); (first | ((refine' Ef_callP rfl rfl ent_16 (fun w hp => synced_v b z1.1 lx.length z1.2 s w (hp.blkOf ?q1)) ?_); (case q1 => (repeat (first | exact .head _ | apply List.Mem.tail)))) | ((refine' Ef_callP rfl rfl ent_16 (fun w hp => synced_v b z2.1 xs.length z2.2 s' w (hp.blkOf ?q1)) ?_); (case q1 => (repeat (first | exact .head _ | apply List.Mem.tail))))))
              | ((with_reducible refine g_call 19 ?_); (first | (((refine' Ef_callF rfl rfl ent_19 (fun w hp => all_q b z2.1 xs.length z2.2 s' xs q' hxs ?q1 w (hp.lrRd ?q2) rfl (hp.ins_bag ?q3) hsb (hp.blkOf ?q4) (hp.lrCap ?q5)) ?_); (case q1 => omega); (case q2 => (repeat (first | exact .head _ | apply List.Mem.tail))); (case q3 => (repeat (first | exact .head _ | apply List.Mem.tail))); (case q4 => (repeat (first | exact .head _ | apply List.Mem.tail))); (case q5 => (repeat (first | exact .head _ | apply List.Mem.tail)))); intro A3 c3 ms hms; have hl3 := len_map hms)))
              | ((with_reducible refine g_call 11 ?_); (first
              | ((refine' Ef_callP rfl rfl ent_11 (fun w hp => begins_v A1 c1 ws A3 c3 ms w (hp.rowOf ?q1) (hp.rowOf ?q2) (hp.ins_bag ?q3) (hp.ins_bag ?q4) ?q5 (hp.capOf (e := 27) (k := 5) (xs := ms.flatMap mE) ?q6) true ?q7) ?_); (case q1 => (repeat (first | exact .head _ | apply List.Mem.tail))); (case q2 => (repeat (first | exact .head _ | apply List.Mem.tail))); (case q3 => (repeat (first | exact .head _ | apply List.Mem.tail))); (case q4 => (repeat (first | exact .head _ | apply List.Mem.tail))); (case q5 => omega); (case q6 => (repeat (first | exact .head _ | apply List.Mem.tail))); (case q7 => rw [hws, hms]; exact hbg hk5))
              | ((refine' Ef_callP rfl rfl ent_11 (fun w hp => begins_v A3 c3 ms A1 c1 ws w (hp.rowOf ?q1) (hp.rowOf ?q2) (hp.ins_bag ?q3) (hp.ins_bag ?q4) ?q5 (hp.capOf (e := 27) (k := 5) (xs := ws.flatMap mE) ?q6) true ?q7) ?_); (case q1 => (repeat (first | exact .head _ | apply List.Mem.tail))); (case q2 => (repeat (first | exact .head _ | apply List.Mem.tail))); (case q3 => (repeat (first | exact .head _ | apply List.Mem.tail))); (case q4 => (repeat (first | exact .head _ | apply List.Mem.tail))); (case q5 => omega); (case q6 => (repeat (first | exact .head _ | apply List.Mem.tail))); (case q7 => rw [hws, hms]; exact hbg5 hk5))))))
              | ((with_reducible refine g_draw ?_); (first | (((with_reducible refine' T.drawM (id := 18) [(0, true), (1, true), (2, true), (3, true), (4, true), (5, false), (6, false), (7, false), (8, false), (9, false), (10, false), (11, false), (12, true), (13, true), (14, true), (15, true), (16, true), (17, true), (18, false), (19, false), (20, false), (21, false), (22, false), (23, false), (24, false), (25, false)] mixd ?q1 ?_); (case q1 => kernel_rfl)))))
              | refine w1 ?_
              | (refine w2 ?_ ?_ <;> intro hc)
              | (refine w4 ?_; (intro _))
              | (refine w5 ?_; (first | ((fail_if_success have := A1); intro A1 c1) | ((fail_if_success have := A2); intro A2 c2) | ((fail_if_success have := A3); intro A3 c3) | intro _ _))
              | refine w3 ?_ ?_
              | fail_if_success skip)
          refine T.loopM (α := Nat) (fun z => [(0, .slice A l.length c), (3, .pointer (some ⟨b, 0, none⟩)), (5, .int .i64 (i : Int)), (6, .int .i64 s), (8, .slice A3 ms.length c3), (9, .int .i64 (z : Int))]) (fun _ => xL b z2 xs s' ++ [rM ms (A3, c3), bag (ms.map bA)]) (fun z => z ≤ ms.length) (fun z => ms.length - z) 0 ?_ ?_ ?_ ?_
          · (repeat (first | exact Sub.nil | refine Sub.cons rfl ?_))
          · exact fun _ h => h.ofPart (by (repeat (first | exact Part.nil | refine Part.p0 ?_ | refine Part.p1 ?_ | refine Part.p2 ?_ | refine Part.p3 ?_ | refine Part.p4 ?_ | refine Part.p5 ?_ | refine Part.p6 ?_)))
          · exact Nat.zero_le _
          · rintro k hk
            by_cases hkl : k < ms.length
            · obtain ⟨m, hm⟩ := some_of_lt (l := ms) (i := k) hkl
              have hqk : q'[k]? = some m.1 := hms ▸ map_at hm
              have hpk := hsp k m.1 hqk
              have f0 : (ms.flatMap mE)[k * 5 + 0]? = some (.int .i64 m.1.pos) := enc_at mE_len hm (j := 0) (by decide)
              have f1 : (ms.flatMap mE)[k * 5 + 1]? = some (.int .i64 m.1.stamp) := enc_at mE_len hm (j := 1) (by decide)
              refine T.fact (φ := A3 = some (adr A3)) (fun w hp => (hp.rowOf (show Asrt.row 27 5 (.slice A3 ms.length c3) ms.length (ms.flatMap mE) ∈ _ from .tail _ (.tail _ (.tail _ (.head _))))).some_ (by omega)) fun hA3 => ?_
              rcases Nat.eq_zero_or_pos k with hk0 | hk0
              · repeat' (first
                  | ((with_reducible refine is_load ?_); (first | ((refine' ⟨_, Yl_loadA_hp (vs := aE x) rfl ?qa ?qb ?ql ?qc, ?_⟩); (case qa => exact agg_of rfl); (case qb => exact fun _ hp => hp.rd ha fun _ => List.not_mem_nil); (case qc => exact eA); (case ql => rfl)) | ((refine' ⟨_, Yl_load_row rfl ?q1 ?q2 f0, ?_⟩); (case q1 => exact one_of rfl); (case q2 => (repeat (first | exact .head _ | apply List.Mem.tail)))) | ((refine' ⟨_, Yl_load_row rfl ?q1 ?q2 f1, ?_⟩); (case q1 => exact one_of rfl); (case q2 => (repeat (first | exact .head _ | apply List.Mem.tail)))) | ((refine' ⟨_, Yl_load_row rfl ?q1 ?q2 f2, ?_⟩); (case q1 => exact one_of rfl); (case q2 => (repeat (first | exact .head _ | apply List.Mem.tail))))))
                  | ((with_reducible refine is_idx ?_); (first | ((refine' ⟨_, Yl_indexZ (j := k') rfl rfl ?q1 ?q2 ?q3 ?q4 hA3, ?_⟩); (case q1 => omega); (case q2 => exact und_of rfl); (case q3 => exact siz_of rfl); (case q4 => omega))))
                  | ((with_reducible refine ie_callf ?_); (first
                  | ((with_reducible refine g_call 26 ?_); (first | refine Ef_callP rfl rfl ent_26 (fun w _ => awake_c w) ?_))
                  | ((with_reducible refine g_call 10 ?_); (first | refine Ef_callP rfl rfl ent_10 (fun w hp => hg1 w (hp.rd ha fun _ => List.not_mem_nil)) ?_))
                  | ((with_reducible refine g_call 13 ?_); (first | (refine Ef_callN rfl rfl ent_13 (fun w _ => new_c w) ?_; rintro b)))
                  | ((with_reducible refine g_call 27 ?_); (first | (refine Ef_callX1 [true, true, true] rfl rfl ent_27 rfl rfl rfl (fun w hp hp2 => hdo w _ hp2 (hp.in_old hxi) (fun h => hp.outS [true, true, true] rfl (hxi.lt h) List.not_mem_nil)) ?_; intro z2 xs hxs; have hl2 := len_map hxs)))
                  | ((with_reducible refine g_call 15 ?_); (first | ((refine' Ef_callP rfl rfl ent_15 (fun w hp => len_v b z2.1 xs.length z2.2 s' w (hp.blkOf ?q1)) ?_); (case q1 => (repeat (first | exact .head _ | apply List.Mem.tail))))))
                  | ((with_reducible refine g_call 16 ?_); (first | ((refine' Ef_callP rfl rfl ent_16 (fun w hp => synced_v b z1.1 lx.length z1.2 s w (hp.blkOf ?q1)) ?_); (case q1 => (repeat (first | exact .head _ | apply List.Mem.tail)))) | ((refine' Ef_callP rfl rfl ent_16 (fun w hp => synced_v b z2.1 xs.length z2.2 s' w (hp.blkOf ?q1)) ?_); (case q1 => (repeat (first | exact .head _ | apply List.Mem.tail))))))
                  | ((with_reducible refine g_call 19 ?_); (first | (((refine' Ef_callF rfl rfl ent_19 (fun w hp => all_q b z2.1 xs.length z2.2 s' xs q' hxs ?q1 w (hp.lrRd ?q2) rfl (hp.ins_bag ?q3) hsb (hp.blkOf ?q4) (hp.lrCap ?q5)) ?_); (case q1 => omega); (case q2 => (repeat (first | exact .head _ | apply List.Mem.tail))); (case q3 => (repeat (first | exact .head _ | apply List.Mem.tail))); (case q4 => (repeat (first | exact .head _ | apply List.Mem.tail))); (case q5 => (repeat (first | exact .head _ | apply List.Mem.tail)))); intro A3 c3 ms hms; have hl3 := len_map hms)))
                  | ((with_reducible refine g_call 11 ?_); (first
                  | ((refine' Ef_callP rfl rfl ent_11 (fun w hp => begins_v A1 c1 ws A3 c3 ms w (hp.rowOf ?q1) (hp.rowOf ?q2) (hp.ins_bag ?q3) (hp.ins_bag ?q4) ?q5 (hp.capOf (e := 27) (k := 5) (xs := ms.flatMap mE) ?q6) true ?q7) ?_); (case q1 => (repeat (first | exact .head _ | apply List.Mem.tail))); (case q2 => (repeat (first | exact .head _ | apply List.Mem.tail))); (case q3 => (repeat (first | exact .head _ | apply List.Mem.tail))); (case q4 => (repeat (first | exact .head _ | apply List.Mem.tail))); (case q5 => omega); (case q6 => (repeat (first | exact .head _ | apply List.Mem.tail))); (case q7 => rw [hws, hms]; exact hbg hk5))
                  | ((refine' Ef_callP rfl rfl ent_11 (fun w hp => begins_v A3 c3 ms A1 c1 ws w (hp.rowOf ?q1) (hp.rowOf ?q2) (hp.ins_bag ?q3) (hp.ins_bag ?q4) ?q5 (hp.capOf (e := 27) (k := 5) (xs := ws.flatMap mE) ?q6) true ?q7) ?_); (case q1 => (repeat (first | exact .head _ | apply List.Mem.tail))); (case q2 => (repeat (first | exact .head _ | apply List.Mem.tail))); (case q3 => (repeat (first | exact .head _ | apply List.Mem.tail))); (case q4 => (repeat (first | exact .head _ | apply List.Mem.tail))); (case q5 => omega); (case q6 => (repeat (first | exact .head _ | apply List.Mem.tail))); (case q7 => rw [hws, hms]; exact hbg5 hk5))))))
                  | ((with_reducible refine g_draw ?_); (first | (((with_reducible refine' T.drawM (id := 18) [(0, true), (1, true), (2, true), (3, true), (4, true), (5, false), (6, false), (7, false), (8, false), (9, false), (10, false), (11, false), (12, true), (13, true), (14, true), (15, true), (16, true), (17, true), (18, false), (19, false), (20, false), (21, false), (22, false), (23, false), (24, false), (25, false)] mixd ?q1 ?_); (case q1 => kernel_rfl)))))
                  | refine w1 ?_
                  | (refine w2 ?_ ?_ <;> intro hc)
                  | (refine w4 ?_; (intro _))
                  | (refine w5 ?_; (first | ((fail_if_success have := A1); intro A1 c1) | ((fail_if_success have := A2); intro A2 c2) | ((fail_if_success have := A3); intro A3 c3) | intro _ _))
                  | refine w3 ?_ ?_
                  | fail_if_success skip)
                refine loopH_n (k + 1) ?_ (fun _ h => h) (show k + 1 ≤ ms.length by omega) (show ms.length - (k + 1) < ms.length - k by omega)
                (repeat (first | exact Sub.nil | refine Sub.cons rfl ?_))
              · obtain ⟨k', rfl⟩ : ∃ k', k = k' + 1 := ⟨k - 1, by omega⟩
                obtain ⟨m', hm'⟩ := some_of_lt (l := ms) (i := k') (by omega)
                have hmk := hsm k' m'.1 m.1 (hms ▸ map_at hm') hqk
                have f2 : (ms.flatMap mE)[k' * 5 + 1]? = some (.int .i64 m'.1.stamp) := enc_at mE_len hm' (j := 1) (by decide)
                repeat' (first
                    | ((with_reducible refine is_load ?_); (first | ((refine' ⟨_, Yl_loadA_hp (vs := aE x) rfl ?qa ?qb ?ql ?qc, ?_⟩); (case qa => exact agg_of rfl); (case qb => exact fun _ hp => hp.rd ha fun _ => List.not_mem_nil); (case qc => exact eA); (case ql => rfl)) | ((refine' ⟨_, Yl_load_row rfl ?q1 ?q2 f0, ?_⟩); (case q1 => exact one_of rfl); (case q2 => (repeat (first | exact .head _ | apply List.Mem.tail)))) | ((refine' ⟨_, Yl_load_row rfl ?q1 ?q2 f1, ?_⟩); (case q1 => exact one_of rfl); (case q2 => (repeat (first | exact .head _ | apply List.Mem.tail)))) | ((refine' ⟨_, Yl_load_row rfl ?q1 ?q2 f2, ?_⟩); (case q1 => exact one_of rfl); (case q2 => (repeat (first | exact .head _ | apply List.Mem.tail))))))
                    | ((with_reducible refine is_idx ?_); (first | ((refine' ⟨_, Yl_indexZ (j := k') rfl rfl ?q1 ?q2 ?q3 ?q4 hA3, ?_⟩); (case q1 => omega); (case q2 => exact und_of rfl); (case q3 => exact siz_of rfl); (case q4 => omega))))
                    | ((with_reducible refine ie_callf ?_); (first
                    | ((with_reducible refine g_call 26 ?_); (first | refine Ef_callP rfl rfl ent_26 (fun w _ => awake_c w) ?_))
                    | ((with_reducible refine g_call 10 ?_); (first | refine Ef_callP rfl rfl ent_10 (fun w hp => hg1 w (hp.rd ha fun _ => List.not_mem_nil)) ?_))
                    | ((with_reducible refine g_call 13 ?_); (first | (refine Ef_callN rfl rfl ent_13 (fun w _ => new_c w) ?_; rintro b)))
                    | ((with_reducible refine g_call 27 ?_); (first | (refine Ef_callX1 [true, true, true] rfl rfl ent_27 rfl rfl rfl (fun w hp hp2 => hdo w _ hp2 (hp.in_old hxi) (fun h => hp.outS [true, true, true] rfl (hxi.lt h) List.not_mem_nil)) ?_; intro z2 xs hxs; have hl2 := len_map hxs)))
                    | ((with_reducible refine g_call 15 ?_); (first | ((refine' Ef_callP rfl rfl ent_15 (fun w hp => len_v b z2.1 xs.length z2.2 s' w (hp.blkOf ?q1)) ?_); (case q1 => (repeat (first | exact .head _ | apply List.Mem.tail))))))
                    | ((with_reducible refine g_call 16 ?_); (first | ((refine' Ef_callP rfl rfl ent_16 (fun w hp => synced_v b z1.1 lx.length z1.2 s w (hp.blkOf ?q1)) ?_); (case q1 => (repeat (first | exact .head _ | apply List.Mem.tail)))) | ((refine' Ef_callP rfl rfl ent_16 (fun w hp => synced_v b z2.1 xs.length z2.2 s' w (hp.blkOf ?q1)) ?_); (case q1 => (repeat (first | exact .head _ | apply List.Mem.tail))))))
                    | ((with_reducible refine g_call 19 ?_); (first | (((refine' Ef_callF rfl rfl ent_19 (fun w hp => all_q b z2.1 xs.length z2.2 s' xs q' hxs ?q1 w (hp.lrRd ?q2) rfl (hp.ins_bag ?q3) hsb (hp.blkOf ?q4) (hp.lrCap ?q5)) ?_); (case q1 => omega); (case q2 => (repeat (first | exact .head _ | apply List.Mem.tail))); (case q3 => (repeat (first | exact .head _ | apply List.Mem.tail))); (case q4 => (repeat (first | exact .head _ | apply List.Mem.tail))); (case q5 => (repeat (first | exact .head _ | apply List.Mem.tail)))); intro A3 c3 ms hms; have hl3 := len_map hms)))
                    | ((with_reducible refine g_call 11 ?_); (first
                    | ((refine' Ef_callP rfl rfl ent_11 (fun w hp => begins_v A1 c1 ws A3 c3 ms w (hp.rowOf ?q1) (hp.rowOf ?q2) (hp.ins_bag ?q3) (hp.ins_bag ?q4) ?q5 (hp.capOf (e := 27) (k := 5) (xs := ms.flatMap mE) ?q6) true ?q7) ?_); (case q1 => (repeat (first | exact .head _ | apply List.Mem.tail))); (case q2 => (repeat (first | exact .head _ | apply List.Mem.tail))); (case q3 => (repeat (first | exact .head _ | apply List.Mem.tail))); (case q4 => (repeat (first | exact .head _ | apply List.Mem.tail))); (case q5 => omega); (case q6 => (repeat (first | exact .head _ | apply List.Mem.tail))); (case q7 => rw [hws, hms]; exact hbg hk5))
                    | ((refine' Ef_callP rfl rfl ent_11 (fun w hp => begins_v A3 c3 ms A1 c1 ws w (hp.rowOf ?q1) (hp.rowOf ?q2) (hp.ins_bag ?q3) (hp.ins_bag ?q4) ?q5 (hp.capOf (e := 27) (k := 5) (xs := ws.flatMap mE) ?q6) true ?q7) ?_); (case q1 => (repeat (first | exact .head _ | apply List.Mem.tail))); (case q2 => (repeat (first | exact .head _ | apply List.Mem.tail))); (case q3 => (repeat (first | exact .head _ | apply List.Mem.tail))); (case q4 => (repeat (first | exact .head _ | apply List.Mem.tail))); (case q5 => omega); (case q6 => (repeat (first | exact .head _ | apply List.Mem.tail))); (case q7 => rw [hws, hms]; exact hbg5 hk5))))))
                    | ((with_reducible refine g_draw ?_); (first | (((with_reducible refine' T.drawM (id := 18) [(0, true), (1, true), (2, true), (3, true), (4, true), (5, false), (6, false), (7, false), (8, false), (9, false), (10, false), (11, false), (12, true), (13, true), (14, true), (15, true), (16, true), (17, true), (18, false), (19, false), (20, false), (21, false), (22, false), (23, false), (24, false), (25, false)] mixd ?q1 ?_); (case q1 => kernel_rfl)))))
                    | refine w1 ?_
                    | (refine w2 ?_ ?_ <;> intro hc)
                    | (refine w4 ?_; (intro _))
                    | (refine w5 ?_; (first | ((fail_if_success have := A1); intro A1 c1) | ((fail_if_success have := A2); intro A2 c2) | ((fail_if_success have := A3); intro A3 c3) | intro _ _))
                    | refine w3 ?_ ?_
                    | fail_if_success skip)
                refine loopH_n (k' + 1 + 1) ?_ (fun _ h => h) (show k' + 1 + 1 ≤ ms.length by omega) (show ms.length - (k' + 1 + 1) < ms.length - (k' + 1) by omega)
                (repeat (first | exact Sub.nil | refine Sub.cons rfl ?_))
            · repeat' (first
                | ((with_reducible refine is_load ?_); (first | ((refine' ⟨_, Yl_loadA_hp (vs := aE x) rfl ?qa ?qb ?ql ?qc, ?_⟩); (case qa => exact agg_of rfl); (case qb => exact fun _ hp => hp.rd ha fun _ => List.not_mem_nil); (case qc => exact eA); (case ql => rfl)) | ((refine' ⟨_, Yl_load_row rfl ?q1 ?q2 f0, ?_⟩); (case q1 => exact one_of rfl); (case q2 => (repeat (first | exact .head _ | apply List.Mem.tail)))) | ((refine' ⟨_, Yl_load_row rfl ?q1 ?q2 f1, ?_⟩); (case q1 => exact one_of rfl); (case q2 => (repeat (first | exact .head _ | apply List.Mem.tail)))) | ((refine' ⟨_, Yl_load_row rfl ?q1 ?q2 f2, ?_⟩); (case q1 => exact one_of rfl); (case q2 => (repeat (first | exact .head _ | apply List.Mem.tail))))))
                | ((with_reducible refine is_idx ?_); (first | ((refine' ⟨_, Yl_indexZ (j := k') rfl rfl ?q1 ?q2 ?q3 ?q4 hA3, ?_⟩); (case q1 => omega); (case q2 => exact und_of rfl); (case q3 => exact siz_of rfl); (case q4 => omega))))
                | ((with_reducible refine ie_callf ?_); (first
                | ((with_reducible refine g_call 26 ?_); (first | refine Ef_callP rfl rfl ent_26 (fun w _ => awake_c w) ?_))
                | ((with_reducible refine g_call 10 ?_); (first | refine Ef_callP rfl rfl ent_10 (fun w hp => hg1 w (hp.rd ha fun _ => List.not_mem_nil)) ?_))
                | ((with_reducible refine g_call 13 ?_); (first | (refine Ef_callN rfl rfl ent_13 (fun w _ => new_c w) ?_; rintro b)))
                | ((with_reducible refine g_call 27 ?_); (first | (refine Ef_callX1 [true, true, true] rfl rfl ent_27 rfl rfl rfl (fun w hp hp2 => hdo w _ hp2 (hp.in_old hxi) (fun h => hp.outS [true, true, true] rfl (hxi.lt h) List.not_mem_nil)) ?_; intro z2 xs hxs; have hl2 := len_map hxs)))
                | ((with_reducible refine g_call 15 ?_); (first | ((refine' Ef_callP rfl rfl ent_15 (fun w hp => len_v b z2.1 xs.length z2.2 s' w (hp.blkOf ?q1)) ?_); (case q1 => (repeat (first | exact .head _ | apply List.Mem.tail))))))
                | ((with_reducible refine g_call 16 ?_); (first | ((refine' Ef_callP rfl rfl ent_16 (fun w hp => synced_v b z1.1 lx.length z1.2 s w (hp.blkOf ?q1)) ?_); (case q1 => (repeat (first | exact .head _ | apply List.Mem.tail)))) | ((refine' Ef_callP rfl rfl ent_16 (fun w hp => synced_v b z2.1 xs.length z2.2 s' w (hp.blkOf ?q1)) ?_); (case q1 => (repeat (first | exact .head _ | apply List.Mem.tail))))))
                | ((with_reducible refine g_call 19 ?_); (first | (((refine' Ef_callF rfl rfl ent_19 (fun w hp => all_q b z2.1 xs.length z2.2 s' xs q' hxs ?q1 w (hp.lrRd ?q2) rfl (hp.ins_bag ?q3) hsb (hp.blkOf ?q4) (hp.lrCap ?q5)) ?_); (case q1 => omega); (case q2 => (repeat (first | exact .head _ | apply List.Mem.tail))); (case q3 => (repeat (first | exact .head _ | apply List.Mem.tail))); (case q4 => (repeat (first | exact .head _ | apply List.Mem.tail))); (case q5 => (repeat (first | exact .head _ | apply List.Mem.tail)))); intro A3 c3 ms hms; have hl3 := len_map hms)))
                | ((with_reducible refine g_call 11 ?_); (first
                | ((refine' Ef_callP rfl rfl ent_11 (fun w hp => begins_v A1 c1 ws A3 c3 ms w (hp.rowOf ?q1) (hp.rowOf ?q2) (hp.ins_bag ?q3) (hp.ins_bag ?q4) ?q5 (hp.capOf (e := 27) (k := 5) (xs := ms.flatMap mE) ?q6) true ?q7) ?_); (case q1 => (repeat (first | exact .head _ | apply List.Mem.tail))); (case q2 => (repeat (first | exact .head _ | apply List.Mem.tail))); (case q3 => (repeat (first | exact .head _ | apply List.Mem.tail))); (case q4 => (repeat (first | exact .head _ | apply List.Mem.tail))); (case q5 => omega); (case q6 => (repeat (first | exact .head _ | apply List.Mem.tail))); (case q7 => rw [hws, hms]; exact hbg hk5))
                | ((refine' Ef_callP rfl rfl ent_11 (fun w hp => begins_v A3 c3 ms A1 c1 ws w (hp.rowOf ?q1) (hp.rowOf ?q2) (hp.ins_bag ?q3) (hp.ins_bag ?q4) ?q5 (hp.capOf (e := 27) (k := 5) (xs := ws.flatMap mE) ?q6) true ?q7) ?_); (case q1 => (repeat (first | exact .head _ | apply List.Mem.tail))); (case q2 => (repeat (first | exact .head _ | apply List.Mem.tail))); (case q3 => (repeat (first | exact .head _ | apply List.Mem.tail))); (case q4 => (repeat (first | exact .head _ | apply List.Mem.tail))); (case q5 => omega); (case q6 => (repeat (first | exact .head _ | apply List.Mem.tail))); (case q7 => rw [hws, hms]; exact hbg5 hk5))))))
                | ((with_reducible refine g_draw ?_); (first | (((with_reducible refine' T.drawM (id := 18) [(0, true), (1, true), (2, true), (3, true), (4, true), (5, false), (6, false), (7, false), (8, false), (9, false), (10, false), (11, false), (12, true), (13, true), (14, true), (15, true), (16, true), (17, true), (18, false), (19, false), (20, false), (21, false), (22, false), (23, false), (24, false), (25, false)] mixd ?q1 ?_); (case q1 => kernel_rfl)))))
                | refine w1 ?_
                | (refine w2 ?_ ?_ <;> intro hc)
                | (refine w4 ?_; (intro _))
                | (refine w5 ?_; (first | ((fail_if_success have := A1); intro A1 c1) | ((fail_if_success have := A2); intro A2 c2) | ((fail_if_success have := A3); intro A3 c3) | intro _ _))
                | refine w3 ?_ ?_
                | fail_if_success skip)
              all_goals
                refine loopH_n (i + 1, (z2, xs), ((A3, c3), ms), s') ?_ (fun _ h => h.ofPart (by (repeat (first | exact Part.nil | refine Part.p0 ?_ | refine Part.p1 ?_ | refine Part.p2 ?_ | refine Part.p3 ?_ | refine Part.p4 ?_ | refine Part.p5 ?_ | refine Part.p6 ?_)))) ⟨show i + 1 ≤ _ by omega, hms.trans hxs.symm, by dsimp only; rw [hxs]; omega, by dsimp only; rw [hxs]; exact hsb, by dsimp only; rw [hxs]; exact hsp, by dsimp only; rw [hxs]; exact hsm, by dsimp only; rw [hxs]; exact hss1⟩ (show l.length - (i + 1) < l.length - i by omega)
                (repeat (first | exact Sub.nil | refine Sub.cons rfl ?_))
      · repeat' (first
          | ((with_reducible refine is_load ?_); (first | ((refine' ⟨_, Yl_loadA_hp (vs := aE x) rfl ?qa ?qb ?ql ?qc, ?_⟩); (case qa => exact agg_of rfl); (case qb => exact fun _ hp => hp.rd ha fun _ => List.not_mem_nil); (case qc => exact eA); (case ql => rfl)) | ((refine' ⟨_, Yl_load_row rfl ?q1 ?q2 f0, ?_⟩); (case q1 => exact one_of rfl); (case q2 => (repeat (first | exact .head _ | apply List.Mem.tail)))) | ((refine' ⟨_, Yl_load_row rfl ?q1 ?q2 f1, ?_⟩); (case q1 => exact one_of rfl); (case q2 => (repeat (first | exact .head _ | apply List.Mem.tail)))) | ((refine' ⟨_, Yl_load_row rfl ?q1 ?q2 f2, ?_⟩); (case q1 => exact one_of rfl); (case q2 => (repeat (first | exact .head _ | apply List.Mem.tail))))))
          | ((with_reducible refine is_idx ?_); (first | ((refine' ⟨_, Yl_indexZ (j := k') rfl rfl ?q1 ?q2 ?q3 ?q4 hA3, ?_⟩); (case q1 => omega); (case q2 => exact und_of rfl); (case q3 => exact siz_of rfl); (case q4 => omega))))
          | ((with_reducible refine ie_callf ?_); (first
          | ((with_reducible refine g_call 26 ?_); (first | refine Ef_callP rfl rfl ent_26 (fun w _ => awake_c w) ?_))
          | ((with_reducible refine g_call 10 ?_); (first | refine Ef_callP rfl rfl ent_10 (fun w hp => hg1 w (hp.rd ha fun _ => List.not_mem_nil)) ?_))
          | ((with_reducible refine g_call 13 ?_); (first | (refine Ef_callN rfl rfl ent_13 (fun w _ => new_c w) ?_; rintro b)))
          | ((with_reducible refine g_call 27 ?_); (first | (refine Ef_callX1 [true, true, true] rfl rfl ent_27 rfl rfl rfl (fun w hp hp2 => hdo w _ hp2 (hp.in_old hxi) (fun h => hp.outS [true, true, true] rfl (hxi.lt h) List.not_mem_nil)) ?_; intro z2 xs hxs; have hl2 := len_map hxs)))
          | ((with_reducible refine g_call 15 ?_); (first | ((refine' Ef_callP rfl rfl ent_15 (fun w hp => len_v b z2.1 xs.length z2.2 s' w (hp.blkOf ?q1)) ?_); (case q1 => (repeat (first | exact .head _ | apply List.Mem.tail))))))
          | ((with_reducible refine g_call 16 ?_); (first | ((refine' Ef_callP rfl rfl ent_16 (fun w hp => synced_v b z1.1 lx.length z1.2 s w (hp.blkOf ?q1)) ?_); (case q1 => (repeat (first | exact .head _ | apply List.Mem.tail)))) | ((refine' Ef_callP rfl rfl ent_16 (fun w hp => synced_v b z2.1 xs.length z2.2 s' w (hp.blkOf ?q1)) ?_); (case q1 => (repeat (first | exact .head _ | apply List.Mem.tail))))))
          | ((with_reducible refine g_call 19 ?_); (first | (((refine' Ef_callF rfl rfl ent_19 (fun w hp => all_q b z2.1 xs.length z2.2 s' xs q' hxs ?q1 w (hp.lrRd ?q2) rfl (hp.ins_bag ?q3) hsb (hp.blkOf ?q4) (hp.lrCap ?q5)) ?_); (case q1 => omega); (case q2 => (repeat (first | exact .head _ | apply List.Mem.tail))); (case q3 => (repeat (first | exact .head _ | apply List.Mem.tail))); (case q4 => (repeat (first | exact .head _ | apply List.Mem.tail))); (case q5 => (repeat (first | exact .head _ | apply List.Mem.tail)))); intro A3 c3 ms hms; have hl3 := len_map hms)))
          | ((with_reducible refine g_call 11 ?_); (first
          | ((refine' Ef_callP rfl rfl ent_11 (fun w hp => begins_v A1 c1 ws A3 c3 ms w (hp.rowOf ?q1) (hp.rowOf ?q2) (hp.ins_bag ?q3) (hp.ins_bag ?q4) ?q5 (hp.capOf (e := 27) (k := 5) (xs := ms.flatMap mE) ?q6) true ?q7) ?_); (case q1 => (repeat (first | exact .head _ | apply List.Mem.tail))); (case q2 => (repeat (first | exact .head _ | apply List.Mem.tail))); (case q3 => (repeat (first | exact .head _ | apply List.Mem.tail))); (case q4 => (repeat (first | exact .head _ | apply List.Mem.tail))); (case q5 => omega); (case q6 => (repeat (first | exact .head _ | apply List.Mem.tail))); (case q7 => rw [hws, hms]; exact hbg hk5))
          | ((refine' Ef_callP rfl rfl ent_11 (fun w hp => begins_v A3 c3 ms A1 c1 ws w (hp.rowOf ?q1) (hp.rowOf ?q2) (hp.ins_bag ?q3) (hp.ins_bag ?q4) ?q5 (hp.capOf (e := 27) (k := 5) (xs := ws.flatMap mE) ?q6) true ?q7) ?_); (case q1 => (repeat (first | exact .head _ | apply List.Mem.tail))); (case q2 => (repeat (first | exact .head _ | apply List.Mem.tail))); (case q3 => (repeat (first | exact .head _ | apply List.Mem.tail))); (case q4 => (repeat (first | exact .head _ | apply List.Mem.tail))); (case q5 => omega); (case q6 => (repeat (first | exact .head _ | apply List.Mem.tail))); (case q7 => rw [hws, hms]; exact hbg5 hk5))))))
          | ((with_reducible refine g_draw ?_); (first | (((with_reducible refine' T.drawM (id := 18) [(0, true), (1, true), (2, true), (3, true), (4, true), (5, false), (6, false), (7, false), (8, false), (9, false), (10, false), (11, false), (12, true), (13, true), (14, true), (15, true), (16, true), (17, true), (18, false), (19, false), (20, false), (21, false), (22, false), (23, false), (24, false), (25, false)] mixd ?q1 ?_); (case q1 => kernel_rfl)))))
          | refine w1 ?_
          | (refine w2 ?_ ?_ <;> intro hc)
          | (refine w4 ?_; (intro _))
          | (refine w5 ?_; (first | ((fail_if_success have := A1); intro A1 c1) | ((fail_if_success have := A2); intro A2 c2) | ((fail_if_success have := A3); intro A3 c3) | intro _ _))
          | refine w3 ?_ ?_
          | fail_if_success skip)
        exact ret_n [] (res1 rfl rfl) (List.nil_sublist _) ⟨rfl, rfl⟩
  · rw [h1] at hg1
    refine Sp.enter (n := 127) Try.func9 rfl rfl rfl (Hp.refl w) ?_
    repeat' (first
        | ((with_reducible refine is_load ?_); (first | ((refine' ⟨_, Yl_loadA_hp (vs := aE x) rfl ?qa ?qb ?ql ?qc, ?_⟩); (case qa => exact agg_of rfl); (case qb => exact fun _ hp => hp.rd ha fun _ => List.not_mem_nil); (case qc => exact eA); (case ql => rfl)) | ((refine' ⟨_, Yl_load_row rfl ?q1 ?q2 f0, ?_⟩); (case q1 => exact one_of rfl); (case q2 => (repeat (first | exact .head _ | apply List.Mem.tail)))) | ((refine' ⟨_, Yl_load_row rfl ?q1 ?q2 f1, ?_⟩); (case q1 => exact one_of rfl); (case q2 => (repeat (first | exact .head _ | apply List.Mem.tail)))) | ((refine' ⟨_, Yl_load_row rfl ?q1 ?q2 f2, ?_⟩); (case q1 => exact one_of rfl); (case q2 => (repeat (first | exact .head _ | apply List.Mem.tail))))))
        | ((with_reducible refine is_idx ?_); (first | ((refine' ⟨_, Yl_indexZ (j := k') rfl rfl ?q1 ?q2 ?q3 ?q4 hA3, ?_⟩); (case q1 => omega); (case q2 => exact und_of rfl); (case q3 => exact siz_of rfl); (case q4 => omega))))
        | ((with_reducible refine ie_callf ?_); (first
        | ((with_reducible refine g_call 26 ?_); (first | refine Ef_callP rfl rfl ent_26 (fun w _ => awake_c w) ?_))
        | ((with_reducible refine g_call 10 ?_); (first | refine Ef_callP rfl rfl ent_10 (fun w hp => hg1 w (hp.rd ha fun _ => List.not_mem_nil)) ?_))
        | ((with_reducible refine g_call 13 ?_); (first | (refine Ef_callN rfl rfl ent_13 (fun w _ => new_c w) ?_; rintro b)))
        | ((with_reducible refine g_call 27 ?_); (first | (refine Ef_callX1 [true, true, true] rfl rfl ent_27 rfl rfl rfl (fun w hp hp2 => hdo w _ hp2 (hp.in_old hxi) (fun h => hp.outS [true, true, true] rfl (hxi.lt h) List.not_mem_nil)) ?_; intro z2 xs hxs; have hl2 := len_map hxs)))
        | ((with_reducible refine g_call 15 ?_); (first | ((refine' Ef_callP rfl rfl ent_15 (fun w hp => len_v b z2.1 xs.length z2.2 s' w (hp.blkOf ?q1)) ?_); (case q1 => (repeat (first | exact .head _ | apply List.Mem.tail))))))
        | ((with_reducible refine g_call 16 ?_); (first | ((refine' Ef_callP rfl rfl ent_16 (fun w hp => synced_v b z1.1 lx.length z1.2 s w (hp.blkOf ?q1)) ?_); (case q1 => (repeat (first | exact .head _ | apply List.Mem.tail)))) | ((refine' Ef_callP rfl rfl ent_16 (fun w hp => synced_v b z2.1 xs.length z2.2 s' w (hp.blkOf ?q1)) ?_); (case q1 => (repeat (first | exact .head _ | apply List.Mem.tail))))))
        | ((with_reducible refine g_call 19 ?_); (first | (((refine' Ef_callF rfl rfl ent_19 (fun w hp => all_q b z2.1 xs.length z2.2 s' xs q' hxs ?q1 w (hp.lrRd ?q2) rfl (hp.ins_bag ?q3) hsb (hp.blkOf ?q4) (hp.lrCap ?q5)) ?_); (case q1 => omega); (case q2 => (repeat (first | exact .head _ | apply List.Mem.tail))); (case q3 => (repeat (first | exact .head _ | apply List.Mem.tail))); (case q4 => (repeat (first | exact .head _ | apply List.Mem.tail))); (case q5 => (repeat (first | exact .head _ | apply List.Mem.tail)))); intro A3 c3 ms hms; have hl3 := len_map hms)))
        | ((with_reducible refine g_call 11 ?_); (first
        | ((refine' Ef_callP rfl rfl ent_11 (fun w hp => begins_v A1 c1 ws A3 c3 ms w (hp.rowOf ?q1) (hp.rowOf ?q2) (hp.ins_bag ?q3) (hp.ins_bag ?q4) ?q5 (hp.capOf (e := 27) (k := 5) (xs := ms.flatMap mE) ?q6) true ?q7) ?_); (case q1 => (repeat (first | exact .head _ | apply List.Mem.tail))); (case q2 => (repeat (first | exact .head _ | apply List.Mem.tail))); (case q3 => (repeat (first | exact .head _ | apply List.Mem.tail))); (case q4 => (repeat (first | exact .head _ | apply List.Mem.tail))); (case q5 => omega); (case q6 => (repeat (first | exact .head _ | apply List.Mem.tail))); (case q7 => rw [hws, hms]; exact hbg hk5))
        | ((refine' Ef_callP rfl rfl ent_11 (fun w hp => begins_v A3 c3 ms A1 c1 ws w (hp.rowOf ?q1) (hp.rowOf ?q2) (hp.ins_bag ?q3) (hp.ins_bag ?q4) ?q5 (hp.capOf (e := 27) (k := 5) (xs := ws.flatMap mE) ?q6) true ?q7) ?_); (case q1 => (repeat (first | exact .head _ | apply List.Mem.tail))); (case q2 => (repeat (first | exact .head _ | apply List.Mem.tail))); (case q3 => (repeat (first | exact .head _ | apply List.Mem.tail))); (case q4 => (repeat (first | exact .head _ | apply List.Mem.tail))); (case q5 => omega); (case q6 => (repeat (first | exact .head _ | apply List.Mem.tail))); (case q7 => rw [hws, hms]; exact hbg5 hk5))))))
        | ((with_reducible refine g_draw ?_); (first | (((with_reducible refine' T.drawM (id := 18) [(0, true), (1, true), (2, true), (3, true), (4, true), (5, false), (6, false), (7, false), (8, false), (9, false), (10, false), (11, false), (12, true), (13, true), (14, true), (15, true), (16, true), (17, true), (18, false), (19, false), (20, false), (21, false), (22, false), (23, false), (24, false), (25, false)] mixd ?q1 ?_); (case q1 => kernel_rfl)))))
        | refine w1 ?_
        | (refine w2 ?_ ?_ <;> intro hc)
        | (refine w4 ?_; (intro _))
        | (refine w5 ?_; (first | ((fail_if_success have := A1); intro A1 c1) | ((fail_if_success have := A2); intro A2 c2) | ((fail_if_success have := A3); intro A3 c3) | intro _ _))
        | refine w3 ?_ ?_
        | fail_if_success skip)
    exact ret_n [] (res1 rfl rfl) (List.nil_sublist _) ⟨rfl, rfl⟩
end
end Go.Proofs.Ytegaejbfhpigjaa
