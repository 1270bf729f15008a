/- The functions that look for serials: what a call of each comes to: for every slice of numbers of 64 bits, every line of grants. -/
import Derived.Test.YtmiimnlboighmaaT1
namespace Go.Proofs.Ytmiimnlboighmaa
open Go.RowKit
set_option maxRecDepth 20000

section
variable (A : Option Addr) (len cap : Nat) (l : List Int)

set_option maxHeartbeats 1000000 in
theorem rmay_v (b : Bool) (w : World) (hr : Rd w A len 1 (l.flatMap (eI .i64))) (hl : l.length = len) (hle : len ≤ 9223372036854775807) (hb : Rv.may l = b) : Sp Try.prog 13 [.slice A len cap] w [] fun v N => v = .bool b ∧ N = [] := by
  subst hb
  refine Sp.enter (n := 36) Try.func13 rfl rfl rfl (Hp.refl w) ?_
  repeat' (first
      | with_reducible refine T.seq ?_
      | with_reducible refine T.block ?_
      | with_reducible refine T.region ?_
      | with_reducible refine T.skip ?_
      | with_reducible refine T.scope ?_
      | with_reducible refine T.label ?_
      | with_reducible refine scopeQ_n ?_
      | with_reducible refine scopeQ_r ?_
      | with_reducible refine scopeQ_x ?_
      | with_reducible refine T.ret ?_
      | with_reducible refine T.exit ?_
      | with_reducible refine seqQ_n ?_
      | with_reducible refine seqQ_x ?_
      | with_reducible refine seqQ_r ?_
      | with_reducible refine blockQ_n ?_
      | with_reducible refine blockQ_r ?_
      | with_reducible refine blockQ_x ?_
      | ((with_reducible refine g_blkx ?_); refine blockQ_y rfl ?_)
      | with_reducible refine loopQ_x ?_
      | with_reducible refine loopQ_r ?_
      | with_reducible refine joinQ_r ?_
      | with_reducible refine joinQ_x ?_
      | ((with_reducible refine g_cond ?_); (first | refine T.cond_t rfl ?_ | refine T.cond_f rfl ?_ | (refine T.cond_s rfl ?_ ?_ <;> intro hc)))
      | with_reducible refine TL_nil ?_
      | with_reducible refine TS_nil ?_
      | ((with_reducible refine g_draw ?_); (first | (((with_reducible refine' T.drawM (id := 4) [(0, false), (1, false), (2, false), (3, true), (4, false), (5, false), (6, false), (7, false), (8, false), (9, false), (10, false), (11, false), (12, false), (13, false), (14, true), (15, true), (16, true), (17, true), (18, true), (19, false), (20, false), (21, false), (22, false), (23, false), (24, false), (25, false)] mixd ?q1 ?_); (case q1 => kernel_rfl)))))
      | ((with_reducible refine TL_y' ?hy ?hd ?_); (case hy => rfl); (case hd => rfl))
      | with_reducible refine TL_e ?_
      | ((with_reducible refine g_TL ?_); (first | refine TL_gy' rfl rfl rfl rfl ?_ | refine TL_gn rfl rfl rfl ?_ | refine TL_gu rfl rfl rfl ?_ | refine TL_ge rfl rfl ?_ | refine TL_gn0 rfl rfl ?_))
      | ((with_reducible refine g_TS ?_); (first | refine TS_y rfl rfl ?_ | refine TS_e rfl ?_ | refine TS_gy rfl rfl rfl rfl ?_ | refine TS_gn rfl rfl rfl rfl ?_ | refine TS_gu rfl rfl rfl rfl ?_ | refine TS_ge rfl rfl rfl ?_ | refine TS_gne rfl rfl rfl rfl ?_ | refine TS_gue rfl rfl rfl rfl ?_ | refine TS_gne0 rfl rfl rfl ?_))
      | ((with_reducible refine TSand ?hd ?_); (case hd => (repeat (first | exact List.nil_sublist _ | refine List.Sublist.cons_cons _ ?_ | refine List.Sublist.cons _ ?_))))
      | ((with_reducible refine TBand ?hd ?_); (case hd => (repeat (first | exact List.nil_sublist _ | refine List.Sublist.cons_cons _ ?_ | refine List.Sublist.cons _ ?_))))
      | ((with_reducible refine g_TB ?_); (first | with_reducible refine TB_run ?_ | refine TB_y rfl rfl ?_ | refine TB_b rfl rfl ?_ ?_ | refine TB_e rfl ?_))
      | ((with_reducible refine is_move ?_); refine ⟨_, Yl_move rfl, ?_⟩)
      | ((with_reducible refine is_assign ?_); refine ⟨_, Yl_assign rfl, ?_⟩)
      | ((with_reducible refine is_pick ?_); (first | refine ⟨_, Yl_pick_t rfl rfl, ?_⟩ | refine ⟨_, Yl_pick_f rfl rfl, ?_⟩))
      | ((with_reducible refine is_load ?_); (first
      | ((refine' ⟨_, Yl_load_blk rfl ?q1 ?q2 ?q3, ?_⟩); (case q1 => exact one_of rfl); (case q2 => (repeat (first | exact .head _ | apply List.Mem.tail))); (case q3 => rfl))
      | ((refine' ⟨_, Yl_loadA_blk rfl ?q1 ?q2, ?_⟩); (case q1 => (repeat (first | exact .head _ | apply List.Mem.tail))); (case q2 => exact agg_of rfl))
      | ((refine' ⟨_, Yl_load_blk rfl ?q1 ?q2 ?q3, ?_⟩); (case q1 => exact one_of rfl); (case q2 => (repeat (first | exact .head _ | apply List.Mem.tail))); (case q3 => assumption))
      | ((refine' ⟨_, Yl_load_rd rfl ?q1 ?q2 List.not_mem_nil ?q3, ?_⟩); (case q1 => exact one_of rfl); (case q2 => assumption); (case q3 => assumption))
      | ((refine' ⟨_, Yl_load_row rfl ?q1 ?q2 ?q3, ?_⟩); (case q1 => exact one_of rfl); (case q2 => (repeat (first | exact .head _ | apply List.Mem.tail))); (case q3 => assumption))
      | ((refine' ⟨_, Yl_loadA_rd rfl ?qa ?qb List.not_mem_nil ?ql ?qc, ?_⟩); (case qa => exact agg_of rfl); (case qb => assumption); (case qc => assumption); (case ql => rfl))
      | ((refine' ⟨_, Yl_loadA_row rfl ?qa ?qb ?ql ?qc, ?_⟩); (case qa => exact agg_of rfl); (case qb => (repeat (first | exact .head _ | apply List.Mem.tail))); (case qc => assumption); (case ql => rfl))))
      | ((with_reducible refine is_idx ?_); (first
      | ((refine' ⟨_, Yl_index rfl rfl ?q1 ?q2 ?q3 (Rd.some_ ?q4 ?q5), ?_⟩); (case q1 => exact und_of rfl); (case q2 => exact siz_of rfl); (case q3 => omega); (case q4 => assumption); (case q5 => omega))
      | ((refine' ⟨_, Yl_index_row rfl rfl ?q1 ?q2 ?q3 ?q4, ?_⟩); (case q1 => exact und_of rfl); (case q2 => exact siz_of rfl); (case q3 => omega); (case q4 => (repeat (first | exact .head _ | apply List.Mem.tail))))
      | ((refine' ⟨_, Yl_index rfl rfl ?q1 ?q2 ?q3 rfl, ?_⟩); (case q1 => exact und_of rfl); (case q2 => exact siz_of rfl); (case q3 => omega))
      | ((refine' ⟨_, Yl_index (j := 0) rfl rfl ?q1 ?q2 ?q3 (Rd.some_ ?q4 ?q5), ?_⟩); (case q1 => exact und_of rfl); (case q2 => exact siz_of rfl); (case q3 => omega); (case q4 => assumption); (case q5 => omega))
      | ((refine' ⟨_, Yl_index_row (j := 0) rfl rfl ?q1 ?q2 ?q3 ?q4, ?_⟩); (case q1 => exact und_of rfl); (case q2 => exact siz_of rfl); (case q3 => omega); (case q4 => (repeat (first | exact .head _ | apply List.Mem.tail))))
      | ((refine' ⟨_, Yl_indexI rfl rfl ?q1 ?q2 ?q3 ?q4 (Rd.some_ ?q5 ?q6), ?_⟩); (case q1 => exact und_of rfl); (case q2 => exact siz_of rfl); (case q3 => omega); (case q4 => omega); (case q5 => assumption); (case q6 => omega))))
      | ((with_reducible refine is_un ?_); refine ⟨_, Yl_not rfl, ?_⟩)
      | ((with_reducible refine is_len ?_); (first | ((refine' ⟨_, Yl_len_slice rfl ?q1, ?_⟩); (case q1 => exact und_of rfl)) | ((refine' ⟨_, Yl_len_string rfl ?q1, ?_⟩); (case q1 => exact und_of rfl))))
      | ((with_reducible refine is_b_lss ?_); (first | ((refine' ⟨_, Yl_lss_t rfl rfl ?q1, ?_⟩); (case q1 => omega)) | ((refine' ⟨_, Yl_lss_f rfl rfl ?q1, ?_⟩); (case q1 => omega)) | (refine sp_lss rfl rfl ?_ ?_ <;> intro hc)))
      | ((with_reducible refine is_b_leq ?_); (first | ((refine' ⟨_, Yl_leq_t rfl rfl ?q1, ?_⟩); (case q1 => omega)) | ((refine' ⟨_, Yl_leq_f rfl rfl ?q1, ?_⟩); (case q1 => omega)) | (refine sp_leq rfl rfl ?_ ?_ <;> intro hc)))
      | ((with_reducible refine is_b_gtr ?_); (first | ((refine' ⟨_, Yl_gtr_t rfl rfl ?q1, ?_⟩); (case q1 => omega)) | ((refine' ⟨_, Yl_gtr_f rfl rfl ?q1, ?_⟩); (case q1 => omega)) | (refine sp_gtr rfl rfl ?_ ?_ <;> intro hc)))
      | ((with_reducible refine is_b_geq ?_); (first | ((refine' ⟨_, Yl_geq_t rfl rfl ?q1, ?_⟩); (case q1 => omega)) | ((refine' ⟨_, Yl_geq_f rfl rfl ?q1, ?_⟩); (case q1 => omega)) | (refine sp_geq rfl rfl ?_ ?_ <;> intro hc)))
      | ((with_reducible refine is_b_add ?_); (first | ((refine' ⟨_, Yl_add rfl rfl ?q1 ?q2, ?_⟩); (case q1 => omega); (case q2 => omega)) | ((refine' ⟨_, Yl_add8 rfl rfl ?q1 ?q2, ?_⟩); (case q1 => omega); (case q2 => omega))))
      | ((with_reducible refine is_b_sub ?_); (first | ((refine' ⟨_, Yl_sub rfl rfl ?q1 ?q2, ?_⟩); (case q1 => omega); (case q2 => omega))))
      | ((with_reducible refine ie_callf ?_); (first | ((with_reducible refine g_call 23 ?_); (first | refine Ef_callP rfl rfl ent_23 (fun w _ => rserial_v x true w hsx) ?_ | refine Ef_callP rfl rfl ent_23 (fun w _ => rserial_v x false w hsx) ?_))))
      | (fail; (first | ((fail_if_success have := b1); intro b1) | ((fail_if_success have := b2); intro b2) | ((fail_if_success have := b3); intro b3) | ((fail_if_success have := b4); intro b4) | ((fail_if_success have := b5); intro b5) | ((fail_if_success have := b6); intro b6) | ((fail_if_success have := b7); intro b7) | ((fail_if_success have := b8); intro b8) | ((fail_if_success have := b9); intro b9) | ((fail_if_success have := b10); intro b10) | ((fail_if_success have := b11); intro b11) | ((fail_if_success have := b12); intro b12)))
      | (fail; (first | ((fail_if_success have := A1); intro A1 c1) | ((fail_if_success have := A2); intro A2 c2) | ((fail_if_success have := A3); intro A3 c3) | ((fail_if_success have := A4); intro A4 c4) | ((fail_if_success have := A5); intro A5 c5) | ((fail_if_success have := A6); intro A6 c6) | ((fail_if_success have := A7); intro A7 c7)))
      | refine Ef_y rfl rfl ?_)
  refine T.loop (α := Nat) (fun i => [(0, .slice A len cap), (3, .int .i64 (i : Int))]) (fun _ => []) (fun i => i ≤ len ∧ i ≤ 32 ∧ Rv.Pre l i) (fun i => len - i) 0 ?_ ?_ ?_ ?_
  · (repeat (first | exact Sub.nil | refine Sub.cons rfl ?_))
  · (repeat (first | exact List.nil_sublist _ | refine List.Sublist.cons_cons _ ?_ | refine List.Sublist.cons _ ?_))
  · exact ⟨Nat.zero_le _, Nat.zero_le _, Rv.pre_0 l⟩
  · rintro i ⟨hi, h32, hm⟩
    by_cases hlt : i < len
    · obtain ⟨x, hx⟩ := some_of_lt (l := l) (i := i) (by omega)
      have e0 : (l.flatMap (eI .i64))[i * 1 + 0]? = some (.int .i64 x) := enc_at (eI_len .i64) hx (by omega)
      by_cases hi32 : 32 ≤ i
      · rw [Rv.no_len (by omega)]
        repeat' (first
            | with_reducible refine T.seq ?_
            | with_reducible refine T.block ?_
            | with_reducible refine T.region ?_
            | with_reducible refine T.skip ?_
            | with_reducible refine T.scope ?_
            | with_reducible refine T.label ?_
            | with_reducible refine scopeQ_n ?_
            | with_reducible refine scopeQ_r ?_
            | with_reducible refine scopeQ_x ?_
            | with_reducible refine T.ret ?_
            | with_reducible refine T.exit ?_
            | with_reducible refine seqQ_n ?_
            | with_reducible refine seqQ_x ?_
            | with_reducible refine seqQ_r ?_
            | with_reducible refine blockQ_n ?_
            | with_reducible refine blockQ_r ?_
            | with_reducible refine blockQ_x ?_
            | ((with_reducible refine g_blkx ?_); refine blockQ_y rfl ?_)
            | with_reducible refine loopQ_x ?_
            | with_reducible refine loopQ_r ?_
            | with_reducible refine joinQ_r ?_
            | with_reducible refine joinQ_x ?_
            | ((with_reducible refine g_cond ?_); (first | refine T.cond_t rfl ?_ | refine T.cond_f rfl ?_ | (refine T.cond_s rfl ?_ ?_ <;> intro hc)))
            | with_reducible refine TL_nil ?_
            | with_reducible refine TS_nil ?_
            | ((with_reducible refine g_draw ?_); (first | (((with_reducible refine' T.drawM (id := 4) [(0, false), (1, false), (2, false), (3, true), (4, false), (5, false), (6, false), (7, false), (8, false), (9, false), (10, false), (11, false), (12, false), (13, false), (14, true), (15, true), (16, true), (17, true), (18, true), (19, false), (20, false), (21, false), (22, false), (23, false), (24, false), (25, false)] mixd ?q1 ?_); (case q1 => kernel_rfl)))))
            | ((with_reducible refine TL_y' ?hy ?hd ?_); (case hy => rfl); (case hd => rfl))
            | with_reducible refine TL_e ?_
            | ((with_reducible refine g_TL ?_); (first | refine TL_gy' rfl rfl rfl rfl ?_ | refine TL_gn rfl rfl rfl ?_ | refine TL_gu rfl rfl rfl ?_ | refine TL_ge rfl rfl ?_ | refine TL_gn0 rfl rfl ?_))
            | ((with_reducible refine g_TS ?_); (first | refine TS_y rfl rfl ?_ | refine TS_e rfl ?_ | refine TS_gy rfl rfl rfl rfl ?_ | refine TS_gn rfl rfl rfl rfl ?_ | refine TS_gu rfl rfl rfl rfl ?_ | refine TS_ge rfl rfl rfl ?_ | refine TS_gne rfl rfl rfl rfl ?_ | refine TS_gue rfl rfl rfl rfl ?_ | refine TS_gne0 rfl rfl rfl ?_))
            | ((with_reducible refine TSand ?hd ?_); (case hd => (repeat (first | exact List.nil_sublist _ | refine List.Sublist.cons_cons _ ?_ | refine List.Sublist.cons _ ?_))))
            | ((with_reducible refine TBand ?hd ?_); (case hd => (repeat (first | exact List.nil_sublist _ | refine List.Sublist.cons_cons _ ?_ | refine List.Sublist.cons _ ?_))))
            | ((with_reducible refine g_TB ?_); (first | with_reducible refine TB_run ?_ | refine TB_y rfl rfl ?_ | refine TB_b rfl rfl ?_ ?_ | refine TB_e rfl ?_))
            | ((with_reducible refine is_move ?_); refine ⟨_, Yl_move rfl, ?_⟩)
            | ((with_reducible refine is_assign ?_); refine ⟨_, Yl_assign rfl, ?_⟩)
            | ((with_reducible refine is_pick ?_); (first | refine ⟨_, Yl_pick_t rfl rfl, ?_⟩ | refine ⟨_, Yl_pick_f rfl rfl, ?_⟩))
            | ((with_reducible refine is_load ?_); (first
            | ((refine' ⟨_, Yl_load_blk rfl ?q1 ?q2 ?q3, ?_⟩); (case q1 => exact one_of rfl); (case q2 => (repeat (first | exact .head _ | apply List.Mem.tail))); (case q3 => rfl))
            | ((refine' ⟨_, Yl_loadA_blk rfl ?q1 ?q2, ?_⟩); (case q1 => (repeat (first | exact .head _ | apply List.Mem.tail))); (case q2 => exact agg_of rfl))
            | ((refine' ⟨_, Yl_load_blk rfl ?q1 ?q2 ?q3, ?_⟩); (case q1 => exact one_of rfl); (case q2 => (repeat (first | exact .head _ | apply List.Mem.tail))); (case q3 => assumption))
            | ((refine' ⟨_, Yl_load_rd rfl ?q1 ?q2 List.not_mem_nil ?q3, ?_⟩); (case q1 => exact one_of rfl); (case q2 => assumption); (case q3 => assumption))
            | ((refine' ⟨_, Yl_load_row rfl ?q1 ?q2 ?q3, ?_⟩); (case q1 => exact one_of rfl); (case q2 => (repeat (first | exact .head _ | apply List.Mem.tail))); (case q3 => assumption))
            | ((refine' ⟨_, Yl_loadA_rd rfl ?qa ?qb List.not_mem_nil ?ql ?qc, ?_⟩); (case qa => exact agg_of rfl); (case qb => assumption); (case qc => assumption); (case ql => rfl))
            | ((refine' ⟨_, Yl_loadA_row rfl ?qa ?qb ?ql ?qc, ?_⟩); (case qa => exact agg_of rfl); (case qb => (repeat (first | exact .head _ | apply List.Mem.tail))); (case qc => assumption); (case ql => rfl))))
            | ((with_reducible refine is_idx ?_); (first
            | ((refine' ⟨_, Yl_index rfl rfl ?q1 ?q2 ?q3 (Rd.some_ ?q4 ?q5), ?_⟩); (case q1 => exact und_of rfl); (case q2 => exact siz_of rfl); (case q3 => omega); (case q4 => assumption); (case q5 => omega))
            | ((refine' ⟨_, Yl_index_row rfl rfl ?q1 ?q2 ?q3 ?q4, ?_⟩); (case q1 => exact und_of rfl); (case q2 => exact siz_of rfl); (case q3 => omega); (case q4 => (repeat (first | exact .head _ | apply List.Mem.tail))))
            | ((refine' ⟨_, Yl_index rfl rfl ?q1 ?q2 ?q3 rfl, ?_⟩); (case q1 => exact und_of rfl); (case q2 => exact siz_of rfl); (case q3 => omega))
            | ((refine' ⟨_, Yl_index (j := 0) rfl rfl ?q1 ?q2 ?q3 (Rd.some_ ?q4 ?q5), ?_⟩); (case q1 => exact und_of rfl); (case q2 => exact siz_of rfl); (case q3 => omega); (case q4 => assumption); (case q5 => omega))
            | ((refine' ⟨_, Yl_index_row (j := 0) rfl rfl ?q1 ?q2 ?q3 ?q4, ?_⟩); (case q1 => exact und_of rfl); (case q2 => exact siz_of rfl); (case q3 => omega); (case q4 => (repeat (first | exact .head _ | apply List.Mem.tail))))
            | ((refine' ⟨_, Yl_indexI rfl rfl ?q1 ?q2 ?q3 ?q4 (Rd.some_ ?q5 ?q6), ?_⟩); (case q1 => exact und_of rfl); (case q2 => exact siz_of rfl); (case q3 => omega); (case q4 => omega); (case q5 => assumption); (case q6 => omega))))
            | ((with_reducible refine is_un ?_); refine ⟨_, Yl_not rfl, ?_⟩)
            | ((with_reducible refine is_len ?_); (first | ((refine' ⟨_, Yl_len_slice rfl ?q1, ?_⟩); (case q1 => exact und_of rfl)) | ((refine' ⟨_, Yl_len_string rfl ?q1, ?_⟩); (case q1 => exact und_of rfl))))
            | ((with_reducible refine is_b_lss ?_); (first | ((refine' ⟨_, Yl_lss_t rfl rfl ?q1, ?_⟩); (case q1 => omega)) | ((refine' ⟨_, Yl_lss_f rfl rfl ?q1, ?_⟩); (case q1 => omega)) | (refine sp_lss rfl rfl ?_ ?_ <;> intro hc)))
            | ((with_reducible refine is_b_leq ?_); (first | ((refine' ⟨_, Yl_leq_t rfl rfl ?q1, ?_⟩); (case q1 => omega)) | ((refine' ⟨_, Yl_leq_f rfl rfl ?q1, ?_⟩); (case q1 => omega)) | (refine sp_leq rfl rfl ?_ ?_ <;> intro hc)))
            | ((with_reducible refine is_b_gtr ?_); (first | ((refine' ⟨_, Yl_gtr_t rfl rfl ?q1, ?_⟩); (case q1 => omega)) | ((refine' ⟨_, Yl_gtr_f rfl rfl ?q1, ?_⟩); (case q1 => omega)) | (refine sp_gtr rfl rfl ?_ ?_ <;> intro hc)))
            | ((with_reducible refine is_b_geq ?_); (first | ((refine' ⟨_, Yl_geq_t rfl rfl ?q1, ?_⟩); (case q1 => omega)) | ((refine' ⟨_, Yl_geq_f rfl rfl ?q1, ?_⟩); (case q1 => omega)) | (refine sp_geq rfl rfl ?_ ?_ <;> intro hc)))
            | ((with_reducible refine is_b_add ?_); (first | ((refine' ⟨_, Yl_add rfl rfl ?q1 ?q2, ?_⟩); (case q1 => omega); (case q2 => omega)) | ((refine' ⟨_, Yl_add8 rfl rfl ?q1 ?q2, ?_⟩); (case q1 => omega); (case q2 => omega))))
            | ((with_reducible refine is_b_sub ?_); (first | ((refine' ⟨_, Yl_sub rfl rfl ?q1 ?q2, ?_⟩); (case q1 => omega); (case q2 => omega))))
            | ((with_reducible refine ie_callf ?_); (first | ((with_reducible refine g_call 23 ?_); (first | refine Ef_callP rfl rfl ent_23 (fun w _ => rserial_v x true w hsx) ?_ | refine Ef_callP rfl rfl ent_23 (fun w _ => rserial_v x false w hsx) ?_))))
            | (fail; (first | ((fail_if_success have := b1); intro b1) | ((fail_if_success have := b2); intro b2) | ((fail_if_success have := b3); intro b3) | ((fail_if_success have := b4); intro b4) | ((fail_if_success have := b5); intro b5) | ((fail_if_success have := b6); intro b6) | ((fail_if_success have := b7); intro b7) | ((fail_if_success have := b8); intro b8) | ((fail_if_success have := b9); intro b9) | ((fail_if_success have := b10); intro b10) | ((fail_if_success have := b11); intro b11) | ((fail_if_success have := b12); intro b12)))
            | (fail; (first | ((fail_if_success have := A1); intro A1 c1) | ((fail_if_success have := A2); intro A2 c2) | ((fail_if_success have := A3); intro A3 c3) | ((fail_if_success have := A4); intro A4 c4) | ((fail_if_success have := A5); intro A5 c5) | ((fail_if_success have := A6); intro A6 c6) | ((fail_if_success have := A7); intro A7 c7)))
            | refine Ef_y rfl rfl ?_)
        exact ret_n [] (res1 rfl rfl) (List.nil_sublist _) ⟨rfl, rfl⟩
      cases hsx : Rv.serial x with
      | false =>
        rw [Rv.no_ser hx hsx]
        repeat' (first
            | with_reducible refine T.seq ?_
            | with_reducible refine T.block ?_
            | with_reducible refine T.region ?_
            | with_reducible refine T.skip ?_
            | with_reducible refine T.scope ?_
            | with_reducible refine T.label ?_
            | with_reducible refine scopeQ_n ?_
            | with_reducible refine scopeQ_r ?_
            | with_reducible refine scopeQ_x ?_
            | with_reducible refine T.ret ?_
            | with_reducible refine T.exit ?_
            | with_reducible refine seqQ_n ?_
            | with_reducible refine seqQ_x ?_
            | with_reducible refine seqQ_r ?_
            | with_reducible refine blockQ_n ?_
            | with_reducible refine blockQ_r ?_
            | with_reducible refine blockQ_x ?_
            | ((with_reducible refine g_blkx ?_); refine blockQ_y rfl ?_)
            | with_reducible refine loopQ_x ?_
            | with_reducible refine loopQ_r ?_
            | with_reducible refine joinQ_r ?_
            | with_reducible refine joinQ_x ?_
            | ((with_reducible refine g_cond ?_); (first | refine T.cond_t rfl ?_ | refine T.cond_f rfl ?_ | (refine T.cond_s rfl ?_ ?_ <;> intro hc)))
            | with_reducible refine TL_nil ?_
            | with_reducible refine TS_nil ?_
            | ((with_reducible refine g_draw ?_); (first | (((with_reducible refine' T.drawM (id := 4) [(0, false), (1, false), (2, false), (3, true), (4, false), (5, false), (6, false), (7, false), (8, false), (9, false), (10, false), (11, false), (12, false), (13, false), (14, true), (15, true), (16, true), (17, true), (18, true), (19, false), (20, false), (21, false), (22, false), (23, false), (24, false), (25, false)] mixd ?q1 ?_); (case q1 => kernel_rfl)))))
            | ((with_reducible refine TL_y' ?hy ?hd ?_); (case hy => rfl); (case hd => rfl))
            | with_reducible refine TL_e ?_
            | ((with_reducible refine g_TL ?_); (first | refine TL_gy' rfl rfl rfl rfl ?_ | refine TL_gn rfl rfl rfl ?_ | refine TL_gu rfl rfl rfl ?_ | refine TL_ge rfl rfl ?_ | refine TL_gn0 rfl rfl ?_))
            | ((with_reducible refine g_TS ?_); (first | refine TS_y rfl rfl ?_ | refine TS_e rfl ?_ | refine TS_gy rfl rfl rfl rfl ?_ | refine TS_gn rfl rfl rfl rfl ?_ | refine TS_gu rfl rfl rfl rfl ?_ | refine TS_ge rfl rfl rfl ?_ | refine TS_gne rfl rfl rfl rfl ?_ | refine TS_gue rfl rfl rfl rfl ?_ | refine TS_gne0 rfl rfl rfl ?_))
            | ((with_reducible refine TSand ?hd ?_); (case hd => (repeat (first | exact List.nil_sublist _ | refine List.Sublist.cons_cons _ ?_ | refine List.Sublist.cons _ ?_))))
            | ((with_reducible refine TBand ?hd ?_); (case hd => (repeat (first | exact List.nil_sublist _ | refine List.Sublist.cons_cons _ ?_ | refine List.Sublist.cons _ ?_))))
            | ((with_reducible refine g_TB ?_); (first | with_reducible refine TB_run ?_ | refine TB_y rfl rfl ?_ | refine TB_b rfl rfl ?_ ?_ | refine TB_e rfl ?_))
            | ((with_reducible refine is_move ?_); refine ⟨_, Yl_move rfl, ?_⟩)
            | ((with_reducible refine is_assign ?_); refine ⟨_, Yl_assign rfl, ?_⟩)
            | ((with_reducible refine is_pick ?_); (first | refine ⟨_, Yl_pick_t rfl rfl, ?_⟩ | refine ⟨_, Yl_pick_f rfl rfl, ?_⟩))
            | ((with_reducible refine is_load ?_); (first
            | ((refine' ⟨_, Yl_load_blk rfl ?q1 ?q2 ?q3, ?_⟩); (case q1 => exact one_of rfl); (case q2 => (repeat (first | exact .head _ | apply List.Mem.tail))); (case q3 => rfl))
            | ((refine' ⟨_, Yl_loadA_blk rfl ?q1 ?q2, ?_⟩); (case q1 => (repeat (first | exact .head _ | apply List.Mem.tail))); (case q2 => exact agg_of rfl))
            | ((refine' ⟨_, Yl_load_blk rfl ?q1 ?q2 ?q3, ?_⟩); (case q1 => exact one_of rfl); (case q2 => (repeat (first | exact .head _ | apply List.Mem.tail))); (case q3 => assumption))
            | ((refine' ⟨_, Yl_load_rd rfl ?q1 ?q2 List.not_mem_nil ?q3, ?_⟩); (case q1 => exact one_of rfl); (case q2 => assumption); (case q3 => assumption))
            | ((refine' ⟨_, Yl_load_row rfl ?q1 ?q2 ?q3, ?_⟩); (case q1 => exact one_of rfl); (case q2 => (repeat (first | exact .head _ | apply List.Mem.tail))); (case q3 => assumption))
            | ((refine' ⟨_, Yl_loadA_rd rfl ?qa ?qb List.not_mem_nil ?ql ?qc, ?_⟩); (case qa => exact agg_of rfl); (case qb => assumption); (case qc => assumption); (case ql => rfl))
            | ((refine' ⟨_, Yl_loadA_row rfl ?qa ?qb ?ql ?qc, ?_⟩); (case qa => exact agg_of rfl); (case qb => (repeat (first | exact .head _ | apply List.Mem.tail))); (case qc => assumption); (case ql => rfl))))
            | ((with_reducible refine is_idx ?_); (first
            | ((refine' ⟨_, Yl_index rfl rfl ?q1 ?q2 ?q3 (Rd.some_ ?q4 ?q5), ?_⟩); (case q1 => exact und_of rfl); (case q2 => exact siz_of rfl); (case q3 => omega); (case q4 => assumption); (case q5 => omega))
            | ((refine' ⟨_, Yl_index_row rfl rfl ?q1 ?q2 ?q3 ?q4, ?_⟩); (case q1 => exact und_of rfl); (case q2 => exact siz_of rfl); (case q3 => omega); (case q4 => (repeat (first | exact .head _ | apply List.Mem.tail))))
            | ((refine' ⟨_, Yl_index rfl rfl ?q1 ?q2 ?q3 rfl, ?_⟩); (case q1 => exact und_of rfl); (case q2 => exact siz_of rfl); (case q3 => omega))
            | ((refine' ⟨_, Yl_index (j := 0) rfl rfl ?q1 ?q2 ?q3 (Rd.some_ ?q4 ?q5), ?_⟩); (case q1 => exact und_of rfl); (case q2 => exact siz_of rfl); (case q3 => omega); (case q4 => assumption); (case q5 => omega))
            | ((refine' ⟨_, Yl_index_row (j := 0) rfl rfl ?q1 ?q2 ?q3 ?q4, ?_⟩); (case q1 => exact und_of rfl); (case q2 => exact siz_of rfl); (case q3 => omega); (case q4 => (repeat (first | exact .head _ | apply List.Mem.tail))))
            | ((refine' ⟨_, Yl_indexI rfl rfl ?q1 ?q2 ?q3 ?q4 (Rd.some_ ?q5 ?q6), ?_⟩); (case q1 => exact und_of rfl); (case q2 => exact siz_of rfl); (case q3 => omega); (case q4 => omega); (case q5 => assumption); (case q6 => omega))))
            | ((with_reducible refine is_un ?_); refine ⟨_, Yl_not rfl, ?_⟩)
            | ((with_reducible refine is_len ?_); (first | ((refine' ⟨_, Yl_len_slice rfl ?q1, ?_⟩); (case q1 => exact und_of rfl)) | ((refine' ⟨_, Yl_len_string rfl ?q1, ?_⟩); (case q1 => exact und_of rfl))))
            | ((with_reducible refine is_b_lss ?_); (first | ((refine' ⟨_, Yl_lss_t rfl rfl ?q1, ?_⟩); (case q1 => omega)) | ((refine' ⟨_, Yl_lss_f rfl rfl ?q1, ?_⟩); (case q1 => omega)) | (refine sp_lss rfl rfl ?_ ?_ <;> intro hc)))
            | ((with_reducible refine is_b_leq ?_); (first | ((refine' ⟨_, Yl_leq_t rfl rfl ?q1, ?_⟩); (case q1 => omega)) | ((refine' ⟨_, Yl_leq_f rfl rfl ?q1, ?_⟩); (case q1 => omega)) | (refine sp_leq rfl rfl ?_ ?_ <;> intro hc)))
            | ((with_reducible refine is_b_gtr ?_); (first | ((refine' ⟨_, Yl_gtr_t rfl rfl ?q1, ?_⟩); (case q1 => omega)) | ((refine' ⟨_, Yl_gtr_f rfl rfl ?q1, ?_⟩); (case q1 => omega)) | (refine sp_gtr rfl rfl ?_ ?_ <;> intro hc)))
            | ((with_reducible refine is_b_geq ?_); (first | ((refine' ⟨_, Yl_geq_t rfl rfl ?q1, ?_⟩); (case q1 => omega)) | ((refine' ⟨_, Yl_geq_f rfl rfl ?q1, ?_⟩); (case q1 => omega)) | (refine sp_geq rfl rfl ?_ ?_ <;> intro hc)))
            | ((with_reducible refine is_b_add ?_); (first | ((refine' ⟨_, Yl_add rfl rfl ?q1 ?q2, ?_⟩); (case q1 => omega); (case q2 => omega)) | ((refine' ⟨_, Yl_add8 rfl rfl ?q1 ?q2, ?_⟩); (case q1 => omega); (case q2 => omega))))
            | ((with_reducible refine is_b_sub ?_); (first | ((refine' ⟨_, Yl_sub rfl rfl ?q1 ?q2, ?_⟩); (case q1 => omega); (case q2 => omega))))
            | ((with_reducible refine ie_callf ?_); (first | ((with_reducible refine g_call 23 ?_); (first | refine Ef_callP rfl rfl ent_23 (fun w _ => rserial_v x true w hsx) ?_ | refine Ef_callP rfl rfl ent_23 (fun w _ => rserial_v x false w hsx) ?_))))
            | (fail; (first | ((fail_if_success have := b1); intro b1) | ((fail_if_success have := b2); intro b2) | ((fail_if_success have := b3); intro b3) | ((fail_if_success have := b4); intro b4) | ((fail_if_success have := b5); intro b5) | ((fail_if_success have := b6); intro b6) | ((fail_if_success have := b7); intro b7) | ((fail_if_success have := b8); intro b8) | ((fail_if_success have := b9); intro b9) | ((fail_if_success have := b10); intro b10) | ((fail_if_success have := b11); intro b11) | ((fail_if_success have := b12); intro b12)))
            | (fail; (first | ((fail_if_success have := A1); intro A1 c1) | ((fail_if_success have := A2); intro A2 c2) | ((fail_if_success have := A3); intro A3 c3) | ((fail_if_success have := A4); intro A4 c4) | ((fail_if_success have := A5); intro A5 c5) | ((fail_if_success have := A6); intro A6 c6) | ((fail_if_success have := A7); intro A7 c7)))
            | refine Ef_y rfl rfl ?_)
        exact ret_n [] (res1 rfl rfl) (List.nil_sublist _) ⟨rfl, rfl⟩
      | true =>
        by_cases hi0 : i = 0
        · repeat' (first
            | with_reducible refine T.seq ?_
            | with_reducible refine T.block ?_
            | with_reducible refine T.region ?_
            | with_reducible refine T.skip ?_
            | with_reducible refine T.scope ?_
            | with_reducible refine T.label ?_
            | with_reducible refine scopeQ_n ?_
            | with_reducible refine scopeQ_r ?_
            | with_reducible refine scopeQ_x ?_
            | with_reducible refine T.ret ?_
            | with_reducible refine T.exit ?_
            | with_reducible refine seqQ_n ?_
            | with_reducible refine seqQ_x ?_
            | with_reducible refine seqQ_r ?_
            | with_reducible refine blockQ_n ?_
            | with_reducible refine blockQ_r ?_
            | with_reducible refine blockQ_x ?_
            | ((with_reducible refine g_blkx ?_); refine blockQ_y rfl ?_)
            | with_reducible refine loopQ_x ?_
            | with_reducible refine loopQ_r ?_
            | with_reducible refine joinQ_r ?_
            | with_reducible refine joinQ_x ?_
            | ((with_reducible refine g_cond ?_); (first | refine T.cond_t rfl ?_ | refine T.cond_f rfl ?_ | (refine T.cond_s rfl ?_ ?_ <;> intro hc)))
            | with_reducible refine TL_nil ?_
            | with_reducible refine TS_nil ?_
            | ((with_reducible refine g_draw ?_); (first | (((with_reducible refine' T.drawM (id := 4) [(0, false), (1, false), (2, false), (3, true), (4, false), (5, false), (6, false), (7, false), (8, false), (9, false), (10, false), (11, false), (12, false), (13, false), (14, true), (15, true), (16, true), (17, true), (18, true), (19, false), (20, false), (21, false), (22, false), (23, false), (24, false), (25, false)] mixd ?q1 ?_); (case q1 => kernel_rfl)))))
            | ((with_reducible refine TL_y' ?hy ?hd ?_); (case hy => rfl); (case hd => rfl))
            | with_reducible refine TL_e ?_
            | ((with_reducible refine g_TL ?_); (first | refine TL_gy' rfl rfl rfl rfl ?_ | refine TL_gn rfl rfl rfl ?_ | refine TL_gu rfl rfl rfl ?_ | refine TL_ge rfl rfl ?_ | refine TL_gn0 rfl rfl ?_))
            | ((with_reducible refine g_TS ?_); (first | refine TS_y rfl rfl ?_ | refine TS_e rfl ?_ | refine TS_gy rfl rfl rfl rfl ?_ | refine TS_gn rfl rfl rfl rfl ?_ | refine TS_gu rfl rfl rfl rfl ?_ | refine TS_ge rfl rfl rfl ?_ | refine TS_gne rfl rfl rfl rfl ?_ | refine TS_gue rfl rfl rfl rfl ?_ | refine TS_gne0 rfl rfl rfl ?_))
            | ((with_reducible refine TSand ?hd ?_); (case hd => (repeat (first | exact List.nil_sublist _ | refine List.Sublist.cons_cons _ ?_ | refine List.Sublist.cons _ ?_))))
            | ((with_reducible refine TBand ?hd ?_); (case hd => (repeat (first | exact List.nil_sublist _ | refine List.Sublist.cons_cons _ ?_ | refine List.Sublist.cons _ ?_))))
            | ((with_reducible refine g_TB ?_); (first | with_reducible refine TB_run ?_ | refine TB_y rfl rfl ?_ | refine TB_b rfl rfl ?_ ?_ | refine TB_e rfl ?_))
            | ((with_reducible refine is_move ?_); refine ⟨_, Yl_move rfl, ?_⟩)
            | ((with_reducible refine is_assign ?_); refine ⟨_, Yl_assign rfl, ?_⟩)
            | ((with_reducible refine is_pick ?_); (first | refine ⟨_, Yl_pick_t rfl rfl, ?_⟩ | refine ⟨_, Yl_pick_f rfl rfl, ?_⟩))
            | ((with_reducible refine is_load ?_); (first
            | ((refine' ⟨_, Yl_load_blk rfl ?q1 ?q2 ?q3, ?_⟩); (case q1 => exact one_of rfl); (case q2 => (repeat (first | exact .head _ | apply List.Mem.tail))); (case q3 => rfl))
            | ((refine' ⟨_, Yl_loadA_blk rfl ?q1 ?q2, ?_⟩); (case q1 => (repeat (first | exact .head _ | apply List.Mem.tail))); (case q2 => exact agg_of rfl))
            | ((refine' ⟨_, Yl_load_blk rfl ?q1 ?q2 ?q3, ?_⟩); (case q1 => exact one_of rfl); (case q2 => (repeat (first | exact .head _ | apply List.Mem.tail))); (case q3 => assumption))
            | ((refine' ⟨_, Yl_load_rd rfl ?q1 ?q2 List.not_mem_nil ?q3, ?_⟩); (case q1 => exact one_of rfl); (case q2 => assumption); (case q3 => assumption))
            | ((refine' ⟨_, Yl_load_row rfl ?q1 ?q2 ?q3, ?_⟩); (case q1 => exact one_of rfl); (case q2 => (repeat (first | exact .head _ | apply List.Mem.tail))); (case q3 => assumption))
            | ((refine' ⟨_, Yl_loadA_rd rfl ?qa ?qb List.not_mem_nil ?ql ?qc, ?_⟩); (case qa => exact agg_of rfl); (case qb => assumption); (case qc => assumption); (case ql => rfl))
            | ((refine' ⟨_, Yl_loadA_row rfl ?qa ?qb ?ql ?qc, ?_⟩); (case qa => exact agg_of rfl); (case qb => (repeat (first | exact .head _ | apply List.Mem.tail))); (case qc => assumption); (case ql => rfl))))
            | ((with_reducible refine is_idx ?_); (first
            | ((refine' ⟨_, Yl_index rfl rfl ?q1 ?q2 ?q3 (Rd.some_ ?q4 ?q5), ?_⟩); (case q1 => exact und_of rfl); (case q2 => exact siz_of rfl); (case q3 => omega); (case q4 => assumption); (case q5 => omega))
            | ((refine' ⟨_, Yl_index_row rfl rfl ?q1 ?q2 ?q3 ?q4, ?_⟩); (case q1 => exact und_of rfl); (case q2 => exact siz_of rfl); (case q3 => omega); (case q4 => (repeat (first | exact .head _ | apply List.Mem.tail))))
            | ((refine' ⟨_, Yl_index rfl rfl ?q1 ?q2 ?q3 rfl, ?_⟩); (case q1 => exact und_of rfl); (case q2 => exact siz_of rfl); (case q3 => omega))
            | ((refine' ⟨_, Yl_index (j := 0) rfl rfl ?q1 ?q2 ?q3 (Rd.some_ ?q4 ?q5), ?_⟩); (case q1 => exact und_of rfl); (case q2 => exact siz_of rfl); (case q3 => omega); (case q4 => assumption); (case q5 => omega))
            | ((refine' ⟨_, Yl_index_row (j := 0) rfl rfl ?q1 ?q2 ?q3 ?q4, ?_⟩); (case q1 => exact und_of rfl); (case q2 => exact siz_of rfl); (case q3 => omega); (case q4 => (repeat (first | exact .head _ | apply List.Mem.tail))))
            | ((refine' ⟨_, Yl_indexI rfl rfl ?q1 ?q2 ?q3 ?q4 (Rd.some_ ?q5 ?q6), ?_⟩); (case q1 => exact und_of rfl); (case q2 => exact siz_of rfl); (case q3 => omega); (case q4 => omega); (case q5 => assumption); (case q6 => omega))))
            | ((with_reducible refine is_un ?_); refine ⟨_, Yl_not rfl, ?_⟩)
            | ((with_reducible refine is_len ?_); (first | ((refine' ⟨_, Yl_len_slice rfl ?q1, ?_⟩); (case q1 => exact und_of rfl)) | ((refine' ⟨_, Yl_len_string rfl ?q1, ?_⟩); (case q1 => exact und_of rfl))))
            | ((with_reducible refine is_b_lss ?_); (first | ((refine' ⟨_, Yl_lss_t rfl rfl ?q1, ?_⟩); (case q1 => omega)) | ((refine' ⟨_, Yl_lss_f rfl rfl ?q1, ?_⟩); (case q1 => omega)) | (refine sp_lss rfl rfl ?_ ?_ <;> intro hc)))
            | ((with_reducible refine is_b_leq ?_); (first | ((refine' ⟨_, Yl_leq_t rfl rfl ?q1, ?_⟩); (case q1 => omega)) | ((refine' ⟨_, Yl_leq_f rfl rfl ?q1, ?_⟩); (case q1 => omega)) | (refine sp_leq rfl rfl ?_ ?_ <;> intro hc)))
            | ((with_reducible refine is_b_gtr ?_); (first | ((refine' ⟨_, Yl_gtr_t rfl rfl ?q1, ?_⟩); (case q1 => omega)) | ((refine' ⟨_, Yl_gtr_f rfl rfl ?q1, ?_⟩); (case q1 => omega)) | (refine sp_gtr rfl rfl ?_ ?_ <;> intro hc)))
            | ((with_reducible refine is_b_geq ?_); (first | ((refine' ⟨_, Yl_geq_t rfl rfl ?q1, ?_⟩); (case q1 => omega)) | ((refine' ⟨_, Yl_geq_f rfl rfl ?q1, ?_⟩); (case q1 => omega)) | (refine sp_geq rfl rfl ?_ ?_ <;> intro hc)))
            | ((with_reducible refine is_b_add ?_); (first | ((refine' ⟨_, Yl_add rfl rfl ?q1 ?q2, ?_⟩); (case q1 => omega); (case q2 => omega)) | ((refine' ⟨_, Yl_add8 rfl rfl ?q1 ?q2, ?_⟩); (case q1 => omega); (case q2 => omega))))
            | ((with_reducible refine is_b_sub ?_); (first | ((refine' ⟨_, Yl_sub rfl rfl ?q1 ?q2, ?_⟩); (case q1 => omega); (case q2 => omega))))
            | ((with_reducible refine ie_callf ?_); (first | ((with_reducible refine g_call 23 ?_); (first | refine Ef_callP rfl rfl ent_23 (fun w _ => rserial_v x true w hsx) ?_ | refine Ef_callP rfl rfl ent_23 (fun w _ => rserial_v x false w hsx) ?_))))
            | (fail; (first | ((fail_if_success have := b1); intro b1) | ((fail_if_success have := b2); intro b2) | ((fail_if_success have := b3); intro b3) | ((fail_if_success have := b4); intro b4) | ((fail_if_success have := b5); intro b5) | ((fail_if_success have := b6); intro b6) | ((fail_if_success have := b7); intro b7) | ((fail_if_success have := b8); intro b8) | ((fail_if_success have := b9); intro b9) | ((fail_if_success have := b10); intro b10) | ((fail_if_success have := b11); intro b11) | ((fail_if_success have := b12); intro b12)))
            | (fail; (first | ((fail_if_success have := A1); intro A1 c1) | ((fail_if_success have := A2); intro A2 c2) | ((fail_if_success have := A3); intro A3 c3) | ((fail_if_success have := A4); intro A4 c4) | ((fail_if_success have := A5); intro A5 c5) | ((fail_if_success have := A6); intro A6 c6) | ((fail_if_success have := A7); intro A7 c7)))
            | refine Ef_y rfl rfl ?_)
          refine loopQ_n (i + 1) ?_ ?_ ⟨by (first | omega | (dsimp only; omega) | (simp; omega)), by (first | omega | (dsimp only; omega) | (simp; omega)), Rv.pre_step hm hx hsx (.inl hi0)⟩ (by (first | omega | (dsimp only; omega) | (simp; omega)))
          · (repeat (first | exact Sub.nil | refine Sub.cons rfl ?_))
          · (repeat (first | exact List.nil_sublist _ | refine List.Sublist.cons_cons _ ?_ | refine List.Sublist.cons _ ?_))
        · obtain ⟨a, ha⟩ := some_of_lt (l := l) (i := i - 1) (by omega)
          have e1 : (l.flatMap (eI .i64))[((i : Int) - 1).toNat * 1 + 0]? = some (.int .i64 a) := by
            rw [show ((i : Int) - 1).toNat = i - 1 by omega]
            exact enc_at (eI_len .i64) ha (by omega)
          by_cases hu : a < x
          · repeat' (first
              | with_reducible refine T.seq ?_
              | with_reducible refine T.block ?_
              | with_reducible refine T.region ?_
              | with_reducible refine T.skip ?_
              | with_reducible refine T.scope ?_
              | with_reducible refine T.label ?_
              | with_reducible refine scopeQ_n ?_
              | with_reducible refine scopeQ_r ?_
              | with_reducible refine scopeQ_x ?_
              | with_reducible refine T.ret ?_
              | with_reducible refine T.exit ?_
              | with_reducible refine seqQ_n ?_
              | with_reducible refine seqQ_x ?_
              | with_reducible refine seqQ_r ?_
              | with_reducible refine blockQ_n ?_
              | with_reducible refine blockQ_r ?_
              | with_reducible refine blockQ_x ?_
              | ((with_reducible refine g_blkx ?_); refine blockQ_y rfl ?_)
              | with_reducible refine loopQ_x ?_
              | with_reducible refine loopQ_r ?_
              | with_reducible refine joinQ_r ?_
              | with_reducible refine joinQ_x ?_
              | ((with_reducible refine g_cond ?_); (first | refine T.cond_t rfl ?_ | refine T.cond_f rfl ?_ | (refine T.cond_s rfl ?_ ?_ <;> intro hc)))
              | with_reducible refine TL_nil ?_
              | with_reducible refine TS_nil ?_
              | ((with_reducible refine g_draw ?_); (first | (((with_reducible refine' T.drawM (id := 4) [(0, false), (1, false), (2, false), (3, true), (4, false), (5, false), (6, false), (7, false), (8, false), (9, false), (10, false), (11, false), (12, false), (13, false), (14, true), (15, true), (16, true), (17, true), (18, true), (19, false), (20, false), (21, false), (22, false), (23, false), (24, false), (25, false)] mixd ?q1 ?_); (case q1 => kernel_rfl)))))
              | ((with_reducible refine TL_y' ?hy ?hd ?_); (case hy => rfl); (case hd => rfl))
              | with_reducible refine TL_e ?_
              | ((with_reducible refine g_TL ?_); (first | refine TL_gy' rfl rfl rfl rfl ?_ | refine TL_gn rfl rfl rfl ?_ | refine TL_gu rfl rfl rfl ?_ | refine TL_ge rfl rfl ?_ | refine TL_gn0 rfl rfl ?_))
              | ((with_reducible refine g_TS ?_); (first | refine TS_y rfl rfl ?_ | refine TS_e rfl ?_ | refine TS_gy rfl rfl rfl rfl ?_ | refine TS_gn rfl rfl rfl rfl ?_ | refine TS_gu rfl rfl rfl rfl ?_ | refine TS_ge rfl rfl rfl ?_ | refine TS_gne rfl rfl rfl rfl ?_ | refine TS_gue rfl rfl rfl rfl ?_ | refine TS_gne0 rfl rfl rfl ?_))
              | ((with_reducible refine TSand ?hd ?_); (case hd => (repeat (first | exact List.nil_sublist _ | refine List.Sublist.cons_cons _ ?_ | refine List.Sublist.cons _ ?_))))
              | ((with_reducible refine TBand ?hd ?_); (case hd => (repeat (first | exact List.nil_sublist _ | refine List.Sublist.cons_cons _ ?_ | refine List.Sublist.cons _ ?_))))
              | ((with_reducible refine g_TB ?_); (first | with_reducible refine TB_run ?_ | refine TB_y rfl rfl ?_ | refine TB_b rfl rfl ?_ ?_ | refine TB_e rfl ?_))
              | ((with_reducible refine is_move ?_); refine ⟨_, Yl_move rfl, ?_⟩)
              | ((with_reducible refine is_assign ?_); refine ⟨_, Yl_assign rfl, ?_⟩)
              | ((with_reducible refine is_pick ?_); (first | refine ⟨_, Yl_pick_t rfl rfl, ?_⟩ | refine ⟨_, Yl_pick_f rfl rfl, ?_⟩))
              | ((with_reducible refine is_load ?_); (first
              | ((refine' ⟨_, Yl_load_blk rfl ?q1 ?q2 ?q3, ?_⟩); (case q1 => exact one_of rfl); (case q2 => (repeat (first | exact .head _ | apply List.Mem.tail))); (case q3 => rfl))
              | ((refine' ⟨_, Yl_loadA_blk rfl ?q1 ?q2, ?_⟩); (case q1 => (repeat (first | exact .head _ | apply List.Mem.tail))); (case q2 => exact agg_of rfl))
              | ((refine' ⟨_, Yl_load_blk rfl ?q1 ?q2 ?q3, ?_⟩); (case q1 => exact one_of rfl); (case q2 => (repeat (first | exact .head _ | apply List.Mem.tail))); (case q3 => assumption))
              | ((refine' ⟨_, Yl_load_rd rfl ?q1 ?q2 List.not_mem_nil ?q3, ?_⟩); (case q1 => exact one_of rfl); (case q2 => assumption); (case q3 => assumption))
              | ((refine' ⟨_, Yl_load_row rfl ?q1 ?q2 ?q3, ?_⟩); (case q1 => exact one_of rfl); (case q2 => (repeat (first | exact .head _ | apply List.Mem.tail))); (case q3 => assumption))
              | ((refine' ⟨_, Yl_loadA_rd rfl ?qa ?qb List.not_mem_nil ?ql ?qc, ?_⟩); (case qa => exact agg_of rfl); (case qb => assumption); (case qc => assumption); (case ql => rfl))
              | ((refine' ⟨_, Yl_loadA_row rfl ?qa ?qb ?ql ?qc, ?_⟩); (case qa => exact agg_of rfl); (case qb => (repeat (first | exact .head _ | apply List.Mem.tail))); (case qc => assumption); (case ql => rfl))))
              | ((with_reducible refine is_idx ?_); (first
              | ((refine' ⟨_, Yl_index rfl rfl ?q1 ?q2 ?q3 (Rd.some_ ?q4 ?q5), ?_⟩); (case q1 => exact und_of rfl); (case q2 => exact siz_of rfl); (case q3 => omega); (case q4 => assumption); (case q5 => omega))
              | ((refine' ⟨_, Yl_index_row rfl rfl ?q1 ?q2 ?q3 ?q4, ?_⟩); (case q1 => exact und_of rfl); (case q2 => exact siz_of rfl); (case q3 => omega); (case q4 => (repeat (first | exact .head _ | apply List.Mem.tail))))
              | ((refine' ⟨_, Yl_index rfl rfl ?q1 ?q2 ?q3 rfl, ?_⟩); (case q1 => exact und_of rfl); (case q2 => exact siz_of rfl); (case q3 => omega))
              | ((refine' ⟨_, Yl_index (j := 0) rfl rfl ?q1 ?q2 ?q3 (Rd.some_ ?q4 ?q5), ?_⟩); (case q1 => exact und_of rfl); (case q2 => exact siz_of rfl); (case q3 => omega); (case q4 => assumption); (case q5 => omega))
              | ((refine' ⟨_, Yl_index_row (j := 0) rfl rfl ?q1 ?q2 ?q3 ?q4, ?_⟩); (case q1 => exact und_of rfl); (case q2 => exact siz_of rfl); (case q3 => omega); (case q4 => (repeat (first | exact .head _ | apply List.Mem.tail))))
              | ((refine' ⟨_, Yl_indexI rfl rfl ?q1 ?q2 ?q3 ?q4 (Rd.some_ ?q5 ?q6), ?_⟩); (case q1 => exact und_of rfl); (case q2 => exact siz_of rfl); (case q3 => omega); (case q4 => omega); (case q5 => assumption); (case q6 => omega))))
              | ((with_reducible refine is_un ?_); refine ⟨_, Yl_not rfl, ?_⟩)
              | ((with_reducible refine is_len ?_); (first | ((refine' ⟨_, Yl_len_slice rfl ?q1, ?_⟩); (case q1 => exact und_of rfl)) | ((refine' ⟨_, Yl_len_string rfl ?q1, ?_⟩); (case q1 => exact und_of rfl))))
              | ((with_reducible refine is_b_lss ?_); (first | ((refine' ⟨_, Yl_lss_t rfl rfl ?q1, ?_⟩); (case q1 => omega)) | ((refine' ⟨_, Yl_lss_f rfl rfl ?q1, ?_⟩); (case q1 => omega)) | (refine sp_lss rfl rfl ?_ ?_ <;> intro hc)))
              | ((with_reducible refine is_b_leq ?_); (first | ((refine' ⟨_, Yl_leq_t rfl rfl ?q1, ?_⟩); (case q1 => omega)) | ((refine' ⟨_, Yl_leq_f rfl rfl ?q1, ?_⟩); (case q1 => omega)) | (refine sp_leq rfl rfl ?_ ?_ <;> intro hc)))
              | ((with_reducible refine is_b_gtr ?_); (first | ((refine' ⟨_, Yl_gtr_t rfl rfl ?q1, ?_⟩); (case q1 => omega)) | ((refine' ⟨_, Yl_gtr_f rfl rfl ?q1, ?_⟩); (case q1 => omega)) | (refine sp_gtr rfl rfl ?_ ?_ <;> intro hc)))
              | ((with_reducible refine is_b_geq ?_); (first | ((refine' ⟨_, Yl_geq_t rfl rfl ?q1, ?_⟩); (case q1 => omega)) | ((refine' ⟨_, Yl_geq_f rfl rfl ?q1, ?_⟩); (case q1 => omega)) | (refine sp_geq rfl rfl ?_ ?_ <;> intro hc)))
              | ((with_reducible refine is_b_add ?_); (first | ((refine' ⟨_, Yl_add rfl rfl ?q1 ?q2, ?_⟩); (case q1 => omega); (case q2 => omega)) | ((refine' ⟨_, Yl_add8 rfl rfl ?q1 ?q2, ?_⟩); (case q1 => omega); (case q2 => omega))))
              | ((with_reducible refine is_b_sub ?_); (first | ((refine' ⟨_, Yl_sub rfl rfl ?q1 ?q2, ?_⟩); (case q1 => omega); (case q2 => omega))))
              | ((with_reducible refine ie_callf ?_); (first | ((with_reducible refine g_call 23 ?_); (first | refine Ef_callP rfl rfl ent_23 (fun w _ => rserial_v x true w hsx) ?_ | refine Ef_callP rfl rfl ent_23 (fun w _ => rserial_v x false w hsx) ?_))))
              | (fail; (first | ((fail_if_success have := b1); intro b1) | ((fail_if_success have := b2); intro b2) | ((fail_if_success have := b3); intro b3) | ((fail_if_success have := b4); intro b4) | ((fail_if_success have := b5); intro b5) | ((fail_if_success have := b6); intro b6) | ((fail_if_success have := b7); intro b7) | ((fail_if_success have := b8); intro b8) | ((fail_if_success have := b9); intro b9) | ((fail_if_success have := b10); intro b10) | ((fail_if_success have := b11); intro b11) | ((fail_if_success have := b12); intro b12)))
              | (fail; (first | ((fail_if_success have := A1); intro A1 c1) | ((fail_if_success have := A2); intro A2 c2) | ((fail_if_success have := A3); intro A3 c3) | ((fail_if_success have := A4); intro A4 c4) | ((fail_if_success have := A5); intro A5 c5) | ((fail_if_success have := A6); intro A6 c6) | ((fail_if_success have := A7); intro A7 c7)))
              | refine Ef_y rfl rfl ?_)
            refine loopQ_n (i + 1) ?_ ?_ ⟨by (first | omega | (dsimp only; omega) | (simp; omega)), by (first | omega | (dsimp only; omega) | (simp; omega)), Rv.pre_step hm hx hsx (.inr ⟨a, ha, hu⟩)⟩ (by (first | omega | (dsimp only; omega) | (simp; omega)))
            · (repeat (first | exact Sub.nil | refine Sub.cons rfl ?_))
            · (repeat (first | exact List.nil_sublist _ | refine List.Sublist.cons_cons _ ?_ | refine List.Sublist.cons _ ?_))
          · rw [Rv.no_up ha hx (by omega) (by omega)]
            repeat' (first
                | with_reducible refine T.seq ?_
                | with_reducible refine T.block ?_
                | with_reducible refine T.region ?_
                | with_reducible refine T.skip ?_
                | with_reducible refine T.scope ?_
                | with_reducible refine T.label ?_
                | with_reducible refine scopeQ_n ?_
                | with_reducible refine scopeQ_r ?_
                | with_reducible refine scopeQ_x ?_
                | with_reducible refine T.ret ?_
                | with_reducible refine T.exit ?_
                | with_reducible refine seqQ_n ?_
                | with_reducible refine seqQ_x ?_
                | with_reducible refine seqQ_r ?_
                | with_reducible refine blockQ_n ?_
                | with_reducible refine blockQ_r ?_
                | with_reducible refine blockQ_x ?_
                | ((with_reducible refine g_blkx ?_); refine blockQ_y rfl ?_)
                | with_reducible refine loopQ_x ?_
                | with_reducible refine loopQ_r ?_
                | with_reducible refine joinQ_r ?_
                | with_reducible refine joinQ_x ?_
                | ((with_reducible refine g_cond ?_); (first | refine T.cond_t rfl ?_ | refine T.cond_f rfl ?_ | (refine T.cond_s rfl ?_ ?_ <;> intro hc)))
                | with_reducible refine TL_nil ?_
                | with_reducible refine TS_nil ?_
                | ((with_reducible refine g_draw ?_); (first | (((with_reducible refine' T.drawM (id := 4) [(0, false), (1, false), (2, false), (3, true), (4, false), (5, false), (6, false), (7, false), (8, false), (9, false), (10, false), (11, false), (12, false), (13, false), (14, true), (15, true), (16, true), (17, true), (18, true), (19, false), (20, false), (21, false), (22, false), (23, false), (24, false), (25, false)] mixd ?q1 ?_); (case q1 => kernel_rfl)))))
                | ((with_reducible refine TL_y' ?hy ?hd ?_); (case hy => rfl); (case hd => rfl))
                | with_reducible refine TL_e ?_
                | ((with_reducible refine g_TL ?_); (first | refine TL_gy' rfl rfl rfl rfl ?_ | refine TL_gn rfl rfl rfl ?_ | refine TL_gu rfl rfl rfl ?_ | refine TL_ge rfl rfl ?_ | refine TL_gn0 rfl rfl ?_))
                | ((with_reducible refine g_TS ?_); (first | refine TS_y rfl rfl ?_ | refine TS_e rfl ?_ | refine TS_gy rfl rfl rfl rfl ?_ | refine TS_gn rfl rfl rfl rfl ?_ | refine TS_gu rfl rfl rfl rfl ?_ | refine TS_ge rfl rfl rfl ?_ | refine TS_gne rfl rfl rfl rfl ?_ | refine TS_gue rfl rfl rfl rfl ?_ | refine TS_gne0 rfl rfl rfl ?_))
                | ((with_reducible refine TSand ?hd ?_); (case hd => (repeat (first | exact List.nil_sublist _ | refine List.Sublist.cons_cons _ ?_ | refine List.Sublist.cons _ ?_))))
                | ((with_reducible refine TBand ?hd ?_); (case hd => (repeat (first | exact List.nil_sublist _ | refine List.Sublist.cons_cons _ ?_ | refine List.Sublist.cons _ ?_))))
                | ((with_reducible refine g_TB ?_); (first | with_reducible refine TB_run ?_ | refine TB_y rfl rfl ?_ | refine TB_b rfl rfl ?_ ?_ | refine TB_e rfl ?_))
                | ((with_reducible refine is_move ?_); refine ⟨_, Yl_move rfl, ?_⟩)
                | ((with_reducible refine is_assign ?_); refine ⟨_, Yl_assign rfl, ?_⟩)
                | ((with_reducible refine is_pick ?_); (first | refine ⟨_, Yl_pick_t rfl rfl, ?_⟩ | refine ⟨_, Yl_pick_f rfl rfl, ?_⟩))
                | ((with_reducible refine is_load ?_); (first
                | ((refine' ⟨_, Yl_load_blk rfl ?q1 ?q2 ?q3, ?_⟩); (case q1 => exact one_of rfl); (case q2 => (repeat (first | exact .head _ | apply List.Mem.tail))); (case q3 => rfl))
                | ((refine' ⟨_, Yl_loadA_blk rfl ?q1 ?q2, ?_⟩); (case q1 => (repeat (first | exact .head _ | apply List.Mem.tail))); (case q2 => exact agg_of rfl))
                | ((refine' ⟨_, Yl_load_blk rfl ?q1 ?q2 ?q3, ?_⟩); (case q1 => exact one_of rfl); (case q2 => (repeat (first | exact .head _ | apply List.Mem.tail))); (case q3 => assumption))
                | ((refine' ⟨_, Yl_load_rd rfl ?q1 ?q2 List.not_mem_nil ?q3, ?_⟩); (case q1 => exact one_of rfl); (case q2 => assumption); (case q3 => assumption))
                | ((refine' ⟨_, Yl_load_row rfl ?q1 ?q2 ?q3, ?_⟩); (case q1 => exact one_of rfl); (case q2 => (repeat (first | exact .head _ | apply List.Mem.tail))); (case q3 => assumption))
                | ((refine' ⟨_, Yl_loadA_rd rfl ?qa ?qb List.not_mem_nil ?ql ?qc, ?_⟩); (case qa => exact agg_of rfl); (case qb => assumption); (case qc => assumption); (case ql => rfl))
                | ((refine' ⟨_, Yl_loadA_row rfl ?qa ?qb ?ql ?qc, ?_⟩); (case qa => exact agg_of rfl); (case qb => (repeat (first | exact .head _ | apply List.Mem.tail))); (case qc => assumption); (case ql => rfl))))
                | ((with_reducible refine is_idx ?_); (first
                | ((refine' ⟨_, Yl_index rfl rfl ?q1 ?q2 ?q3 (Rd.some_ ?q4 ?q5), ?_⟩); (case q1 => exact und_of rfl); (case q2 => exact siz_of rfl); (case q3 => omega); (case q4 => assumption); (case q5 => omega))
                | ((refine' ⟨_, Yl_index_row rfl rfl ?q1 ?q2 ?q3 ?q4, ?_⟩); (case q1 => exact und_of rfl); (case q2 => exact siz_of rfl); (case q3 => omega); (case q4 => (repeat (first | exact .head _ | apply List.Mem.tail))))
                | ((refine' ⟨_, Yl_index rfl rfl ?q1 ?q2 ?q3 rfl, ?_⟩); (case q1 => exact und_of rfl); (case q2 => exact siz_of rfl); (case q3 => omega))
                | ((refine' ⟨_, Yl_index (j := 0) rfl rfl ?q1 ?q2 ?q3 (Rd.some_ ?q4 ?q5), ?_⟩); (case q1 => exact und_of rfl); (case q2 => exact siz_of rfl); (case q3 => omega); (case q4 => assumption); (case q5 => omega))
                | ((refine' ⟨_, Yl_index_row (j := 0) rfl rfl ?q1 ?q2 ?q3 ?q4, ?_⟩); (case q1 => exact und_of rfl); (case q2 => exact siz_of rfl); (case q3 => omega); (case q4 => (repeat (first | exact .head _ | apply List.Mem.tail))))
                | ((refine' ⟨_, Yl_indexI rfl rfl ?q1 ?q2 ?q3 ?q4 (Rd.some_ ?q5 ?q6), ?_⟩); (case q1 => exact und_of rfl); (case q2 => exact siz_of rfl); (case q3 => omega); (case q4 => omega); (case q5 => assumption); (case q6 => omega))))
                | ((with_reducible refine is_un ?_); refine ⟨_, Yl_not rfl, ?_⟩)
                | ((with_reducible refine is_len ?_); (first | ((refine' ⟨_, Yl_len_slice rfl ?q1, ?_⟩); (case q1 => exact und_of rfl)) | ((refine' ⟨_, Yl_len_string rfl ?q1, ?_⟩); (case q1 => exact und_of rfl))))
                | ((with_reducible refine is_b_lss ?_); (first | ((refine' ⟨_, Yl_lss_t rfl rfl ?q1, ?_⟩); (case q1 => omega)) | ((refine' ⟨_, Yl_lss_f rfl rfl ?q1, ?_⟩); (case q1 => omega)) | (refine sp_lss rfl rfl ?_ ?_ <;> intro hc)))
                | ((with_reducible refine is_b_leq ?_); (first | ((refine' ⟨_, Yl_leq_t rfl rfl ?q1, ?_⟩); (case q1 => omega)) | ((refine' ⟨_, Yl_leq_f rfl rfl ?q1, ?_⟩); (case q1 => omega)) | (refine sp_leq rfl rfl ?_ ?_ <;> intro hc)))
                | ((with_reducible refine is_b_gtr ?_); (first | ((refine' ⟨_, Yl_gtr_t rfl rfl ?q1, ?_⟩); (case q1 => omega)) | ((refine' ⟨_, Yl_gtr_f rfl rfl ?q1, ?_⟩); (case q1 => omega)) | (refine sp_gtr rfl rfl ?_ ?_ <;> intro hc)))
                | ((with_reducible refine is_b_geq ?_); (first | ((refine' ⟨_, Yl_geq_t rfl rfl ?q1, ?_⟩); (case q1 => omega)) | ((refine' ⟨_, Yl_geq_f rfl rfl ?q1, ?_⟩); (case q1 => omega)) | (refine sp_geq rfl rfl ?_ ?_ <;> intro hc)))
                | ((with_reducible refine is_b_add ?_); (first | ((refine' ⟨_, Yl_add rfl rfl ?q1 ?q2, ?_⟩); (case q1 => omega); (case q2 => omega)) | ((refine' ⟨_, Yl_add8 rfl rfl ?q1 ?q2, ?_⟩); (case q1 => omega); (case q2 => omega))))
                | ((with_reducible refine is_b_sub ?_); (first | ((refine' ⟨_, Yl_sub rfl rfl ?q1 ?q2, ?_⟩); (case q1 => omega); (case q2 => omega))))
                | ((with_reducible refine ie_callf ?_); (first | ((with_reducible refine g_call 23 ?_); (first | refine Ef_callP rfl rfl ent_23 (fun w _ => rserial_v x true w hsx) ?_ | refine Ef_callP rfl rfl ent_23 (fun w _ => rserial_v x false w hsx) ?_))))
                | (fail; (first | ((fail_if_success have := b1); intro b1) | ((fail_if_success have := b2); intro b2) | ((fail_if_success have := b3); intro b3) | ((fail_if_success have := b4); intro b4) | ((fail_if_success have := b5); intro b5) | ((fail_if_success have := b6); intro b6) | ((fail_if_success have := b7); intro b7) | ((fail_if_success have := b8); intro b8) | ((fail_if_success have := b9); intro b9) | ((fail_if_success have := b10); intro b10) | ((fail_if_success have := b11); intro b11) | ((fail_if_success have := b12); intro b12)))
                | (fail; (first | ((fail_if_success have := A1); intro A1 c1) | ((fail_if_success have := A2); intro A2 c2) | ((fail_if_success have := A3); intro A3 c3) | ((fail_if_success have := A4); intro A4 c4) | ((fail_if_success have := A5); intro A5 c5) | ((fail_if_success have := A6); intro A6 c6) | ((fail_if_success have := A7); intro A7 c7)))
                | refine Ef_y rfl rfl ?_)
            exact ret_n [] (res1 rfl rfl) (List.nil_sublist _) ⟨rfl, rfl⟩
    · rw [Rv.pre_all hm (by omega) (by omega)]
      repeat' (first
          | with_reducible refine T.seq ?_
          | with_reducible refine T.block ?_
          | with_reducible refine T.region ?_
          | with_reducible refine T.skip ?_
          | with_reducible refine T.scope ?_
          | with_reducible refine T.label ?_
          | with_reducible refine scopeQ_n ?_
          | with_reducible refine scopeQ_r ?_
          | with_reducible refine scopeQ_x ?_
          | with_reducible refine T.ret ?_
          | with_reducible refine T.exit ?_
          | with_reducible refine seqQ_n ?_
          | with_reducible refine seqQ_x ?_
          | with_reducible refine seqQ_r ?_
          | with_reducible refine blockQ_n ?_
          | with_reducible refine blockQ_r ?_
          | with_reducible refine blockQ_x ?_
          | ((with_reducible refine g_blkx ?_); refine blockQ_y rfl ?_)
          | with_reducible refine loopQ_x ?_
          | with_reducible refine loopQ_r ?_
          | with_reducible refine joinQ_r ?_
          | with_reducible refine joinQ_x ?_
          | ((with_reducible refine g_cond ?_); (first | refine T.cond_t rfl ?_ | refine T.cond_f rfl ?_ | (refine T.cond_s rfl ?_ ?_ <;> intro hc)))
          | with_reducible refine TL_nil ?_
          | with_reducible refine TS_nil ?_
          | ((with_reducible refine g_draw ?_); (first | (((with_reducible refine' T.drawM (id := 4) [(0, false), (1, false), (2, false), (3, true), (4, false), (5, false), (6, false), (7, false), (8, false), (9, false), (10, false), (11, false), (12, false), (13, false), (14, true), (15, true), (16, true), (17, true), (18, true), (19, false), (20, false), (21, false), (22, false), (23, false), (24, false), (25, false)] mixd ?q1 ?_); (case q1 => kernel_rfl)))))
          | ((with_reducible refine TL_y' ?hy ?hd ?_); (case hy => rfl); (case hd => rfl))
          | with_reducible refine TL_e ?_
          | ((with_reducible refine g_TL ?_); (first | refine TL_gy' rfl rfl rfl rfl ?_ | refine TL_gn rfl rfl rfl ?_ | refine TL_gu rfl rfl rfl ?_ | refine TL_ge rfl rfl ?_ | refine TL_gn0 rfl rfl ?_))
          | ((with_reducible refine g_TS ?_); (first | refine TS_y rfl rfl ?_ | refine TS_e rfl ?_ | refine TS_gy rfl rfl rfl rfl ?_ | refine TS_gn rfl rfl rfl rfl ?_ | refine TS_gu rfl rfl rfl rfl ?_ | refine TS_ge rfl rfl rfl ?_ | refine TS_gne rfl rfl rfl rfl ?_ | refine TS_gue rfl rfl rfl rfl ?_ | refine TS_gne0 rfl rfl rfl ?_))
          | ((with_reducible refine TSand ?hd ?_); (case hd => (repeat (first | exact List.nil_sublist _ | refine List.Sublist.cons_cons _ ?_ | refine List.Sublist.cons _ ?_))))
          | ((with_reducible refine TBand ?hd ?_); (case hd => (repeat (first | exact List.nil_sublist _ | refine List.Sublist.cons_cons _ ?_ | refine List.Sublist.cons _ ?_))))
          | ((with_reducible refine g_TB ?_); (first | with_reducible refine TB_run ?_ | refine TB_y rfl rfl ?_ | refine TB_b rfl rfl ?_ ?_ | refine TB_e rfl ?_))
          | ((with_reducible refine is_move ?_); refine ⟨_, Yl_move rfl, ?_⟩)
          | ((with_reducible refine is_assign ?_); refine ⟨_, Yl_assign rfl, ?_⟩)
          | ((with_reducible refine is_pick ?_); (first | refine ⟨_, Yl_pick_t rfl rfl, ?_⟩ | refine ⟨_, Yl_pick_f rfl rfl, ?_⟩))
          | ((with_reducible refine is_load ?_); (first
          | ((refine' ⟨_, Yl_load_blk rfl ?q1 ?q2 ?q3, ?_⟩); (case q1 => exact one_of rfl); (case q2 => (repeat (first | exact .head _ | apply List.Mem.tail))); (case q3 => rfl))
          | ((refine' ⟨_, Yl_loadA_blk rfl ?q1 ?q2, ?_⟩); (case q1 => (repeat (first | exact .head _ | apply List.Mem.tail))); (case q2 => exact agg_of rfl))
          | ((refine' ⟨_, Yl_load_blk rfl ?q1 ?q2 ?q3, ?_⟩); (case q1 => exact one_of rfl); (case q2 => (repeat (first | exact .head _ | apply List.Mem.tail))); (case q3 => assumption))
          | ((refine' ⟨_, Yl_load_rd rfl ?q1 ?q2 List.not_mem_nil ?q3, ?_⟩); (case q1 => exact one_of rfl); (case q2 => assumption); (case q3 => assumption))
          | ((refine' ⟨_, Yl_load_row rfl ?q1 ?q2 ?q3, ?_⟩); (case q1 => exact one_of rfl); (case q2 => (repeat (first | exact .head _ | apply List.Mem.tail))); (case q3 => assumption))
          | ((refine' ⟨_, Yl_loadA_rd rfl ?qa ?qb List.not_mem_nil ?ql ?qc, ?_⟩); (case qa => exact agg_of rfl); (case qb => assumption); (case qc => assumption); (case ql => rfl))
          | ((refine' ⟨_, Yl_loadA_row rfl ?qa ?qb ?ql ?qc, ?_⟩); (case qa => exact agg_of rfl); (case qb => (repeat (first | exact .head _ | apply List.Mem.tail))); (case qc => assumption); (case ql => rfl))))
          | ((with_reducible refine is_idx ?_); (first
          | ((refine' ⟨_, Yl_index rfl rfl ?q1 ?q2 ?q3 (Rd.some_ ?q4 ?q5), ?_⟩); (case q1 => exact und_of rfl); (case q2 => exact siz_of rfl); (case q3 => omega); (case q4 => assumption); (case q5 => omega))
          | ((refine' ⟨_, Yl_index_row rfl rfl ?q1 ?q2 ?q3 ?q4, ?_⟩); (case q1 => exact und_of rfl); (case q2 => exact siz_of rfl); (case q3 => omega); (case q4 => (repeat (first | exact .head _ | apply List.Mem.tail))))
          | ((refine' ⟨_, Yl_index rfl rfl ?q1 ?q2 ?q3 rfl, ?_⟩); (case q1 => exact und_of rfl); (case q2 => exact siz_of rfl); (case q3 => omega))
          | ((refine' ⟨_, Yl_index (j := 0) rfl rfl ?q1 ?q2 ?q3 (Rd.some_ ?q4 ?q5), ?_⟩); (case q1 => exact und_of rfl); (case q2 => exact siz_of rfl); (case q3 => omega); (case q4 => assumption); (case q5 => omega))
          | ((refine' ⟨_, Yl_index_row (j := 0) rfl rfl ?q1 ?q2 ?q3 ?q4, ?_⟩); (case q1 => exact und_of rfl); (case q2 => exact siz_of rfl); (case q3 => omega); (case q4 => (repeat (first | exact .head _ | apply List.Mem.tail))))
          | ((refine' ⟨_, Yl_indexI rfl rfl ?q1 ?q2 ?q3 ?q4 (Rd.some_ ?q5 ?q6), ?_⟩); (case q1 => exact und_of rfl); (case q2 => exact siz_of rfl); (case q3 => omega); (case q4 => omega); (case q5 => assumption); (case q6 => omega))))
          | ((with_reducible refine is_un ?_); refine ⟨_, Yl_not rfl, ?_⟩)
          | ((with_reducible refine is_len ?_); (first | ((refine' ⟨_, Yl_len_slice rfl ?q1, ?_⟩); (case q1 => exact und_of rfl)) | ((refine' ⟨_, Yl_len_string rfl ?q1, ?_⟩); (case q1 => exact und_of rfl))))
          | ((with_reducible refine is_b_lss ?_); (first | ((refine' ⟨_, Yl_lss_t rfl rfl ?q1, ?_⟩); (case q1 => omega)) | ((refine' ⟨_, Yl_lss_f rfl rfl ?q1, ?_⟩); (case q1 => omega)) | (refine sp_lss rfl rfl ?_ ?_ <;> intro hc)))
          | ((with_reducible refine is_b_leq ?_); (first | ((refine' ⟨_, Yl_leq_t rfl rfl ?q1, ?_⟩); (case q1 => omega)) | ((refine' ⟨_, Yl_leq_f rfl rfl ?q1, ?_⟩); (case q1 => omega)) | (refine sp_leq rfl rfl ?_ ?_ <;> intro hc)))
          | ((with_reducible refine is_b_gtr ?_); (first | ((refine' ⟨_, Yl_gtr_t rfl rfl ?q1, ?_⟩); (case q1 => omega)) | ((refine' ⟨_, Yl_gtr_f rfl rfl ?q1, ?_⟩); (case q1 => omega)) | (refine sp_gtr rfl rfl ?_ ?_ <;> intro hc)))
          | ((with_reducible refine is_b_geq ?_); (first | ((refine' ⟨_, Yl_geq_t rfl rfl ?q1, ?_⟩); (case q1 => omega)) | ((refine' ⟨_, Yl_geq_f rfl rfl ?q1, ?_⟩); (case q1 => omega)) | (refine sp_geq rfl rfl ?_ ?_ <;> intro hc)))
          | ((with_reducible refine is_b_add ?_); (first | ((refine' ⟨_, Yl_add rfl rfl ?q1 ?q2, ?_⟩); (case q1 => omega); (case q2 => omega)) | ((refine' ⟨_, Yl_add8 rfl rfl ?q1 ?q2, ?_⟩); (case q1 => omega); (case q2 => omega))))
          | ((with_reducible refine is_b_sub ?_); (first | ((refine' ⟨_, Yl_sub rfl rfl ?q1 ?q2, ?_⟩); (case q1 => omega); (case q2 => omega))))
          | ((with_reducible refine ie_callf ?_); (first | ((with_reducible refine g_call 23 ?_); (first | refine Ef_callP rfl rfl ent_23 (fun w _ => rserial_v x true w hsx) ?_ | refine Ef_callP rfl rfl ent_23 (fun w _ => rserial_v x false w hsx) ?_))))
          | (fail; (first | ((fail_if_success have := b1); intro b1) | ((fail_if_success have := b2); intro b2) | ((fail_if_success have := b3); intro b3) | ((fail_if_success have := b4); intro b4) | ((fail_if_success have := b5); intro b5) | ((fail_if_success have := b6); intro b6) | ((fail_if_success have := b7); intro b7) | ((fail_if_success have := b8); intro b8) | ((fail_if_success have := b9); intro b9) | ((fail_if_success have := b10); intro b10) | ((fail_if_success have := b11); intro b11) | ((fail_if_success have := b12); intro b12)))
          | (fail; (first | ((fail_if_success have := A1); intro A1 c1) | ((fail_if_success have := A2); intro A2 c2) | ((fail_if_success have := A3); intro A3 c3) | ((fail_if_success have := A4); intro A4 c4) | ((fail_if_success have := A5); intro A5 c5) | ((fail_if_success have := A6); intro A6 c6) | ((fail_if_success have := A7); intro A7 c7)))
          | refine Ef_y rfl rfl ?_)
      exact ret_n [] (res1 rfl rfl) (List.nil_sublist _) ⟨rfl, rfl⟩

/-- The first place of a number; less than nothing: it is not there. -/
def idxI (n : Int) (l : List Int) : Int := match l.findIdx? (· == n) with
  | some i => (i : Int)
  | none => -1
theorem idxI_t {n : Int} {l : List Int} {i : Nat} (h : l[i]? = some n) (hno : ¬ n ∈ l.take i) : idxI n l = (i : Int) := by
  unfold idxI
  have : l.findIdx? (· == n) = some i := by
    obtain ⟨hi, he⟩ := List.getElem?_eq_some_iff.1 h
    rw [List.findIdx?_eq_some_iff_getElem]
    refine ⟨hi, by simp [he], fun j hj => ?_⟩
    simp only [beq_iff_eq]
    intro e
    exact hno (List.mem_take_iff_getElem.2 ⟨j, by omega, e⟩)
  rw [this]
theorem idxI_f {n : Int} {l : List Int} (h : ¬ n ∈ l) : idxI n l = -1 := by
  unfold idxI
  have : l.findIdx? (· == n) = none := by
    rw [List.findIdx?_eq_none_iff]
    intro x hx
    simp only [beq_eq_false_iff_ne]
    intro e; subst e; exact h hx
  rw [this]
theorem idxI_iff (n : Int) (l : List Int) : 0 ≤ idxI n l ↔ n ∈ l := by
  by_cases h : n ∈ l
  · simp only [h, iff_true]
    unfold idxI
    cases hf : l.findIdx? (· == n) with
    | none =>
      rw [List.findIdx?_eq_none_iff] at hf
      have := hf n h
      simp at this
    | some i => dsimp only; omega
  · rw [idxI_f h]; simp [h]

theorem index_c (n : Int) (w : World) (hr : Rd w A len 1 (l.flatMap (eI .i64))) (hl : l.length = len) (hle : len ≤ 9223372036854775807) : Sp Try.prog 27 [.slice A len cap, .int .i64 n] w [] fun v N => v = .int .i64 (idxI n l) ∧ N = [] := by
  refine Sp.enter (n := 19) Try.func27 rfl rfl rfl (Hp.refl w) ?_
  repeat' (first
      | with_reducible refine T.seq ?_
      | with_reducible refine T.block ?_
      | with_reducible refine T.region ?_
      | with_reducible refine T.skip ?_
      | with_reducible refine T.scope ?_
      | with_reducible refine T.label ?_
      | with_reducible refine scopeQ_n ?_
      | with_reducible refine scopeQ_r ?_
      | with_reducible refine scopeQ_x ?_
      | with_reducible refine T.ret ?_
      | with_reducible refine T.exit ?_
      | with_reducible refine seqQ_n ?_
      | with_reducible refine seqQ_x ?_
      | with_reducible refine seqQ_r ?_
      | with_reducible refine blockQ_n ?_
      | with_reducible refine blockQ_r ?_
      | with_reducible refine blockQ_x ?_
      | ((with_reducible refine g_blkx ?_); refine blockQ_y rfl ?_)
      | with_reducible refine loopQ_x ?_
      | with_reducible refine loopQ_r ?_
      | with_reducible refine joinQ_r ?_
      | with_reducible refine joinQ_x ?_
      | ((with_reducible refine g_cond ?_); (first | refine T.cond_t rfl ?_ | refine T.cond_f rfl ?_ | (refine T.cond_s rfl ?_ ?_ <;> intro hc)))
      | with_reducible refine TL_nil ?_
      | with_reducible refine TS_nil ?_
      | ((with_reducible refine TL_y' ?hy ?hd ?_); (case hy => rfl); (case hd => rfl))
      | with_reducible refine TL_e ?_
      | ((with_reducible refine g_TL ?_); (first | refine TL_gy' rfl rfl rfl rfl ?_ | refine TL_gn rfl rfl rfl ?_ | refine TL_gu rfl rfl rfl ?_ | refine TL_ge rfl rfl ?_ | refine TL_gn0 rfl rfl ?_))
      | ((with_reducible refine g_TS ?_); (first | refine TS_y rfl rfl ?_ | refine TS_e rfl ?_ | refine TS_gy rfl rfl rfl rfl ?_ | refine TS_gn rfl rfl rfl rfl ?_ | refine TS_gu rfl rfl rfl rfl ?_ | refine TS_ge rfl rfl rfl ?_ | refine TS_gne rfl rfl rfl rfl ?_ | refine TS_gue rfl rfl rfl rfl ?_ | refine TS_gne0 rfl rfl rfl ?_))
      | ((with_reducible refine TSand ?hd ?_); (case hd => (repeat (first | exact List.nil_sublist _ | refine List.Sublist.cons_cons _ ?_ | refine List.Sublist.cons _ ?_))))
      | ((with_reducible refine TBand ?hd ?_); (case hd => (repeat (first | exact List.nil_sublist _ | refine List.Sublist.cons_cons _ ?_ | refine List.Sublist.cons _ ?_))))
      | ((with_reducible refine g_TB ?_); (first | with_reducible refine TB_run ?_ | refine TB_y rfl rfl ?_ | refine TB_b rfl rfl ?_ ?_ | refine TB_e rfl ?_))
      | ((with_reducible refine is_move ?_); refine ⟨_, Yl_move rfl, ?_⟩)
      | ((with_reducible refine is_assign ?_); refine ⟨_, Yl_assign rfl, ?_⟩)
      | ((with_reducible refine is_load ?_); (first
      | ((refine' ⟨_, Yl_load_blk rfl ?q1 ?q2 ?q3, ?_⟩); (case q1 => exact one_of rfl); (case q2 => (repeat (first | exact .head _ | apply List.Mem.tail))); (case q3 => rfl))
      | ((refine' ⟨_, Yl_loadA_blk rfl ?q1 ?q2, ?_⟩); (case q1 => (repeat (first | exact .head _ | apply List.Mem.tail))); (case q2 => exact agg_of rfl))
      | ((refine' ⟨_, Yl_load_blk rfl ?q1 ?q2 ?q3, ?_⟩); (case q1 => exact one_of rfl); (case q2 => (repeat (first | exact .head _ | apply List.Mem.tail))); (case q3 => assumption))
      | ((refine' ⟨_, Yl_load_rd rfl ?q1 ?q2 List.not_mem_nil ?q3, ?_⟩); (case q1 => exact one_of rfl); (case q2 => assumption); (case q3 => assumption))
      | ((refine' ⟨_, Yl_load_row rfl ?q1 ?q2 ?q3, ?_⟩); (case q1 => exact one_of rfl); (case q2 => (repeat (first | exact .head _ | apply List.Mem.tail))); (case q3 => assumption))
      | ((refine' ⟨_, Yl_loadA_rd rfl ?qa ?qb List.not_mem_nil ?ql ?qc, ?_⟩); (case qa => exact agg_of rfl); (case qb => assumption); (case qc => assumption); (case ql => rfl))
      | ((refine' ⟨_, Yl_loadA_row rfl ?qa ?qb ?ql ?qc, ?_⟩); (case qa => exact agg_of rfl); (case qb => (repeat (first | exact .head _ | apply List.Mem.tail))); (case qc => assumption); (case ql => rfl))))
      | ((with_reducible refine is_idx ?_); (first
      | ((refine' ⟨_, Yl_index rfl rfl ?q1 ?q2 ?q3 (Rd.some_ ?q4 ?q5), ?_⟩); (case q1 => exact und_of rfl); (case q2 => exact siz_of rfl); (case q3 => omega); (case q4 => assumption); (case q5 => omega))
      | ((refine' ⟨_, Yl_index_row rfl rfl ?q1 ?q2 ?q3 ?q4, ?_⟩); (case q1 => exact und_of rfl); (case q2 => exact siz_of rfl); (case q3 => omega); (case q4 => (repeat (first | exact .head _ | apply List.Mem.tail))))
      | ((refine' ⟨_, Yl_index rfl rfl ?q1 ?q2 ?q3 rfl, ?_⟩); (case q1 => exact und_of rfl); (case q2 => exact siz_of rfl); (case q3 => omega))
      | ((refine' ⟨_, Yl_index (j := 0) rfl rfl ?q1 ?q2 ?q3 (Rd.some_ ?q4 ?q5), ?_⟩); (case q1 => exact und_of rfl); (case q2 => exact siz_of rfl); (case q3 => omega); (case q4 => assumption); (case q5 => omega))
      | ((refine' ⟨_, Yl_index_row (j := 0) rfl rfl ?q1 ?q2 ?q3 ?q4, ?_⟩); (case q1 => exact und_of rfl); (case q2 => exact siz_of rfl); (case q3 => omega); (case q4 => (repeat (first | exact .head _ | apply List.Mem.tail))))
      | ((refine' ⟨_, Yl_indexI rfl rfl ?q1 ?q2 ?q3 ?q4 (Rd.some_ ?q5 ?q6), ?_⟩); (case q1 => exact und_of rfl); (case q2 => exact siz_of rfl); (case q3 => omega); (case q4 => omega); (case q5 => assumption); (case q6 => omega))))
      | ((with_reducible refine is_len ?_); (first | ((refine' ⟨_, Yl_len_slice rfl ?q1, ?_⟩); (case q1 => exact und_of rfl)) | ((refine' ⟨_, Yl_len_string rfl ?q1, ?_⟩); (case q1 => exact und_of rfl))))
      | ((with_reducible refine is_b_lss ?_); (first | ((refine' ⟨_, Yl_lss_t rfl rfl ?q1, ?_⟩); (case q1 => omega)) | ((refine' ⟨_, Yl_lss_f rfl rfl ?q1, ?_⟩); (case q1 => omega)) | (refine sp_lss rfl rfl ?_ ?_ <;> intro hc)))
      | ((with_reducible refine is_b_eql ?_); (first | ((refine' ⟨_, Yl_eql_t rfl rfl ?q1, ?_⟩); (case q1 => omega)) | ((refine' ⟨_, Yl_eql_f rfl rfl ?q1, ?_⟩); (case q1 => omega)) | (refine sp_eql rfl rfl ?_ ?_ <;> intro hc)  | ((refine' ⟨_, Yl_eql_bool rfl rfl ?q1, ?_⟩); (case q1 => exact und_of rfl)) | ((refine' ⟨_, Yl_eql_strT rfl rfl ?q1, ?_⟩); (case q1 => first | assumption | rfl)) | ((refine' ⟨_, Yl_eql_strF rfl rfl ?q1, ?_⟩); (case q1 => first | assumption | decide)) | (refine sp_eqlS rfl rfl ?_ ?_ <;> intro hc)))
      | ((with_reducible refine is_b_add ?_); (first | ((refine' ⟨_, Yl_add rfl rfl ?q1 ?q2, ?_⟩); (case q1 => omega); (case q2 => omega)) | ((refine' ⟨_, Yl_add8 rfl rfl ?q1 ?q2, ?_⟩); (case q1 => omega); (case q2 => omega))))
      | (fail; (first | ((fail_if_success have := b1); intro b1) | ((fail_if_success have := b2); intro b2) | ((fail_if_success have := b3); intro b3) | ((fail_if_success have := b4); intro b4) | ((fail_if_success have := b5); intro b5) | ((fail_if_success have := b6); intro b6) | ((fail_if_success have := b7); intro b7) | ((fail_if_success have := b8); intro b8) | ((fail_if_success have := b9); intro b9) | ((fail_if_success have := b10); intro b10) | ((fail_if_success have := b11); intro b11) | ((fail_if_success have := b12); intro b12)))
      | (fail; (first | ((fail_if_success have := A1); intro A1 c1) | ((fail_if_success have := A2); intro A2 c2) | ((fail_if_success have := A3); intro A3 c3) | ((fail_if_success have := A4); intro A4 c4) | ((fail_if_success have := A5); intro A5 c5) | ((fail_if_success have := A6); intro A6 c6) | ((fail_if_success have := A7); intro A7 c7)))
      | refine Ef_y rfl rfl ?_)
  refine T.loop (α := Nat) (fun i => [(0, .slice A len cap), (1, .int .i64 n), (7, .int .i64 (len : Int)), (8, .int .i64 (i : Int))]) (fun _ => []) (fun i => i ≤ len ∧ ¬ n ∈ l.take i) (fun i => len - i) 0 ?_ ?_ ?_ ?_
  · (repeat (first | exact Sub.nil | refine Sub.cons rfl ?_))
  · (repeat (first | exact List.nil_sublist _ | refine List.Sublist.cons_cons _ ?_ | refine List.Sublist.cons _ ?_))
  · exact ⟨Nat.zero_le _, by simp⟩
  · rintro i ⟨hi, hno⟩
    by_cases hlt : i < len
    · obtain ⟨x, hx⟩ := some_of_lt (l := l) (i := i) (by omega)
      have e0 : (l.flatMap (eI .i64))[i * 1 + 0]? = some (.int .i64 x) := enc_at (eI_len .i64) hx (by omega)
      by_cases he : n = x
      · subst he
        rw [idxI_t hx hno]
        repeat' (first
            | with_reducible refine T.seq ?_
            | with_reducible refine T.block ?_
            | with_reducible refine T.region ?_
            | with_reducible refine T.skip ?_
            | with_reducible refine T.scope ?_
            | with_reducible refine T.label ?_
            | with_reducible refine scopeQ_n ?_
            | with_reducible refine scopeQ_r ?_
            | with_reducible refine scopeQ_x ?_
            | with_reducible refine T.ret ?_
            | with_reducible refine T.exit ?_
            | with_reducible refine seqQ_n ?_
            | with_reducible refine seqQ_x ?_
            | with_reducible refine seqQ_r ?_
            | with_reducible refine blockQ_n ?_
            | with_reducible refine blockQ_r ?_
            | with_reducible refine blockQ_x ?_
            | ((with_reducible refine g_blkx ?_); refine blockQ_y rfl ?_)
            | with_reducible refine loopQ_x ?_
            | with_reducible refine loopQ_r ?_
            | with_reducible refine joinQ_r ?_
            | with_reducible refine joinQ_x ?_
            | ((with_reducible refine g_cond ?_); (first | refine T.cond_t rfl ?_ | refine T.cond_f rfl ?_ | (refine T.cond_s rfl ?_ ?_ <;> intro hc)))
            | with_reducible refine TL_nil ?_
            | with_reducible refine TS_nil ?_
            | ((with_reducible refine TL_y' ?hy ?hd ?_); (case hy => rfl); (case hd => rfl))
            | with_reducible refine TL_e ?_
            | ((with_reducible refine g_TL ?_); (first | refine TL_gy' rfl rfl rfl rfl ?_ | refine TL_gn rfl rfl rfl ?_ | refine TL_gu rfl rfl rfl ?_ | refine TL_ge rfl rfl ?_ | refine TL_gn0 rfl rfl ?_))
            | ((with_reducible refine g_TS ?_); (first | refine TS_y rfl rfl ?_ | refine TS_e rfl ?_ | refine TS_gy rfl rfl rfl rfl ?_ | refine TS_gn rfl rfl rfl rfl ?_ | refine TS_gu rfl rfl rfl rfl ?_ | refine TS_ge rfl rfl rfl ?_ | refine TS_gne rfl rfl rfl rfl ?_ | refine TS_gue rfl rfl rfl rfl ?_ | refine TS_gne0 rfl rfl rfl ?_))
            | ((with_reducible refine TSand ?hd ?_); (case hd => (repeat (first | exact List.nil_sublist _ | refine List.Sublist.cons_cons _ ?_ | refine List.Sublist.cons _ ?_))))
            | ((with_reducible refine TBand ?hd ?_); (case hd => (repeat (first | exact List.nil_sublist _ | refine List.Sublist.cons_cons _ ?_ | refine List.Sublist.cons _ ?_))))
            | ((with_reducible refine g_TB ?_); (first | with_reducible refine TB_run ?_ | refine TB_y rfl rfl ?_ | refine TB_b rfl rfl ?_ ?_ | refine TB_e rfl ?_))
            | ((with_reducible refine is_move ?_); refine ⟨_, Yl_move rfl, ?_⟩)
            | ((with_reducible refine is_assign ?_); refine ⟨_, Yl_assign rfl, ?_⟩)
            | ((with_reducible refine is_load ?_); (first
            | ((refine' ⟨_, Yl_load_blk rfl ?q1 ?q2 ?q3, ?_⟩); (case q1 => exact one_of rfl); (case q2 => (repeat (first | exact .head _ | apply List.Mem.tail))); (case q3 => rfl))
            | ((refine' ⟨_, Yl_loadA_blk rfl ?q1 ?q2, ?_⟩); (case q1 => (repeat (first | exact .head _ | apply List.Mem.tail))); (case q2 => exact agg_of rfl))
            | ((refine' ⟨_, Yl_load_blk rfl ?q1 ?q2 ?q3, ?_⟩); (case q1 => exact one_of rfl); (case q2 => (repeat (first | exact .head _ | apply List.Mem.tail))); (case q3 => assumption))
            | ((refine' ⟨_, Yl_load_rd rfl ?q1 ?q2 List.not_mem_nil ?q3, ?_⟩); (case q1 => exact one_of rfl); (case q2 => assumption); (case q3 => assumption))
            | ((refine' ⟨_, Yl_load_row rfl ?q1 ?q2 ?q3, ?_⟩); (case q1 => exact one_of rfl); (case q2 => (repeat (first | exact .head _ | apply List.Mem.tail))); (case q3 => assumption))
            | ((refine' ⟨_, Yl_loadA_rd rfl ?qa ?qb List.not_mem_nil ?ql ?qc, ?_⟩); (case qa => exact agg_of rfl); (case qb => assumption); (case qc => assumption); (case ql => rfl))
            | ((refine' ⟨_, Yl_loadA_row rfl ?qa ?qb ?ql ?qc, ?_⟩); (case qa => exact agg_of rfl); (case qb => (repeat (first | exact .head _ | apply List.Mem.tail))); (case qc => assumption); (case ql => rfl))))
            | ((with_reducible refine is_idx ?_); (first
            | ((refine' ⟨_, Yl_index rfl rfl ?q1 ?q2 ?q3 (Rd.some_ ?q4 ?q5), ?_⟩); (case q1 => exact und_of rfl); (case q2 => exact siz_of rfl); (case q3 => omega); (case q4 => assumption); (case q5 => omega))
            | ((refine' ⟨_, Yl_index_row rfl rfl ?q1 ?q2 ?q3 ?q4, ?_⟩); (case q1 => exact und_of rfl); (case q2 => exact siz_of rfl); (case q3 => omega); (case q4 => (repeat (first | exact .head _ | apply List.Mem.tail))))
            | ((refine' ⟨_, Yl_index rfl rfl ?q1 ?q2 ?q3 rfl, ?_⟩); (case q1 => exact und_of rfl); (case q2 => exact siz_of rfl); (case q3 => omega))
            | ((refine' ⟨_, Yl_index (j := 0) rfl rfl ?q1 ?q2 ?q3 (Rd.some_ ?q4 ?q5), ?_⟩); (case q1 => exact und_of rfl); (case q2 => exact siz_of rfl); (case q3 => omega); (case q4 => assumption); (case q5 => omega))
            | ((refine' ⟨_, Yl_index_row (j := 0) rfl rfl ?q1 ?q2 ?q3 ?q4, ?_⟩); (case q1 => exact und_of rfl); (case q2 => exact siz_of rfl); (case q3 => omega); (case q4 => (repeat (first | exact .head _ | apply List.Mem.tail))))
            | ((refine' ⟨_, Yl_indexI rfl rfl ?q1 ?q2 ?q3 ?q4 (Rd.some_ ?q5 ?q6), ?_⟩); (case q1 => exact und_of rfl); (case q2 => exact siz_of rfl); (case q3 => omega); (case q4 => omega); (case q5 => assumption); (case q6 => omega))))
            | ((with_reducible refine is_len ?_); (first | ((refine' ⟨_, Yl_len_slice rfl ?q1, ?_⟩); (case q1 => exact und_of rfl)) | ((refine' ⟨_, Yl_len_string rfl ?q1, ?_⟩); (case q1 => exact und_of rfl))))
            | ((with_reducible refine is_b_lss ?_); (first | ((refine' ⟨_, Yl_lss_t rfl rfl ?q1, ?_⟩); (case q1 => omega)) | ((refine' ⟨_, Yl_lss_f rfl rfl ?q1, ?_⟩); (case q1 => omega)) | (refine sp_lss rfl rfl ?_ ?_ <;> intro hc)))
            | ((with_reducible refine is_b_eql ?_); (first | ((refine' ⟨_, Yl_eql_t rfl rfl ?q1, ?_⟩); (case q1 => omega)) | ((refine' ⟨_, Yl_eql_f rfl rfl ?q1, ?_⟩); (case q1 => omega)) | (refine sp_eql rfl rfl ?_ ?_ <;> intro hc)  | ((refine' ⟨_, Yl_eql_bool rfl rfl ?q1, ?_⟩); (case q1 => exact und_of rfl)) | ((refine' ⟨_, Yl_eql_strT rfl rfl ?q1, ?_⟩); (case q1 => first | assumption | rfl)) | ((refine' ⟨_, Yl_eql_strF rfl rfl ?q1, ?_⟩); (case q1 => first | assumption | decide)) | (refine sp_eqlS rfl rfl ?_ ?_ <;> intro hc)))
            | ((with_reducible refine is_b_add ?_); (first | ((refine' ⟨_, Yl_add rfl rfl ?q1 ?q2, ?_⟩); (case q1 => omega); (case q2 => omega)) | ((refine' ⟨_, Yl_add8 rfl rfl ?q1 ?q2, ?_⟩); (case q1 => omega); (case q2 => omega))))
            | (fail; (first | ((fail_if_success have := b1); intro b1) | ((fail_if_success have := b2); intro b2) | ((fail_if_success have := b3); intro b3) | ((fail_if_success have := b4); intro b4) | ((fail_if_success have := b5); intro b5) | ((fail_if_success have := b6); intro b6) | ((fail_if_success have := b7); intro b7) | ((fail_if_success have := b8); intro b8) | ((fail_if_success have := b9); intro b9) | ((fail_if_success have := b10); intro b10) | ((fail_if_success have := b11); intro b11) | ((fail_if_success have := b12); intro b12)))
            | (fail; (first | ((fail_if_success have := A1); intro A1 c1) | ((fail_if_success have := A2); intro A2 c2) | ((fail_if_success have := A3); intro A3 c3) | ((fail_if_success have := A4); intro A4 c4) | ((fail_if_success have := A5); intro A5 c5) | ((fail_if_success have := A6); intro A6 c6) | ((fail_if_success have := A7); intro A7 c7)))
            | refine Ef_y rfl rfl ?_)
        exact ret_n [] (res1 rfl rfl) (List.nil_sublist _) ⟨rfl, rfl⟩
      · repeat' (first
          | with_reducible refine T.seq ?_
          | with_reducible refine T.block ?_
          | with_reducible refine T.region ?_
          | with_reducible refine T.skip ?_
          | with_reducible refine T.scope ?_
          | with_reducible refine T.label ?_
          | with_reducible refine scopeQ_n ?_
          | with_reducible refine scopeQ_r ?_
          | with_reducible refine scopeQ_x ?_
          | with_reducible refine T.ret ?_
          | with_reducible refine T.exit ?_
          | with_reducible refine seqQ_n ?_
          | with_reducible refine seqQ_x ?_
          | with_reducible refine seqQ_r ?_
          | with_reducible refine blockQ_n ?_
          | with_reducible refine blockQ_r ?_
          | with_reducible refine blockQ_x ?_
          | ((with_reducible refine g_blkx ?_); refine blockQ_y rfl ?_)
          | with_reducible refine loopQ_x ?_
          | with_reducible refine loopQ_r ?_
          | with_reducible refine joinQ_r ?_
          | with_reducible refine joinQ_x ?_
          | ((with_reducible refine g_cond ?_); (first | refine T.cond_t rfl ?_ | refine T.cond_f rfl ?_ | (refine T.cond_s rfl ?_ ?_ <;> intro hc)))
          | with_reducible refine TL_nil ?_
          | with_reducible refine TS_nil ?_
          | ((with_reducible refine TL_y' ?hy ?hd ?_); (case hy => rfl); (case hd => rfl))
          | with_reducible refine TL_e ?_
          | ((with_reducible refine g_TL ?_); (first | refine TL_gy' rfl rfl rfl rfl ?_ | refine TL_gn rfl rfl rfl ?_ | refine TL_gu rfl rfl rfl ?_ | refine TL_ge rfl rfl ?_ | refine TL_gn0 rfl rfl ?_))
          | ((with_reducible refine g_TS ?_); (first | refine TS_y rfl rfl ?_ | refine TS_e rfl ?_ | refine TS_gy rfl rfl rfl rfl ?_ | refine TS_gn rfl rfl rfl rfl ?_ | refine TS_gu rfl rfl rfl rfl ?_ | refine TS_ge rfl rfl rfl ?_ | refine TS_gne rfl rfl rfl rfl ?_ | refine TS_gue rfl rfl rfl rfl ?_ | refine TS_gne0 rfl rfl rfl ?_))
          | ((with_reducible refine TSand ?hd ?_); (case hd => (repeat (first | exact List.nil_sublist _ | refine List.Sublist.cons_cons _ ?_ | refine List.Sublist.cons _ ?_))))
          | ((with_reducible refine TBand ?hd ?_); (case hd => (repeat (first | exact List.nil_sublist _ | refine List.Sublist.cons_cons _ ?_ | refine List.Sublist.cons _ ?_))))
          | ((with_reducible refine g_TB ?_); (first | with_reducible refine TB_run ?_ | refine TB_y rfl rfl ?_ | refine TB_b rfl rfl ?_ ?_ | refine TB_e rfl ?_))
          | ((with_reducible refine is_move ?_); refine ⟨_, Yl_move rfl, ?_⟩)
          | ((with_reducible refine is_assign ?_); refine ⟨_, Yl_assign rfl, ?_⟩)
          | ((with_reducible refine is_load ?_); (first
          | ((refine' ⟨_, Yl_load_blk rfl ?q1 ?q2 ?q3, ?_⟩); (case q1 => exact one_of rfl); (case q2 => (repeat (first | exact .head _ | apply List.Mem.tail))); (case q3 => rfl))
          | ((refine' ⟨_, Yl_loadA_blk rfl ?q1 ?q2, ?_⟩); (case q1 => (repeat (first | exact .head _ | apply List.Mem.tail))); (case q2 => exact agg_of rfl))
          | ((refine' ⟨_, Yl_load_blk rfl ?q1 ?q2 ?q3, ?_⟩); (case q1 => exact one_of rfl); (case q2 => (repeat (first | exact .head _ | apply List.Mem.tail))); (case q3 => assumption))
          | ((refine' ⟨_, Yl_load_rd rfl ?q1 ?q2 List.not_mem_nil ?q3, ?_⟩); (case q1 => exact one_of rfl); (case q2 => assumption); (case q3 => assumption))
          | ((refine' ⟨_, Yl_load_row rfl ?q1 ?q2 ?q3, ?_⟩); (case q1 => exact one_of rfl); (case q2 => (repeat (first | exact .head _ | apply List.Mem.tail))); (case q3 => assumption))
          | ((refine' ⟨_, Yl_loadA_rd rfl ?qa ?qb List.not_mem_nil ?ql ?qc, ?_⟩); (case qa => exact agg_of rfl); (case qb => assumption); (case qc => assumption); (case ql => rfl))
          | ((refine' ⟨_, Yl_loadA_row rfl ?qa ?qb ?ql ?qc, ?_⟩); (case qa => exact agg_of rfl); (case qb => (repeat (first | exact .head _ | apply List.Mem.tail))); (case qc => assumption); (case ql => rfl))))
          | ((with_reducible refine is_idx ?_); (first
          | ((refine' ⟨_, Yl_index rfl rfl ?q1 ?q2 ?q3 (Rd.some_ ?q4 ?q5), ?_⟩); (case q1 => exact und_of rfl); (case q2 => exact siz_of rfl); (case q3 => omega); (case q4 => assumption); (case q5 => omega))
          | ((refine' ⟨_, Yl_index_row rfl rfl ?q1 ?q2 ?q3 ?q4, ?_⟩); (case q1 => exact und_of rfl); (case q2 => exact siz_of rfl); (case q3 => omega); (case q4 => (repeat (first | exact .head _ | apply List.Mem.tail))))
          | ((refine' ⟨_, Yl_index rfl rfl ?q1 ?q2 ?q3 rfl, ?_⟩); (case q1 => exact und_of rfl); (case q2 => exact siz_of rfl); (case q3 => omega))
          | ((refine' ⟨_, Yl_index (j := 0) rfl rfl ?q1 ?q2 ?q3 (Rd.some_ ?q4 ?q5), ?_⟩); (case q1 => exact und_of rfl); (case q2 => exact siz_of rfl); (case q3 => omega); (case q4 => assumption); (case q5 => omega))
          | ((refine' ⟨_, Yl_index_row (j := 0) rfl rfl ?q1 ?q2 ?q3 ?q4, ?_⟩); (case q1 => exact und_of rfl); (case q2 => exact siz_of rfl); (case q3 => omega); (case q4 => (repeat (first | exact .head _ | apply List.Mem.tail))))
          | ((refine' ⟨_, Yl_indexI rfl rfl ?q1 ?q2 ?q3 ?q4 (Rd.some_ ?q5 ?q6), ?_⟩); (case q1 => exact und_of rfl); (case q2 => exact siz_of rfl); (case q3 => omega); (case q4 => omega); (case q5 => assumption); (case q6 => omega))))
          | ((with_reducible refine is_len ?_); (first | ((refine' ⟨_, Yl_len_slice rfl ?q1, ?_⟩); (case q1 => exact und_of rfl)) | ((refine' ⟨_, Yl_len_string rfl ?q1, ?_⟩); (case q1 => exact und_of rfl))))
          | ((with_reducible refine is_b_lss ?_); (first | ((refine' ⟨_, Yl_lss_t rfl rfl ?q1, ?_⟩); (case q1 => omega)) | ((refine' ⟨_, Yl_lss_f rfl rfl ?q1, ?_⟩); (case q1 => omega)) | (refine sp_lss rfl rfl ?_ ?_ <;> intro hc)))
          | ((with_reducible refine is_b_eql ?_); (first | ((refine' ⟨_, Yl_eql_t rfl rfl ?q1, ?_⟩); (case q1 => omega)) | ((refine' ⟨_, Yl_eql_f rfl rfl ?q1, ?_⟩); (case q1 => omega)) | (refine sp_eql rfl rfl ?_ ?_ <;> intro hc)  | ((refine' ⟨_, Yl_eql_bool rfl rfl ?q1, ?_⟩); (case q1 => exact und_of rfl)) | ((refine' ⟨_, Yl_eql_strT rfl rfl ?q1, ?_⟩); (case q1 => first | assumption | rfl)) | ((refine' ⟨_, Yl_eql_strF rfl rfl ?q1, ?_⟩); (case q1 => first | assumption | decide)) | (refine sp_eqlS rfl rfl ?_ ?_ <;> intro hc)))
          | ((with_reducible refine is_b_add ?_); (first | ((refine' ⟨_, Yl_add rfl rfl ?q1 ?q2, ?_⟩); (case q1 => omega); (case q2 => omega)) | ((refine' ⟨_, Yl_add8 rfl rfl ?q1 ?q2, ?_⟩); (case q1 => omega); (case q2 => omega))))
          | (fail; (first | ((fail_if_success have := b1); intro b1) | ((fail_if_success have := b2); intro b2) | ((fail_if_success have := b3); intro b3) | ((fail_if_success have := b4); intro b4) | ((fail_if_success have := b5); intro b5) | ((fail_if_success have := b6); intro b6) | ((fail_if_success have := b7); intro b7) | ((fail_if_success have := b8); intro b8) | ((fail_if_success have := b9); intro b9) | ((fail_if_success have := b10); intro b10) | ((fail_if_success have := b11); intro b11) | ((fail_if_success have := b12); intro b12)))
          | (fail; (first | ((fail_if_success have := A1); intro A1 c1) | ((fail_if_success have := A2); intro A2 c2) | ((fail_if_success have := A3); intro A3 c3) | ((fail_if_success have := A4); intro A4 c4) | ((fail_if_success have := A5); intro A5 c5) | ((fail_if_success have := A6); intro A6 c6) | ((fail_if_success have := A7); intro A7 c7)))
          | refine Ef_y rfl rfl ?_)
        refine loopQ_n (i + 1) ?_ ?_ ⟨by (first | omega | (dsimp only; omega) | (simp; omega)), by rw [take_snoc hx, List.mem_append, List.mem_singleton]; exact fun h => h.elim hno he⟩ (by (first | omega | (dsimp only; omega) | (simp; omega)))
        · (repeat (first | exact Sub.nil | refine Sub.cons rfl ?_))
        · (repeat (first | exact List.nil_sublist _ | refine List.Sublist.cons_cons _ ?_ | refine List.Sublist.cons _ ?_))
    · rw [List.take_of_length_le (by omega)] at hno
      rw [idxI_f hno]
      repeat' (first
          | with_reducible refine T.seq ?_
          | with_reducible refine T.block ?_
          | with_reducible refine T.region ?_
          | with_reducible refine T.skip ?_
          | with_reducible refine T.scope ?_
          | with_reducible refine T.label ?_
          | with_reducible refine scopeQ_n ?_
          | with_reducible refine scopeQ_r ?_
          | with_reducible refine scopeQ_x ?_
          | with_reducible refine T.ret ?_
          | with_reducible refine T.exit ?_
          | with_reducible refine seqQ_n ?_
          | with_reducible refine seqQ_x ?_
          | with_reducible refine seqQ_r ?_
          | with_reducible refine blockQ_n ?_
          | with_reducible refine blockQ_r ?_
          | with_reducible refine blockQ_x ?_
          | ((with_reducible refine g_blkx ?_); refine blockQ_y rfl ?_)
          | with_reducible refine loopQ_x ?_
          | with_reducible refine loopQ_r ?_
          | with_reducible refine joinQ_r ?_
          | with_reducible refine joinQ_x ?_
          | ((with_reducible refine g_cond ?_); (first | refine T.cond_t rfl ?_ | refine T.cond_f rfl ?_ | (refine T.cond_s rfl ?_ ?_ <;> intro hc)))
          | with_reducible refine TL_nil ?_
          | with_reducible refine TS_nil ?_
          | ((with_reducible refine TL_y' ?hy ?hd ?_); (case hy => rfl); (case hd => rfl))
          | with_reducible refine TL_e ?_
          | ((with_reducible refine g_TL ?_); (first | refine TL_gy' rfl rfl rfl rfl ?_ | refine TL_gn rfl rfl rfl ?_ | refine TL_gu rfl rfl rfl ?_ | refine TL_ge rfl rfl ?_ | refine TL_gn0 rfl rfl ?_))
          | ((with_reducible refine g_TS ?_); (first | refine TS_y rfl rfl ?_ | refine TS_e rfl ?_ | refine TS_gy rfl rfl rfl rfl ?_ | refine TS_gn rfl rfl rfl rfl ?_ | refine TS_gu rfl rfl rfl rfl ?_ | refine TS_ge rfl rfl rfl ?_ | refine TS_gne rfl rfl rfl rfl ?_ | refine TS_gue rfl rfl rfl rfl ?_ | refine TS_gne0 rfl rfl rfl ?_))
          | ((with_reducible refine TSand ?hd ?_); (case hd => (repeat (first | exact List.nil_sublist _ | refine List.Sublist.cons_cons _ ?_ | refine List.Sublist.cons _ ?_))))
          | ((with_reducible refine TBand ?hd ?_); (case hd => (repeat (first | exact List.nil_sublist _ | refine List.Sublist.cons_cons _ ?_ | refine List.Sublist.cons _ ?_))))
          | ((with_reducible refine g_TB ?_); (first | with_reducible refine TB_run ?_ | refine TB_y rfl rfl ?_ | refine TB_b rfl rfl ?_ ?_ | refine TB_e rfl ?_))
          | ((with_reducible refine is_move ?_); refine ⟨_, Yl_move rfl, ?_⟩)
          | ((with_reducible refine is_assign ?_); refine ⟨_, Yl_assign rfl, ?_⟩)
          | ((with_reducible refine is_load ?_); (first
          | ((refine' ⟨_, Yl_load_blk rfl ?q1 ?q2 ?q3, ?_⟩); (case q1 => exact one_of rfl); (case q2 => (repeat (first | exact .head _ | apply List.Mem.tail))); (case q3 => rfl))
          | ((refine' ⟨_, Yl_loadA_blk rfl ?q1 ?q2, ?_⟩); (case q1 => (repeat (first | exact .head _ | apply List.Mem.tail))); (case q2 => exact agg_of rfl))
          | ((refine' ⟨_, Yl_load_blk rfl ?q1 ?q2 ?q3, ?_⟩); (case q1 => exact one_of rfl); (case q2 => (repeat (first | exact .head _ | apply List.Mem.tail))); (case q3 => assumption))
          | ((refine' ⟨_, Yl_load_rd rfl ?q1 ?q2 List.not_mem_nil ?q3, ?_⟩); (case q1 => exact one_of rfl); (case q2 => assumption); (case q3 => assumption))
          | ((refine' ⟨_, Yl_load_row rfl ?q1 ?q2 ?q3, ?_⟩); (case q1 => exact one_of rfl); (case q2 => (repeat (first | exact .head _ | apply List.Mem.tail))); (case q3 => assumption))
          | ((refine' ⟨_, Yl_loadA_rd rfl ?qa ?qb List.not_mem_nil ?ql ?qc, ?_⟩); (case qa => exact agg_of rfl); (case qb => assumption); (case qc => assumption); (case ql => rfl))
          | ((refine' ⟨_, Yl_loadA_row rfl ?qa ?qb ?ql ?qc, ?_⟩); (case qa => exact agg_of rfl); (case qb => (repeat (first | exact .head _ | apply List.Mem.tail))); (case qc => assumption); (case ql => rfl))))
          | ((with_reducible refine is_idx ?_); (first
          | ((refine' ⟨_, Yl_index rfl rfl ?q1 ?q2 ?q3 (Rd.some_ ?q4 ?q5), ?_⟩); (case q1 => exact und_of rfl); (case q2 => exact siz_of rfl); (case q3 => omega); (case q4 => assumption); (case q5 => omega))
          | ((refine' ⟨_, Yl_index_row rfl rfl ?q1 ?q2 ?q3 ?q4, ?_⟩); (case q1 => exact und_of rfl); (case q2 => exact siz_of rfl); (case q3 => omega); (case q4 => (repeat (first | exact .head _ | apply List.Mem.tail))))
          | ((refine' ⟨_, Yl_index rfl rfl ?q1 ?q2 ?q3 rfl, ?_⟩); (case q1 => exact und_of rfl); (case q2 => exact siz_of rfl); (case q3 => omega))
          | ((refine' ⟨_, Yl_index (j := 0) rfl rfl ?q1 ?q2 ?q3 (Rd.some_ ?q4 ?q5), ?_⟩); (case q1 => exact und_of rfl); (case q2 => exact siz_of rfl); (case q3 => omega); (case q4 => assumption); (case q5 => omega))
          | ((refine' ⟨_, Yl_index_row (j := 0) rfl rfl ?q1 ?q2 ?q3 ?q4, ?_⟩); (case q1 => exact und_of rfl); (case q2 => exact siz_of rfl); (case q3 => omega); (case q4 => (repeat (first | exact .head _ | apply List.Mem.tail))))
          | ((refine' ⟨_, Yl_indexI rfl rfl ?q1 ?q2 ?q3 ?q4 (Rd.some_ ?q5 ?q6), ?_⟩); (case q1 => exact und_of rfl); (case q2 => exact siz_of rfl); (case q3 => omega); (case q4 => omega); (case q5 => assumption); (case q6 => omega))))
          | ((with_reducible refine is_len ?_); (first | ((refine' ⟨_, Yl_len_slice rfl ?q1, ?_⟩); (case q1 => exact und_of rfl)) | ((refine' ⟨_, Yl_len_string rfl ?q1, ?_⟩); (case q1 => exact und_of rfl))))
          | ((with_reducible refine is_b_lss ?_); (first | ((refine' ⟨_, Yl_lss_t rfl rfl ?q1, ?_⟩); (case q1 => omega)) | ((refine' ⟨_, Yl_lss_f rfl rfl ?q1, ?_⟩); (case q1 => omega)) | (refine sp_lss rfl rfl ?_ ?_ <;> intro hc)))
          | ((with_reducible refine is_b_eql ?_); (first | ((refine' ⟨_, Yl_eql_t rfl rfl ?q1, ?_⟩); (case q1 => omega)) | ((refine' ⟨_, Yl_eql_f rfl rfl ?q1, ?_⟩); (case q1 => omega)) | (refine sp_eql rfl rfl ?_ ?_ <;> intro hc)  | ((refine' ⟨_, Yl_eql_bool rfl rfl ?q1, ?_⟩); (case q1 => exact und_of rfl)) | ((refine' ⟨_, Yl_eql_strT rfl rfl ?q1, ?_⟩); (case q1 => first | assumption | rfl)) | ((refine' ⟨_, Yl_eql_strF rfl rfl ?q1, ?_⟩); (case q1 => first | assumption | decide)) | (refine sp_eqlS rfl rfl ?_ ?_ <;> intro hc)))
          | ((with_reducible refine is_b_add ?_); (first | ((refine' ⟨_, Yl_add rfl rfl ?q1 ?q2, ?_⟩); (case q1 => omega); (case q2 => omega)) | ((refine' ⟨_, Yl_add8 rfl rfl ?q1 ?q2, ?_⟩); (case q1 => omega); (case q2 => omega))))
          | (fail; (first | ((fail_if_success have := b1); intro b1) | ((fail_if_success have := b2); intro b2) | ((fail_if_success have := b3); intro b3) | ((fail_if_success have := b4); intro b4) | ((fail_if_success have := b5); intro b5) | ((fail_if_success have := b6); intro b6) | ((fail_if_success have := b7); intro b7) | ((fail_if_success have := b8); intro b8) | ((fail_if_success have := b9); intro b9) | ((fail_if_success have := b10); intro b10) | ((fail_if_success have := b11); intro b11) | ((fail_if_success have := b12); intro b12)))
          | (fail; (first | ((fail_if_success have := A1); intro A1 c1) | ((fail_if_success have := A2); intro A2 c2) | ((fail_if_success have := A3); intro A3 c3) | ((fail_if_success have := A4); intro A4 c4) | ((fail_if_success have := A5); intro A5 c5) | ((fail_if_success have := A6); intro A6 c6) | ((fail_if_success have := A7); intro A7 c7)))
          | refine Ef_y rfl rfl ?_)
      exact ret_n [] (res1 rfl rfl) (List.nil_sublist _) ⟨rfl, rfl⟩
theorem contains_c (n : Int) (w : World) (hr : Rd w A len 1 (l.flatMap (eI .i64))) (hl : l.length = len) (hle : len ≤ 9223372036854775807) : Sp Try.prog 24 [.slice A len cap, .int .i64 n] w [] fun v N => v = .bool (decide (n ∈ l)) ∧ N = [] := by
  have hi := idxI_iff n l
  refine Sp.enter (n := 9) Try.func24 rfl rfl rfl (Hp.refl w) ?_
  repeat' (first
      | with_reducible refine T.seq ?_
      | with_reducible refine T.block ?_
      | with_reducible refine T.region ?_
      | with_reducible refine T.skip ?_
      | with_reducible refine T.scope ?_
      | with_reducible refine T.label ?_
      | with_reducible refine scopeQ_n ?_
      | with_reducible refine scopeQ_r ?_
      | with_reducible refine scopeQ_x ?_
      | with_reducible refine T.ret ?_
      | with_reducible refine T.exit ?_
      | with_reducible refine seqQ_n ?_
      | with_reducible refine seqQ_x ?_
      | with_reducible refine seqQ_r ?_
      | with_reducible refine blockQ_n ?_
      | with_reducible refine blockQ_r ?_
      | with_reducible refine blockQ_x ?_
      | ((with_reducible refine g_blkx ?_); refine blockQ_y rfl ?_)
      | with_reducible refine loopQ_x ?_
      | with_reducible refine loopQ_r ?_
      | with_reducible refine joinQ_r ?_
      | with_reducible refine joinQ_x ?_
      | ((with_reducible refine g_cond ?_); (first | refine T.cond_t rfl ?_ | refine T.cond_f rfl ?_ | (refine T.cond_s rfl ?_ ?_ <;> intro hc)))
      | with_reducible refine TL_nil ?_
      | with_reducible refine TS_nil ?_
      | ((with_reducible refine TL_y' ?hy ?hd ?_); (case hy => rfl); (case hd => rfl))
      | with_reducible refine TL_e ?_
      | ((with_reducible refine g_TL ?_); (first | refine TL_gy' rfl rfl rfl rfl ?_ | refine TL_gn rfl rfl rfl ?_ | refine TL_gu rfl rfl rfl ?_ | refine TL_ge rfl rfl ?_ | refine TL_gn0 rfl rfl ?_))
      | ((with_reducible refine g_TS ?_); (first | refine TS_y rfl rfl ?_ | refine TS_e rfl ?_ | refine TS_gy rfl rfl rfl rfl ?_ | refine TS_gn rfl rfl rfl rfl ?_ | refine TS_gu rfl rfl rfl rfl ?_ | refine TS_ge rfl rfl rfl ?_ | refine TS_gne rfl rfl rfl rfl ?_ | refine TS_gue rfl rfl rfl rfl ?_ | refine TS_gne0 rfl rfl rfl ?_))
      | ((with_reducible refine TSand ?hd ?_); (case hd => (repeat (first | exact List.nil_sublist _ | refine List.Sublist.cons_cons _ ?_ | refine List.Sublist.cons _ ?_))))
      | ((with_reducible refine TBand ?hd ?_); (case hd => (repeat (first | exact List.nil_sublist _ | refine List.Sublist.cons_cons _ ?_ | refine List.Sublist.cons _ ?_))))
      | ((with_reducible refine g_TB ?_); (first | with_reducible refine TB_run ?_ | refine TB_y rfl rfl ?_ | refine TB_b rfl rfl ?_ ?_ | refine TB_e rfl ?_))
      | ((with_reducible refine is_move ?_); refine ⟨_, Yl_move rfl, ?_⟩)
      | ((with_reducible refine is_assign ?_); refine ⟨_, Yl_assign rfl, ?_⟩)
      | ((with_reducible refine is_b_geq ?_); (first | ((refine' ⟨_, Yl_geq_t rfl rfl ?q1, ?_⟩); (case q1 => omega)) | ((refine' ⟨_, Yl_geq_f rfl rfl ?q1, ?_⟩); (case q1 => omega)) | (refine sp_geq rfl rfl ?_ ?_ <;> intro hc)))
      | ((with_reducible refine ie_callf ?_); (first  | ((with_reducible refine g_call 27 ?_); (first | refine Ef_callP rfl rfl ent_27 (fun w hp => index_c A len cap l n w (hp.rd hr fun _ => List.not_mem_nil) hl hle) ?_))))
      | (fail; (first | ((fail_if_success have := b1); intro b1) | ((fail_if_success have := b2); intro b2) | ((fail_if_success have := b3); intro b3) | ((fail_if_success have := b4); intro b4) | ((fail_if_success have := b5); intro b5) | ((fail_if_success have := b6); intro b6) | ((fail_if_success have := b7); intro b7) | ((fail_if_success have := b8); intro b8) | ((fail_if_success have := b9); intro b9) | ((fail_if_success have := b10); intro b10) | ((fail_if_success have := b11); intro b11) | ((fail_if_success have := b12); intro b12)))
      | (fail; (first | ((fail_if_success have := A1); intro A1 c1) | ((fail_if_success have := A2); intro A2 c2) | ((fail_if_success have := A3); intro A3 c3) | ((fail_if_success have := A4); intro A4 c4) | ((fail_if_success have := A5); intro A5 c5) | ((fail_if_success have := A6); intro A6 c6) | ((fail_if_success have := A7); intro A7 c7)))
      | refine Ef_y rfl rfl ?_)
  · exact ret_n [] (res1 rfl rfl) (List.nil_sublist _) ⟨by rw [decide_eq_true (hi.1 (by assumption))], rfl⟩
  · exact ret_n [] (res1 rfl rfl) (List.nil_sublist _) ⟨by rw [decide_eq_false (fun h => absurd (hi.2 h) (by assumption))], rfl⟩
theorem has_c (n : Int) (w : World) (hr : Rd w A len 1 (l.flatMap (eI .i64))) (hl : l.length = len) (hle : len ≤ 9223372036854775807) : Sp Try.prog 15 [.slice A len cap, .int .i64 n] w [] fun v N => v = .bool (decide (n ∈ l)) ∧ N = [] := by
  refine Sp.enter (n := 8) Try.func15 rfl rfl rfl (Hp.refl w) ?_
  repeat' (first
      | with_reducible refine T.seq ?_
      | with_reducible refine T.block ?_
      | with_reducible refine T.region ?_
      | with_reducible refine T.skip ?_
      | with_reducible refine T.scope ?_
      | with_reducible refine T.label ?_
      | with_reducible refine scopeQ_n ?_
      | with_reducible refine scopeQ_r ?_
      | with_reducible refine scopeQ_x ?_
      | with_reducible refine T.ret ?_
      | with_reducible refine T.exit ?_
      | with_reducible refine seqQ_n ?_
      | with_reducible refine seqQ_x ?_
      | with_reducible refine seqQ_r ?_
      | with_reducible refine blockQ_n ?_
      | with_reducible refine blockQ_r ?_
      | with_reducible refine blockQ_x ?_
      | ((with_reducible refine g_blkx ?_); refine blockQ_y rfl ?_)
      | with_reducible refine loopQ_x ?_
      | with_reducible refine loopQ_r ?_
      | with_reducible refine joinQ_r ?_
      | with_reducible refine joinQ_x ?_
      | ((with_reducible refine g_cond ?_); (first | refine T.cond_t rfl ?_ | refine T.cond_f rfl ?_ | (refine T.cond_s rfl ?_ ?_ <;> intro hc)))
      | with_reducible refine TL_nil ?_
      | with_reducible refine TS_nil ?_
      | ((with_reducible refine TL_y' ?hy ?hd ?_); (case hy => rfl); (case hd => rfl))
      | with_reducible refine TL_e ?_
      | ((with_reducible refine g_TL ?_); (first | refine TL_gy' rfl rfl rfl rfl ?_ | refine TL_gn rfl rfl rfl ?_ | refine TL_gu rfl rfl rfl ?_ | refine TL_ge rfl rfl ?_ | refine TL_gn0 rfl rfl ?_))
      | ((with_reducible refine g_TS ?_); (first | refine TS_y rfl rfl ?_ | refine TS_e rfl ?_ | refine TS_gy rfl rfl rfl rfl ?_ | refine TS_gn rfl rfl rfl rfl ?_ | refine TS_gu rfl rfl rfl rfl ?_ | refine TS_ge rfl rfl rfl ?_ | refine TS_gne rfl rfl rfl rfl ?_ | refine TS_gue rfl rfl rfl rfl ?_ | refine TS_gne0 rfl rfl rfl ?_))
      | ((with_reducible refine TSand ?hd ?_); (case hd => (repeat (first | exact List.nil_sublist _ | refine List.Sublist.cons_cons _ ?_ | refine List.Sublist.cons _ ?_))))
      | ((with_reducible refine TBand ?hd ?_); (case hd => (repeat (first | exact List.nil_sublist _ | refine List.Sublist.cons_cons _ ?_ | refine List.Sublist.cons _ ?_))))
      | ((with_reducible refine g_TB ?_); (first | with_reducible refine TB_run ?_ | refine TB_y rfl rfl ?_ | refine TB_b rfl rfl ?_ ?_ | refine TB_e rfl ?_))
      | ((with_reducible refine is_move ?_); refine ⟨_, Yl_move rfl, ?_⟩)
      | ((with_reducible refine is_assign ?_); refine ⟨_, Yl_assign rfl, ?_⟩)
      | ((with_reducible refine ie_callf ?_); (first   | ((with_reducible refine g_call 24 ?_); (first | refine Ef_callP rfl rfl ent_24 (fun w hp => contains_c A len cap l n w (hp.rd hr fun _ => List.not_mem_nil) hl hle) ?_))))
      | (fail; (first | ((fail_if_success have := b1); intro b1) | ((fail_if_success have := b2); intro b2) | ((fail_if_success have := b3); intro b3) | ((fail_if_success have := b4); intro b4) | ((fail_if_success have := b5); intro b5) | ((fail_if_success have := b6); intro b6) | ((fail_if_success have := b7); intro b7) | ((fail_if_success have := b8); intro b8) | ((fail_if_success have := b9); intro b9) | ((fail_if_success have := b10); intro b10) | ((fail_if_success have := b11); intro b11) | ((fail_if_success have := b12); intro b12)))
      | (fail; (first | ((fail_if_success have := A1); intro A1 c1) | ((fail_if_success have := A2); intro A2 c2) | ((fail_if_success have := A3); intro A3 c3) | ((fail_if_success have := A4); intro A4 c4) | ((fail_if_success have := A5); intro A5 c5) | ((fail_if_success have := A6); intro A6 c6) | ((fail_if_success have := A7); intro A7 c7)))
      | refine Ef_y rfl rfl ?_)
  exact ret_n [] (res1 rfl rfl) (List.nil_sublist _) ⟨rfl, rfl⟩
theorem rhas_c (n : Int) (w : World) (hr : Rd w A len 1 (l.flatMap (eI .i64))) (hl : l.length = len) (hle : len ≤ 9223372036854775807) : Sp Try.prog 16 [.slice A len cap, .int .i64 n] w [] fun v N => v = .bool (decide (n ∈ l)) ∧ N = [] := by
  refine Sp.enter (n := 18) Try.func16 rfl rfl rfl (Hp.refl w) ?_
  repeat' (first
      | with_reducible refine T.seq ?_
      | with_reducible refine T.block ?_
      | with_reducible refine T.region ?_
      | with_reducible refine T.skip ?_
      | with_reducible refine T.scope ?_
      | with_reducible refine T.label ?_
      | with_reducible refine scopeQ_n ?_
      | with_reducible refine scopeQ_r ?_
      | with_reducible refine scopeQ_x ?_
      | with_reducible refine T.ret ?_
      | with_reducible refine T.exit ?_
      | with_reducible refine seqQ_n ?_
      | with_reducible refine seqQ_x ?_
      | with_reducible refine seqQ_r ?_
      | with_reducible refine blockQ_n ?_
      | with_reducible refine blockQ_r ?_
      | with_reducible refine blockQ_x ?_
      | ((with_reducible refine g_blkx ?_); refine blockQ_y rfl ?_)
      | with_reducible refine loopQ_x ?_
      | with_reducible refine loopQ_r ?_
      | with_reducible refine joinQ_r ?_
      | with_reducible refine joinQ_x ?_
      | ((with_reducible refine g_cond ?_); (first | refine T.cond_t rfl ?_ | refine T.cond_f rfl ?_ | (refine T.cond_s rfl ?_ ?_ <;> intro hc)))
      | with_reducible refine TL_nil ?_
      | with_reducible refine TS_nil ?_
      | ((with_reducible refine TL_y' ?hy ?hd ?_); (case hy => rfl); (case hd => rfl))
      | with_reducible refine TL_e ?_
      | ((with_reducible refine g_TL ?_); (first | refine TL_gy' rfl rfl rfl rfl ?_ | refine TL_gn rfl rfl rfl ?_ | refine TL_gu rfl rfl rfl ?_ | refine TL_ge rfl rfl ?_ | refine TL_gn0 rfl rfl ?_))
      | ((with_reducible refine g_TS ?_); (first | refine TS_y rfl rfl ?_ | refine TS_e rfl ?_ | refine TS_gy rfl rfl rfl rfl ?_ | refine TS_gn rfl rfl rfl rfl ?_ | refine TS_gu rfl rfl rfl rfl ?_ | refine TS_ge rfl rfl rfl ?_ | refine TS_gne rfl rfl rfl rfl ?_ | refine TS_gue rfl rfl rfl rfl ?_ | refine TS_gne0 rfl rfl rfl ?_))
      | ((with_reducible refine TSand ?hd ?_); (case hd => (repeat (first | exact List.nil_sublist _ | refine List.Sublist.cons_cons _ ?_ | refine List.Sublist.cons _ ?_))))
      | ((with_reducible refine TBand ?hd ?_); (case hd => (repeat (first | exact List.nil_sublist _ | refine List.Sublist.cons_cons _ ?_ | refine List.Sublist.cons _ ?_))))
      | ((with_reducible refine g_TB ?_); (first | with_reducible refine TB_run ?_ | refine TB_y rfl rfl ?_ | refine TB_b rfl rfl ?_ ?_ | refine TB_e rfl ?_))
      | ((with_reducible refine is_move ?_); refine ⟨_, Yl_move rfl, ?_⟩)
      | ((with_reducible refine is_assign ?_); refine ⟨_, Yl_assign rfl, ?_⟩)
      | ((with_reducible refine is_load ?_); (first
      | ((refine' ⟨_, Yl_load_blk rfl ?q1 ?q2 ?q3, ?_⟩); (case q1 => exact one_of rfl); (case q2 => (repeat (first | exact .head _ | apply List.Mem.tail))); (case q3 => rfl))
      | ((refine' ⟨_, Yl_loadA_blk rfl ?q1 ?q2, ?_⟩); (case q1 => (repeat (first | exact .head _ | apply List.Mem.tail))); (case q2 => exact agg_of rfl))
      | ((refine' ⟨_, Yl_load_blk rfl ?q1 ?q2 ?q3, ?_⟩); (case q1 => exact one_of rfl); (case q2 => (repeat (first | exact .head _ | apply List.Mem.tail))); (case q3 => assumption))
      | ((refine' ⟨_, Yl_load_rd rfl ?q1 ?q2 List.not_mem_nil ?q3, ?_⟩); (case q1 => exact one_of rfl); (case q2 => assumption); (case q3 => assumption))
      | ((refine' ⟨_, Yl_load_row rfl ?q1 ?q2 ?q3, ?_⟩); (case q1 => exact one_of rfl); (case q2 => (repeat (first | exact .head _ | apply List.Mem.tail))); (case q3 => assumption))
      | ((refine' ⟨_, Yl_loadA_rd rfl ?qa ?qb List.not_mem_nil ?ql ?qc, ?_⟩); (case qa => exact agg_of rfl); (case qb => assumption); (case qc => assumption); (case ql => rfl))
      | ((refine' ⟨_, Yl_loadA_row rfl ?qa ?qb ?ql ?qc, ?_⟩); (case qa => exact agg_of rfl); (case qb => (repeat (first | exact .head _ | apply List.Mem.tail))); (case qc => assumption); (case ql => rfl))))
      | ((with_reducible refine is_idx ?_); (first
      | ((refine' ⟨_, Yl_index rfl rfl ?q1 ?q2 ?q3 (Rd.some_ ?q4 ?q5), ?_⟩); (case q1 => exact und_of rfl); (case q2 => exact siz_of rfl); (case q3 => omega); (case q4 => assumption); (case q5 => omega))
      | ((refine' ⟨_, Yl_index_row rfl rfl ?q1 ?q2 ?q3 ?q4, ?_⟩); (case q1 => exact und_of rfl); (case q2 => exact siz_of rfl); (case q3 => omega); (case q4 => (repeat (first | exact .head _ | apply List.Mem.tail))))
      | ((refine' ⟨_, Yl_index rfl rfl ?q1 ?q2 ?q3 rfl, ?_⟩); (case q1 => exact und_of rfl); (case q2 => exact siz_of rfl); (case q3 => omega))
      | ((refine' ⟨_, Yl_index (j := 0) rfl rfl ?q1 ?q2 ?q3 (Rd.some_ ?q4 ?q5), ?_⟩); (case q1 => exact und_of rfl); (case q2 => exact siz_of rfl); (case q3 => omega); (case q4 => assumption); (case q5 => omega))
      | ((refine' ⟨_, Yl_index_row (j := 0) rfl rfl ?q1 ?q2 ?q3 ?q4, ?_⟩); (case q1 => exact und_of rfl); (case q2 => exact siz_of rfl); (case q3 => omega); (case q4 => (repeat (first | exact .head _ | apply List.Mem.tail))))
      | ((refine' ⟨_, Yl_indexI rfl rfl ?q1 ?q2 ?q3 ?q4 (Rd.some_ ?q5 ?q6), ?_⟩); (case q1 => exact und_of rfl); (case q2 => exact siz_of rfl); (case q3 => omega); (case q4 => omega); (case q5 => assumption); (case q6 => omega))))
      | ((with_reducible refine is_len ?_); (first | ((refine' ⟨_, Yl_len_slice rfl ?q1, ?_⟩); (case q1 => exact und_of rfl)) | ((refine' ⟨_, Yl_len_string rfl ?q1, ?_⟩); (case q1 => exact und_of rfl))))
      | ((with_reducible refine is_b_lss ?_); (first | ((refine' ⟨_, Yl_lss_t rfl rfl ?q1, ?_⟩); (case q1 => omega)) | ((refine' ⟨_, Yl_lss_f rfl rfl ?q1, ?_⟩); (case q1 => omega)) | (refine sp_lss rfl rfl ?_ ?_ <;> intro hc)))
      | ((with_reducible refine is_b_eql ?_); (first | ((refine' ⟨_, Yl_eql_t rfl rfl ?q1, ?_⟩); (case q1 => omega)) | ((refine' ⟨_, Yl_eql_f rfl rfl ?q1, ?_⟩); (case q1 => omega)) | (refine sp_eql rfl rfl ?_ ?_ <;> intro hc)  | ((refine' ⟨_, Yl_eql_bool rfl rfl ?q1, ?_⟩); (case q1 => exact und_of rfl)) | ((refine' ⟨_, Yl_eql_strT rfl rfl ?q1, ?_⟩); (case q1 => first | assumption | rfl)) | ((refine' ⟨_, Yl_eql_strF rfl rfl ?q1, ?_⟩); (case q1 => first | assumption | decide)) | (refine sp_eqlS rfl rfl ?_ ?_ <;> intro hc)))
      | ((with_reducible refine is_b_add ?_); (first | ((refine' ⟨_, Yl_add rfl rfl ?q1 ?q2, ?_⟩); (case q1 => omega); (case q2 => omega)) | ((refine' ⟨_, Yl_add8 rfl rfl ?q1 ?q2, ?_⟩); (case q1 => omega); (case q2 => omega))))
      | (fail; (first | ((fail_if_success have := b1); intro b1) | ((fail_if_success have := b2); intro b2) | ((fail_if_success have := b3); intro b3) | ((fail_if_success have := b4); intro b4) | ((fail_if_success have := b5); intro b5) | ((fail_if_success have := b6); intro b6) | ((fail_if_success have := b7); intro b7) | ((fail_if_success have := b8); intro b8) | ((fail_if_success have := b9); intro b9) | ((fail_if_success have := b10); intro b10) | ((fail_if_success have := b11); intro b11) | ((fail_if_success have := b12); intro b12)))
      | (fail; (first | ((fail_if_success have := A1); intro A1 c1) | ((fail_if_success have := A2); intro A2 c2) | ((fail_if_success have := A3); intro A3 c3) | ((fail_if_success have := A4); intro A4 c4) | ((fail_if_success have := A5); intro A5 c5) | ((fail_if_success have := A6); intro A6 c6) | ((fail_if_success have := A7); intro A7 c7)))
      | refine Ef_y rfl rfl ?_)
  refine T.loop (α := Nat) (fun i => [(0, .slice A len cap), (1, .int .i64 n), (5, .int .i64 (i : Int))]) (fun _ => []) (fun i => i ≤ len ∧ ¬ n ∈ l.take i) (fun i => len - i) 0 ?_ ?_ ?_ ?_
  · (repeat (first | exact Sub.nil | refine Sub.cons rfl ?_))
  · (repeat (first | exact List.nil_sublist _ | refine List.Sublist.cons_cons _ ?_ | refine List.Sublist.cons _ ?_))
  · exact ⟨Nat.zero_le _, by simp⟩
  · rintro i ⟨hi, hno⟩
    by_cases hlt : i < len
    · obtain ⟨x, hx⟩ := some_of_lt (l := l) (i := i) (by omega)
      have e0 : (l.flatMap (eI .i64))[i * 1 + 0]? = some (.int .i64 x) := enc_at (eI_len .i64) hx (by omega)
      by_cases he : n = x
      · subst he
        rw [decide_eq_true (mem_of_some hx)]
        repeat' (first
            | with_reducible refine T.seq ?_
            | with_reducible refine T.block ?_
            | with_reducible refine T.region ?_
            | with_reducible refine T.skip ?_
            | with_reducible refine T.scope ?_
            | with_reducible refine T.label ?_
            | with_reducible refine scopeQ_n ?_
            | with_reducible refine scopeQ_r ?_
            | with_reducible refine scopeQ_x ?_
            | with_reducible refine T.ret ?_
            | with_reducible refine T.exit ?_
            | with_reducible refine seqQ_n ?_
            | with_reducible refine seqQ_x ?_
            | with_reducible refine seqQ_r ?_
            | with_reducible refine blockQ_n ?_
            | with_reducible refine blockQ_r ?_
            | with_reducible refine blockQ_x ?_
            | ((with_reducible refine g_blkx ?_); refine blockQ_y rfl ?_)
            | with_reducible refine loopQ_x ?_
            | with_reducible refine loopQ_r ?_
            | with_reducible refine joinQ_r ?_
            | with_reducible refine joinQ_x ?_
            | ((with_reducible refine g_cond ?_); (first | refine T.cond_t rfl ?_ | refine T.cond_f rfl ?_ | (refine T.cond_s rfl ?_ ?_ <;> intro hc)))
            | with_reducible refine TL_nil ?_
            | with_reducible refine TS_nil ?_
            | ((with_reducible refine TL_y' ?hy ?hd ?_); (case hy => rfl); (case hd => rfl))
            | with_reducible refine TL_e ?_
            | ((with_reducible refine g_TL ?_); (first | refine TL_gy' rfl rfl rfl rfl ?_ | refine TL_gn rfl rfl rfl ?_ | refine TL_gu rfl rfl rfl ?_ | refine TL_ge rfl rfl ?_ | refine TL_gn0 rfl rfl ?_))
            | ((with_reducible refine g_TS ?_); (first | refine TS_y rfl rfl ?_ | refine TS_e rfl ?_ | refine TS_gy rfl rfl rfl rfl ?_ | refine TS_gn rfl rfl rfl rfl ?_ | refine TS_gu rfl rfl rfl rfl ?_ | refine TS_ge rfl rfl rfl ?_ | refine TS_gne rfl rfl rfl rfl ?_ | refine TS_gue rfl rfl rfl rfl ?_ | refine TS_gne0 rfl rfl rfl ?_))
            | ((with_reducible refine TSand ?hd ?_); (case hd => (repeat (first | exact List.nil_sublist _ | refine List.Sublist.cons_cons _ ?_ | refine List.Sublist.cons _ ?_))))
            | ((with_reducible refine TBand ?hd ?_); (case hd => (repeat (first | exact List.nil_sublist _ | refine List.Sublist.cons_cons _ ?_ | refine List.Sublist.cons _ ?_))))
            | ((with_reducible refine g_TB ?_); (first | with_reducible refine TB_run ?_ | refine TB_y rfl rfl ?_ | refine TB_b rfl rfl ?_ ?_ | refine TB_e rfl ?_))
            | ((with_reducible refine is_move ?_); refine ⟨_, Yl_move rfl, ?_⟩)
            | ((with_reducible refine is_assign ?_); refine ⟨_, Yl_assign rfl, ?_⟩)
            | ((with_reducible refine is_load ?_); (first
            | ((refine' ⟨_, Yl_load_blk rfl ?q1 ?q2 ?q3, ?_⟩); (case q1 => exact one_of rfl); (case q2 => (repeat (first | exact .head _ | apply List.Mem.tail))); (case q3 => rfl))
            | ((refine' ⟨_, Yl_loadA_blk rfl ?q1 ?q2, ?_⟩); (case q1 => (repeat (first | exact .head _ | apply List.Mem.tail))); (case q2 => exact agg_of rfl))
            | ((refine' ⟨_, Yl_load_blk rfl ?q1 ?q2 ?q3, ?_⟩); (case q1 => exact one_of rfl); (case q2 => (repeat (first | exact .head _ | apply List.Mem.tail))); (case q3 => assumption))
            | ((refine' ⟨_, Yl_load_rd rfl ?q1 ?q2 List.not_mem_nil ?q3, ?_⟩); (case q1 => exact one_of rfl); (case q2 => assumption); (case q3 => assumption))
            | ((refine' ⟨_, Yl_load_row rfl ?q1 ?q2 ?q3, ?_⟩); (case q1 => exact one_of rfl); (case q2 => (repeat (first | exact .head _ | apply List.Mem.tail))); (case q3 => assumption))
            | ((refine' ⟨_, Yl_loadA_rd rfl ?qa ?qb List.not_mem_nil ?ql ?qc, ?_⟩); (case qa => exact agg_of rfl); (case qb => assumption); (case qc => assumption); (case ql => rfl))
            | ((refine' ⟨_, Yl_loadA_row rfl ?qa ?qb ?ql ?qc, ?_⟩); (case qa => exact agg_of rfl); (case qb => (repeat (first | exact .head _ | apply List.Mem.tail))); (case qc => assumption); (case ql => rfl))))
            | ((with_reducible refine is_idx ?_); (first
            | ((refine' ⟨_, Yl_index rfl rfl ?q1 ?q2 ?q3 (Rd.some_ ?q4 ?q5), ?_⟩); (case q1 => exact und_of rfl); (case q2 => exact siz_of rfl); (case q3 => omega); (case q4 => assumption); (case q5 => omega))
            | ((refine' ⟨_, Yl_index_row rfl rfl ?q1 ?q2 ?q3 ?q4, ?_⟩); (case q1 => exact und_of rfl); (case q2 => exact siz_of rfl); (case q3 => omega); (case q4 => (repeat (first | exact .head _ | apply List.Mem.tail))))
            | ((refine' ⟨_, Yl_index rfl rfl ?q1 ?q2 ?q3 rfl, ?_⟩); (case q1 => exact und_of rfl); (case q2 => exact siz_of rfl); (case q3 => omega))
            | ((refine' ⟨_, Yl_index (j := 0) rfl rfl ?q1 ?q2 ?q3 (Rd.some_ ?q4 ?q5), ?_⟩); (case q1 => exact und_of rfl); (case q2 => exact siz_of rfl); (case q3 => omega); (case q4 => assumption); (case q5 => omega))
            | ((refine' ⟨_, Yl_index_row (j := 0) rfl rfl ?q1 ?q2 ?q3 ?q4, ?_⟩); (case q1 => exact und_of rfl); (case q2 => exact siz_of rfl); (case q3 => omega); (case q4 => (repeat (first | exact .head _ | apply List.Mem.tail))))
            | ((refine' ⟨_, Yl_indexI rfl rfl ?q1 ?q2 ?q3 ?q4 (Rd.some_ ?q5 ?q6), ?_⟩); (case q1 => exact und_of rfl); (case q2 => exact siz_of rfl); (case q3 => omega); (case q4 => omega); (case q5 => assumption); (case q6 => omega))))
            | ((with_reducible refine is_len ?_); (first | ((refine' ⟨_, Yl_len_slice rfl ?q1, ?_⟩); (case q1 => exact und_of rfl)) | ((refine' ⟨_, Yl_len_string rfl ?q1, ?_⟩); (case q1 => exact und_of rfl))))
            | ((with_reducible refine is_b_lss ?_); (first | ((refine' ⟨_, Yl_lss_t rfl rfl ?q1, ?_⟩); (case q1 => omega)) | ((refine' ⟨_, Yl_lss_f rfl rfl ?q1, ?_⟩); (case q1 => omega)) | (refine sp_lss rfl rfl ?_ ?_ <;> intro hc)))
            | ((with_reducible refine is_b_eql ?_); (first | ((refine' ⟨_, Yl_eql_t rfl rfl ?q1, ?_⟩); (case q1 => omega)) | ((refine' ⟨_, Yl_eql_f rfl rfl ?q1, ?_⟩); (case q1 => omega)) | (refine sp_eql rfl rfl ?_ ?_ <;> intro hc)  | ((refine' ⟨_, Yl_eql_bool rfl rfl ?q1, ?_⟩); (case q1 => exact und_of rfl)) | ((refine' ⟨_, Yl_eql_strT rfl rfl ?q1, ?_⟩); (case q1 => first | assumption | rfl)) | ((refine' ⟨_, Yl_eql_strF rfl rfl ?q1, ?_⟩); (case q1 => first | assumption | decide)) | (refine sp_eqlS rfl rfl ?_ ?_ <;> intro hc)))
            | ((with_reducible refine is_b_add ?_); (first | ((refine' ⟨_, Yl_add rfl rfl ?q1 ?q2, ?_⟩); (case q1 => omega); (case q2 => omega)) | ((refine' ⟨_, Yl_add8 rfl rfl ?q1 ?q2, ?_⟩); (case q1 => omega); (case q2 => omega))))
            | (fail; (first | ((fail_if_success have := b1); intro b1) | ((fail_if_success have := b2); intro b2) | ((fail_if_success have := b3); intro b3) | ((fail_if_success have := b4); intro b4) | ((fail_if_success have := b5); intro b5) | ((fail_if_success have := b6); intro b6) | ((fail_if_success have := b7); intro b7) | ((fail_if_success have := b8); intro b8) | ((fail_if_success have := b9); intro b9) | ((fail_if_success have := b10); intro b10) | ((fail_if_success have := b11); intro b11) | ((fail_if_success have := b12); intro b12)))
            | (fail; (first | ((fail_if_success have := A1); intro A1 c1) | ((fail_if_success have := A2); intro A2 c2) | ((fail_if_success have := A3); intro A3 c3) | ((fail_if_success have := A4); intro A4 c4) | ((fail_if_success have := A5); intro A5 c5) | ((fail_if_success have := A6); intro A6 c6) | ((fail_if_success have := A7); intro A7 c7)))
            | refine Ef_y rfl rfl ?_)
        exact ret_n [] (res1 rfl rfl) (List.nil_sublist _) ⟨rfl, rfl⟩
      · repeat' (first
          | with_reducible refine T.seq ?_
          | with_reducible refine T.block ?_
          | with_reducible refine T.region ?_
          | with_reducible refine T.skip ?_
          | with_reducible refine T.scope ?_
          | with_reducible refine T.label ?_
          | with_reducible refine scopeQ_n ?_
          | with_reducible refine scopeQ_r ?_
          | with_reducible refine scopeQ_x ?_
          | with_reducible refine T.ret ?_
          | with_reducible refine T.exit ?_
          | with_reducible refine seqQ_n ?_
          | with_reducible refine seqQ_x ?_
          | with_reducible refine seqQ_r ?_
          | with_reducible refine blockQ_n ?_
          | with_reducible refine blockQ_r ?_
          | with_reducible refine blockQ_x ?_
          | ((with_reducible refine g_blkx ?_); refine blockQ_y rfl ?_)
          | with_reducible refine loopQ_x ?_
          | with_reducible refine loopQ_r ?_
          | with_reducible refine joinQ_r ?_
          | with_reducible refine joinQ_x ?_
          | ((with_reducible refine g_cond ?_); (first | refine T.cond_t rfl ?_ | refine T.cond_f rfl ?_ | (refine T.cond_s rfl ?_ ?_ <;> intro hc)))
          | with_reducible refine TL_nil ?_
          | with_reducible refine TS_nil ?_
          | ((with_reducible refine TL_y' ?hy ?hd ?_); (case hy => rfl); (case hd => rfl))
          | with_reducible refine TL_e ?_
          | ((with_reducible refine g_TL ?_); (first | refine TL_gy' rfl rfl rfl rfl ?_ | refine TL_gn rfl rfl rfl ?_ | refine TL_gu rfl rfl rfl ?_ | refine TL_ge rfl rfl ?_ | refine TL_gn0 rfl rfl ?_))
          | ((with_reducible refine g_TS ?_); (first | refine TS_y rfl rfl ?_ | refine TS_e rfl ?_ | refine TS_gy rfl rfl rfl rfl ?_ | refine TS_gn rfl rfl rfl rfl ?_ | refine TS_gu rfl rfl rfl rfl ?_ | refine TS_ge rfl rfl rfl ?_ | refine TS_gne rfl rfl rfl rfl ?_ | refine TS_gue rfl rfl rfl rfl ?_ | refine TS_gne0 rfl rfl rfl ?_))
          | ((with_reducible refine TSand ?hd ?_); (case hd => (repeat (first | exact List.nil_sublist _ | refine List.Sublist.cons_cons _ ?_ | refine List.Sublist.cons _ ?_))))
          | ((with_reducible refine TBand ?hd ?_); (case hd => (repeat (first | exact List.nil_sublist _ | refine List.Sublist.cons_cons _ ?_ | refine List.Sublist.cons _ ?_))))
          | ((with_reducible refine g_TB ?_); (first | with_reducible refine TB_run ?_ | refine TB_y rfl rfl ?_ | refine TB_b rfl rfl ?_ ?_ | refine TB_e rfl ?_))
          | ((with_reducible refine is_move ?_); refine ⟨_, Yl_move rfl, ?_⟩)
          | ((with_reducible refine is_assign ?_); refine ⟨_, Yl_assign rfl, ?_⟩)
          | ((with_reducible refine is_load ?_); (first
          | ((refine' ⟨_, Yl_load_blk rfl ?q1 ?q2 ?q3, ?_⟩); (case q1 => exact one_of rfl); (case q2 => (repeat (first | exact .head _ | apply List.Mem.tail))); (case q3 => rfl))
          | ((refine' ⟨_, Yl_loadA_blk rfl ?q1 ?q2, ?_⟩); (case q1 => (repeat (first | exact .head _ | apply List.Mem.tail))); (case q2 => exact agg_of rfl))
          | ((refine' ⟨_, Yl_load_blk rfl ?q1 ?q2 ?q3, ?_⟩); (case q1 => exact one_of rfl); (case q2 => (repeat (first | exact .head _ | apply List.Mem.tail))); (case q3 => assumption))
          | ((refine' ⟨_, Yl_load_rd rfl ?q1 ?q2 List.not_mem_nil ?q3, ?_⟩); (case q1 => exact one_of rfl); (case q2 => assumption); (case q3 => assumption))
          | ((refine' ⟨_, Yl_load_row rfl ?q1 ?q2 ?q3, ?_⟩); (case q1 => exact one_of rfl); (case q2 => (repeat (first | exact .head _ | apply List.Mem.tail))); (case q3 => assumption))
          | ((refine' ⟨_, Yl_loadA_rd rfl ?qa ?qb List.not_mem_nil ?ql ?qc, ?_⟩); (case qa => exact agg_of rfl); (case qb => assumption); (case qc => assumption); (case ql => rfl))
          | ((refine' ⟨_, Yl_loadA_row rfl ?qa ?qb ?ql ?qc, ?_⟩); (case qa => exact agg_of rfl); (case qb => (repeat (first | exact .head _ | apply List.Mem.tail))); (case qc => assumption); (case ql => rfl))))
          | ((with_reducible refine is_idx ?_); (first
          | ((refine' ⟨_, Yl_index rfl rfl ?q1 ?q2 ?q3 (Rd.some_ ?q4 ?q5), ?_⟩); (case q1 => exact und_of rfl); (case q2 => exact siz_of rfl); (case q3 => omega); (case q4 => assumption); (case q5 => omega))
          | ((refine' ⟨_, Yl_index_row rfl rfl ?q1 ?q2 ?q3 ?q4, ?_⟩); (case q1 => exact und_of rfl); (case q2 => exact siz_of rfl); (case q3 => omega); (case q4 => (repeat (first | exact .head _ | apply List.Mem.tail))))
          | ((refine' ⟨_, Yl_index rfl rfl ?q1 ?q2 ?q3 rfl, ?_⟩); (case q1 => exact und_of rfl); (case q2 => exact siz_of rfl); (case q3 => omega))
          | ((refine' ⟨_, Yl_index (j := 0) rfl rfl ?q1 ?q2 ?q3 (Rd.some_ ?q4 ?q5), ?_⟩); (case q1 => exact und_of rfl); (case q2 => exact siz_of rfl); (case q3 => omega); (case q4 => assumption); (case q5 => omega))
          | ((refine' ⟨_, Yl_index_row (j := 0) rfl rfl ?q1 ?q2 ?q3 ?q4, ?_⟩); (case q1 => exact und_of rfl); (case q2 => exact siz_of rfl); (case q3 => omega); (case q4 => (repeat (first | exact .head _ | apply List.Mem.tail))))
          | ((refine' ⟨_, Yl_indexI rfl rfl ?q1 ?q2 ?q3 ?q4 (Rd.some_ ?q5 ?q6), ?_⟩); (case q1 => exact und_of rfl); (case q2 => exact siz_of rfl); (case q3 => omega); (case q4 => omega); (case q5 => assumption); (case q6 => omega))))
          | ((with_reducible refine is_len ?_); (first | ((refine' ⟨_, Yl_len_slice rfl ?q1, ?_⟩); (case q1 => exact und_of rfl)) | ((refine' ⟨_, Yl_len_string rfl ?q1, ?_⟩); (case q1 => exact und_of rfl))))
          | ((with_reducible refine is_b_lss ?_); (first | ((refine' ⟨_, Yl_lss_t rfl rfl ?q1, ?_⟩); (case q1 => omega)) | ((refine' ⟨_, Yl_lss_f rfl rfl ?q1, ?_⟩); (case q1 => omega)) | (refine sp_lss rfl rfl ?_ ?_ <;> intro hc)))
          | ((with_reducible refine is_b_eql ?_); (first | ((refine' ⟨_, Yl_eql_t rfl rfl ?q1, ?_⟩); (case q1 => omega)) | ((refine' ⟨_, Yl_eql_f rfl rfl ?q1, ?_⟩); (case q1 => omega)) | (refine sp_eql rfl rfl ?_ ?_ <;> intro hc)  | ((refine' ⟨_, Yl_eql_bool rfl rfl ?q1, ?_⟩); (case q1 => exact und_of rfl)) | ((refine' ⟨_, Yl_eql_strT rfl rfl ?q1, ?_⟩); (case q1 => first | assumption | rfl)) | ((refine' ⟨_, Yl_eql_strF rfl rfl ?q1, ?_⟩); (case q1 => first | assumption | decide)) | (refine sp_eqlS rfl rfl ?_ ?_ <;> intro hc)))
          | ((with_reducible refine is_b_add ?_); (first | ((refine' ⟨_, Yl_add rfl rfl ?q1 ?q2, ?_⟩); (case q1 => omega); (case q2 => omega)) | ((refine' ⟨_, Yl_add8 rfl rfl ?q1 ?q2, ?_⟩); (case q1 => omega); (case q2 => omega))))
          | (fail; (first | ((fail_if_success have := b1); intro b1) | ((fail_if_success have := b2); intro b2) | ((fail_if_success have := b3); intro b3) | ((fail_if_success have := b4); intro b4) | ((fail_if_success have := b5); intro b5) | ((fail_if_success have := b6); intro b6) | ((fail_if_success have := b7); intro b7) | ((fail_if_success have := b8); intro b8) | ((fail_if_success have := b9); intro b9) | ((fail_if_success have := b10); intro b10) | ((fail_if_success have := b11); intro b11) | ((fail_if_success have := b12); intro b12)))
          | (fail; (first | ((fail_if_success have := A1); intro A1 c1) | ((fail_if_success have := A2); intro A2 c2) | ((fail_if_success have := A3); intro A3 c3) | ((fail_if_success have := A4); intro A4 c4) | ((fail_if_success have := A5); intro A5 c5) | ((fail_if_success have := A6); intro A6 c6) | ((fail_if_success have := A7); intro A7 c7)))
          | refine Ef_y rfl rfl ?_)
        refine loopQ_n (i + 1) ?_ ?_ ⟨by (first | omega | (dsimp only; omega) | (simp; omega)), by rw [take_snoc hx, List.mem_append, List.mem_singleton]; exact fun h => h.elim hno he⟩ (by (first | omega | (dsimp only; omega) | (simp; omega)))
        · (repeat (first | exact Sub.nil | refine Sub.cons rfl ?_))
        · (repeat (first | exact List.nil_sublist _ | refine List.Sublist.cons_cons _ ?_ | refine List.Sublist.cons _ ?_))
    · rw [List.take_of_length_le (by omega)] at hno
      rw [decide_eq_false hno]
      repeat' (first
          | with_reducible refine T.seq ?_
          | with_reducible refine T.block ?_
          | with_reducible refine T.region ?_
          | with_reducible refine T.skip ?_
          | with_reducible refine T.scope ?_
          | with_reducible refine T.label ?_
          | with_reducible refine scopeQ_n ?_
          | with_reducible refine scopeQ_r ?_
          | with_reducible refine scopeQ_x ?_
          | with_reducible refine T.ret ?_
          | with_reducible refine T.exit ?_
          | with_reducible refine seqQ_n ?_
          | with_reducible refine seqQ_x ?_
          | with_reducible refine seqQ_r ?_
          | with_reducible refine blockQ_n ?_
          | with_reducible refine blockQ_r ?_
          | with_reducible refine blockQ_x ?_
          | ((with_reducible refine g_blkx ?_); refine blockQ_y rfl ?_)
          | with_reducible refine loopQ_x ?_
          | with_reducible refine loopQ_r ?_
          | with_reducible refine joinQ_r ?_
          | with_reducible refine joinQ_x ?_
          | ((with_reducible refine g_cond ?_); (first | refine T.cond_t rfl ?_ | refine T.cond_f rfl ?_ | (refine T.cond_s rfl ?_ ?_ <;> intro hc)))
          | with_reducible refine TL_nil ?_
          | with_reducible refine TS_nil ?_
          | ((with_reducible refine TL_y' ?hy ?hd ?_); (case hy => rfl); (case hd => rfl))
          | with_reducible refine TL_e ?_
          | ((with_reducible refine g_TL ?_); (first | refine TL_gy' rfl rfl rfl rfl ?_ | refine TL_gn rfl rfl rfl ?_ | refine TL_gu rfl rfl rfl ?_ | refine TL_ge rfl rfl ?_ | refine TL_gn0 rfl rfl ?_))
          | ((with_reducible refine g_TS ?_); (first | refine TS_y rfl rfl ?_ | refine TS_e rfl ?_ | refine TS_gy rfl rfl rfl rfl ?_ | refine TS_gn rfl rfl rfl rfl ?_ | refine TS_gu rfl rfl rfl rfl ?_ | refine TS_ge rfl rfl rfl ?_ | refine TS_gne rfl rfl rfl rfl ?_ | refine TS_gue rfl rfl rfl rfl ?_ | refine TS_gne0 rfl rfl rfl ?_))
          | ((with_reducible refine TSand ?hd ?_); (case hd => (repeat (first | exact List.nil_sublist _ | refine List.Sublist.cons_cons _ ?_ | refine List.Sublist.cons _ ?_))))
          | ((with_reducible refine TBand ?hd ?_); (case hd => (repeat (first | exact List.nil_sublist _ | refine List.Sublist.cons_cons _ ?_ | refine List.Sublist.cons _ ?_))))
          | ((with_reducible refine g_TB ?_); (first | with_reducible refine TB_run ?_ | refine TB_y rfl rfl ?_ | refine TB_b rfl rfl ?_ ?_ | refine TB_e rfl ?_))
          | ((with_reducible refine is_move ?_); refine ⟨_, Yl_move rfl, ?_⟩)
          | ((with_reducible refine is_assign ?_); refine ⟨_, Yl_assign rfl, ?_⟩)
          | ((with_reducible refine is_load ?_); (first
          | ((refine' ⟨_, Yl_load_blk rfl ?q1 ?q2 ?q3, ?_⟩); (case q1 => exact one_of rfl); (case q2 => (repeat (first | exact .head _ | apply List.Mem.tail))); (case q3 => rfl))
          | ((refine' ⟨_, Yl_loadA_blk rfl ?q1 ?q2, ?_⟩); (case q1 => (repeat (first | exact .head _ | apply List.Mem.tail))); (case q2 => exact agg_of rfl))
          | ((refine' ⟨_, Yl_load_blk rfl ?q1 ?q2 ?q3, ?_⟩); (case q1 => exact one_of rfl); (case q2 => (repeat (first | exact .head _ | apply List.Mem.tail))); (case q3 => assumption))
          | ((refine' ⟨_, Yl_load_rd rfl ?q1 ?q2 List.not_mem_nil ?q3, ?_⟩); (case q1 => exact one_of rfl); (case q2 => assumption); (case q3 => assumption))
          | ((refine' ⟨_, Yl_load_row rfl ?q1 ?q2 ?q3, ?_⟩); (case q1 => exact one_of rfl); (case q2 => (repeat (first | exact .head _ | apply List.Mem.tail))); (case q3 => assumption))
          | ((refine' ⟨_, Yl_loadA_rd rfl ?qa ?qb List.not_mem_nil ?ql ?qc, ?_⟩); (case qa => exact agg_of rfl); (case qb => assumption); (case qc => assumption); (case ql => rfl))
          | ((refine' ⟨_, Yl_loadA_row rfl ?qa ?qb ?ql ?qc, ?_⟩); (case qa => exact agg_of rfl); (case qb => (repeat (first | exact .head _ | apply List.Mem.tail))); (case qc => assumption); (case ql => rfl))))
          | ((with_reducible refine is_idx ?_); (first
          | ((refine' ⟨_, Yl_index rfl rfl ?q1 ?q2 ?q3 (Rd.some_ ?q4 ?q5), ?_⟩); (case q1 => exact und_of rfl); (case q2 => exact siz_of rfl); (case q3 => omega); (case q4 => assumption); (case q5 => omega))
          | ((refine' ⟨_, Yl_index_row rfl rfl ?q1 ?q2 ?q3 ?q4, ?_⟩); (case q1 => exact und_of rfl); (case q2 => exact siz_of rfl); (case q3 => omega); (case q4 => (repeat (first | exact .head _ | apply List.Mem.tail))))
          | ((refine' ⟨_, Yl_index rfl rfl ?q1 ?q2 ?q3 rfl, ?_⟩); (case q1 => exact und_of rfl); (case q2 => exact siz_of rfl); (case q3 => omega))
          | ((refine' ⟨_, Yl_index (j := 0) rfl rfl ?q1 ?q2 ?q3 (Rd.some_ ?q4 ?q5), ?_⟩); (case q1 => exact und_of rfl); (case q2 => exact siz_of rfl); (case q3 => omega); (case q4 => assumption); (case q5 => omega))
          | ((refine' ⟨_, Yl_index_row (j := 0) rfl rfl ?q1 ?q2 ?q3 ?q4, ?_⟩); (case q1 => exact und_of rfl); (case q2 => exact siz_of rfl); (case q3 => omega); (case q4 => (repeat (first | exact .head _ | apply List.Mem.tail))))
          | ((refine' ⟨_, Yl_indexI rfl rfl ?q1 ?q2 ?q3 ?q4 (Rd.some_ ?q5 ?q6), ?_⟩); (case q1 => exact und_of rfl); (case q2 => exact siz_of rfl); (case q3 => omega); (case q4 => omega); (case q5 => assumption); (case q6 => omega))))
          | ((with_reducible refine is_len ?_); (first | ((refine' ⟨_, Yl_len_slice rfl ?q1, ?_⟩); (case q1 => exact und_of rfl)) | ((refine' ⟨_, Yl_len_string rfl ?q1, ?_⟩); (case q1 => exact und_of rfl))))
          | ((with_reducible refine is_b_lss ?_); (first | ((refine' ⟨_, Yl_lss_t rfl rfl ?q1, ?_⟩); (case q1 => omega)) | ((refine' ⟨_, Yl_lss_f rfl rfl ?q1, ?_⟩); (case q1 => omega)) | (refine sp_lss rfl rfl ?_ ?_ <;> intro hc)))
          | ((with_reducible refine is_b_eql ?_); (first | ((refine' ⟨_, Yl_eql_t rfl rfl ?q1, ?_⟩); (case q1 => omega)) | ((refine' ⟨_, Yl_eql_f rfl rfl ?q1, ?_⟩); (case q1 => omega)) | (refine sp_eql rfl rfl ?_ ?_ <;> intro hc)  | ((refine' ⟨_, Yl_eql_bool rfl rfl ?q1, ?_⟩); (case q1 => exact und_of rfl)) | ((refine' ⟨_, Yl_eql_strT rfl rfl ?q1, ?_⟩); (case q1 => first | assumption | rfl)) | ((refine' ⟨_, Yl_eql_strF rfl rfl ?q1, ?_⟩); (case q1 => first | assumption | decide)) | (refine sp_eqlS rfl rfl ?_ ?_ <;> intro hc)))
          | ((with_reducible refine is_b_add ?_); (first | ((refine' ⟨_, Yl_add rfl rfl ?q1 ?q2, ?_⟩); (case q1 => omega); (case q2 => omega)) | ((refine' ⟨_, Yl_add8 rfl rfl ?q1 ?q2, ?_⟩); (case q1 => omega); (case q2 => omega))))
          | (fail; (first | ((fail_if_success have := b1); intro b1) | ((fail_if_success have := b2); intro b2) | ((fail_if_success have := b3); intro b3) | ((fail_if_success have := b4); intro b4) | ((fail_if_success have := b5); intro b5) | ((fail_if_success have := b6); intro b6) | ((fail_if_success have := b7); intro b7) | ((fail_if_success have := b8); intro b8) | ((fail_if_success have := b9); intro b9) | ((fail_if_success have := b10); intro b10) | ((fail_if_success have := b11); intro b11) | ((fail_if_success have := b12); intro b12)))
          | (fail; (first | ((fail_if_success have := A1); intro A1 c1) | ((fail_if_success have := A2); intro A2 c2) | ((fail_if_success have := A3); intro A3 c3) | ((fail_if_success have := A4); intro A4 c4) | ((fail_if_success have := A5); intro A5 c5) | ((fail_if_success have := A6); intro A6 c6) | ((fail_if_success have := A7); intro A7 c7)))
          | refine Ef_y rfl rfl ?_)
      exact ret_n [] (res1 rfl rfl) (List.nil_sublist _) ⟨rfl, rfl⟩
end
end Go.Proofs.Ytmiimnlboighmaa
