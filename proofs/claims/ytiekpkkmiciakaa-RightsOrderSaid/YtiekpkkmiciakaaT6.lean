/- The functions on lines of grants: what a call of each comes to: for every slice of grants. -/
import Derived.Test.YtiekpkkmiciakaaT2
namespace Go.Proofs.Ytiekpkkmiciakaa
open Go.RowKit
set_option maxRecDepth 20000

section
variable (A : Option Addr) (len cap : Nat) (l : List Rt.G)

set_option maxHeartbeats 1000000 in
theorem line_v (b : Bool) (w : World) (hr : Rd w A len 3 (l.flatMap gE)) (hl : l.length = len) (hb : Rt.line l = b) : Sp Try.prog 17 [.slice A len cap] w [] fun v N => v = .bool b ∧ N = [] := by
  subst hb
  refine Sp.enter (n := 23) Try.func17 rfl rfl rfl (Hp.refl w) ?_
  repeat' (first
          | with_reducible refine T.seq ?_
          | with_reducible refine T.block ?_
          | with_reducible refine T.region ?_
          | with_reducible refine T.skip ?_
          | with_reducible refine T.ret ?_
          | with_reducible refine T.exit ?_
          | with_reducible refine seqQ_n ?_
          | with_reducible refine seqQ_x ?_
          | with_reducible refine seqQ_r ?_
          | with_reducible refine blockQ_n ?_
          | with_reducible refine blockQ_r ?_
          | with_reducible refine blockQ_x ?_
          | ((with_reducible refine g_blkx ?_); refine blockQ_y rfl ?_)
          | with_reducible refine loopQ_x ?_
          | with_reducible refine loopQ_r ?_
          | with_reducible refine joinQ_r ?_
          | with_reducible refine joinQ_x ?_
          | ((with_reducible refine g_cond ?_); (first | refine T.cond_t rfl ?_ | refine T.cond_f rfl ?_ | (refine T.cond_s rfl ?_ ?_ <;> intro hc)))
          | with_reducible refine TL_nil ?_
          | with_reducible refine TS_nil ?_
          | ((with_reducible refine g_draw ?_); (first | (((with_reducible refine' T.drawM (id := 3) [(0, true), (1, true), (2, true), (3, true), (4, true), (5, true), (6, true), (7, true), (8, false), (9, false)] mixd ?q1 ?_); (case q1 => kernel_rfl)))))
          | ((with_reducible refine TL_y' ?hy ?hd ?_); (case hy => rfl); (case hd => rfl))
          | with_reducible refine TL_e ?_
          | ((with_reducible refine g_TL ?_); (first | refine TL_gy' rfl rfl rfl rfl ?_ | refine TL_gn rfl rfl rfl ?_ | refine TL_gu rfl rfl rfl ?_ | refine TL_ge rfl rfl ?_ | refine TL_gn0 rfl rfl ?_))
          | ((with_reducible refine g_TS ?_); (first | refine TS_y rfl rfl ?_ | refine TS_e rfl ?_ | refine TS_gy rfl rfl rfl rfl ?_ | refine TS_gn rfl rfl rfl rfl ?_ | refine TS_gu rfl rfl rfl rfl ?_ | refine TS_ge rfl rfl rfl ?_ | refine TS_gne rfl rfl rfl rfl ?_ | refine TS_gue rfl rfl rfl rfl ?_ | refine TS_gne0 rfl rfl rfl ?_))
          | ((with_reducible refine TSand ?hd ?_); (case hd => (repeat (first | exact List.nil_sublist _ | refine List.Sublist.cons_cons _ ?_ | refine List.Sublist.cons _ ?_))))
          | ((with_reducible refine TBand ?hd ?_); (case hd => (repeat (first | exact List.nil_sublist _ | refine List.Sublist.cons_cons _ ?_ | refine List.Sublist.cons _ ?_))))
          | ((with_reducible refine g_TB ?_); (first | with_reducible refine TB_run ?_ | refine TB_y rfl rfl ?_ | refine TB_b rfl rfl ?_ ?_ | refine TB_e rfl ?_))
          | ((with_reducible refine is_move ?_); refine ⟨_, Yl_move rfl, ?_⟩)
          | ((with_reducible refine is_assign ?_); refine ⟨_, Yl_assign rfl, ?_⟩)
          | ((with_reducible refine is_pick ?_); (first | refine ⟨_, Yl_pick_t rfl rfl, ?_⟩ | refine ⟨_, Yl_pick_f rfl rfl, ?_⟩))
          | ((with_reducible refine is_nil ?_); refine ⟨_, Yl_nilCheck rfl, ?_⟩)
          | ((with_reducible refine is_fld ?_); (first | ((refine' ⟨_, Yl_fld_ad rfl ?q1, ?_⟩); (case q1 => exact fld_of rfl rfl)) | ((refine' ⟨_, Yl_fld_blk0 rfl ?q1, ?_⟩); (case q1 => exact fld_of rfl rfl)) | ((refine' ⟨_, Yl_fld_blk rfl ?q1, ?_⟩); (case q1 => exact fld_of rfl rfl))))
          | ((with_reducible refine is_load ?_)
             (first
             | fail
             | ((refine' ⟨_, Yl_load_blk rfl ?q1 ?q2 ?q3, ?_⟩); (case q1 => exact one_of rfl); (case q2 => (repeat (first | exact .head _ | apply List.Mem.tail))); (case q3 => rfl))
             | ((refine' ⟨_, Yl_loadA_blk rfl ?q1 ?q2, ?_⟩); (case q1 => (repeat (first | exact .head _ | apply List.Mem.tail))); (case q2 => exact agg_of rfl))
             | ((refine' ⟨_, Yl_load_blk rfl ?q1 ?q2 ?q3, ?_⟩); (case q1 => exact one_of rfl); (case q2 => (repeat (first | exact .head _ | apply List.Mem.tail))); (case q3 => assumption))
             | ((refine' ⟨_, Yl_load_rd rfl ?q1 ?q2 List.not_mem_nil ?q3, ?_⟩); (case q1 => exact one_of rfl); (case q2 => assumption); (case q3 => assumption))
             | ((refine' ⟨_, Yl_load_row rfl ?q1 ?q2 ?q3, ?_⟩); (case q1 => exact one_of rfl); (case q2 => (repeat (first | exact .head _ | apply List.Mem.tail))); (case q3 => assumption))
             | ((refine' ⟨_, Yl_loadA_rd rfl ?qa ?qb List.not_mem_nil ?ql ?qc, ?_⟩); (case qa => exact agg_of rfl); (case qb => assumption); (case qc => assumption); (case ql => rfl))
             | ((refine' ⟨_, Yl_loadA_row rfl ?qa ?qb ?ql ?qc, ?_⟩); (case qa => exact agg_of rfl); (case qb => (repeat (first | exact .head _ | apply List.Mem.tail))); (case qc => assumption); (case ql => rfl))))
          | ((with_reducible refine is_idx ?_)
             (first
             | fail
             | ((refine' ⟨_, Yl_index rfl rfl ?q1 ?q2 ?q3 (Rd.some_ ?q4 ?q5), ?_⟩); (case q1 => exact und_of rfl); (case q2 => exact siz_of rfl); (case q3 => omega); (case q4 => assumption); (case q5 => omega))
             | ((refine' ⟨_, Yl_index_row rfl rfl ?q1 ?q2 ?q3 ?q4, ?_⟩); (case q1 => exact und_of rfl); (case q2 => exact siz_of rfl); (case q3 => omega); (case q4 => (repeat (first | exact .head _ | apply List.Mem.tail))))
             | ((refine' ⟨_, Yl_index rfl rfl ?q1 ?q2 ?q3 rfl, ?_⟩); (case q1 => exact und_of rfl); (case q2 => exact siz_of rfl); (case q3 => omega))
             | ((refine' ⟨_, Yl_index (j := 0) rfl rfl ?q1 ?q2 ?q3 (Rd.some_ ?q4 ?q5), ?_⟩); (case q1 => exact und_of rfl); (case q2 => exact siz_of rfl); (case q3 => omega); (case q4 => assumption); (case q5 => omega))
             | ((refine' ⟨_, Yl_index_row (j := 0) rfl rfl ?q1 ?q2 ?q3 ?q4, ?_⟩); (case q1 => exact und_of rfl); (case q2 => exact siz_of rfl); (case q3 => omega); (case q4 => (repeat (first | exact .head _ | apply List.Mem.tail))))))
          | ((with_reducible refine is_ext ?_); refine ⟨_, Yl_extract rfl rfl, ?_⟩)
          | ((with_reducible refine is_un ?_); refine ⟨_, Yl_not rfl, ?_⟩)
          | ((with_reducible refine is_len ?_); (first | ((refine' ⟨_, Yl_len_slice rfl ?q1, ?_⟩); (case q1 => exact und_of rfl)) | ((refine' ⟨_, Yl_len_string rfl ?q1, ?_⟩); (case q1 => exact und_of rfl))))
          | ((with_reducible refine is_b_lss ?_); (first | ((refine' ⟨_, Yl_lss_t rfl rfl ?q1, ?_⟩); (case q1 => omega)) | ((refine' ⟨_, Yl_lss_f rfl rfl ?q1, ?_⟩); (case q1 => omega)) | (refine sp_lss rfl rfl ?_ ?_ <;> intro hc)))
          | ((with_reducible refine is_b_leq ?_); (first | ((refine' ⟨_, Yl_leq_t rfl rfl ?q1, ?_⟩); (case q1 => omega)) | ((refine' ⟨_, Yl_leq_f rfl rfl ?q1, ?_⟩); (case q1 => omega)) | (refine sp_leq rfl rfl ?_ ?_ <;> intro hc)))
          | ((with_reducible refine is_b_gtr ?_); (first | ((refine' ⟨_, Yl_gtr_t rfl rfl ?q1, ?_⟩); (case q1 => omega)) | ((refine' ⟨_, Yl_gtr_f rfl rfl ?q1, ?_⟩); (case q1 => omega)) | (refine sp_gtr rfl rfl ?_ ?_ <;> intro hc)))
          | ((with_reducible refine is_b_geq ?_); (first | ((refine' ⟨_, Yl_geq_t rfl rfl ?q1, ?_⟩); (case q1 => omega)) | ((refine' ⟨_, Yl_geq_f rfl rfl ?q1, ?_⟩); (case q1 => omega)) | (refine sp_geq rfl rfl ?_ ?_ <;> intro hc)))
          | ((with_reducible refine is_b_eql ?_)
             (first
             | ((refine' ⟨_, Yl_eql_t rfl rfl ?q1, ?_⟩); (case q1 => omega))
             | ((refine' ⟨_, Yl_eql_f rfl rfl ?q1, ?_⟩); (case q1 => omega))
             | (refine sp_eql rfl rfl ?_ ?_ <;> intro hc)
             | ((refine' ⟨_, Yl_remk (m := 2) rfl rfl ?q1 ?q2, ?_⟩); (case q1 => omega); (case q2 => omega))
             | ((refine' ⟨_, Yl_quo8 (m := 2) rfl rfl ?q1 ?q2 ?q3, ?_⟩); (case q1 => omega); (case q2 => omega); (case q3 => omega))
             | ((refine' ⟨_, Yl_quo8 (m := 4) rfl rfl ?q1 ?q2 ?q3, ?_⟩); (case q1 => omega); (case q2 => omega); (case q3 => omega))
             | ((refine' ⟨_, Yl_quo8 (m := 8) rfl rfl ?q1 ?q2 ?q3, ?_⟩); (case q1 => omega); (case q2 => omega); (case q3 => omega))
             | ((refine' ⟨_, Yl_addS rfl rfl ?q1, ?_⟩); (case q1 => decide))
             | refine ⟨_, Yl_eql_str rfl rfl, ?_⟩
             | ((refine' ⟨_, Yl_and8 rfl rfl ?q1 ?q2 ?q3 ?q4, ?_⟩); (case q1 => omega); (case q2 => omega); (case q3 => omega); (case q4 => omega))
             | ((refine' ⟨_, Yl_eql_bool rfl rfl ?q1, ?_⟩); (case q1 => exact und_of rfl))
             | ((refine' ⟨_, Yl_eql_strT rfl rfl ?q1, ?_⟩); (case q1 => first | assumption | rfl))
             | ((refine' ⟨_, Yl_eql_strF rfl rfl ?q1, ?_⟩); (case q1 => first | assumption | decide))
             | (refine sp_eqlS rfl rfl ?_ ?_ <;> intro hc)))
          | ((with_reducible refine is_b_neq ?_)
             (first
             | ((refine' ⟨_, Yl_neq_t rfl rfl ?q1, ?_⟩); (case q1 => omega))
             | ((refine' ⟨_, Yl_neq_f rfl rfl ?q1, ?_⟩); (case q1 => omega))
             | (refine sp_neq rfl rfl ?_ ?_ <;> intro hc)
             | ((refine' ⟨_, Yl_remk (m := 2) rfl rfl ?q1 ?q2, ?_⟩); (case q1 => omega); (case q2 => omega))
             | ((refine' ⟨_, Yl_quo8 (m := 2) rfl rfl ?q1 ?q2 ?q3, ?_⟩); (case q1 => omega); (case q2 => omega); (case q3 => omega))
             | ((refine' ⟨_, Yl_quo8 (m := 4) rfl rfl ?q1 ?q2 ?q3, ?_⟩); (case q1 => omega); (case q2 => omega); (case q3 => omega))
             | ((refine' ⟨_, Yl_quo8 (m := 8) rfl rfl ?q1 ?q2 ?q3, ?_⟩); (case q1 => omega); (case q2 => omega); (case q3 => omega))
             | ((refine' ⟨_, Yl_addS rfl rfl ?q1, ?_⟩); (case q1 => decide))
             | refine ⟨_, Yl_eql_str rfl rfl, ?_⟩
             | ((refine' ⟨_, Yl_and8 rfl rfl ?q1 ?q2 ?q3 ?q4, ?_⟩); (case q1 => omega); (case q2 => omega); (case q3 => omega); (case q4 => omega))
             | ((refine' ⟨_, Yl_neq_bool rfl rfl ?q1, ?_⟩); (case q1 => exact und_of rfl))
             | ((refine' ⟨_, Yl_neq_strT rfl rfl ?q1, ?_⟩); (case q1 => first | assumption | decide))
             | ((refine' ⟨_, Yl_neq_strF rfl rfl ?q1, ?_⟩); (case q1 => first | assumption | rfl))
             | (refine sp_neqS rfl rfl ?_ ?_ <;> intro hc)))
          | ((with_reducible refine is_b_add ?_)
             (first
             | ((refine' ⟨_, Yl_add rfl rfl ?q1 ?q2, ?_⟩); (case q1 => omega); (case q2 => omega))
             | ((refine' ⟨_, Yl_add8 rfl rfl ?q1 ?q2, ?_⟩); (case q1 => omega); (case q2 => omega))
             | ((refine' ⟨_, Yl_remk (m := 2) rfl rfl ?q1 ?q2, ?_⟩); (case q1 => omega); (case q2 => omega))
             | ((refine' ⟨_, Yl_quo8 (m := 2) rfl rfl ?q1 ?q2 ?q3, ?_⟩); (case q1 => omega); (case q2 => omega); (case q3 => omega))
             | ((refine' ⟨_, Yl_quo8 (m := 4) rfl rfl ?q1 ?q2 ?q3, ?_⟩); (case q1 => omega); (case q2 => omega); (case q3 => omega))
             | ((refine' ⟨_, Yl_quo8 (m := 8) rfl rfl ?q1 ?q2 ?q3, ?_⟩); (case q1 => omega); (case q2 => omega); (case q3 => omega))
             | ((refine' ⟨_, Yl_addS rfl rfl ?q1, ?_⟩); (case q1 => decide))
             | refine ⟨_, Yl_eql_str rfl rfl, ?_⟩
             | ((refine' ⟨_, Yl_and8 rfl rfl ?q1 ?q2 ?q3 ?q4, ?_⟩); (case q1 => omega); (case q2 => omega); (case q3 => omega); (case q4 => omega))))
          | ((with_reducible refine is_min ?_); refine ⟨_, Yl_min rfl rfl, ?_⟩)
          | ((with_reducible refine is_max ?_); refine ⟨_, Yl_max rfl rfl, ?_⟩)
          | ((with_reducible refine is_b_sub ?_)
             (first
             | ((refine' ⟨_, Yl_sub rfl rfl ?q1 ?q2, ?_⟩); (case q1 => omega); (case q2 => omega))
             | ((refine' ⟨_, Yl_remk (m := 2) rfl rfl ?q1 ?q2, ?_⟩); (case q1 => omega); (case q2 => omega))
             | ((refine' ⟨_, Yl_quo8 (m := 2) rfl rfl ?q1 ?q2 ?q3, ?_⟩); (case q1 => omega); (case q2 => omega); (case q3 => omega))
             | ((refine' ⟨_, Yl_quo8 (m := 4) rfl rfl ?q1 ?q2 ?q3, ?_⟩); (case q1 => omega); (case q2 => omega); (case q3 => omega))
             | ((refine' ⟨_, Yl_quo8 (m := 8) rfl rfl ?q1 ?q2 ?q3, ?_⟩); (case q1 => omega); (case q2 => omega); (case q3 => omega))
             | ((refine' ⟨_, Yl_addS rfl rfl ?q1, ?_⟩); (case q1 => decide))
             | refine ⟨_, Yl_eql_str rfl rfl, ?_⟩
             | ((refine' ⟨_, Yl_and8 rfl rfl ?q1 ?q2 ?q3 ?q4, ?_⟩); (case q1 => omega); (case q2 => omega); (case q3 => omega); (case q4 => omega))))
          | ((with_reducible refine is_build ?_); (first | fail))
          | (first
            | ((refine' ⟨_, Yl_remk (m := 2) rfl rfl ?q1 ?q2, ?_⟩); (case q1 => omega); (case q2 => omega))
            | ((refine' ⟨_, Yl_quo8 (m := 2) rfl rfl ?q1 ?q2 ?q3, ?_⟩); (case q1 => omega); (case q2 => omega); (case q3 => omega))
            | ((refine' ⟨_, Yl_quo8 (m := 4) rfl rfl ?q1 ?q2 ?q3, ?_⟩); (case q1 => omega); (case q2 => omega); (case q3 => omega))
            | ((refine' ⟨_, Yl_quo8 (m := 8) rfl rfl ?q1 ?q2 ?q3, ?_⟩); (case q1 => omega); (case q2 => omega); (case q3 => omega))
            | ((refine' ⟨_, Yl_addS rfl rfl ?q1, ?_⟩); (case q1 => decide))
            | refine ⟨_, Yl_eql_str rfl rfl, ?_⟩
            | ((refine' ⟨_, Yl_and8 rfl rfl ?q1 ?q2 ?q3 ?q4, ?_⟩); (case q1 => omega); (case q2 => omega); (case q3 => omega); (case q4 => omega)))
          | ((with_reducible refine ie_box ?_)
             (first
             | (refine Ef_boxA rfl rfl ?_; (first | ((fail_if_success have := b1); intro b1) | ((fail_if_success have := b2); intro b2) | ((fail_if_success have := b3); intro b3) | ((fail_if_success have := b4); intro b4) | ((fail_if_success have := b5); intro b5) | ((fail_if_success have := b6); intro b6) | ((fail_if_success have := b7); intro b7) | ((fail_if_success have := b8); intro b8) | ((fail_if_success have := b9); intro b9)))
             | (refine Ef_box1 rfl rfl rfl ?_; (first | ((fail_if_success have := b1); intro b1) | ((fail_if_success have := b2); intro b2) | ((fail_if_success have := b3); intro b3) | ((fail_if_success have := b4); intro b4) | ((fail_if_success have := b5); intro b5) | ((fail_if_success have := b6); intro b6) | ((fail_if_success have := b7); intro b7) | ((fail_if_success have := b8); intro b8) | ((fail_if_success have := b9); intro b9)))))
          | ((with_reducible refine ie_alloc ?_); (first | fail | (((refine' Ef_alloc rfl ?q1 ?_); (case q1 => exact zer_of rfl)); (first | ((fail_if_success have := b1); intro b1) | ((fail_if_success have := b2); intro b2) | ((fail_if_success have := b3); intro b3) | ((fail_if_success have := b4); intro b4) | ((fail_if_success have := b5); intro b5) | ((fail_if_success have := b6); intro b6) | ((fail_if_success have := b7); intro b7) | ((fail_if_success have := b8); intro b8) | ((fail_if_success have := b9); intro b9)))))
          | ((with_reducible refine ie_store ?_)
             (first
             | fail
             | ((refine' Ef_store_rowA rfl rfl ?q1 ?q2 ?q3 ?q4 ?q5 ?q6 ?_); (case q1 => exact siz_of rfl); (case q2 => rfl); (case q3 => (first | assumption | (intro u hu; rcases hu with _ | ⟨_, _ | ⟨_, _ | ⟨_, _ | ⟨_, hu⟩⟩⟩⟩ <;> first | rfl | (cases hu; done)))); (case q4 => (first | exact at0 | exact at1 | exact at2 | exact at3 | exact at4 | exact at5 | exact at6)); (case q5 => omega); (case q6 => assumption))
             | ((refine' Ef_storeA' rfl rfl ?q1 ?q2 ?q3 ?q4 ?_); (case q1 => exact siz_of rfl); (case q2 => (first | assumption | (intro u hu; rcases hu with _ | ⟨_, _ | ⟨_, _ | ⟨_, _ | ⟨_, hu⟩⟩⟩⟩ <;> first | rfl | (cases hu; done)))); (case q3 => (first | exact at0 | exact at1 | exact at2 | exact at3 | exact at4 | exact at5 | exact at6)); (case q4 => rfl))
             | ((refine' Ef_storeC rfl rfl ?q1 ?q2 ?q3 ?q4 ?q5 ?_); (case q1 => rfl); (case q2 => exact siz_of rfl); (case q3 => (first | exact at0 | exact at1 | exact at2 | exact at3 | exact at4 | exact at5 | exact at6)); (case q4 => exact Nat.le_of_ble_eq_true rfl); (case q5 => rfl))))
          | ((with_reducible refine ie_callf ?_)
             (first
             | ((with_reducible refine g_call 18 ?_); (first | refine Ef_callP rfl rfl ent_18 (fun w _ => may_v x true w hmx) ?_ | refine Ef_callP rfl rfl ent_18 (fun w _ => may_v x false w hmx) ?_))
             | ((with_reducible refine g_call 21 ?_); (first | refine Ef_callP rfl rfl ent_21 (fun w _ => rmay_v x true w hmx) ?_ | refine Ef_callP rfl rfl ent_21 (fun w _ => rmay_v x false w hmx) ?_))
             | ((with_reducible refine g_call 17 ?_); (first | refine Ef_callP rfl rfl ent_17 (fun w hp => line_v A len cap l true w (hp.rd hr fun _ => List.not_mem_nil) hl hb) ?_ | refine Ef_callP rfl rfl ent_17 (fun w hp => line_v A len cap l false w (hp.rd hr fun _ => List.not_mem_nil) hl hb) ?_))))
          | ((with_reducible refine ie_app ?_)
             (first
             | fail
             | (((refine' Ef_app0_rd rfl rfl rfl ?q1 ?q2 ?q3 ?q4 ?q5 ?q6 ?q7 ?_); (case q1 => exact app_of rfl); (case q2 => (first | exact at0 | exact at1 | exact at2 | exact at3 | exact at4 | exact at5 | exact at6)); (case q3 => assumption); (case q4 => (first | assumption | (intro u hu; rcases hu with _ | ⟨_, _ | ⟨_, _ | ⟨_, _ | ⟨_, hu⟩⟩⟩⟩ <;> first | rfl | (cases hu; done)))); (case q5 => omega); (case q6 => omega); (case q7 => exact List.not_mem_nil))
                (first | ((fail_if_success have := A1); intro A1 c1) | ((fail_if_success have := A2); intro A2 c2) | ((fail_if_success have := A3); intro A3 c3) | ((fail_if_success have := A4); intro A4 c4) | ((fail_if_success have := A5); intro A5 c5) | ((fail_if_success have := A6); intro A6 c6) | ((fail_if_success have := A7); intro A7 c7)))
             | (((refine' Ef_appG_row rfl rfl rfl ?q1 ?q2 ?q3 ?q4 ?q5 ?q6 ?_); (case q1 => exact app_of rfl); (case q2 => (first | exact at0 | exact at1 | exact at2 | exact at3 | exact at4 | exact at5 | exact at6)); (case q3 => (repeat (first | exact .head _ | apply List.Mem.tail))); (case q4 => (first | assumption | (intro u hu; rcases hu with _ | ⟨_, _ | ⟨_, _ | ⟨_, _ | ⟨_, hu⟩⟩⟩⟩ <;> first | rfl | (cases hu; done)))); (case q5 => omega); (case q6 => omega))
                (first | ((fail_if_success have := A1); intro A1 c1) | ((fail_if_success have := A2); intro A2 c2) | ((fail_if_success have := A3); intro A3 c3) | ((fail_if_success have := A4); intro A4 c4) | ((fail_if_success have := A5); intro A5 c5) | ((fail_if_success have := A6); intro A6 c6) | ((fail_if_success have := A7); intro A7 c7)))
             | (((refine' Ef_appG_rd rfl rfl rfl ?q1 ?q2 ?q3 ?q4 ?q5 ?q6 ?q7 ?_); (case q1 => exact app_of rfl); (case q2 => (first | exact at0 | exact at1 | exact at2 | exact at3 | exact at4 | exact at5 | exact at6)); (case q3 => assumption); (case q4 => (first | assumption | (intro u hu; rcases hu with _ | ⟨_, _ | ⟨_, _ | ⟨_, _ | ⟨_, hu⟩⟩⟩⟩ <;> first | rfl | (cases hu; done)))); (case q5 => omega); (case q6 => omega); (case q7 => exact List.not_mem_nil))
                (first | ((fail_if_success have := A1); intro A1 c1) | ((fail_if_success have := A2); intro A2 c2) | ((fail_if_success have := A3); intro A3 c3) | ((fail_if_success have := A4); intro A4 c4) | ((fail_if_success have := A5); intro A5 c5) | ((fail_if_success have := A6); intro A6 c6) | ((fail_if_success have := A7); intro A7 c7)))))
          | ((with_reducible refine ie_bsl ?_)
             (first
             | fail
             | (((refine' Ef_bsl0 rfl ?q1 ?_); (case q1 => exact app_of rfl)); (first | ((fail_if_success have := b1); intro b1) | ((fail_if_success have := b2); intro b2) | ((fail_if_success have := b3); intro b3) | ((fail_if_success have := b4); intro b4) | ((fail_if_success have := b5); intro b5) | ((fail_if_success have := b6); intro b6) | ((fail_if_success have := b7); intro b7) | ((fail_if_success have := b8); intro b8) | ((fail_if_success have := b9); intro b9)))
             | (((refine' Ef_bslA rfl rfl ?q1 ?q2 ?q3 ?_); (case q1 => exact app_of rfl); (case q2 => rfl); (case q3 => decide)); (first | ((fail_if_success have := b1); intro b1) | ((fail_if_success have := b2); intro b2) | ((fail_if_success have := b3); intro b3) | ((fail_if_success have := b4); intro b4) | ((fail_if_success have := b5); intro b5) | ((fail_if_success have := b6); intro b6) | ((fail_if_success have := b7); intro b7) | ((fail_if_success have := b8); intro b8) | ((fail_if_success have := b9); intro b9)))
             | (((refine' Ef_bsl1 rfl rfl rfl ?q1 ?_); (case q1 => exact app_of rfl)); (first | ((fail_if_success have := b1); intro b1) | ((fail_if_success have := b2); intro b2) | ((fail_if_success have := b3); intro b3) | ((fail_if_success have := b4); intro b4) | ((fail_if_success have := b5); intro b5) | ((fail_if_success have := b6); intro b6) | ((fail_if_success have := b7); intro b7) | ((fail_if_success have := b8); intro b8) | ((fail_if_success have := b9); intro b9)))))
          | (first | fail)
          | refine Ef_y rfl rfl ?_
          | ((with_reducible refine ie_conv ?_); refine Ef_y' rfl ?_)
          | ((with_reducible refine ie_bmin ?_); refine Ef_y' rfl ?_)
          | ((with_reducible refine ie_bmax ?_); refine Ef_y' rfl ?_))
  · exact ret_n [] (res1 rfl rfl) (List.nil_sublist _) ⟨by rw [Rt.line_no (.inl (by omega))], rfl⟩
  · exact ret_n [] (res1 rfl rfl) (List.nil_sublist _) ⟨by rw [Rt.line_no (.inr (.inl (by omega)))], rfl⟩
  refine T.loop (α := Nat) (fun i => [(13, .slice A len cap), (14, .int .i64 (len : Int)), (15, .int .i64 (i : Int))]) (fun _ => []) (fun i => i ≤ len ∧ ∀ g ∈ l.take i, Rt.may g = true) (fun i => len - i) 0 ?_ ?_ ?_ ?_
  · (repeat (first | exact Sub.nil | refine Sub.cons rfl ?_))
  · (repeat (first | exact List.nil_sublist _ | refine List.Sublist.cons_cons _ ?_ | refine List.Sublist.cons _ ?_))
  · exact ⟨Nat.zero_le _, by simp⟩
  · rintro i ⟨hi, hm⟩
    by_cases hlt : i < len
    · obtain ⟨x, hx⟩ := some_of_lt (l := l) (i := i) (by omega)
      have eA := enc_atA gE_len hx
      have oE := gE_one x
      cases hmx : Rt.may x with
      | true =>
        repeat' (first
                | with_reducible refine T.seq ?_
                | with_reducible refine T.block ?_
                | with_reducible refine T.region ?_
                | with_reducible refine T.skip ?_
                | with_reducible refine T.ret ?_
                | with_reducible refine T.exit ?_
                | with_reducible refine seqQ_n ?_
                | with_reducible refine seqQ_x ?_
                | with_reducible refine seqQ_r ?_
                | with_reducible refine blockQ_n ?_
                | with_reducible refine blockQ_r ?_
                | with_reducible refine blockQ_x ?_
                | ((with_reducible refine g_blkx ?_); refine blockQ_y rfl ?_)
                | with_reducible refine loopQ_x ?_
                | with_reducible refine loopQ_r ?_
                | with_reducible refine joinQ_r ?_
                | with_reducible refine joinQ_x ?_
                | ((with_reducible refine g_cond ?_); (first | refine T.cond_t rfl ?_ | refine T.cond_f rfl ?_ | (refine T.cond_s rfl ?_ ?_ <;> intro hc)))
                | with_reducible refine TL_nil ?_
                | with_reducible refine TS_nil ?_
                | ((with_reducible refine g_draw ?_); (first | (((with_reducible refine' T.drawM (id := 3) [(0, true), (1, true), (2, true), (3, true), (4, true), (5, true), (6, true), (7, true), (8, false), (9, false)] mixd ?q1 ?_); (case q1 => kernel_rfl)))))
                | ((with_reducible refine TL_y' ?hy ?hd ?_); (case hy => rfl); (case hd => rfl))
                | with_reducible refine TL_e ?_
                | ((with_reducible refine g_TL ?_); (first | refine TL_gy' rfl rfl rfl rfl ?_ | refine TL_gn rfl rfl rfl ?_ | refine TL_gu rfl rfl rfl ?_ | refine TL_ge rfl rfl ?_ | refine TL_gn0 rfl rfl ?_))
                | ((with_reducible refine g_TS ?_); (first | refine TS_y rfl rfl ?_ | refine TS_e rfl ?_ | refine TS_gy rfl rfl rfl rfl ?_ | refine TS_gn rfl rfl rfl rfl ?_ | refine TS_gu rfl rfl rfl rfl ?_ | refine TS_ge rfl rfl rfl ?_ | refine TS_gne rfl rfl rfl rfl ?_ | refine TS_gue rfl rfl rfl rfl ?_ | refine TS_gne0 rfl rfl rfl ?_))
                | ((with_reducible refine TSand ?hd ?_); (case hd => (repeat (first | exact List.nil_sublist _ | refine List.Sublist.cons_cons _ ?_ | refine List.Sublist.cons _ ?_))))
                | ((with_reducible refine TBand ?hd ?_); (case hd => (repeat (first | exact List.nil_sublist _ | refine List.Sublist.cons_cons _ ?_ | refine List.Sublist.cons _ ?_))))
                | ((with_reducible refine g_TB ?_); (first | with_reducible refine TB_run ?_ | refine TB_y rfl rfl ?_ | refine TB_b rfl rfl ?_ ?_ | refine TB_e rfl ?_))
                | ((with_reducible refine is_move ?_); refine ⟨_, Yl_move rfl, ?_⟩)
                | ((with_reducible refine is_assign ?_); refine ⟨_, Yl_assign rfl, ?_⟩)
                | ((with_reducible refine is_pick ?_); (first | refine ⟨_, Yl_pick_t rfl rfl, ?_⟩ | refine ⟨_, Yl_pick_f rfl rfl, ?_⟩))
                | ((with_reducible refine is_nil ?_); refine ⟨_, Yl_nilCheck rfl, ?_⟩)
                | ((with_reducible refine is_fld ?_); (first | ((refine' ⟨_, Yl_fld_ad rfl ?q1, ?_⟩); (case q1 => exact fld_of rfl rfl)) | ((refine' ⟨_, Yl_fld_blk0 rfl ?q1, ?_⟩); (case q1 => exact fld_of rfl rfl)) | ((refine' ⟨_, Yl_fld_blk rfl ?q1, ?_⟩); (case q1 => exact fld_of rfl rfl))))
                | ((with_reducible refine is_load ?_)
                   (first
                   | fail
                   | ((refine' ⟨_, Yl_load_blk rfl ?q1 ?q2 ?q3, ?_⟩); (case q1 => exact one_of rfl); (case q2 => (repeat (first | exact .head _ | apply List.Mem.tail))); (case q3 => rfl))
                   | ((refine' ⟨_, Yl_loadA_blk rfl ?q1 ?q2, ?_⟩); (case q1 => (repeat (first | exact .head _ | apply List.Mem.tail))); (case q2 => exact agg_of rfl))
                   | ((refine' ⟨_, Yl_load_blk rfl ?q1 ?q2 ?q3, ?_⟩); (case q1 => exact one_of rfl); (case q2 => (repeat (first | exact .head _ | apply List.Mem.tail))); (case q3 => assumption))
                   | ((refine' ⟨_, Yl_load_rd rfl ?q1 ?q2 List.not_mem_nil ?q3, ?_⟩); (case q1 => exact one_of rfl); (case q2 => assumption); (case q3 => assumption))
                   | ((refine' ⟨_, Yl_load_row rfl ?q1 ?q2 ?q3, ?_⟩); (case q1 => exact one_of rfl); (case q2 => (repeat (first | exact .head _ | apply List.Mem.tail))); (case q3 => assumption))
                   | ((refine' ⟨_, Yl_loadA_rd rfl ?qa ?qb List.not_mem_nil ?ql ?qc, ?_⟩); (case qa => exact agg_of rfl); (case qb => assumption); (case qc => assumption); (case ql => rfl))
                   | ((refine' ⟨_, Yl_loadA_row rfl ?qa ?qb ?ql ?qc, ?_⟩); (case qa => exact agg_of rfl); (case qb => (repeat (first | exact .head _ | apply List.Mem.tail))); (case qc => assumption); (case ql => rfl))))
                | ((with_reducible refine is_idx ?_)
                   (first
                   | fail
                   | ((refine' ⟨_, Yl_index rfl rfl ?q1 ?q2 ?q3 (Rd.some_ ?q4 ?q5), ?_⟩); (case q1 => exact und_of rfl); (case q2 => exact siz_of rfl); (case q3 => omega); (case q4 => assumption); (case q5 => omega))
                   | ((refine' ⟨_, Yl_index_row rfl rfl ?q1 ?q2 ?q3 ?q4, ?_⟩); (case q1 => exact und_of rfl); (case q2 => exact siz_of rfl); (case q3 => omega); (case q4 => (repeat (first | exact .head _ | apply List.Mem.tail))))
                   | ((refine' ⟨_, Yl_index rfl rfl ?q1 ?q2 ?q3 rfl, ?_⟩); (case q1 => exact und_of rfl); (case q2 => exact siz_of rfl); (case q3 => omega))
                   | ((refine' ⟨_, Yl_index (j := 0) rfl rfl ?q1 ?q2 ?q3 (Rd.some_ ?q4 ?q5), ?_⟩); (case q1 => exact und_of rfl); (case q2 => exact siz_of rfl); (case q3 => omega); (case q4 => assumption); (case q5 => omega))
                   | ((refine' ⟨_, Yl_index_row (j := 0) rfl rfl ?q1 ?q2 ?q3 ?q4, ?_⟩); (case q1 => exact und_of rfl); (case q2 => exact siz_of rfl); (case q3 => omega); (case q4 => (repeat (first | exact .head _ | apply List.Mem.tail))))))
                | ((with_reducible refine is_ext ?_); refine ⟨_, Yl_extract rfl rfl, ?_⟩)
                | ((with_reducible refine is_un ?_); refine ⟨_, Yl_not rfl, ?_⟩)
                | ((with_reducible refine is_len ?_); (first | ((refine' ⟨_, Yl_len_slice rfl ?q1, ?_⟩); (case q1 => exact und_of rfl)) | ((refine' ⟨_, Yl_len_string rfl ?q1, ?_⟩); (case q1 => exact und_of rfl))))
                | ((with_reducible refine is_b_lss ?_); (first | ((refine' ⟨_, Yl_lss_t rfl rfl ?q1, ?_⟩); (case q1 => omega)) | ((refine' ⟨_, Yl_lss_f rfl rfl ?q1, ?_⟩); (case q1 => omega)) | (refine sp_lss rfl rfl ?_ ?_ <;> intro hc)))
                | ((with_reducible refine is_b_leq ?_); (first | ((refine' ⟨_, Yl_leq_t rfl rfl ?q1, ?_⟩); (case q1 => omega)) | ((refine' ⟨_, Yl_leq_f rfl rfl ?q1, ?_⟩); (case q1 => omega)) | (refine sp_leq rfl rfl ?_ ?_ <;> intro hc)))
                | ((with_reducible refine is_b_gtr ?_); (first | ((refine' ⟨_, Yl_gtr_t rfl rfl ?q1, ?_⟩); (case q1 => omega)) | ((refine' ⟨_, Yl_gtr_f rfl rfl ?q1, ?_⟩); (case q1 => omega)) | (refine sp_gtr rfl rfl ?_ ?_ <;> intro hc)))
                | ((with_reducible refine is_b_geq ?_); (first | ((refine' ⟨_, Yl_geq_t rfl rfl ?q1, ?_⟩); (case q1 => omega)) | ((refine' ⟨_, Yl_geq_f rfl rfl ?q1, ?_⟩); (case q1 => omega)) | (refine sp_geq rfl rfl ?_ ?_ <;> intro hc)))
                | ((with_reducible refine is_b_eql ?_)
                   (first
                   | ((refine' ⟨_, Yl_eql_t rfl rfl ?q1, ?_⟩); (case q1 => omega))
                   | ((refine' ⟨_, Yl_eql_f rfl rfl ?q1, ?_⟩); (case q1 => omega))
                   | (refine sp_eql rfl rfl ?_ ?_ <;> intro hc)
                   | ((refine' ⟨_, Yl_remk (m := 2) rfl rfl ?q1 ?q2, ?_⟩); (case q1 => omega); (case q2 => omega))
                   | ((refine' ⟨_, Yl_quo8 (m := 2) rfl rfl ?q1 ?q2 ?q3, ?_⟩); (case q1 => omega); (case q2 => omega); (case q3 => omega))
                   | ((refine' ⟨_, Yl_quo8 (m := 4) rfl rfl ?q1 ?q2 ?q3, ?_⟩); (case q1 => omega); (case q2 => omega); (case q3 => omega))
                   | ((refine' ⟨_, Yl_quo8 (m := 8) rfl rfl ?q1 ?q2 ?q3, ?_⟩); (case q1 => omega); (case q2 => omega); (case q3 => omega))
                   | ((refine' ⟨_, Yl_addS rfl rfl ?q1, ?_⟩); (case q1 => decide))
                   | refine ⟨_, Yl_eql_str rfl rfl, ?_⟩
                   | ((refine' ⟨_, Yl_and8 rfl rfl ?q1 ?q2 ?q3 ?q4, ?_⟩); (case q1 => omega); (case q2 => omega); (case q3 => omega); (case q4 => omega))
                   | ((refine' ⟨_, Yl_eql_bool rfl rfl ?q1, ?_⟩); (case q1 => exact und_of rfl))
                   | ((refine' ⟨_, Yl_eql_strT rfl rfl ?q1, ?_⟩); (case q1 => first | assumption | rfl))
                   | ((refine' ⟨_, Yl_eql_strF rfl rfl ?q1, ?_⟩); (case q1 => first | assumption | decide))
                   | (refine sp_eqlS rfl rfl ?_ ?_ <;> intro hc)))
                | ((with_reducible refine is_b_neq ?_)
                   (first
                   | ((refine' ⟨_, Yl_neq_t rfl rfl ?q1, ?_⟩); (case q1 => omega))
                   | ((refine' ⟨_, Yl_neq_f rfl rfl ?q1, ?_⟩); (case q1 => omega))
                   | (refine sp_neq rfl rfl ?_ ?_ <;> intro hc)
                   | ((refine' ⟨_, Yl_remk (m := 2) rfl rfl ?q1 ?q2, ?_⟩); (case q1 => omega); (case q2 => omega))
                   | ((refine' ⟨_, Yl_quo8 (m := 2) rfl rfl ?q1 ?q2 ?q3, ?_⟩); (case q1 => omega); (case q2 => omega); (case q3 => omega))
                   | ((refine' ⟨_, Yl_quo8 (m := 4) rfl rfl ?q1 ?q2 ?q3, ?_⟩); (case q1 => omega); (case q2 => omega); (case q3 => omega))
                   | ((refine' ⟨_, Yl_quo8 (m := 8) rfl rfl ?q1 ?q2 ?q3, ?_⟩); (case q1 => omega); (case q2 => omega); (case q3 => omega))
                   | ((refine' ⟨_, Yl_addS rfl rfl ?q1, ?_⟩); (case q1 => decide))
                   | refine ⟨_, Yl_eql_str rfl rfl, ?_⟩
                   | ((refine' ⟨_, Yl_and8 rfl rfl ?q1 ?q2 ?q3 ?q4, ?_⟩); (case q1 => omega); (case q2 => omega); (case q3 => omega); (case q4 => omega))
                   | ((refine' ⟨_, Yl_neq_bool rfl rfl ?q1, ?_⟩); (case q1 => exact und_of rfl))
                   | ((refine' ⟨_, Yl_neq_strT rfl rfl ?q1, ?_⟩); (case q1 => first | assumption | decide))
                   | ((refine' ⟨_, Yl_neq_strF rfl rfl ?q1, ?_⟩); (case q1 => first | assumption | rfl))
                   | (refine sp_neqS rfl rfl ?_ ?_ <;> intro hc)))
                | ((with_reducible refine is_b_add ?_)
                   (first
                   | ((refine' ⟨_, Yl_add rfl rfl ?q1 ?q2, ?_⟩); (case q1 => omega); (case q2 => omega))
                   | ((refine' ⟨_, Yl_add8 rfl rfl ?q1 ?q2, ?_⟩); (case q1 => omega); (case q2 => omega))
                   | ((refine' ⟨_, Yl_remk (m := 2) rfl rfl ?q1 ?q2, ?_⟩); (case q1 => omega); (case q2 => omega))
                   | ((refine' ⟨_, Yl_quo8 (m := 2) rfl rfl ?q1 ?q2 ?q3, ?_⟩); (case q1 => omega); (case q2 => omega); (case q3 => omega))
                   | ((refine' ⟨_, Yl_quo8 (m := 4) rfl rfl ?q1 ?q2 ?q3, ?_⟩); (case q1 => omega); (case q2 => omega); (case q3 => omega))
                   | ((refine' ⟨_, Yl_quo8 (m := 8) rfl rfl ?q1 ?q2 ?q3, ?_⟩); (case q1 => omega); (case q2 => omega); (case q3 => omega))
                   | ((refine' ⟨_, Yl_addS rfl rfl ?q1, ?_⟩); (case q1 => decide))
                   | refine ⟨_, Yl_eql_str rfl rfl, ?_⟩
                   | ((refine' ⟨_, Yl_and8 rfl rfl ?q1 ?q2 ?q3 ?q4, ?_⟩); (case q1 => omega); (case q2 => omega); (case q3 => omega); (case q4 => omega))))
                | ((with_reducible refine is_min ?_); refine ⟨_, Yl_min rfl rfl, ?_⟩)
                | ((with_reducible refine is_max ?_); refine ⟨_, Yl_max rfl rfl, ?_⟩)
                | ((with_reducible refine is_b_sub ?_)
                   (first
                   | ((refine' ⟨_, Yl_sub rfl rfl ?q1 ?q2, ?_⟩); (case q1 => omega); (case q2 => omega))
                   | ((refine' ⟨_, Yl_remk (m := 2) rfl rfl ?q1 ?q2, ?_⟩); (case q1 => omega); (case q2 => omega))
                   | ((refine' ⟨_, Yl_quo8 (m := 2) rfl rfl ?q1 ?q2 ?q3, ?_⟩); (case q1 => omega); (case q2 => omega); (case q3 => omega))
                   | ((refine' ⟨_, Yl_quo8 (m := 4) rfl rfl ?q1 ?q2 ?q3, ?_⟩); (case q1 => omega); (case q2 => omega); (case q3 => omega))
                   | ((refine' ⟨_, Yl_quo8 (m := 8) rfl rfl ?q1 ?q2 ?q3, ?_⟩); (case q1 => omega); (case q2 => omega); (case q3 => omega))
                   | ((refine' ⟨_, Yl_addS rfl rfl ?q1, ?_⟩); (case q1 => decide))
                   | refine ⟨_, Yl_eql_str rfl rfl, ?_⟩
                   | ((refine' ⟨_, Yl_and8 rfl rfl ?q1 ?q2 ?q3 ?q4, ?_⟩); (case q1 => omega); (case q2 => omega); (case q3 => omega); (case q4 => omega))))
                | ((with_reducible refine is_build ?_); (first | fail))
                | (first
                  | ((refine' ⟨_, Yl_remk (m := 2) rfl rfl ?q1 ?q2, ?_⟩); (case q1 => omega); (case q2 => omega))
                  | ((refine' ⟨_, Yl_quo8 (m := 2) rfl rfl ?q1 ?q2 ?q3, ?_⟩); (case q1 => omega); (case q2 => omega); (case q3 => omega))
                  | ((refine' ⟨_, Yl_quo8 (m := 4) rfl rfl ?q1 ?q2 ?q3, ?_⟩); (case q1 => omega); (case q2 => omega); (case q3 => omega))
                  | ((refine' ⟨_, Yl_quo8 (m := 8) rfl rfl ?q1 ?q2 ?q3, ?_⟩); (case q1 => omega); (case q2 => omega); (case q3 => omega))
                  | ((refine' ⟨_, Yl_addS rfl rfl ?q1, ?_⟩); (case q1 => decide))
                  | refine ⟨_, Yl_eql_str rfl rfl, ?_⟩
                  | ((refine' ⟨_, Yl_and8 rfl rfl ?q1 ?q2 ?q3 ?q4, ?_⟩); (case q1 => omega); (case q2 => omega); (case q3 => omega); (case q4 => omega)))
                | ((with_reducible refine ie_box ?_)
                   (first
                   | (refine Ef_boxA rfl rfl ?_; (first | ((fail_if_success have := b1); intro b1) | ((fail_if_success have := b2); intro b2) | ((fail_if_success have := b3); intro b3) | ((fail_if_success have := b4); intro b4) | ((fail_if_success have := b5); intro b5) | ((fail_if_success have := b6); intro b6) | ((fail_if_success have := b7); intro b7) | ((fail_if_success have := b8); intro b8) | ((fail_if_success have := b9); intro b9)))
                   | (refine Ef_box1 rfl rfl rfl ?_; (first | ((fail_if_success have := b1); intro b1) | ((fail_if_success have := b2); intro b2) | ((fail_if_success have := b3); intro b3) | ((fail_if_success have := b4); intro b4) | ((fail_if_success have := b5); intro b5) | ((fail_if_success have := b6); intro b6) | ((fail_if_success have := b7); intro b7) | ((fail_if_success have := b8); intro b8) | ((fail_if_success have := b9); intro b9)))))
                | ((with_reducible refine ie_alloc ?_); (first | fail | (((refine' Ef_alloc rfl ?q1 ?_); (case q1 => exact zer_of rfl)); (first | ((fail_if_success have := b1); intro b1) | ((fail_if_success have := b2); intro b2) | ((fail_if_success have := b3); intro b3) | ((fail_if_success have := b4); intro b4) | ((fail_if_success have := b5); intro b5) | ((fail_if_success have := b6); intro b6) | ((fail_if_success have := b7); intro b7) | ((fail_if_success have := b8); intro b8) | ((fail_if_success have := b9); intro b9)))))
                | ((with_reducible refine ie_store ?_)
                   (first
                   | fail
                   | ((refine' Ef_store_rowA rfl rfl ?q1 ?q2 ?q3 ?q4 ?q5 ?q6 ?_); (case q1 => exact siz_of rfl); (case q2 => rfl); (case q3 => (first | assumption | (intro u hu; rcases hu with _ | ⟨_, _ | ⟨_, _ | ⟨_, _ | ⟨_, hu⟩⟩⟩⟩ <;> first | rfl | (cases hu; done)))); (case q4 => (first | exact at0 | exact at1 | exact at2 | exact at3 | exact at4 | exact at5 | exact at6)); (case q5 => omega); (case q6 => assumption))
                   | ((refine' Ef_storeA' rfl rfl ?q1 ?q2 ?q3 ?q4 ?_); (case q1 => exact siz_of rfl); (case q2 => (first | assumption | (intro u hu; rcases hu with _ | ⟨_, _ | ⟨_, _ | ⟨_, _ | ⟨_, hu⟩⟩⟩⟩ <;> first | rfl | (cases hu; done)))); (case q3 => (first | exact at0 | exact at1 | exact at2 | exact at3 | exact at4 | exact at5 | exact at6)); (case q4 => rfl))
                   | ((refine' Ef_storeC rfl rfl ?q1 ?q2 ?q3 ?q4 ?q5 ?_); (case q1 => rfl); (case q2 => exact siz_of rfl); (case q3 => (first | exact at0 | exact at1 | exact at2 | exact at3 | exact at4 | exact at5 | exact at6)); (case q4 => exact Nat.le_of_ble_eq_true rfl); (case q5 => rfl))))
                | ((with_reducible refine ie_callf ?_)
                   (first
                   | ((with_reducible refine g_call 18 ?_); (first | refine Ef_callP rfl rfl ent_18 (fun w _ => may_v x true w hmx) ?_ | refine Ef_callP rfl rfl ent_18 (fun w _ => may_v x false w hmx) ?_))
                   | ((with_reducible refine g_call 21 ?_); (first | refine Ef_callP rfl rfl ent_21 (fun w _ => rmay_v x true w hmx) ?_ | refine Ef_callP rfl rfl ent_21 (fun w _ => rmay_v x false w hmx) ?_))
                   | ((with_reducible refine g_call 17 ?_); (first | refine Ef_callP rfl rfl ent_17 (fun w hp => line_v A len cap l true w (hp.rd hr fun _ => List.not_mem_nil) hl hb) ?_ | refine Ef_callP rfl rfl ent_17 (fun w hp => line_v A len cap l false w (hp.rd hr fun _ => List.not_mem_nil) hl hb) ?_))))
                | ((with_reducible refine ie_app ?_)
                   (first
                   | fail
                   | (((refine' Ef_app0_rd rfl rfl rfl ?q1 ?q2 ?q3 ?q4 ?q5 ?q6 ?q7 ?_); (case q1 => exact app_of rfl); (case q2 => (first | exact at0 | exact at1 | exact at2 | exact at3 | exact at4 | exact at5 | exact at6)); (case q3 => assumption); (case q4 => (first | assumption | (intro u hu; rcases hu with _ | ⟨_, _ | ⟨_, _ | ⟨_, _ | ⟨_, hu⟩⟩⟩⟩ <;> first | rfl | (cases hu; done)))); (case q5 => omega); (case q6 => omega); (case q7 => exact List.not_mem_nil))
                      (first | ((fail_if_success have := A1); intro A1 c1) | ((fail_if_success have := A2); intro A2 c2) | ((fail_if_success have := A3); intro A3 c3) | ((fail_if_success have := A4); intro A4 c4) | ((fail_if_success have := A5); intro A5 c5) | ((fail_if_success have := A6); intro A6 c6) | ((fail_if_success have := A7); intro A7 c7)))
                   | (((refine' Ef_appG_row rfl rfl rfl ?q1 ?q2 ?q3 ?q4 ?q5 ?q6 ?_); (case q1 => exact app_of rfl); (case q2 => (first | exact at0 | exact at1 | exact at2 | exact at3 | exact at4 | exact at5 | exact at6)); (case q3 => (repeat (first | exact .head _ | apply List.Mem.tail))); (case q4 => (first | assumption | (intro u hu; rcases hu with _ | ⟨_, _ | ⟨_, _ | ⟨_, _ | ⟨_, hu⟩⟩⟩⟩ <;> first | rfl | (cases hu; done)))); (case q5 => omega); (case q6 => omega))
                      (first | ((fail_if_success have := A1); intro A1 c1) | ((fail_if_success have := A2); intro A2 c2) | ((fail_if_success have := A3); intro A3 c3) | ((fail_if_success have := A4); intro A4 c4) | ((fail_if_success have := A5); intro A5 c5) | ((fail_if_success have := A6); intro A6 c6) | ((fail_if_success have := A7); intro A7 c7)))
                   | (((refine' Ef_appG_rd rfl rfl rfl ?q1 ?q2 ?q3 ?q4 ?q5 ?q6 ?q7 ?_); (case q1 => exact app_of rfl); (case q2 => (first | exact at0 | exact at1 | exact at2 | exact at3 | exact at4 | exact at5 | exact at6)); (case q3 => assumption); (case q4 => (first | assumption | (intro u hu; rcases hu with _ | ⟨_, _ | ⟨_, _ | ⟨_, _ | ⟨_, hu⟩⟩⟩⟩ <;> first | rfl | (cases hu; done)))); (case q5 => omega); (case q6 => omega); (case q7 => exact List.not_mem_nil))
                      (first | ((fail_if_success have := A1); intro A1 c1) | ((fail_if_success have := A2); intro A2 c2) | ((fail_if_success have := A3); intro A3 c3) | ((fail_if_success have := A4); intro A4 c4) | ((fail_if_success have := A5); intro A5 c5) | ((fail_if_success have := A6); intro A6 c6) | ((fail_if_success have := A7); intro A7 c7)))))
                | ((with_reducible refine ie_bsl ?_)
                   (first
                   | fail
                   | (((refine' Ef_bsl0 rfl ?q1 ?_); (case q1 => exact app_of rfl)); (first | ((fail_if_success have := b1); intro b1) | ((fail_if_success have := b2); intro b2) | ((fail_if_success have := b3); intro b3) | ((fail_if_success have := b4); intro b4) | ((fail_if_success have := b5); intro b5) | ((fail_if_success have := b6); intro b6) | ((fail_if_success have := b7); intro b7) | ((fail_if_success have := b8); intro b8) | ((fail_if_success have := b9); intro b9)))
                   | (((refine' Ef_bslA rfl rfl ?q1 ?q2 ?q3 ?_); (case q1 => exact app_of rfl); (case q2 => rfl); (case q3 => decide)); (first | ((fail_if_success have := b1); intro b1) | ((fail_if_success have := b2); intro b2) | ((fail_if_success have := b3); intro b3) | ((fail_if_success have := b4); intro b4) | ((fail_if_success have := b5); intro b5) | ((fail_if_success have := b6); intro b6) | ((fail_if_success have := b7); intro b7) | ((fail_if_success have := b8); intro b8) | ((fail_if_success have := b9); intro b9)))
                   | (((refine' Ef_bsl1 rfl rfl rfl ?q1 ?_); (case q1 => exact app_of rfl)); (first | ((fail_if_success have := b1); intro b1) | ((fail_if_success have := b2); intro b2) | ((fail_if_success have := b3); intro b3) | ((fail_if_success have := b4); intro b4) | ((fail_if_success have := b5); intro b5) | ((fail_if_success have := b6); intro b6) | ((fail_if_success have := b7); intro b7) | ((fail_if_success have := b8); intro b8) | ((fail_if_success have := b9); intro b9)))))
                | (first | fail)
                | refine Ef_y rfl rfl ?_
                | ((with_reducible refine ie_conv ?_); refine Ef_y' rfl ?_)
                | ((with_reducible refine ie_bmin ?_); refine Ef_y' rfl ?_)
                | ((with_reducible refine ie_bmax ?_); refine Ef_y' rfl ?_))
        refine loopQ_n (i + 1) ?_ ?_ ⟨by (first | omega | (dsimp only; omega) | (simp; omega)), by rw [take_snoc hx]; exact Rt.all_snoc hm hmx⟩ (by (first | omega | (dsimp only; omega) | (simp; omega)))
        · (repeat (first | exact Sub.nil | refine Sub.cons rfl ?_))
        · (repeat (first | exact List.nil_sublist _ | refine List.Sublist.cons_cons _ ?_ | refine List.Sublist.cons _ ?_))
      | false =>
        rw [Rt.line_no (.inr (.inr ⟨x, mem_of_some hx, hmx⟩))]
        repeat' (first
                | with_reducible refine T.seq ?_
                | with_reducible refine T.block ?_
                | with_reducible refine T.region ?_
                | with_reducible refine T.skip ?_
                | with_reducible refine T.ret ?_
                | with_reducible refine T.exit ?_
                | with_reducible refine seqQ_n ?_
                | with_reducible refine seqQ_x ?_
                | with_reducible refine seqQ_r ?_
                | with_reducible refine blockQ_n ?_
                | with_reducible refine blockQ_r ?_
                | with_reducible refine blockQ_x ?_
                | ((with_reducible refine g_blkx ?_); refine blockQ_y rfl ?_)
                | with_reducible refine loopQ_x ?_
                | with_reducible refine loopQ_r ?_
                | with_reducible refine joinQ_r ?_
                | with_reducible refine joinQ_x ?_
                | ((with_reducible refine g_cond ?_); (first | refine T.cond_t rfl ?_ | refine T.cond_f rfl ?_ | (refine T.cond_s rfl ?_ ?_ <;> intro hc)))
                | with_reducible refine TL_nil ?_
                | with_reducible refine TS_nil ?_
                | ((with_reducible refine g_draw ?_); (first | (((with_reducible refine' T.drawM (id := 3) [(0, true), (1, true), (2, true), (3, true), (4, true), (5, true), (6, true), (7, true), (8, false), (9, false)] mixd ?q1 ?_); (case q1 => kernel_rfl)))))
                | ((with_reducible refine TL_y' ?hy ?hd ?_); (case hy => rfl); (case hd => rfl))
                | with_reducible refine TL_e ?_
                | ((with_reducible refine g_TL ?_); (first | refine TL_gy' rfl rfl rfl rfl ?_ | refine TL_gn rfl rfl rfl ?_ | refine TL_gu rfl rfl rfl ?_ | refine TL_ge rfl rfl ?_ | refine TL_gn0 rfl rfl ?_))
                | ((with_reducible refine g_TS ?_); (first | refine TS_y rfl rfl ?_ | refine TS_e rfl ?_ | refine TS_gy rfl rfl rfl rfl ?_ | refine TS_gn rfl rfl rfl rfl ?_ | refine TS_gu rfl rfl rfl rfl ?_ | refine TS_ge rfl rfl rfl ?_ | refine TS_gne rfl rfl rfl rfl ?_ | refine TS_gue rfl rfl rfl rfl ?_ | refine TS_gne0 rfl rfl rfl ?_))
                | ((with_reducible refine TSand ?hd ?_); (case hd => (repeat (first | exact List.nil_sublist _ | refine List.Sublist.cons_cons _ ?_ | refine List.Sublist.cons _ ?_))))
                | ((with_reducible refine TBand ?hd ?_); (case hd => (repeat (first | exact List.nil_sublist _ | refine List.Sublist.cons_cons _ ?_ | refine List.Sublist.cons _ ?_))))
                | ((with_reducible refine g_TB ?_); (first | with_reducible refine TB_run ?_ | refine TB_y rfl rfl ?_ | refine TB_b rfl rfl ?_ ?_ | refine TB_e rfl ?_))
                | ((with_reducible refine is_move ?_); refine ⟨_, Yl_move rfl, ?_⟩)
                | ((with_reducible refine is_assign ?_); refine ⟨_, Yl_assign rfl, ?_⟩)
                | ((with_reducible refine is_pick ?_); (first | refine ⟨_, Yl_pick_t rfl rfl, ?_⟩ | refine ⟨_, Yl_pick_f rfl rfl, ?_⟩))
                | ((with_reducible refine is_nil ?_); refine ⟨_, Yl_nilCheck rfl, ?_⟩)
                | ((with_reducible refine is_fld ?_); (first | ((refine' ⟨_, Yl_fld_ad rfl ?q1, ?_⟩); (case q1 => exact fld_of rfl rfl)) | ((refine' ⟨_, Yl_fld_blk0 rfl ?q1, ?_⟩); (case q1 => exact fld_of rfl rfl)) | ((refine' ⟨_, Yl_fld_blk rfl ?q1, ?_⟩); (case q1 => exact fld_of rfl rfl))))
                | ((with_reducible refine is_load ?_)
                   (first
                   | fail
                   | ((refine' ⟨_, Yl_load_blk rfl ?q1 ?q2 ?q3, ?_⟩); (case q1 => exact one_of rfl); (case q2 => (repeat (first | exact .head _ | apply List.Mem.tail))); (case q3 => rfl))
                   | ((refine' ⟨_, Yl_loadA_blk rfl ?q1 ?q2, ?_⟩); (case q1 => (repeat (first | exact .head _ | apply List.Mem.tail))); (case q2 => exact agg_of rfl))
                   | ((refine' ⟨_, Yl_load_blk rfl ?q1 ?q2 ?q3, ?_⟩); (case q1 => exact one_of rfl); (case q2 => (repeat (first | exact .head _ | apply List.Mem.tail))); (case q3 => assumption))
                   | ((refine' ⟨_, Yl_load_rd rfl ?q1 ?q2 List.not_mem_nil ?q3, ?_⟩); (case q1 => exact one_of rfl); (case q2 => assumption); (case q3 => assumption))
                   | ((refine' ⟨_, Yl_load_row rfl ?q1 ?q2 ?q3, ?_⟩); (case q1 => exact one_of rfl); (case q2 => (repeat (first | exact .head _ | apply List.Mem.tail))); (case q3 => assumption))
                   | ((refine' ⟨_, Yl_loadA_rd rfl ?qa ?qb List.not_mem_nil ?ql ?qc, ?_⟩); (case qa => exact agg_of rfl); (case qb => assumption); (case qc => assumption); (case ql => rfl))
                   | ((refine' ⟨_, Yl_loadA_row rfl ?qa ?qb ?ql ?qc, ?_⟩); (case qa => exact agg_of rfl); (case qb => (repeat (first | exact .head _ | apply List.Mem.tail))); (case qc => assumption); (case ql => rfl))))
                | ((with_reducible refine is_idx ?_)
                   (first
                   | fail
                   | ((refine' ⟨_, Yl_index rfl rfl ?q1 ?q2 ?q3 (Rd.some_ ?q4 ?q5), ?_⟩); (case q1 => exact und_of rfl); (case q2 => exact siz_of rfl); (case q3 => omega); (case q4 => assumption); (case q5 => omega))
                   | ((refine' ⟨_, Yl_index_row rfl rfl ?q1 ?q2 ?q3 ?q4, ?_⟩); (case q1 => exact und_of rfl); (case q2 => exact siz_of rfl); (case q3 => omega); (case q4 => (repeat (first | exact .head _ | apply List.Mem.tail))))
                   | ((refine' ⟨_, Yl_index rfl rfl ?q1 ?q2 ?q3 rfl, ?_⟩); (case q1 => exact und_of rfl); (case q2 => exact siz_of rfl); (case q3 => omega))
                   | ((refine' ⟨_, Yl_index (j := 0) rfl rfl ?q1 ?q2 ?q3 (Rd.some_ ?q4 ?q5), ?_⟩); (case q1 => exact und_of rfl); (case q2 => exact siz_of rfl); (case q3 => omega); (case q4 => assumption); (case q5 => omega))
                   | ((refine' ⟨_, Yl_index_row (j := 0) rfl rfl ?q1 ?q2 ?q3 ?q4, ?_⟩); (case q1 => exact und_of rfl); (case q2 => exact siz_of rfl); (case q3 => omega); (case q4 => (repeat (first | exact .head _ | apply List.Mem.tail))))))
                | ((with_reducible refine is_ext ?_); refine ⟨_, Yl_extract rfl rfl, ?_⟩)
                | ((with_reducible refine is_un ?_); refine ⟨_, Yl_not rfl, ?_⟩)
                | ((with_reducible refine is_len ?_); (first | ((refine' ⟨_, Yl_len_slice rfl ?q1, ?_⟩); (case q1 => exact und_of rfl)) | ((refine' ⟨_, Yl_len_string rfl ?q1, ?_⟩); (case q1 => exact und_of rfl))))
                | ((with_reducible refine is_b_lss ?_); (first | ((refine' ⟨_, Yl_lss_t rfl rfl ?q1, ?_⟩); (case q1 => omega)) | ((refine' ⟨_, Yl_lss_f rfl rfl ?q1, ?_⟩); (case q1 => omega)) | (refine sp_lss rfl rfl ?_ ?_ <;> intro hc)))
                | ((with_reducible refine is_b_leq ?_); (first | ((refine' ⟨_, Yl_leq_t rfl rfl ?q1, ?_⟩); (case q1 => omega)) | ((refine' ⟨_, Yl_leq_f rfl rfl ?q1, ?_⟩); (case q1 => omega)) | (refine sp_leq rfl rfl ?_ ?_ <;> intro hc)))
                | ((with_reducible refine is_b_gtr ?_); (first | ((refine' ⟨_, Yl_gtr_t rfl rfl ?q1, ?_⟩); (case q1 => omega)) | ((refine' ⟨_, Yl_gtr_f rfl rfl ?q1, ?_⟩); (case q1 => omega)) | (refine sp_gtr rfl rfl ?_ ?_ <;> intro hc)))
                | ((with_reducible refine is_b_geq ?_); (first | ((refine' ⟨_, Yl_geq_t rfl rfl ?q1, ?_⟩); (case q1 => omega)) | ((refine' ⟨_, Yl_geq_f rfl rfl ?q1, ?_⟩); (case q1 => omega)) | (refine sp_geq rfl rfl ?_ ?_ <;> intro hc)))
                | ((with_reducible refine is_b_eql ?_)
                   (first
                   | ((refine' ⟨_, Yl_eql_t rfl rfl ?q1, ?_⟩); (case q1 => omega))
                   | ((refine' ⟨_, Yl_eql_f rfl rfl ?q1, ?_⟩); (case q1 => omega))
                   | (refine sp_eql rfl rfl ?_ ?_ <;> intro hc)
                   | ((refine' ⟨_, Yl_remk (m := 2) rfl rfl ?q1 ?q2, ?_⟩); (case q1 => omega); (case q2 => omega))
                   | ((refine' ⟨_, Yl_quo8 (m := 2) rfl rfl ?q1 ?q2 ?q3, ?_⟩); (case q1 => omega); (case q2 => omega); (case q3 => omega))
                   | ((refine' ⟨_, Yl_quo8 (m := 4) rfl rfl ?q1 ?q2 ?q3, ?_⟩); (case q1 => omega); (case q2 => omega); (case q3 => omega))
                   | ((refine' ⟨_, Yl_quo8 (m := 8) rfl rfl ?q1 ?q2 ?q3, ?_⟩); (case q1 => omega); (case q2 => omega); (case q3 => omega))
                   | ((refine' ⟨_, Yl_addS rfl rfl ?q1, ?_⟩); (case q1 => decide))
                   | refine ⟨_, Yl_eql_str rfl rfl, ?_⟩
                   | ((refine' ⟨_, Yl_and8 rfl rfl ?q1 ?q2 ?q3 ?q4, ?_⟩); (case q1 => omega); (case q2 => omega); (case q3 => omega); (case q4 => omega))
                   | ((refine' ⟨_, Yl_eql_bool rfl rfl ?q1, ?_⟩); (case q1 => exact und_of rfl))
                   | ((refine' ⟨_, Yl_eql_strT rfl rfl ?q1, ?_⟩); (case q1 => first | assumption | rfl))
                   | ((refine' ⟨_, Yl_eql_strF rfl rfl ?q1, ?_⟩); (case q1 => first | assumption | decide))
                   | (refine sp_eqlS rfl rfl ?_ ?_ <;> intro hc)))
                | ((with_reducible refine is_b_neq ?_)
                   (first
                   | ((refine' ⟨_, Yl_neq_t rfl rfl ?q1, ?_⟩); (case q1 => omega))
                   | ((refine' ⟨_, Yl_neq_f rfl rfl ?q1, ?_⟩); (case q1 => omega))
                   | (refine sp_neq rfl rfl ?_ ?_ <;> intro hc)
                   | ((refine' ⟨_, Yl_remk (m := 2) rfl rfl ?q1 ?q2, ?_⟩); (case q1 => omega); (case q2 => omega))
                   | ((refine' ⟨_, Yl_quo8 (m := 2) rfl rfl ?q1 ?q2 ?q3, ?_⟩); (case q1 => omega); (case q2 => omega); (case q3 => omega))
                   | ((refine' ⟨_, Yl_quo8 (m := 4) rfl rfl ?q1 ?q2 ?q3, ?_⟩); (case q1 => omega); (case q2 => omega); (case q3 => omega))
                   | ((refine' ⟨_, Yl_quo8 (m := 8) rfl rfl ?q1 ?q2 ?q3, ?_⟩); (case q1 => omega); (case q2 => omega); (case q3 => omega))
                   | ((refine' ⟨_, Yl_addS rfl rfl ?q1, ?_⟩); (case q1 => decide))
                   | refine ⟨_, Yl_eql_str rfl rfl, ?_⟩
                   | ((refine' ⟨_, Yl_and8 rfl rfl ?q1 ?q2 ?q3 ?q4, ?_⟩); (case q1 => omega); (case q2 => omega); (case q3 => omega); (case q4 => omega))
                   | ((refine' ⟨_, Yl_neq_bool rfl rfl ?q1, ?_⟩); (case q1 => exact und_of rfl))
                   | ((refine' ⟨_, Yl_neq_strT rfl rfl ?q1, ?_⟩); (case q1 => first | assumption | decide))
                   | ((refine' ⟨_, Yl_neq_strF rfl rfl ?q1, ?_⟩); (case q1 => first | assumption | rfl))
                   | (refine sp_neqS rfl rfl ?_ ?_ <;> intro hc)))
                | ((with_reducible refine is_b_add ?_)
                   (first
                   | ((refine' ⟨_, Yl_add rfl rfl ?q1 ?q2, ?_⟩); (case q1 => omega); (case q2 => omega))
                   | ((refine' ⟨_, Yl_add8 rfl rfl ?q1 ?q2, ?_⟩); (case q1 => omega); (case q2 => omega))
                   | ((refine' ⟨_, Yl_remk (m := 2) rfl rfl ?q1 ?q2, ?_⟩); (case q1 => omega); (case q2 => omega))
                   | ((refine' ⟨_, Yl_quo8 (m := 2) rfl rfl ?q1 ?q2 ?q3, ?_⟩); (case q1 => omega); (case q2 => omega); (case q3 => omega))
                   | ((refine' ⟨_, Yl_quo8 (m := 4) rfl rfl ?q1 ?q2 ?q3, ?_⟩); (case q1 => omega); (case q2 => omega); (case q3 => omega))
                   | ((refine' ⟨_, Yl_quo8 (m := 8) rfl rfl ?q1 ?q2 ?q3, ?_⟩); (case q1 => omega); (case q2 => omega); (case q3 => omega))
                   | ((refine' ⟨_, Yl_addS rfl rfl ?q1, ?_⟩); (case q1 => decide))
                   | refine ⟨_, Yl_eql_str rfl rfl, ?_⟩
                   | ((refine' ⟨_, Yl_and8 rfl rfl ?q1 ?q2 ?q3 ?q4, ?_⟩); (case q1 => omega); (case q2 => omega); (case q3 => omega); (case q4 => omega))))
                | ((with_reducible refine is_min ?_); refine ⟨_, Yl_min rfl rfl, ?_⟩)
                | ((with_reducible refine is_max ?_); refine ⟨_, Yl_max rfl rfl, ?_⟩)
                | ((with_reducible refine is_b_sub ?_)
                   (first
                   | ((refine' ⟨_, Yl_sub rfl rfl ?q1 ?q2, ?_⟩); (case q1 => omega); (case q2 => omega))
                   | ((refine' ⟨_, Yl_remk (m := 2) rfl rfl ?q1 ?q2, ?_⟩); (case q1 => omega); (case q2 => omega))
                   | ((refine' ⟨_, Yl_quo8 (m := 2) rfl rfl ?q1 ?q2 ?q3, ?_⟩); (case q1 => omega); (case q2 => omega); (case q3 => omega))
                   | ((refine' ⟨_, Yl_quo8 (m := 4) rfl rfl ?q1 ?q2 ?q3, ?_⟩); (case q1 => omega); (case q2 => omega); (case q3 => omega))
                   | ((refine' ⟨_, Yl_quo8 (m := 8) rfl rfl ?q1 ?q2 ?q3, ?_⟩); (case q1 => omega); (case q2 => omega); (case q3 => omega))
                   | ((refine' ⟨_, Yl_addS rfl rfl ?q1, ?_⟩); (case q1 => decide))
                   | refine ⟨_, Yl_eql_str rfl rfl, ?_⟩
                   | ((refine' ⟨_, Yl_and8 rfl rfl ?q1 ?q2 ?q3 ?q4, ?_⟩); (case q1 => omega); (case q2 => omega); (case q3 => omega); (case q4 => omega))))
                | ((with_reducible refine is_build ?_); (first | fail))
                | (first
                  | ((refine' ⟨_, Yl_remk (m := 2) rfl rfl ?q1 ?q2, ?_⟩); (case q1 => omega); (case q2 => omega))
                  | ((refine' ⟨_, Yl_quo8 (m := 2) rfl rfl ?q1 ?q2 ?q3, ?_⟩); (case q1 => omega); (case q2 => omega); (case q3 => omega))
                  | ((refine' ⟨_, Yl_quo8 (m := 4) rfl rfl ?q1 ?q2 ?q3, ?_⟩); (case q1 => omega); (case q2 => omega); (case q3 => omega))
                  | ((refine' ⟨_, Yl_quo8 (m := 8) rfl rfl ?q1 ?q2 ?q3, ?_⟩); (case q1 => omega); (case q2 => omega); (case q3 => omega))
                  | ((refine' ⟨_, Yl_addS rfl rfl ?q1, ?_⟩); (case q1 => decide))
                  | refine ⟨_, Yl_eql_str rfl rfl, ?_⟩
                  | ((refine' ⟨_, Yl_and8 rfl rfl ?q1 ?q2 ?q3 ?q4, ?_⟩); (case q1 => omega); (case q2 => omega); (case q3 => omega); (case q4 => omega)))
                | ((with_reducible refine ie_box ?_)
                   (first
                   | (refine Ef_boxA rfl rfl ?_; (first | ((fail_if_success have := b1); intro b1) | ((fail_if_success have := b2); intro b2) | ((fail_if_success have := b3); intro b3) | ((fail_if_success have := b4); intro b4) | ((fail_if_success have := b5); intro b5) | ((fail_if_success have := b6); intro b6) | ((fail_if_success have := b7); intro b7) | ((fail_if_success have := b8); intro b8) | ((fail_if_success have := b9); intro b9)))
                   | (refine Ef_box1 rfl rfl rfl ?_; (first | ((fail_if_success have := b1); intro b1) | ((fail_if_success have := b2); intro b2) | ((fail_if_success have := b3); intro b3) | ((fail_if_success have := b4); intro b4) | ((fail_if_success have := b5); intro b5) | ((fail_if_success have := b6); intro b6) | ((fail_if_success have := b7); intro b7) | ((fail_if_success have := b8); intro b8) | ((fail_if_success have := b9); intro b9)))))
                | ((with_reducible refine ie_alloc ?_); (first | fail | (((refine' Ef_alloc rfl ?q1 ?_); (case q1 => exact zer_of rfl)); (first | ((fail_if_success have := b1); intro b1) | ((fail_if_success have := b2); intro b2) | ((fail_if_success have := b3); intro b3) | ((fail_if_success have := b4); intro b4) | ((fail_if_success have := b5); intro b5) | ((fail_if_success have := b6); intro b6) | ((fail_if_success have := b7); intro b7) | ((fail_if_success have := b8); intro b8) | ((fail_if_success have := b9); intro b9)))))
                | ((with_reducible refine ie_store ?_)
                   (first
                   | fail
                   | ((refine' Ef_store_rowA rfl rfl ?q1 ?q2 ?q3 ?q4 ?q5 ?q6 ?_); (case q1 => exact siz_of rfl); (case q2 => rfl); (case q3 => (first | assumption | (intro u hu; rcases hu with _ | ⟨_, _ | ⟨_, _ | ⟨_, _ | ⟨_, hu⟩⟩⟩⟩ <;> first | rfl | (cases hu; done)))); (case q4 => (first | exact at0 | exact at1 | exact at2 | exact at3 | exact at4 | exact at5 | exact at6)); (case q5 => omega); (case q6 => assumption))
                   | ((refine' Ef_storeA' rfl rfl ?q1 ?q2 ?q3 ?q4 ?_); (case q1 => exact siz_of rfl); (case q2 => (first | assumption | (intro u hu; rcases hu with _ | ⟨_, _ | ⟨_, _ | ⟨_, _ | ⟨_, hu⟩⟩⟩⟩ <;> first | rfl | (cases hu; done)))); (case q3 => (first | exact at0 | exact at1 | exact at2 | exact at3 | exact at4 | exact at5 | exact at6)); (case q4 => rfl))
                   | ((refine' Ef_storeC rfl rfl ?q1 ?q2 ?q3 ?q4 ?q5 ?_); (case q1 => rfl); (case q2 => exact siz_of rfl); (case q3 => (first | exact at0 | exact at1 | exact at2 | exact at3 | exact at4 | exact at5 | exact at6)); (case q4 => exact Nat.le_of_ble_eq_true rfl); (case q5 => rfl))))
                | ((with_reducible refine ie_callf ?_)
                   (first
                   | ((with_reducible refine g_call 18 ?_); (first | refine Ef_callP rfl rfl ent_18 (fun w _ => may_v x true w hmx) ?_ | refine Ef_callP rfl rfl ent_18 (fun w _ => may_v x false w hmx) ?_))
                   | ((with_reducible refine g_call 21 ?_); (first | refine Ef_callP rfl rfl ent_21 (fun w _ => rmay_v x true w hmx) ?_ | refine Ef_callP rfl rfl ent_21 (fun w _ => rmay_v x false w hmx) ?_))
                   | ((with_reducible refine g_call 17 ?_); (first | refine Ef_callP rfl rfl ent_17 (fun w hp => line_v A len cap l true w (hp.rd hr fun _ => List.not_mem_nil) hl hb) ?_ | refine Ef_callP rfl rfl ent_17 (fun w hp => line_v A len cap l false w (hp.rd hr fun _ => List.not_mem_nil) hl hb) ?_))))
                | ((with_reducible refine ie_app ?_)
                   (first
                   | fail
                   | (((refine' Ef_app0_rd rfl rfl rfl ?q1 ?q2 ?q3 ?q4 ?q5 ?q6 ?q7 ?_); (case q1 => exact app_of rfl); (case q2 => (first | exact at0 | exact at1 | exact at2 | exact at3 | exact at4 | exact at5 | exact at6)); (case q3 => assumption); (case q4 => (first | assumption | (intro u hu; rcases hu with _ | ⟨_, _ | ⟨_, _ | ⟨_, _ | ⟨_, hu⟩⟩⟩⟩ <;> first | rfl | (cases hu; done)))); (case q5 => omega); (case q6 => omega); (case q7 => exact List.not_mem_nil))
                      (first | ((fail_if_success have := A1); intro A1 c1) | ((fail_if_success have := A2); intro A2 c2) | ((fail_if_success have := A3); intro A3 c3) | ((fail_if_success have := A4); intro A4 c4) | ((fail_if_success have := A5); intro A5 c5) | ((fail_if_success have := A6); intro A6 c6) | ((fail_if_success have := A7); intro A7 c7)))
                   | (((refine' Ef_appG_row rfl rfl rfl ?q1 ?q2 ?q3 ?q4 ?q5 ?q6 ?_); (case q1 => exact app_of rfl); (case q2 => (first | exact at0 | exact at1 | exact at2 | exact at3 | exact at4 | exact at5 | exact at6)); (case q3 => (repeat (first | exact .head _ | apply List.Mem.tail))); (case q4 => (first | assumption | (intro u hu; rcases hu with _ | ⟨_, _ | ⟨_, _ | ⟨_, _ | ⟨_, hu⟩⟩⟩⟩ <;> first | rfl | (cases hu; done)))); (case q5 => omega); (case q6 => omega))
                      (first | ((fail_if_success have := A1); intro A1 c1) | ((fail_if_success have := A2); intro A2 c2) | ((fail_if_success have := A3); intro A3 c3) | ((fail_if_success have := A4); intro A4 c4) | ((fail_if_success have := A5); intro A5 c5) | ((fail_if_success have := A6); intro A6 c6) | ((fail_if_success have := A7); intro A7 c7)))
                   | (((refine' Ef_appG_rd rfl rfl rfl ?q1 ?q2 ?q3 ?q4 ?q5 ?q6 ?q7 ?_); (case q1 => exact app_of rfl); (case q2 => (first | exact at0 | exact at1 | exact at2 | exact at3 | exact at4 | exact at5 | exact at6)); (case q3 => assumption); (case q4 => (first | assumption | (intro u hu; rcases hu with _ | ⟨_, _ | ⟨_, _ | ⟨_, _ | ⟨_, hu⟩⟩⟩⟩ <;> first | rfl | (cases hu; done)))); (case q5 => omega); (case q6 => omega); (case q7 => exact List.not_mem_nil))
                      (first | ((fail_if_success have := A1); intro A1 c1) | ((fail_if_success have := A2); intro A2 c2) | ((fail_if_success have := A3); intro A3 c3) | ((fail_if_success have := A4); intro A4 c4) | ((fail_if_success have := A5); intro A5 c5) | ((fail_if_success have := A6); intro A6 c6) | ((fail_if_success have := A7); intro A7 c7)))))
                | ((with_reducible refine ie_bsl ?_)
                   (first
                   | fail
                   | (((refine' Ef_bsl0 rfl ?q1 ?_); (case q1 => exact app_of rfl)); (first | ((fail_if_success have := b1); intro b1) | ((fail_if_success have := b2); intro b2) | ((fail_if_success have := b3); intro b3) | ((fail_if_success have := b4); intro b4) | ((fail_if_success have := b5); intro b5) | ((fail_if_success have := b6); intro b6) | ((fail_if_success have := b7); intro b7) | ((fail_if_success have := b8); intro b8) | ((fail_if_success have := b9); intro b9)))
                   | (((refine' Ef_bslA rfl rfl ?q1 ?q2 ?q3 ?_); (case q1 => exact app_of rfl); (case q2 => rfl); (case q3 => decide)); (first | ((fail_if_success have := b1); intro b1) | ((fail_if_success have := b2); intro b2) | ((fail_if_success have := b3); intro b3) | ((fail_if_success have := b4); intro b4) | ((fail_if_success have := b5); intro b5) | ((fail_if_success have := b6); intro b6) | ((fail_if_success have := b7); intro b7) | ((fail_if_success have := b8); intro b8) | ((fail_if_success have := b9); intro b9)))
                   | (((refine' Ef_bsl1 rfl rfl rfl ?q1 ?_); (case q1 => exact app_of rfl)); (first | ((fail_if_success have := b1); intro b1) | ((fail_if_success have := b2); intro b2) | ((fail_if_success have := b3); intro b3) | ((fail_if_success have := b4); intro b4) | ((fail_if_success have := b5); intro b5) | ((fail_if_success have := b6); intro b6) | ((fail_if_success have := b7); intro b7) | ((fail_if_success have := b8); intro b8) | ((fail_if_success have := b9); intro b9)))))
                | (first | fail)
                | refine Ef_y rfl rfl ?_
                | ((with_reducible refine ie_conv ?_); refine Ef_y' rfl ?_)
                | ((with_reducible refine ie_bmin ?_); refine Ef_y' rfl ?_)
                | ((with_reducible refine ie_bmax ?_); refine Ef_y' rfl ?_))
        exact ret_n [] (res1 rfl rfl) (List.nil_sublist _) ⟨rfl, rfl⟩
    · have e : l.take i = l := List.take_of_length_le (by omega)
      rw [e] at hm
      rw [Rt.line_of (by omega) (by omega) hm]
      repeat' (first
              | with_reducible refine T.seq ?_
              | with_reducible refine T.block ?_
              | with_reducible refine T.region ?_
              | with_reducible refine T.skip ?_
              | with_reducible refine T.ret ?_
              | with_reducible refine T.exit ?_
              | with_reducible refine seqQ_n ?_
              | with_reducible refine seqQ_x ?_
              | with_reducible refine seqQ_r ?_
              | with_reducible refine blockQ_n ?_
              | with_reducible refine blockQ_r ?_
              | with_reducible refine blockQ_x ?_
              | ((with_reducible refine g_blkx ?_); refine blockQ_y rfl ?_)
              | with_reducible refine loopQ_x ?_
              | with_reducible refine loopQ_r ?_
              | with_reducible refine joinQ_r ?_
              | with_reducible refine joinQ_x ?_
              | ((with_reducible refine g_cond ?_); (first | refine T.cond_t rfl ?_ | refine T.cond_f rfl ?_ | (refine T.cond_s rfl ?_ ?_ <;> intro hc)))
              | with_reducible refine TL_nil ?_
              | with_reducible refine TS_nil ?_
              | ((with_reducible refine g_draw ?_); (first | (((with_reducible refine' T.drawM (id := 3) [(0, true), (1, true), (2, true), (3, true), (4, true), (5, true), (6, true), (7, true), (8, false), (9, false)] mixd ?q1 ?_); (case q1 => kernel_rfl)))))
              | ((with_reducible refine TL_y' ?hy ?hd ?_); (case hy => rfl); (case hd => rfl))
              | with_reducible refine TL_e ?_
              | ((with_reducible refine g_TL ?_); (first | refine TL_gy' rfl rfl rfl rfl ?_ | refine TL_gn rfl rfl rfl ?_ | refine TL_gu rfl rfl rfl ?_ | refine TL_ge rfl rfl ?_ | refine TL_gn0 rfl rfl ?_))
              | ((with_reducible refine g_TS ?_); (first | refine TS_y rfl rfl ?_ | refine TS_e rfl ?_ | refine TS_gy rfl rfl rfl rfl ?_ | refine TS_gn rfl rfl rfl rfl ?_ | refine TS_gu rfl rfl rfl rfl ?_ | refine TS_ge rfl rfl rfl ?_ | refine TS_gne rfl rfl rfl rfl ?_ | refine TS_gue rfl rfl rfl rfl ?_ | refine TS_gne0 rfl rfl rfl ?_))
              | ((with_reducible refine TSand ?hd ?_); (case hd => (repeat (first | exact List.nil_sublist _ | refine List.Sublist.cons_cons _ ?_ | refine List.Sublist.cons _ ?_))))
              | ((with_reducible refine TBand ?hd ?_); (case hd => (repeat (first | exact List.nil_sublist _ | refine List.Sublist.cons_cons _ ?_ | refine List.Sublist.cons _ ?_))))
              | ((with_reducible refine g_TB ?_); (first | with_reducible refine TB_run ?_ | refine TB_y rfl rfl ?_ | refine TB_b rfl rfl ?_ ?_ | refine TB_e rfl ?_))
              | ((with_reducible refine is_move ?_); refine ⟨_, Yl_move rfl, ?_⟩)
              | ((with_reducible refine is_assign ?_); refine ⟨_, Yl_assign rfl, ?_⟩)
              | ((with_reducible refine is_pick ?_); (first | refine ⟨_, Yl_pick_t rfl rfl, ?_⟩ | refine ⟨_, Yl_pick_f rfl rfl, ?_⟩))
              | ((with_reducible refine is_nil ?_); refine ⟨_, Yl_nilCheck rfl, ?_⟩)
              | ((with_reducible refine is_fld ?_); (first | ((refine' ⟨_, Yl_fld_ad rfl ?q1, ?_⟩); (case q1 => exact fld_of rfl rfl)) | ((refine' ⟨_, Yl_fld_blk0 rfl ?q1, ?_⟩); (case q1 => exact fld_of rfl rfl)) | ((refine' ⟨_, Yl_fld_blk rfl ?q1, ?_⟩); (case q1 => exact fld_of rfl rfl))))
              | ((with_reducible refine is_load ?_)
                 (first
                 | fail
                 | ((refine' ⟨_, Yl_load_blk rfl ?q1 ?q2 ?q3, ?_⟩); (case q1 => exact one_of rfl); (case q2 => (repeat (first | exact .head _ | apply List.Mem.tail))); (case q3 => rfl))
                 | ((refine' ⟨_, Yl_loadA_blk rfl ?q1 ?q2, ?_⟩); (case q1 => (repeat (first | exact .head _ | apply List.Mem.tail))); (case q2 => exact agg_of rfl))
                 | ((refine' ⟨_, Yl_load_blk rfl ?q1 ?q2 ?q3, ?_⟩); (case q1 => exact one_of rfl); (case q2 => (repeat (first | exact .head _ | apply List.Mem.tail))); (case q3 => assumption))
                 | ((refine' ⟨_, Yl_load_rd rfl ?q1 ?q2 List.not_mem_nil ?q3, ?_⟩); (case q1 => exact one_of rfl); (case q2 => assumption); (case q3 => assumption))
                 | ((refine' ⟨_, Yl_load_row rfl ?q1 ?q2 ?q3, ?_⟩); (case q1 => exact one_of rfl); (case q2 => (repeat (first | exact .head _ | apply List.Mem.tail))); (case q3 => assumption))
                 | ((refine' ⟨_, Yl_loadA_rd rfl ?qa ?qb List.not_mem_nil ?ql ?qc, ?_⟩); (case qa => exact agg_of rfl); (case qb => assumption); (case qc => assumption); (case ql => rfl))
                 | ((refine' ⟨_, Yl_loadA_row rfl ?qa ?qb ?ql ?qc, ?_⟩); (case qa => exact agg_of rfl); (case qb => (repeat (first | exact .head _ | apply List.Mem.tail))); (case qc => assumption); (case ql => rfl))))
              | ((with_reducible refine is_idx ?_)
                 (first
                 | fail
                 | ((refine' ⟨_, Yl_index rfl rfl ?q1 ?q2 ?q3 (Rd.some_ ?q4 ?q5), ?_⟩); (case q1 => exact und_of rfl); (case q2 => exact siz_of rfl); (case q3 => omega); (case q4 => assumption); (case q5 => omega))
                 | ((refine' ⟨_, Yl_index_row rfl rfl ?q1 ?q2 ?q3 ?q4, ?_⟩); (case q1 => exact und_of rfl); (case q2 => exact siz_of rfl); (case q3 => omega); (case q4 => (repeat (first | exact .head _ | apply List.Mem.tail))))
                 | ((refine' ⟨_, Yl_index rfl rfl ?q1 ?q2 ?q3 rfl, ?_⟩); (case q1 => exact und_of rfl); (case q2 => exact siz_of rfl); (case q3 => omega))
                 | ((refine' ⟨_, Yl_index (j := 0) rfl rfl ?q1 ?q2 ?q3 (Rd.some_ ?q4 ?q5), ?_⟩); (case q1 => exact und_of rfl); (case q2 => exact siz_of rfl); (case q3 => omega); (case q4 => assumption); (case q5 => omega))
                 | ((refine' ⟨_, Yl_index_row (j := 0) rfl rfl ?q1 ?q2 ?q3 ?q4, ?_⟩); (case q1 => exact und_of rfl); (case q2 => exact siz_of rfl); (case q3 => omega); (case q4 => (repeat (first | exact .head _ | apply List.Mem.tail))))))
              | ((with_reducible refine is_ext ?_); refine ⟨_, Yl_extract rfl rfl, ?_⟩)
              | ((with_reducible refine is_un ?_); refine ⟨_, Yl_not rfl, ?_⟩)
              | ((with_reducible refine is_len ?_); (first | ((refine' ⟨_, Yl_len_slice rfl ?q1, ?_⟩); (case q1 => exact und_of rfl)) | ((refine' ⟨_, Yl_len_string rfl ?q1, ?_⟩); (case q1 => exact und_of rfl))))
              | ((with_reducible refine is_b_lss ?_); (first | ((refine' ⟨_, Yl_lss_t rfl rfl ?q1, ?_⟩); (case q1 => omega)) | ((refine' ⟨_, Yl_lss_f rfl rfl ?q1, ?_⟩); (case q1 => omega)) | (refine sp_lss rfl rfl ?_ ?_ <;> intro hc)))
              | ((with_reducible refine is_b_leq ?_); (first | ((refine' ⟨_, Yl_leq_t rfl rfl ?q1, ?_⟩); (case q1 => omega)) | ((refine' ⟨_, Yl_leq_f rfl rfl ?q1, ?_⟩); (case q1 => omega)) | (refine sp_leq rfl rfl ?_ ?_ <;> intro hc)))
              | ((with_reducible refine is_b_gtr ?_); (first | ((refine' ⟨_, Yl_gtr_t rfl rfl ?q1, ?_⟩); (case q1 => omega)) | ((refine' ⟨_, Yl_gtr_f rfl rfl ?q1, ?_⟩); (case q1 => omega)) | (refine sp_gtr rfl rfl ?_ ?_ <;> intro hc)))
              | ((with_reducible refine is_b_geq ?_); (first | ((refine' ⟨_, Yl_geq_t rfl rfl ?q1, ?_⟩); (case q1 => omega)) | ((refine' ⟨_, Yl_geq_f rfl rfl ?q1, ?_⟩); (case q1 => omega)) | (refine sp_geq rfl rfl ?_ ?_ <;> intro hc)))
              | ((with_reducible refine is_b_eql ?_)
                 (first
                 | ((refine' ⟨_, Yl_eql_t rfl rfl ?q1, ?_⟩); (case q1 => omega))
                 | ((refine' ⟨_, Yl_eql_f rfl rfl ?q1, ?_⟩); (case q1 => omega))
                 | (refine sp_eql rfl rfl ?_ ?_ <;> intro hc)
                 | ((refine' ⟨_, Yl_remk (m := 2) rfl rfl ?q1 ?q2, ?_⟩); (case q1 => omega); (case q2 => omega))
                 | ((refine' ⟨_, Yl_quo8 (m := 2) rfl rfl ?q1 ?q2 ?q3, ?_⟩); (case q1 => omega); (case q2 => omega); (case q3 => omega))
                 | ((refine' ⟨_, Yl_quo8 (m := 4) rfl rfl ?q1 ?q2 ?q3, ?_⟩); (case q1 => omega); (case q2 => omega); (case q3 => omega))
                 | ((refine' ⟨_, Yl_quo8 (m := 8) rfl rfl ?q1 ?q2 ?q3, ?_⟩); (case q1 => omega); (case q2 => omega); (case q3 => omega))
                 | ((refine' ⟨_, Yl_addS rfl rfl ?q1, ?_⟩); (case q1 => decide))
                 | refine ⟨_, Yl_eql_str rfl rfl, ?_⟩
                 | ((refine' ⟨_, Yl_and8 rfl rfl ?q1 ?q2 ?q3 ?q4, ?_⟩); (case q1 => omega); (case q2 => omega); (case q3 => omega); (case q4 => omega))
                 | ((refine' ⟨_, Yl_eql_bool rfl rfl ?q1, ?_⟩); (case q1 => exact und_of rfl))
                 | ((refine' ⟨_, Yl_eql_strT rfl rfl ?q1, ?_⟩); (case q1 => first | assumption | rfl))
                 | ((refine' ⟨_, Yl_eql_strF rfl rfl ?q1, ?_⟩); (case q1 => first | assumption | decide))
                 | (refine sp_eqlS rfl rfl ?_ ?_ <;> intro hc)))
              | ((with_reducible refine is_b_neq ?_)
                 (first
                 | ((refine' ⟨_, Yl_neq_t rfl rfl ?q1, ?_⟩); (case q1 => omega))
                 | ((refine' ⟨_, Yl_neq_f rfl rfl ?q1, ?_⟩); (case q1 => omega))
                 | (refine sp_neq rfl rfl ?_ ?_ <;> intro hc)
                 | ((refine' ⟨_, Yl_remk (m := 2) rfl rfl ?q1 ?q2, ?_⟩); (case q1 => omega); (case q2 => omega))
                 | ((refine' ⟨_, Yl_quo8 (m := 2) rfl rfl ?q1 ?q2 ?q3, ?_⟩); (case q1 => omega); (case q2 => omega); (case q3 => omega))
                 | ((refine' ⟨_, Yl_quo8 (m := 4) rfl rfl ?q1 ?q2 ?q3, ?_⟩); (case q1 => omega); (case q2 => omega); (case q3 => omega))
                 | ((refine' ⟨_, Yl_quo8 (m := 8) rfl rfl ?q1 ?q2 ?q3, ?_⟩); (case q1 => omega); (case q2 => omega); (case q3 => omega))
                 | ((refine' ⟨_, Yl_addS rfl rfl ?q1, ?_⟩); (case q1 => decide))
                 | refine ⟨_, Yl_eql_str rfl rfl, ?_⟩
                 | ((refine' ⟨_, Yl_and8 rfl rfl ?q1 ?q2 ?q3 ?q4, ?_⟩); (case q1 => omega); (case q2 => omega); (case q3 => omega); (case q4 => omega))
                 | ((refine' ⟨_, Yl_neq_bool rfl rfl ?q1, ?_⟩); (case q1 => exact und_of rfl))
                 | ((refine' ⟨_, Yl_neq_strT rfl rfl ?q1, ?_⟩); (case q1 => first | assumption | decide))
                 | ((refine' ⟨_, Yl_neq_strF rfl rfl ?q1, ?_⟩); (case q1 => first | assumption | rfl))
                 | (refine sp_neqS rfl rfl ?_ ?_ <;> intro hc)))
              | ((with_reducible refine is_b_add ?_)
                 (first
                 | ((refine' ⟨_, Yl_add rfl rfl ?q1 ?q2, ?_⟩); (case q1 => omega); (case q2 => omega))
                 | ((refine' ⟨_, Yl_add8 rfl rfl ?q1 ?q2, ?_⟩); (case q1 => omega); (case q2 => omega))
                 | ((refine' ⟨_, Yl_remk (m := 2) rfl rfl ?q1 ?q2, ?_⟩); (case q1 => omega); (case q2 => omega))
                 | ((refine' ⟨_, Yl_quo8 (m := 2) rfl rfl ?q1 ?q2 ?q3, ?_⟩); (case q1 => omega); (case q2 => omega); (case q3 => omega))
                 | ((refine' ⟨_, Yl_quo8 (m := 4) rfl rfl ?q1 ?q2 ?q3, ?_⟩); (case q1 => omega); (case q2 => omega); (case q3 => omega))
                 | ((refine' ⟨_, Yl_quo8 (m := 8) rfl rfl ?q1 ?q2 ?q3, ?_⟩); (case q1 => omega); (case q2 => omega); (case q3 => omega))
                 | ((refine' ⟨_, Yl_addS rfl rfl ?q1, ?_⟩); (case q1 => decide))
                 | refine ⟨_, Yl_eql_str rfl rfl, ?_⟩
                 | ((refine' ⟨_, Yl_and8 rfl rfl ?q1 ?q2 ?q3 ?q4, ?_⟩); (case q1 => omega); (case q2 => omega); (case q3 => omega); (case q4 => omega))))
              | ((with_reducible refine is_min ?_); refine ⟨_, Yl_min rfl rfl, ?_⟩)
              | ((with_reducible refine is_max ?_); refine ⟨_, Yl_max rfl rfl, ?_⟩)
              | ((with_reducible refine is_b_sub ?_)
                 (first
                 | ((refine' ⟨_, Yl_sub rfl rfl ?q1 ?q2, ?_⟩); (case q1 => omega); (case q2 => omega))
                 | ((refine' ⟨_, Yl_remk (m := 2) rfl rfl ?q1 ?q2, ?_⟩); (case q1 => omega); (case q2 => omega))
                 | ((refine' ⟨_, Yl_quo8 (m := 2) rfl rfl ?q1 ?q2 ?q3, ?_⟩); (case q1 => omega); (case q2 => omega); (case q3 => omega))
                 | ((refine' ⟨_, Yl_quo8 (m := 4) rfl rfl ?q1 ?q2 ?q3, ?_⟩); (case q1 => omega); (case q2 => omega); (case q3 => omega))
                 | ((refine' ⟨_, Yl_quo8 (m := 8) rfl rfl ?q1 ?q2 ?q3, ?_⟩); (case q1 => omega); (case q2 => omega); (case q3 => omega))
                 | ((refine' ⟨_, Yl_addS rfl rfl ?q1, ?_⟩); (case q1 => decide))
                 | refine ⟨_, Yl_eql_str rfl rfl, ?_⟩
                 | ((refine' ⟨_, Yl_and8 rfl rfl ?q1 ?q2 ?q3 ?q4, ?_⟩); (case q1 => omega); (case q2 => omega); (case q3 => omega); (case q4 => omega))))
              | ((with_reducible refine is_build ?_); (first | fail))
              | (first
                | ((refine' ⟨_, Yl_remk (m := 2) rfl rfl ?q1 ?q2, ?_⟩); (case q1 => omega); (case q2 => omega))
                | ((refine' ⟨_, Yl_quo8 (m := 2) rfl rfl ?q1 ?q2 ?q3, ?_⟩); (case q1 => omega); (case q2 => omega); (case q3 => omega))
                | ((refine' ⟨_, Yl_quo8 (m := 4) rfl rfl ?q1 ?q2 ?q3, ?_⟩); (case q1 => omega); (case q2 => omega); (case q3 => omega))
                | ((refine' ⟨_, Yl_quo8 (m := 8) rfl rfl ?q1 ?q2 ?q3, ?_⟩); (case q1 => omega); (case q2 => omega); (case q3 => omega))
                | ((refine' ⟨_, Yl_addS rfl rfl ?q1, ?_⟩); (case q1 => decide))
                | refine ⟨_, Yl_eql_str rfl rfl, ?_⟩
                | ((refine' ⟨_, Yl_and8 rfl rfl ?q1 ?q2 ?q3 ?q4, ?_⟩); (case q1 => omega); (case q2 => omega); (case q3 => omega); (case q4 => omega)))
              | ((with_reducible refine ie_box ?_)
                 (first
                 | (refine Ef_boxA rfl rfl ?_; (first | ((fail_if_success have := b1); intro b1) | ((fail_if_success have := b2); intro b2) | ((fail_if_success have := b3); intro b3) | ((fail_if_success have := b4); intro b4) | ((fail_if_success have := b5); intro b5) | ((fail_if_success have := b6); intro b6) | ((fail_if_success have := b7); intro b7) | ((fail_if_success have := b8); intro b8) | ((fail_if_success have := b9); intro b9)))
                 | (refine Ef_box1 rfl rfl rfl ?_; (first | ((fail_if_success have := b1); intro b1) | ((fail_if_success have := b2); intro b2) | ((fail_if_success have := b3); intro b3) | ((fail_if_success have := b4); intro b4) | ((fail_if_success have := b5); intro b5) | ((fail_if_success have := b6); intro b6) | ((fail_if_success have := b7); intro b7) | ((fail_if_success have := b8); intro b8) | ((fail_if_success have := b9); intro b9)))))
              | ((with_reducible refine ie_alloc ?_); (first | fail | (((refine' Ef_alloc rfl ?q1 ?_); (case q1 => exact zer_of rfl)); (first | ((fail_if_success have := b1); intro b1) | ((fail_if_success have := b2); intro b2) | ((fail_if_success have := b3); intro b3) | ((fail_if_success have := b4); intro b4) | ((fail_if_success have := b5); intro b5) | ((fail_if_success have := b6); intro b6) | ((fail_if_success have := b7); intro b7) | ((fail_if_success have := b8); intro b8) | ((fail_if_success have := b9); intro b9)))))
              | ((with_reducible refine ie_store ?_)
                 (first
                 | fail
                 | ((refine' Ef_store_rowA rfl rfl ?q1 ?q2 ?q3 ?q4 ?q5 ?q6 ?_); (case q1 => exact siz_of rfl); (case q2 => rfl); (case q3 => (first | assumption | (intro u hu; rcases hu with _ | ⟨_, _ | ⟨_, _ | ⟨_, _ | ⟨_, hu⟩⟩⟩⟩ <;> first | rfl | (cases hu; done)))); (case q4 => (first | exact at0 | exact at1 | exact at2 | exact at3 | exact at4 | exact at5 | exact at6)); (case q5 => omega); (case q6 => assumption))
                 | ((refine' Ef_storeA' rfl rfl ?q1 ?q2 ?q3 ?q4 ?_); (case q1 => exact siz_of rfl); (case q2 => (first | assumption | (intro u hu; rcases hu with _ | ⟨_, _ | ⟨_, _ | ⟨_, _ | ⟨_, hu⟩⟩⟩⟩ <;> first | rfl | (cases hu; done)))); (case q3 => (first | exact at0 | exact at1 | exact at2 | exact at3 | exact at4 | exact at5 | exact at6)); (case q4 => rfl))
                 | ((refine' Ef_storeC rfl rfl ?q1 ?q2 ?q3 ?q4 ?q5 ?_); (case q1 => rfl); (case q2 => exact siz_of rfl); (case q3 => (first | exact at0 | exact at1 | exact at2 | exact at3 | exact at4 | exact at5 | exact at6)); (case q4 => exact Nat.le_of_ble_eq_true rfl); (case q5 => rfl))))
              | ((with_reducible refine ie_callf ?_)
                 (first
                 | ((with_reducible refine g_call 18 ?_); (first | refine Ef_callP rfl rfl ent_18 (fun w _ => may_v x true w hmx) ?_ | refine Ef_callP rfl rfl ent_18 (fun w _ => may_v x false w hmx) ?_))
                 | ((with_reducible refine g_call 21 ?_); (first | refine Ef_callP rfl rfl ent_21 (fun w _ => rmay_v x true w hmx) ?_ | refine Ef_callP rfl rfl ent_21 (fun w _ => rmay_v x false w hmx) ?_))
                 | ((with_reducible refine g_call 17 ?_); (first | refine Ef_callP rfl rfl ent_17 (fun w hp => line_v A len cap l true w (hp.rd hr fun _ => List.not_mem_nil) hl hb) ?_ | refine Ef_callP rfl rfl ent_17 (fun w hp => line_v A len cap l false w (hp.rd hr fun _ => List.not_mem_nil) hl hb) ?_))))
              | ((with_reducible refine ie_app ?_)
                 (first
                 | fail
                 | (((refine' Ef_app0_rd rfl rfl rfl ?q1 ?q2 ?q3 ?q4 ?q5 ?q6 ?q7 ?_); (case q1 => exact app_of rfl); (case q2 => (first | exact at0 | exact at1 | exact at2 | exact at3 | exact at4 | exact at5 | exact at6)); (case q3 => assumption); (case q4 => (first | assumption | (intro u hu; rcases hu with _ | ⟨_, _ | ⟨_, _ | ⟨_, _ | ⟨_, hu⟩⟩⟩⟩ <;> first | rfl | (cases hu; done)))); (case q5 => omega); (case q6 => omega); (case q7 => exact List.not_mem_nil))
                    (first | ((fail_if_success have := A1); intro A1 c1) | ((fail_if_success have := A2); intro A2 c2) | ((fail_if_success have := A3); intro A3 c3) | ((fail_if_success have := A4); intro A4 c4) | ((fail_if_success have := A5); intro A5 c5) | ((fail_if_success have := A6); intro A6 c6) | ((fail_if_success have := A7); intro A7 c7)))
                 | (((refine' Ef_appG_row rfl rfl rfl ?q1 ?q2 ?q3 ?q4 ?q5 ?q6 ?_); (case q1 => exact app_of rfl); (case q2 => (first | exact at0 | exact at1 | exact at2 | exact at3 | exact at4 | exact at5 | exact at6)); (case q3 => (repeat (first | exact .head _ | apply List.Mem.tail))); (case q4 => (first | assumption | (intro u hu; rcases hu with _ | ⟨_, _ | ⟨_, _ | ⟨_, _ | ⟨_, hu⟩⟩⟩⟩ <;> first | rfl | (cases hu; done)))); (case q5 => omega); (case q6 => omega))
                    (first | ((fail_if_success have := A1); intro A1 c1) | ((fail_if_success have := A2); intro A2 c2) | ((fail_if_success have := A3); intro A3 c3) | ((fail_if_success have := A4); intro A4 c4) | ((fail_if_success have := A5); intro A5 c5) | ((fail_if_success have := A6); intro A6 c6) | ((fail_if_success have := A7); intro A7 c7)))
                 | (((refine' Ef_appG_rd rfl rfl rfl ?q1 ?q2 ?q3 ?q4 ?q5 ?q6 ?q7 ?_); (case q1 => exact app_of rfl); (case q2 => (first | exact at0 | exact at1 | exact at2 | exact at3 | exact at4 | exact at5 | exact at6)); (case q3 => assumption); (case q4 => (first | assumption | (intro u hu; rcases hu with _ | ⟨_, _ | ⟨_, _ | ⟨_, _ | ⟨_, hu⟩⟩⟩⟩ <;> first | rfl | (cases hu; done)))); (case q5 => omega); (case q6 => omega); (case q7 => exact List.not_mem_nil))
                    (first | ((fail_if_success have := A1); intro A1 c1) | ((fail_if_success have := A2); intro A2 c2) | ((fail_if_success have := A3); intro A3 c3) | ((fail_if_success have := A4); intro A4 c4) | ((fail_if_success have := A5); intro A5 c5) | ((fail_if_success have := A6); intro A6 c6) | ((fail_if_success have := A7); intro A7 c7)))))
              | ((with_reducible refine ie_bsl ?_)
                 (first
                 | fail
                 | (((refine' Ef_bsl0 rfl ?q1 ?_); (case q1 => exact app_of rfl)); (first | ((fail_if_success have := b1); intro b1) | ((fail_if_success have := b2); intro b2) | ((fail_if_success have := b3); intro b3) | ((fail_if_success have := b4); intro b4) | ((fail_if_success have := b5); intro b5) | ((fail_if_success have := b6); intro b6) | ((fail_if_success have := b7); intro b7) | ((fail_if_success have := b8); intro b8) | ((fail_if_success have := b9); intro b9)))
                 | (((refine' Ef_bslA rfl rfl ?q1 ?q2 ?q3 ?_); (case q1 => exact app_of rfl); (case q2 => rfl); (case q3 => decide)); (first | ((fail_if_success have := b1); intro b1) | ((fail_if_success have := b2); intro b2) | ((fail_if_success have := b3); intro b3) | ((fail_if_success have := b4); intro b4) | ((fail_if_success have := b5); intro b5) | ((fail_if_success have := b6); intro b6) | ((fail_if_success have := b7); intro b7) | ((fail_if_success have := b8); intro b8) | ((fail_if_success have := b9); intro b9)))
                 | (((refine' Ef_bsl1 rfl rfl rfl ?q1 ?_); (case q1 => exact app_of rfl)); (first | ((fail_if_success have := b1); intro b1) | ((fail_if_success have := b2); intro b2) | ((fail_if_success have := b3); intro b3) | ((fail_if_success have := b4); intro b4) | ((fail_if_success have := b5); intro b5) | ((fail_if_success have := b6); intro b6) | ((fail_if_success have := b7); intro b7) | ((fail_if_success have := b8); intro b8) | ((fail_if_success have := b9); intro b9)))))
              | (first | fail)
              | refine Ef_y rfl rfl ?_
              | ((with_reducible refine ie_conv ?_); refine Ef_y' rfl ?_)
              | ((with_reducible refine ie_bmin ?_); refine Ef_y' rfl ?_)
              | ((with_reducible refine ie_bmax ?_); refine Ef_y' rfl ?_))
      exact ret_n [] (res1 rfl rfl) (List.nil_sublist _) ⟨rfl, rfl⟩

set_option maxHeartbeats 1000000 in
theorem rline_v (b : Bool) (w : World) (hr : Rd w A len 3 (l.flatMap gE)) (hl : l.length = len) (hle : len ≤ 9223372036854775807) (hb : Rt.line l = b) : Sp Try.prog 14 [.slice A len cap] w [] fun v N => v = .bool b ∧ N = [] := by
  subst hb
  refine Sp.enter (n := Try.f14.ntmps) Try.func14 rfl rfl rfl (Hp.refl w) ?_
  repeat' (first
          | with_reducible refine T.seq ?_
          | with_reducible refine T.block ?_
          | with_reducible refine T.region ?_
          | with_reducible refine T.skip ?_
          | with_reducible refine T.ret ?_
          | with_reducible refine T.exit ?_
          | with_reducible refine seqQ_n ?_
          | with_reducible refine seqQ_x ?_
          | with_reducible refine seqQ_r ?_
          | with_reducible refine blockQ_n ?_
          | with_reducible refine blockQ_r ?_
          | with_reducible refine blockQ_x ?_
          | ((with_reducible refine g_blkx ?_); refine blockQ_y rfl ?_)
          | with_reducible refine loopQ_x ?_
          | with_reducible refine loopQ_r ?_
          | with_reducible refine joinQ_r ?_
          | with_reducible refine joinQ_x ?_
          | ((with_reducible refine g_cond ?_); (first | refine T.cond_t rfl ?_ | refine T.cond_f rfl ?_ | (refine T.cond_s rfl ?_ ?_ <;> intro hc)))
          | with_reducible refine TL_nil ?_
          | with_reducible refine TS_nil ?_
          | ((with_reducible refine g_draw ?_); (first | (((with_reducible refine' T.drawM (id := 3) [(0, true), (1, true), (2, true), (3, true), (4, true), (5, true), (6, true), (7, true), (8, false), (9, false)] mixd ?q1 ?_); (case q1 => kernel_rfl)))))
          | ((with_reducible refine TL_y' ?hy ?hd ?_); (case hy => rfl); (case hd => rfl))
          | with_reducible refine TL_e ?_
          | ((with_reducible refine g_TL ?_); (first | refine TL_gy' rfl rfl rfl rfl ?_ | refine TL_gn rfl rfl rfl ?_ | refine TL_gu rfl rfl rfl ?_ | refine TL_ge rfl rfl ?_ | refine TL_gn0 rfl rfl ?_))
          | ((with_reducible refine g_TS ?_); (first | refine TS_y rfl rfl ?_ | refine TS_e rfl ?_ | refine TS_gy rfl rfl rfl rfl ?_ | refine TS_gn rfl rfl rfl rfl ?_ | refine TS_gu rfl rfl rfl rfl ?_ | refine TS_ge rfl rfl rfl ?_ | refine TS_gne rfl rfl rfl rfl ?_ | refine TS_gue rfl rfl rfl rfl ?_ | refine TS_gne0 rfl rfl rfl ?_))
          | ((with_reducible refine TSand ?hd ?_); (case hd => (repeat (first | exact List.nil_sublist _ | refine List.Sublist.cons_cons _ ?_ | refine List.Sublist.cons _ ?_))))
          | ((with_reducible refine TBand ?hd ?_); (case hd => (repeat (first | exact List.nil_sublist _ | refine List.Sublist.cons_cons _ ?_ | refine List.Sublist.cons _ ?_))))
          | ((with_reducible refine g_TB ?_); (first | with_reducible refine TB_run ?_ | refine TB_y rfl rfl ?_ | refine TB_b rfl rfl ?_ ?_ | refine TB_e rfl ?_))
          | ((with_reducible refine is_move ?_); refine ⟨_, Yl_move rfl, ?_⟩)
          | ((with_reducible refine is_assign ?_); refine ⟨_, Yl_assign rfl, ?_⟩)
          | ((with_reducible refine is_pick ?_); (first | refine ⟨_, Yl_pick_t rfl rfl, ?_⟩ | refine ⟨_, Yl_pick_f rfl rfl, ?_⟩))
          | ((with_reducible refine is_nil ?_); refine ⟨_, Yl_nilCheck rfl, ?_⟩)
          | ((with_reducible refine is_fld ?_); (first | ((refine' ⟨_, Yl_fld_ad rfl ?q1, ?_⟩); (case q1 => exact fld_of rfl rfl)) | ((refine' ⟨_, Yl_fld_blk0 rfl ?q1, ?_⟩); (case q1 => exact fld_of rfl rfl)) | ((refine' ⟨_, Yl_fld_blk rfl ?q1, ?_⟩); (case q1 => exact fld_of rfl rfl))))
          | ((with_reducible refine is_load ?_)
             (first
             | fail
             | ((refine' ⟨_, Yl_load_blk rfl ?q1 ?q2 ?q3, ?_⟩); (case q1 => exact one_of rfl); (case q2 => (repeat (first | exact .head _ | apply List.Mem.tail))); (case q3 => rfl))
             | ((refine' ⟨_, Yl_loadA_blk rfl ?q1 ?q2, ?_⟩); (case q1 => (repeat (first | exact .head _ | apply List.Mem.tail))); (case q2 => exact agg_of rfl))
             | ((refine' ⟨_, Yl_load_blk rfl ?q1 ?q2 ?q3, ?_⟩); (case q1 => exact one_of rfl); (case q2 => (repeat (first | exact .head _ | apply List.Mem.tail))); (case q3 => assumption))
             | ((refine' ⟨_, Yl_load_rd rfl ?q1 ?q2 List.not_mem_nil ?q3, ?_⟩); (case q1 => exact one_of rfl); (case q2 => assumption); (case q3 => assumption))
             | ((refine' ⟨_, Yl_load_row rfl ?q1 ?q2 ?q3, ?_⟩); (case q1 => exact one_of rfl); (case q2 => (repeat (first | exact .head _ | apply List.Mem.tail))); (case q3 => assumption))
             | ((refine' ⟨_, Yl_loadA_rd rfl ?qa ?qb List.not_mem_nil ?ql ?qc, ?_⟩); (case qa => exact agg_of rfl); (case qb => assumption); (case qc => assumption); (case ql => rfl))
             | ((refine' ⟨_, Yl_loadA_row rfl ?qa ?qb ?ql ?qc, ?_⟩); (case qa => exact agg_of rfl); (case qb => (repeat (first | exact .head _ | apply List.Mem.tail))); (case qc => assumption); (case ql => rfl))))
          | ((with_reducible refine is_idx ?_)
             (first
             | fail
             | ((refine' ⟨_, Yl_index rfl rfl ?q1 ?q2 ?q3 (Rd.some_ ?q4 ?q5), ?_⟩); (case q1 => exact und_of rfl); (case q2 => exact siz_of rfl); (case q3 => omega); (case q4 => assumption); (case q5 => omega))
             | ((refine' ⟨_, Yl_index_row rfl rfl ?q1 ?q2 ?q3 ?q4, ?_⟩); (case q1 => exact und_of rfl); (case q2 => exact siz_of rfl); (case q3 => omega); (case q4 => (repeat (first | exact .head _ | apply List.Mem.tail))))
             | ((refine' ⟨_, Yl_index rfl rfl ?q1 ?q2 ?q3 rfl, ?_⟩); (case q1 => exact und_of rfl); (case q2 => exact siz_of rfl); (case q3 => omega))
             | ((refine' ⟨_, Yl_index (j := 0) rfl rfl ?q1 ?q2 ?q3 (Rd.some_ ?q4 ?q5), ?_⟩); (case q1 => exact und_of rfl); (case q2 => exact siz_of rfl); (case q3 => omega); (case q4 => assumption); (case q5 => omega))
             | ((refine' ⟨_, Yl_index_row (j := 0) rfl rfl ?q1 ?q2 ?q3 ?q4, ?_⟩); (case q1 => exact und_of rfl); (case q2 => exact siz_of rfl); (case q3 => omega); (case q4 => (repeat (first | exact .head _ | apply List.Mem.tail))))))
          | ((with_reducible refine is_ext ?_); refine ⟨_, Yl_extract rfl rfl, ?_⟩)
          | ((with_reducible refine is_un ?_); refine ⟨_, Yl_not rfl, ?_⟩)
          | ((with_reducible refine is_len ?_); (first | ((refine' ⟨_, Yl_len_slice rfl ?q1, ?_⟩); (case q1 => exact und_of rfl)) | ((refine' ⟨_, Yl_len_string rfl ?q1, ?_⟩); (case q1 => exact und_of rfl))))
          | ((with_reducible refine is_b_lss ?_); (first | ((refine' ⟨_, Yl_lss_t rfl rfl ?q1, ?_⟩); (case q1 => omega)) | ((refine' ⟨_, Yl_lss_f rfl rfl ?q1, ?_⟩); (case q1 => omega)) | (refine sp_lss rfl rfl ?_ ?_ <;> intro hc)))
          | ((with_reducible refine is_b_leq ?_); (first | ((refine' ⟨_, Yl_leq_t rfl rfl ?q1, ?_⟩); (case q1 => omega)) | ((refine' ⟨_, Yl_leq_f rfl rfl ?q1, ?_⟩); (case q1 => omega)) | (refine sp_leq rfl rfl ?_ ?_ <;> intro hc)))
          | ((with_reducible refine is_b_gtr ?_); (first | ((refine' ⟨_, Yl_gtr_t rfl rfl ?q1, ?_⟩); (case q1 => omega)) | ((refine' ⟨_, Yl_gtr_f rfl rfl ?q1, ?_⟩); (case q1 => omega)) | (refine sp_gtr rfl rfl ?_ ?_ <;> intro hc)))
          | ((with_reducible refine is_b_geq ?_); (first | ((refine' ⟨_, Yl_geq_t rfl rfl ?q1, ?_⟩); (case q1 => omega)) | ((refine' ⟨_, Yl_geq_f rfl rfl ?q1, ?_⟩); (case q1 => omega)) | (refine sp_geq rfl rfl ?_ ?_ <;> intro hc)))
          | ((with_reducible refine is_b_eql ?_)
             (first
             | ((refine' ⟨_, Yl_eql_t rfl rfl ?q1, ?_⟩); (case q1 => omega))
             | ((refine' ⟨_, Yl_eql_f rfl rfl ?q1, ?_⟩); (case q1 => omega))
             | (refine sp_eql rfl rfl ?_ ?_ <;> intro hc)
             | ((refine' ⟨_, Yl_remk (m := 2) rfl rfl ?q1 ?q2, ?_⟩); (case q1 => omega); (case q2 => omega))
             | ((refine' ⟨_, Yl_quo8 (m := 2) rfl rfl ?q1 ?q2 ?q3, ?_⟩); (case q1 => omega); (case q2 => omega); (case q3 => omega))
             | ((refine' ⟨_, Yl_quo8 (m := 4) rfl rfl ?q1 ?q2 ?q3, ?_⟩); (case q1 => omega); (case q2 => omega); (case q3 => omega))
             | ((refine' ⟨_, Yl_quo8 (m := 8) rfl rfl ?q1 ?q2 ?q3, ?_⟩); (case q1 => omega); (case q2 => omega); (case q3 => omega))
             | ((refine' ⟨_, Yl_addS rfl rfl ?q1, ?_⟩); (case q1 => decide))
             | refine ⟨_, Yl_eql_str rfl rfl, ?_⟩
             | ((refine' ⟨_, Yl_and8 rfl rfl ?q1 ?q2 ?q3 ?q4, ?_⟩); (case q1 => omega); (case q2 => omega); (case q3 => omega); (case q4 => omega))
             | ((refine' ⟨_, Yl_eql_bool rfl rfl ?q1, ?_⟩); (case q1 => exact und_of rfl))
             | ((refine' ⟨_, Yl_eql_strT rfl rfl ?q1, ?_⟩); (case q1 => first | assumption | rfl))
             | ((refine' ⟨_, Yl_eql_strF rfl rfl ?q1, ?_⟩); (case q1 => first | assumption | decide))
             | (refine sp_eqlS rfl rfl ?_ ?_ <;> intro hc)))
          | ((with_reducible refine is_b_neq ?_)
             (first
             | ((refine' ⟨_, Yl_neq_t rfl rfl ?q1, ?_⟩); (case q1 => omega))
             | ((refine' ⟨_, Yl_neq_f rfl rfl ?q1, ?_⟩); (case q1 => omega))
             | (refine sp_neq rfl rfl ?_ ?_ <;> intro hc)
             | ((refine' ⟨_, Yl_remk (m := 2) rfl rfl ?q1 ?q2, ?_⟩); (case q1 => omega); (case q2 => omega))
             | ((refine' ⟨_, Yl_quo8 (m := 2) rfl rfl ?q1 ?q2 ?q3, ?_⟩); (case q1 => omega); (case q2 => omega); (case q3 => omega))
             | ((refine' ⟨_, Yl_quo8 (m := 4) rfl rfl ?q1 ?q2 ?q3, ?_⟩); (case q1 => omega); (case q2 => omega); (case q3 => omega))
             | ((refine' ⟨_, Yl_quo8 (m := 8) rfl rfl ?q1 ?q2 ?q3, ?_⟩); (case q1 => omega); (case q2 => omega); (case q3 => omega))
             | ((refine' ⟨_, Yl_addS rfl rfl ?q1, ?_⟩); (case q1 => decide))
             | refine ⟨_, Yl_eql_str rfl rfl, ?_⟩
             | ((refine' ⟨_, Yl_and8 rfl rfl ?q1 ?q2 ?q3 ?q4, ?_⟩); (case q1 => omega); (case q2 => omega); (case q3 => omega); (case q4 => omega))
             | ((refine' ⟨_, Yl_neq_bool rfl rfl ?q1, ?_⟩); (case q1 => exact und_of rfl))
             | ((refine' ⟨_, Yl_neq_strT rfl rfl ?q1, ?_⟩); (case q1 => first | assumption | decide))
             | ((refine' ⟨_, Yl_neq_strF rfl rfl ?q1, ?_⟩); (case q1 => first | assumption | rfl))
             | (refine sp_neqS rfl rfl ?_ ?_ <;> intro hc)))
          | ((with_reducible refine is_b_add ?_)
             (first
             | ((refine' ⟨_, Yl_add rfl rfl ?q1 ?q2, ?_⟩); (case q1 => omega); (case q2 => omega))
             | ((refine' ⟨_, Yl_add8 rfl rfl ?q1 ?q2, ?_⟩); (case q1 => omega); (case q2 => omega))
             | ((refine' ⟨_, Yl_remk (m := 2) rfl rfl ?q1 ?q2, ?_⟩); (case q1 => omega); (case q2 => omega))
             | ((refine' ⟨_, Yl_quo8 (m := 2) rfl rfl ?q1 ?q2 ?q3, ?_⟩); (case q1 => omega); (case q2 => omega); (case q3 => omega))
             | ((refine' ⟨_, Yl_quo8 (m := 4) rfl rfl ?q1 ?q2 ?q3, ?_⟩); (case q1 => omega); (case q2 => omega); (case q3 => omega))
             | ((refine' ⟨_, Yl_quo8 (m := 8) rfl rfl ?q1 ?q2 ?q3, ?_⟩); (case q1 => omega); (case q2 => omega); (case q3 => omega))
             | ((refine' ⟨_, Yl_addS rfl rfl ?q1, ?_⟩); (case q1 => decide))
             | refine ⟨_, Yl_eql_str rfl rfl, ?_⟩
             | ((refine' ⟨_, Yl_and8 rfl rfl ?q1 ?q2 ?q3 ?q4, ?_⟩); (case q1 => omega); (case q2 => omega); (case q3 => omega); (case q4 => omega))))
          | ((with_reducible refine is_min ?_); refine ⟨_, Yl_min rfl rfl, ?_⟩)
          | ((with_reducible refine is_max ?_); refine ⟨_, Yl_max rfl rfl, ?_⟩)
          | ((with_reducible refine is_b_sub ?_)
             (first
             | ((refine' ⟨_, Yl_sub rfl rfl ?q1 ?q2, ?_⟩); (case q1 => omega); (case q2 => omega))
             | ((refine' ⟨_, Yl_remk (m := 2) rfl rfl ?q1 ?q2, ?_⟩); (case q1 => omega); (case q2 => omega))
             | ((refine' ⟨_, Yl_quo8 (m := 2) rfl rfl ?q1 ?q2 ?q3, ?_⟩); (case q1 => omega); (case q2 => omega); (case q3 => omega))
             | ((refine' ⟨_, Yl_quo8 (m := 4) rfl rfl ?q1 ?q2 ?q3, ?_⟩); (case q1 => omega); (case q2 => omega); (case q3 => omega))
             | ((refine' ⟨_, Yl_quo8 (m := 8) rfl rfl ?q1 ?q2 ?q3, ?_⟩); (case q1 => omega); (case q2 => omega); (case q3 => omega))
             | ((refine' ⟨_, Yl_addS rfl rfl ?q1, ?_⟩); (case q1 => decide))
             | refine ⟨_, Yl_eql_str rfl rfl, ?_⟩
             | ((refine' ⟨_, Yl_and8 rfl rfl ?q1 ?q2 ?q3 ?q4, ?_⟩); (case q1 => omega); (case q2 => omega); (case q3 => omega); (case q4 => omega))))
          | ((with_reducible refine is_build ?_); (first | fail))
          | (first
            | ((refine' ⟨_, Yl_remk (m := 2) rfl rfl ?q1 ?q2, ?_⟩); (case q1 => omega); (case q2 => omega))
            | ((refine' ⟨_, Yl_quo8 (m := 2) rfl rfl ?q1 ?q2 ?q3, ?_⟩); (case q1 => omega); (case q2 => omega); (case q3 => omega))
            | ((refine' ⟨_, Yl_quo8 (m := 4) rfl rfl ?q1 ?q2 ?q3, ?_⟩); (case q1 => omega); (case q2 => omega); (case q3 => omega))
            | ((refine' ⟨_, Yl_quo8 (m := 8) rfl rfl ?q1 ?q2 ?q3, ?_⟩); (case q1 => omega); (case q2 => omega); (case q3 => omega))
            | ((refine' ⟨_, Yl_addS rfl rfl ?q1, ?_⟩); (case q1 => decide))
            | refine ⟨_, Yl_eql_str rfl rfl, ?_⟩
            | ((refine' ⟨_, Yl_and8 rfl rfl ?q1 ?q2 ?q3 ?q4, ?_⟩); (case q1 => omega); (case q2 => omega); (case q3 => omega); (case q4 => omega)))
          | ((with_reducible refine ie_box ?_)
             (first
             | (refine Ef_boxA rfl rfl ?_; (first | ((fail_if_success have := b1); intro b1) | ((fail_if_success have := b2); intro b2) | ((fail_if_success have := b3); intro b3) | ((fail_if_success have := b4); intro b4) | ((fail_if_success have := b5); intro b5) | ((fail_if_success have := b6); intro b6) | ((fail_if_success have := b7); intro b7) | ((fail_if_success have := b8); intro b8) | ((fail_if_success have := b9); intro b9)))
             | (refine Ef_box1 rfl rfl rfl ?_; (first | ((fail_if_success have := b1); intro b1) | ((fail_if_success have := b2); intro b2) | ((fail_if_success have := b3); intro b3) | ((fail_if_success have := b4); intro b4) | ((fail_if_success have := b5); intro b5) | ((fail_if_success have := b6); intro b6) | ((fail_if_success have := b7); intro b7) | ((fail_if_success have := b8); intro b8) | ((fail_if_success have := b9); intro b9)))))
          | ((with_reducible refine ie_alloc ?_); (first | fail | (((refine' Ef_alloc rfl ?q1 ?_); (case q1 => exact zer_of rfl)); (first | ((fail_if_success have := b1); intro b1) | ((fail_if_success have := b2); intro b2) | ((fail_if_success have := b3); intro b3) | ((fail_if_success have := b4); intro b4) | ((fail_if_success have := b5); intro b5) | ((fail_if_success have := b6); intro b6) | ((fail_if_success have := b7); intro b7) | ((fail_if_success have := b8); intro b8) | ((fail_if_success have := b9); intro b9)))))
          | ((with_reducible refine ie_store ?_)
             (first
             | fail
             | ((refine' Ef_store_rowA rfl rfl ?q1 ?q2 ?q3 ?q4 ?q5 ?q6 ?_); (case q1 => exact siz_of rfl); (case q2 => rfl); (case q3 => (first | assumption | (intro u hu; rcases hu with _ | ⟨_, _ | ⟨_, _ | ⟨_, _ | ⟨_, hu⟩⟩⟩⟩ <;> first | rfl | (cases hu; done)))); (case q4 => (first | exact at0 | exact at1 | exact at2 | exact at3 | exact at4 | exact at5 | exact at6)); (case q5 => omega); (case q6 => assumption))
             | ((refine' Ef_storeA' rfl rfl ?q1 ?q2 ?q3 ?q4 ?_); (case q1 => exact siz_of rfl); (case q2 => (first | assumption | (intro u hu; rcases hu with _ | ⟨_, _ | ⟨_, _ | ⟨_, _ | ⟨_, hu⟩⟩⟩⟩ <;> first | rfl | (cases hu; done)))); (case q3 => (first | exact at0 | exact at1 | exact at2 | exact at3 | exact at4 | exact at5 | exact at6)); (case q4 => rfl))
             | ((refine' Ef_storeC rfl rfl ?q1 ?q2 ?q3 ?q4 ?q5 ?_); (case q1 => rfl); (case q2 => exact siz_of rfl); (case q3 => (first | exact at0 | exact at1 | exact at2 | exact at3 | exact at4 | exact at5 | exact at6)); (case q4 => exact Nat.le_of_ble_eq_true rfl); (case q5 => rfl))))
          | ((with_reducible refine ie_callf ?_)
             (first
             | ((with_reducible refine g_call 18 ?_); (first | refine Ef_callP rfl rfl ent_18 (fun w _ => may_v x true w hmx) ?_ | refine Ef_callP rfl rfl ent_18 (fun w _ => may_v x false w hmx) ?_))
             | ((with_reducible refine g_call 21 ?_); (first | refine Ef_callP rfl rfl ent_21 (fun w _ => rmay_v x true w hmx) ?_ | refine Ef_callP rfl rfl ent_21 (fun w _ => rmay_v x false w hmx) ?_))
             | ((with_reducible refine g_call 17 ?_); (first | refine Ef_callP rfl rfl ent_17 (fun w hp => line_v A len cap l true w (hp.rd hr fun _ => List.not_mem_nil) hl hb) ?_ | refine Ef_callP rfl rfl ent_17 (fun w hp => line_v A len cap l false w (hp.rd hr fun _ => List.not_mem_nil) hl hb) ?_))))
          | ((with_reducible refine ie_app ?_)
             (first
             | fail
             | (((refine' Ef_app0_rd rfl rfl rfl ?q1 ?q2 ?q3 ?q4 ?q5 ?q6 ?q7 ?_); (case q1 => exact app_of rfl); (case q2 => (first | exact at0 | exact at1 | exact at2 | exact at3 | exact at4 | exact at5 | exact at6)); (case q3 => assumption); (case q4 => (first | assumption | (intro u hu; rcases hu with _ | ⟨_, _ | ⟨_, _ | ⟨_, _ | ⟨_, hu⟩⟩⟩⟩ <;> first | rfl | (cases hu; done)))); (case q5 => omega); (case q6 => omega); (case q7 => exact List.not_mem_nil))
                (first | ((fail_if_success have := A1); intro A1 c1) | ((fail_if_success have := A2); intro A2 c2) | ((fail_if_success have := A3); intro A3 c3) | ((fail_if_success have := A4); intro A4 c4) | ((fail_if_success have := A5); intro A5 c5) | ((fail_if_success have := A6); intro A6 c6) | ((fail_if_success have := A7); intro A7 c7)))
             | (((refine' Ef_appG_row rfl rfl rfl ?q1 ?q2 ?q3 ?q4 ?q5 ?q6 ?_); (case q1 => exact app_of rfl); (case q2 => (first | exact at0 | exact at1 | exact at2 | exact at3 | exact at4 | exact at5 | exact at6)); (case q3 => (repeat (first | exact .head _ | apply List.Mem.tail))); (case q4 => (first | assumption | (intro u hu; rcases hu with _ | ⟨_, _ | ⟨_, _ | ⟨_, _ | ⟨_, hu⟩⟩⟩⟩ <;> first | rfl | (cases hu; done)))); (case q5 => omega); (case q6 => omega))
                (first | ((fail_if_success have := A1); intro A1 c1) | ((fail_if_success have := A2); intro A2 c2) | ((fail_if_success have := A3); intro A3 c3) | ((fail_if_success have := A4); intro A4 c4) | ((fail_if_success have := A5); intro A5 c5) | ((fail_if_success have := A6); intro A6 c6) | ((fail_if_success have := A7); intro A7 c7)))
             | (((refine' Ef_appG_rd rfl rfl rfl ?q1 ?q2 ?q3 ?q4 ?q5 ?q6 ?q7 ?_); (case q1 => exact app_of rfl); (case q2 => (first | exact at0 | exact at1 | exact at2 | exact at3 | exact at4 | exact at5 | exact at6)); (case q3 => assumption); (case q4 => (first | assumption | (intro u hu; rcases hu with _ | ⟨_, _ | ⟨_, _ | ⟨_, _ | ⟨_, hu⟩⟩⟩⟩ <;> first | rfl | (cases hu; done)))); (case q5 => omega); (case q6 => omega); (case q7 => exact List.not_mem_nil))
                (first | ((fail_if_success have := A1); intro A1 c1) | ((fail_if_success have := A2); intro A2 c2) | ((fail_if_success have := A3); intro A3 c3) | ((fail_if_success have := A4); intro A4 c4) | ((fail_if_success have := A5); intro A5 c5) | ((fail_if_success have := A6); intro A6 c6) | ((fail_if_success have := A7); intro A7 c7)))))
          | ((with_reducible refine ie_bsl ?_)
             (first
             | fail
             | (((refine' Ef_bsl0 rfl ?q1 ?_); (case q1 => exact app_of rfl)); (first | ((fail_if_success have := b1); intro b1) | ((fail_if_success have := b2); intro b2) | ((fail_if_success have := b3); intro b3) | ((fail_if_success have := b4); intro b4) | ((fail_if_success have := b5); intro b5) | ((fail_if_success have := b6); intro b6) | ((fail_if_success have := b7); intro b7) | ((fail_if_success have := b8); intro b8) | ((fail_if_success have := b9); intro b9)))
             | (((refine' Ef_bslA rfl rfl ?q1 ?q2 ?q3 ?_); (case q1 => exact app_of rfl); (case q2 => rfl); (case q3 => decide)); (first | ((fail_if_success have := b1); intro b1) | ((fail_if_success have := b2); intro b2) | ((fail_if_success have := b3); intro b3) | ((fail_if_success have := b4); intro b4) | ((fail_if_success have := b5); intro b5) | ((fail_if_success have := b6); intro b6) | ((fail_if_success have := b7); intro b7) | ((fail_if_success have := b8); intro b8) | ((fail_if_success have := b9); intro b9)))
             | (((refine' Ef_bsl1 rfl rfl rfl ?q1 ?_); (case q1 => exact app_of rfl)); (first | ((fail_if_success have := b1); intro b1) | ((fail_if_success have := b2); intro b2) | ((fail_if_success have := b3); intro b3) | ((fail_if_success have := b4); intro b4) | ((fail_if_success have := b5); intro b5) | ((fail_if_success have := b6); intro b6) | ((fail_if_success have := b7); intro b7) | ((fail_if_success have := b8); intro b8) | ((fail_if_success have := b9); intro b9)))))
          | (first | fail)
          | refine Ef_y rfl rfl ?_
          | ((with_reducible refine ie_conv ?_); refine Ef_y' rfl ?_)
          | ((with_reducible refine ie_bmin ?_); refine Ef_y' rfl ?_)
          | ((with_reducible refine ie_bmax ?_); refine Ef_y' rfl ?_))
  refine T.loop (α := Nat) (fun i => [(0, .slice A len cap), (3, .int .i64 (i : Int))]) (fun _ => []) (fun i => i ≤ len ∧ i ≤ 4 ∧ ∀ g ∈ l.take i, Rt.may g = true) (fun i => len - i) 0 ?_ ?_ ?_ ?_
  · (repeat (first | exact Sub.nil | refine Sub.cons rfl ?_))
  · (repeat (first | exact List.nil_sublist _ | refine List.Sublist.cons_cons _ ?_ | refine List.Sublist.cons _ ?_))
  · exact ⟨Nat.zero_le _, Nat.zero_le _, by simp⟩
  · rintro i ⟨hi, h4, hm⟩
    by_cases hlt : i < len
    · obtain ⟨x, hx⟩ := some_of_lt (l := l) (i := i) (by omega)
      have eA := enc_atA gE_len hx
      have oE := gE_one x
      by_cases hi4 : 3 < i
      · rw [Rt.line_no (.inr (.inl (by omega)))]
        repeat' (first
                | with_reducible refine T.seq ?_
                | with_reducible refine T.block ?_
                | with_reducible refine T.region ?_
                | with_reducible refine T.skip ?_
                | with_reducible refine T.ret ?_
                | with_reducible refine T.exit ?_
                | with_reducible refine seqQ_n ?_
                | with_reducible refine seqQ_x ?_
                | with_reducible refine seqQ_r ?_
                | with_reducible refine blockQ_n ?_
                | with_reducible refine blockQ_r ?_
                | with_reducible refine blockQ_x ?_
                | ((with_reducible refine g_blkx ?_); refine blockQ_y rfl ?_)
                | with_reducible refine loopQ_x ?_
                | with_reducible refine loopQ_r ?_
                | with_reducible refine joinQ_r ?_
                | with_reducible refine joinQ_x ?_
                | ((with_reducible refine g_cond ?_); (first | refine T.cond_t rfl ?_ | refine T.cond_f rfl ?_ | (refine T.cond_s rfl ?_ ?_ <;> intro hc)))
                | with_reducible refine TL_nil ?_
                | with_reducible refine TS_nil ?_
                | ((with_reducible refine g_draw ?_); (first | (((with_reducible refine' T.drawM (id := 3) [(0, true), (1, true), (2, true), (3, true), (4, true), (5, true), (6, true), (7, true), (8, false), (9, false)] mixd ?q1 ?_); (case q1 => kernel_rfl)))))
                | ((with_reducible refine TL_y' ?hy ?hd ?_); (case hy => rfl); (case hd => rfl))
                | with_reducible refine TL_e ?_
                | ((with_reducible refine g_TL ?_); (first | refine TL_gy' rfl rfl rfl rfl ?_ | refine TL_gn rfl rfl rfl ?_ | refine TL_gu rfl rfl rfl ?_ | refine TL_ge rfl rfl ?_ | refine TL_gn0 rfl rfl ?_))
                | ((with_reducible refine g_TS ?_); (first | refine TS_y rfl rfl ?_ | refine TS_e rfl ?_ | refine TS_gy rfl rfl rfl rfl ?_ | refine TS_gn rfl rfl rfl rfl ?_ | refine TS_gu rfl rfl rfl rfl ?_ | refine TS_ge rfl rfl rfl ?_ | refine TS_gne rfl rfl rfl rfl ?_ | refine TS_gue rfl rfl rfl rfl ?_ | refine TS_gne0 rfl rfl rfl ?_))
                | ((with_reducible refine TSand ?hd ?_); (case hd => (repeat (first | exact List.nil_sublist _ | refine List.Sublist.cons_cons _ ?_ | refine List.Sublist.cons _ ?_))))
                | ((with_reducible refine TBand ?hd ?_); (case hd => (repeat (first | exact List.nil_sublist _ | refine List.Sublist.cons_cons _ ?_ | refine List.Sublist.cons _ ?_))))
                | ((with_reducible refine g_TB ?_); (first | with_reducible refine TB_run ?_ | refine TB_y rfl rfl ?_ | refine TB_b rfl rfl ?_ ?_ | refine TB_e rfl ?_))
                | ((with_reducible refine is_move ?_); refine ⟨_, Yl_move rfl, ?_⟩)
                | ((with_reducible refine is_assign ?_); refine ⟨_, Yl_assign rfl, ?_⟩)
                | ((with_reducible refine is_pick ?_); (first | refine ⟨_, Yl_pick_t rfl rfl, ?_⟩ | refine ⟨_, Yl_pick_f rfl rfl, ?_⟩))
                | ((with_reducible refine is_nil ?_); refine ⟨_, Yl_nilCheck rfl, ?_⟩)
                | ((with_reducible refine is_fld ?_); (first | ((refine' ⟨_, Yl_fld_ad rfl ?q1, ?_⟩); (case q1 => exact fld_of rfl rfl)) | ((refine' ⟨_, Yl_fld_blk0 rfl ?q1, ?_⟩); (case q1 => exact fld_of rfl rfl)) | ((refine' ⟨_, Yl_fld_blk rfl ?q1, ?_⟩); (case q1 => exact fld_of rfl rfl))))
                | ((with_reducible refine is_load ?_)
                   (first
                   | fail
                   | ((refine' ⟨_, Yl_load_blk rfl ?q1 ?q2 ?q3, ?_⟩); (case q1 => exact one_of rfl); (case q2 => (repeat (first | exact .head _ | apply List.Mem.tail))); (case q3 => rfl))
                   | ((refine' ⟨_, Yl_loadA_blk rfl ?q1 ?q2, ?_⟩); (case q1 => (repeat (first | exact .head _ | apply List.Mem.tail))); (case q2 => exact agg_of rfl))
                   | ((refine' ⟨_, Yl_load_blk rfl ?q1 ?q2 ?q3, ?_⟩); (case q1 => exact one_of rfl); (case q2 => (repeat (first | exact .head _ | apply List.Mem.tail))); (case q3 => assumption))
                   | ((refine' ⟨_, Yl_load_rd rfl ?q1 ?q2 List.not_mem_nil ?q3, ?_⟩); (case q1 => exact one_of rfl); (case q2 => assumption); (case q3 => assumption))
                   | ((refine' ⟨_, Yl_load_row rfl ?q1 ?q2 ?q3, ?_⟩); (case q1 => exact one_of rfl); (case q2 => (repeat (first | exact .head _ | apply List.Mem.tail))); (case q3 => assumption))
                   | ((refine' ⟨_, Yl_loadA_rd rfl ?qa ?qb List.not_mem_nil ?ql ?qc, ?_⟩); (case qa => exact agg_of rfl); (case qb => assumption); (case qc => assumption); (case ql => rfl))
                   | ((refine' ⟨_, Yl_loadA_row rfl ?qa ?qb ?ql ?qc, ?_⟩); (case qa => exact agg_of rfl); (case qb => (repeat (first | exact .head _ | apply List.Mem.tail))); (case qc => assumption); (case ql => rfl))))
                | ((with_reducible refine is_idx ?_)
                   (first
                   | fail
                   | ((refine' ⟨_, Yl_index rfl rfl ?q1 ?q2 ?q3 (Rd.some_ ?q4 ?q5), ?_⟩); (case q1 => exact und_of rfl); (case q2 => exact siz_of rfl); (case q3 => omega); (case q4 => assumption); (case q5 => omega))
                   | ((refine' ⟨_, Yl_index_row rfl rfl ?q1 ?q2 ?q3 ?q4, ?_⟩); (case q1 => exact und_of rfl); (case q2 => exact siz_of rfl); (case q3 => omega); (case q4 => (repeat (first | exact .head _ | apply List.Mem.tail))))
                   | ((refine' ⟨_, Yl_index rfl rfl ?q1 ?q2 ?q3 rfl, ?_⟩); (case q1 => exact und_of rfl); (case q2 => exact siz_of rfl); (case q3 => omega))
                   | ((refine' ⟨_, Yl_index (j := 0) rfl rfl ?q1 ?q2 ?q3 (Rd.some_ ?q4 ?q5), ?_⟩); (case q1 => exact und_of rfl); (case q2 => exact siz_of rfl); (case q3 => omega); (case q4 => assumption); (case q5 => omega))
                   | ((refine' ⟨_, Yl_index_row (j := 0) rfl rfl ?q1 ?q2 ?q3 ?q4, ?_⟩); (case q1 => exact und_of rfl); (case q2 => exact siz_of rfl); (case q3 => omega); (case q4 => (repeat (first | exact .head _ | apply List.Mem.tail))))))
                | ((with_reducible refine is_ext ?_); refine ⟨_, Yl_extract rfl rfl, ?_⟩)
                | ((with_reducible refine is_un ?_); refine ⟨_, Yl_not rfl, ?_⟩)
                | ((with_reducible refine is_len ?_); (first | ((refine' ⟨_, Yl_len_slice rfl ?q1, ?_⟩); (case q1 => exact und_of rfl)) | ((refine' ⟨_, Yl_len_string rfl ?q1, ?_⟩); (case q1 => exact und_of rfl))))
                | ((with_reducible refine is_b_lss ?_); (first | ((refine' ⟨_, Yl_lss_t rfl rfl ?q1, ?_⟩); (case q1 => omega)) | ((refine' ⟨_, Yl_lss_f rfl rfl ?q1, ?_⟩); (case q1 => omega)) | (refine sp_lss rfl rfl ?_ ?_ <;> intro hc)))
                | ((with_reducible refine is_b_leq ?_); (first | ((refine' ⟨_, Yl_leq_t rfl rfl ?q1, ?_⟩); (case q1 => omega)) | ((refine' ⟨_, Yl_leq_f rfl rfl ?q1, ?_⟩); (case q1 => omega)) | (refine sp_leq rfl rfl ?_ ?_ <;> intro hc)))
                | ((with_reducible refine is_b_gtr ?_); (first | ((refine' ⟨_, Yl_gtr_t rfl rfl ?q1, ?_⟩); (case q1 => omega)) | ((refine' ⟨_, Yl_gtr_f rfl rfl ?q1, ?_⟩); (case q1 => omega)) | (refine sp_gtr rfl rfl ?_ ?_ <;> intro hc)))
                | ((with_reducible refine is_b_geq ?_); (first | ((refine' ⟨_, Yl_geq_t rfl rfl ?q1, ?_⟩); (case q1 => omega)) | ((refine' ⟨_, Yl_geq_f rfl rfl ?q1, ?_⟩); (case q1 => omega)) | (refine sp_geq rfl rfl ?_ ?_ <;> intro hc)))
                | ((with_reducible refine is_b_eql ?_)
                   (first
                   | ((refine' ⟨_, Yl_eql_t rfl rfl ?q1, ?_⟩); (case q1 => omega))
                   | ((refine' ⟨_, Yl_eql_f rfl rfl ?q1, ?_⟩); (case q1 => omega))
                   | (refine sp_eql rfl rfl ?_ ?_ <;> intro hc)
                   | ((refine' ⟨_, Yl_remk (m := 2) rfl rfl ?q1 ?q2, ?_⟩); (case q1 => omega); (case q2 => omega))
                   | ((refine' ⟨_, Yl_quo8 (m := 2) rfl rfl ?q1 ?q2 ?q3, ?_⟩); (case q1 => omega); (case q2 => omega); (case q3 => omega))
                   | ((refine' ⟨_, Yl_quo8 (m := 4) rfl rfl ?q1 ?q2 ?q3, ?_⟩); (case q1 => omega); (case q2 => omega); (case q3 => omega))
                   | ((refine' ⟨_, Yl_quo8 (m := 8) rfl rfl ?q1 ?q2 ?q3, ?_⟩); (case q1 => omega); (case q2 => omega); (case q3 => omega))
                   | ((refine' ⟨_, Yl_addS rfl rfl ?q1, ?_⟩); (case q1 => decide))
                   | refine ⟨_, Yl_eql_str rfl rfl, ?_⟩
                   | ((refine' ⟨_, Yl_and8 rfl rfl ?q1 ?q2 ?q3 ?q4, ?_⟩); (case q1 => omega); (case q2 => omega); (case q3 => omega); (case q4 => omega))
                   | ((refine' ⟨_, Yl_eql_bool rfl rfl ?q1, ?_⟩); (case q1 => exact und_of rfl))
                   | ((refine' ⟨_, Yl_eql_strT rfl rfl ?q1, ?_⟩); (case q1 => first | assumption | rfl))
                   | ((refine' ⟨_, Yl_eql_strF rfl rfl ?q1, ?_⟩); (case q1 => first | assumption | decide))
                   | (refine sp_eqlS rfl rfl ?_ ?_ <;> intro hc)))
                | ((with_reducible refine is_b_neq ?_)
                   (first
                   | ((refine' ⟨_, Yl_neq_t rfl rfl ?q1, ?_⟩); (case q1 => omega))
                   | ((refine' ⟨_, Yl_neq_f rfl rfl ?q1, ?_⟩); (case q1 => omega))
                   | (refine sp_neq rfl rfl ?_ ?_ <;> intro hc)
                   | ((refine' ⟨_, Yl_remk (m := 2) rfl rfl ?q1 ?q2, ?_⟩); (case q1 => omega); (case q2 => omega))
                   | ((refine' ⟨_, Yl_quo8 (m := 2) rfl rfl ?q1 ?q2 ?q3, ?_⟩); (case q1 => omega); (case q2 => omega); (case q3 => omega))
                   | ((refine' ⟨_, Yl_quo8 (m := 4) rfl rfl ?q1 ?q2 ?q3, ?_⟩); (case q1 => omega); (case q2 => omega); (case q3 => omega))
                   | ((refine' ⟨_, Yl_quo8 (m := 8) rfl rfl ?q1 ?q2 ?q3, ?_⟩); (case q1 => omega); (case q2 => omega); (case q3 => omega))
                   | ((refine' ⟨_, Yl_addS rfl rfl ?q1, ?_⟩); (case q1 => decide))
                   | refine ⟨_, Yl_eql_str rfl rfl, ?_⟩
                   | ((refine' ⟨_, Yl_and8 rfl rfl ?q1 ?q2 ?q3 ?q4, ?_⟩); (case q1 => omega); (case q2 => omega); (case q3 => omega); (case q4 => omega))
                   | ((refine' ⟨_, Yl_neq_bool rfl rfl ?q1, ?_⟩); (case q1 => exact und_of rfl))
                   | ((refine' ⟨_, Yl_neq_strT rfl rfl ?q1, ?_⟩); (case q1 => first | assumption | decide))
                   | ((refine' ⟨_, Yl_neq_strF rfl rfl ?q1, ?_⟩); (case q1 => first | assumption | rfl))
                   | (refine sp_neqS rfl rfl ?_ ?_ <;> intro hc)))
                | ((with_reducible refine is_b_add ?_)
                   (first
                   | ((refine' ⟨_, Yl_add rfl rfl ?q1 ?q2, ?_⟩); (case q1 => omega); (case q2 => omega))
                   | ((refine' ⟨_, Yl_add8 rfl rfl ?q1 ?q2, ?_⟩); (case q1 => omega); (case q2 => omega))
                   | ((refine' ⟨_, Yl_remk (m := 2) rfl rfl ?q1 ?q2, ?_⟩); (case q1 => omega); (case q2 => omega))
                   | ((refine' ⟨_, Yl_quo8 (m := 2) rfl rfl ?q1 ?q2 ?q3, ?_⟩); (case q1 => omega); (case q2 => omega); (case q3 => omega))
                   | ((refine' ⟨_, Yl_quo8 (m := 4) rfl rfl ?q1 ?q2 ?q3, ?_⟩); (case q1 => omega); (case q2 => omega); (case q3 => omega))
                   | ((refine' ⟨_, Yl_quo8 (m := 8) rfl rfl ?q1 ?q2 ?q3, ?_⟩); (case q1 => omega); (case q2 => omega); (case q3 => omega))
                   | ((refine' ⟨_, Yl_addS rfl rfl ?q1, ?_⟩); (case q1 => decide))
                   | refine ⟨_, Yl_eql_str rfl rfl, ?_⟩
                   | ((refine' ⟨_, Yl_and8 rfl rfl ?q1 ?q2 ?q3 ?q4, ?_⟩); (case q1 => omega); (case q2 => omega); (case q3 => omega); (case q4 => omega))))
                | ((with_reducible refine is_min ?_); refine ⟨_, Yl_min rfl rfl, ?_⟩)
                | ((with_reducible refine is_max ?_); refine ⟨_, Yl_max rfl rfl, ?_⟩)
                | ((with_reducible refine is_b_sub ?_)
                   (first
                   | ((refine' ⟨_, Yl_sub rfl rfl ?q1 ?q2, ?_⟩); (case q1 => omega); (case q2 => omega))
                   | ((refine' ⟨_, Yl_remk (m := 2) rfl rfl ?q1 ?q2, ?_⟩); (case q1 => omega); (case q2 => omega))
                   | ((refine' ⟨_, Yl_quo8 (m := 2) rfl rfl ?q1 ?q2 ?q3, ?_⟩); (case q1 => omega); (case q2 => omega); (case q3 => omega))
                   | ((refine' ⟨_, Yl_quo8 (m := 4) rfl rfl ?q1 ?q2 ?q3, ?_⟩); (case q1 => omega); (case q2 => omega); (case q3 => omega))
                   | ((refine' ⟨_, Yl_quo8 (m := 8) rfl rfl ?q1 ?q2 ?q3, ?_⟩); (case q1 => omega); (case q2 => omega); (case q3 => omega))
                   | ((refine' ⟨_, Yl_addS rfl rfl ?q1, ?_⟩); (case q1 => decide))
                   | refine ⟨_, Yl_eql_str rfl rfl, ?_⟩
                   | ((refine' ⟨_, Yl_and8 rfl rfl ?q1 ?q2 ?q3 ?q4, ?_⟩); (case q1 => omega); (case q2 => omega); (case q3 => omega); (case q4 => omega))))
                | ((with_reducible refine is_build ?_); (first | fail))
                | (first
                  | ((refine' ⟨_, Yl_remk (m := 2) rfl rfl ?q1 ?q2, ?_⟩); (case q1 => omega); (case q2 => omega))
                  | ((refine' ⟨_, Yl_quo8 (m := 2) rfl rfl ?q1 ?q2 ?q3, ?_⟩); (case q1 => omega); (case q2 => omega); (case q3 => omega))
                  | ((refine' ⟨_, Yl_quo8 (m := 4) rfl rfl ?q1 ?q2 ?q3, ?_⟩); (case q1 => omega); (case q2 => omega); (case q3 => omega))
                  | ((refine' ⟨_, Yl_quo8 (m := 8) rfl rfl ?q1 ?q2 ?q3, ?_⟩); (case q1 => omega); (case q2 => omega); (case q3 => omega))
                  | ((refine' ⟨_, Yl_addS rfl rfl ?q1, ?_⟩); (case q1 => decide))
                  | refine ⟨_, Yl_eql_str rfl rfl, ?_⟩
                  | ((refine' ⟨_, Yl_and8 rfl rfl ?q1 ?q2 ?q3 ?q4, ?_⟩); (case q1 => omega); (case q2 => omega); (case q3 => omega); (case q4 => omega)))
                | ((with_reducible refine ie_box ?_)
                   (first
                   | (refine Ef_boxA rfl rfl ?_; (first | ((fail_if_success have := b1); intro b1) | ((fail_if_success have := b2); intro b2) | ((fail_if_success have := b3); intro b3) | ((fail_if_success have := b4); intro b4) | ((fail_if_success have := b5); intro b5) | ((fail_if_success have := b6); intro b6) | ((fail_if_success have := b7); intro b7) | ((fail_if_success have := b8); intro b8) | ((fail_if_success have := b9); intro b9)))
                   | (refine Ef_box1 rfl rfl rfl ?_; (first | ((fail_if_success have := b1); intro b1) | ((fail_if_success have := b2); intro b2) | ((fail_if_success have := b3); intro b3) | ((fail_if_success have := b4); intro b4) | ((fail_if_success have := b5); intro b5) | ((fail_if_success have := b6); intro b6) | ((fail_if_success have := b7); intro b7) | ((fail_if_success have := b8); intro b8) | ((fail_if_success have := b9); intro b9)))))
                | ((with_reducible refine ie_alloc ?_); (first | fail | (((refine' Ef_alloc rfl ?q1 ?_); (case q1 => exact zer_of rfl)); (first | ((fail_if_success have := b1); intro b1) | ((fail_if_success have := b2); intro b2) | ((fail_if_success have := b3); intro b3) | ((fail_if_success have := b4); intro b4) | ((fail_if_success have := b5); intro b5) | ((fail_if_success have := b6); intro b6) | ((fail_if_success have := b7); intro b7) | ((fail_if_success have := b8); intro b8) | ((fail_if_success have := b9); intro b9)))))
                | ((with_reducible refine ie_store ?_)
                   (first
                   | fail
                   | ((refine' Ef_store_rowA rfl rfl ?q1 ?q2 ?q3 ?q4 ?q5 ?q6 ?_); (case q1 => exact siz_of rfl); (case q2 => rfl); (case q3 => (first | assumption | (intro u hu; rcases hu with _ | ⟨_, _ | ⟨_, _ | ⟨_, _ | ⟨_, hu⟩⟩⟩⟩ <;> first | rfl | (cases hu; done)))); (case q4 => (first | exact at0 | exact at1 | exact at2 | exact at3 | exact at4 | exact at5 | exact at6)); (case q5 => omega); (case q6 => assumption))
                   | ((refine' Ef_storeA' rfl rfl ?q1 ?q2 ?q3 ?q4 ?_); (case q1 => exact siz_of rfl); (case q2 => (first | assumption | (intro u hu; rcases hu with _ | ⟨_, _ | ⟨_, _ | ⟨_, _ | ⟨_, hu⟩⟩⟩⟩ <;> first | rfl | (cases hu; done)))); (case q3 => (first | exact at0 | exact at1 | exact at2 | exact at3 | exact at4 | exact at5 | exact at6)); (case q4 => rfl))
                   | ((refine' Ef_storeC rfl rfl ?q1 ?q2 ?q3 ?q4 ?q5 ?_); (case q1 => rfl); (case q2 => exact siz_of rfl); (case q3 => (first | exact at0 | exact at1 | exact at2 | exact at3 | exact at4 | exact at5 | exact at6)); (case q4 => exact Nat.le_of_ble_eq_true rfl); (case q5 => rfl))))
                | ((with_reducible refine ie_callf ?_)
                   (first
                   | ((with_reducible refine g_call 18 ?_); (first | refine Ef_callP rfl rfl ent_18 (fun w _ => may_v x true w hmx) ?_ | refine Ef_callP rfl rfl ent_18 (fun w _ => may_v x false w hmx) ?_))
                   | ((with_reducible refine g_call 21 ?_); (first | refine Ef_callP rfl rfl ent_21 (fun w _ => rmay_v x true w hmx) ?_ | refine Ef_callP rfl rfl ent_21 (fun w _ => rmay_v x false w hmx) ?_))
                   | ((with_reducible refine g_call 17 ?_); (first | refine Ef_callP rfl rfl ent_17 (fun w hp => line_v A len cap l true w (hp.rd hr fun _ => List.not_mem_nil) hl hb) ?_ | refine Ef_callP rfl rfl ent_17 (fun w hp => line_v A len cap l false w (hp.rd hr fun _ => List.not_mem_nil) hl hb) ?_))))
                | ((with_reducible refine ie_app ?_)
                   (first
                   | fail
                   | (((refine' Ef_app0_rd rfl rfl rfl ?q1 ?q2 ?q3 ?q4 ?q5 ?q6 ?q7 ?_); (case q1 => exact app_of rfl); (case q2 => (first | exact at0 | exact at1 | exact at2 | exact at3 | exact at4 | exact at5 | exact at6)); (case q3 => assumption); (case q4 => (first | assumption | (intro u hu; rcases hu with _ | ⟨_, _ | ⟨_, _ | ⟨_, _ | ⟨_, hu⟩⟩⟩⟩ <;> first | rfl | (cases hu; done)))); (case q5 => omega); (case q6 => omega); (case q7 => exact List.not_mem_nil))
                      (first | ((fail_if_success have := A1); intro A1 c1) | ((fail_if_success have := A2); intro A2 c2) | ((fail_if_success have := A3); intro A3 c3) | ((fail_if_success have := A4); intro A4 c4) | ((fail_if_success have := A5); intro A5 c5) | ((fail_if_success have := A6); intro A6 c6) | ((fail_if_success have := A7); intro A7 c7)))
                   | (((refine' Ef_appG_row rfl rfl rfl ?q1 ?q2 ?q3 ?q4 ?q5 ?q6 ?_); (case q1 => exact app_of rfl); (case q2 => (first | exact at0 | exact at1 | exact at2 | exact at3 | exact at4 | exact at5 | exact at6)); (case q3 => (repeat (first | exact .head _ | apply List.Mem.tail))); (case q4 => (first | assumption | (intro u hu; rcases hu with _ | ⟨_, _ | ⟨_, _ | ⟨_, _ | ⟨_, hu⟩⟩⟩⟩ <;> first | rfl | (cases hu; done)))); (case q5 => omega); (case q6 => omega))
                      (first | ((fail_if_success have := A1); intro A1 c1) | ((fail_if_success have := A2); intro A2 c2) | ((fail_if_success have := A3); intro A3 c3) | ((fail_if_success have := A4); intro A4 c4) | ((fail_if_success have := A5); intro A5 c5) | ((fail_if_success have := A6); intro A6 c6) | ((fail_if_success have := A7); intro A7 c7)))
                   | (((refine' Ef_appG_rd rfl rfl rfl ?q1 ?q2 ?q3 ?q4 ?q5 ?q6 ?q7 ?_); (case q1 => exact app_of rfl); (case q2 => (first | exact at0 | exact at1 | exact at2 | exact at3 | exact at4 | exact at5 | exact at6)); (case q3 => assumption); (case q4 => (first | assumption | (intro u hu; rcases hu with _ | ⟨_, _ | ⟨_, _ | ⟨_, _ | ⟨_, hu⟩⟩⟩⟩ <;> first | rfl | (cases hu; done)))); (case q5 => omega); (case q6 => omega); (case q7 => exact List.not_mem_nil))
                      (first | ((fail_if_success have := A1); intro A1 c1) | ((fail_if_success have := A2); intro A2 c2) | ((fail_if_success have := A3); intro A3 c3) | ((fail_if_success have := A4); intro A4 c4) | ((fail_if_success have := A5); intro A5 c5) | ((fail_if_success have := A6); intro A6 c6) | ((fail_if_success have := A7); intro A7 c7)))))
                | ((with_reducible refine ie_bsl ?_)
                   (first
                   | fail
                   | (((refine' Ef_bsl0 rfl ?q1 ?_); (case q1 => exact app_of rfl)); (first | ((fail_if_success have := b1); intro b1) | ((fail_if_success have := b2); intro b2) | ((fail_if_success have := b3); intro b3) | ((fail_if_success have := b4); intro b4) | ((fail_if_success have := b5); intro b5) | ((fail_if_success have := b6); intro b6) | ((fail_if_success have := b7); intro b7) | ((fail_if_success have := b8); intro b8) | ((fail_if_success have := b9); intro b9)))
                   | (((refine' Ef_bslA rfl rfl ?q1 ?q2 ?q3 ?_); (case q1 => exact app_of rfl); (case q2 => rfl); (case q3 => decide)); (first | ((fail_if_success have := b1); intro b1) | ((fail_if_success have := b2); intro b2) | ((fail_if_success have := b3); intro b3) | ((fail_if_success have := b4); intro b4) | ((fail_if_success have := b5); intro b5) | ((fail_if_success have := b6); intro b6) | ((fail_if_success have := b7); intro b7) | ((fail_if_success have := b8); intro b8) | ((fail_if_success have := b9); intro b9)))
                   | (((refine' Ef_bsl1 rfl rfl rfl ?q1 ?_); (case q1 => exact app_of rfl)); (first | ((fail_if_success have := b1); intro b1) | ((fail_if_success have := b2); intro b2) | ((fail_if_success have := b3); intro b3) | ((fail_if_success have := b4); intro b4) | ((fail_if_success have := b5); intro b5) | ((fail_if_success have := b6); intro b6) | ((fail_if_success have := b7); intro b7) | ((fail_if_success have := b8); intro b8) | ((fail_if_success have := b9); intro b9)))))
                | (first | fail)
                | refine Ef_y rfl rfl ?_
                | ((with_reducible refine ie_conv ?_); refine Ef_y' rfl ?_)
                | ((with_reducible refine ie_bmin ?_); refine Ef_y' rfl ?_)
                | ((with_reducible refine ie_bmax ?_); refine Ef_y' rfl ?_))
        exact ret_n [] (res1 rfl rfl) (List.nil_sublist _) ⟨rfl, rfl⟩
      cases hmx : Rt.may x with
      | true =>
        repeat' (first
                | with_reducible refine T.seq ?_
                | with_reducible refine T.block ?_
                | with_reducible refine T.region ?_
                | with_reducible refine T.skip ?_
                | with_reducible refine T.ret ?_
                | with_reducible refine T.exit ?_
                | with_reducible refine seqQ_n ?_
                | with_reducible refine seqQ_x ?_
                | with_reducible refine seqQ_r ?_
                | with_reducible refine blockQ_n ?_
                | with_reducible refine blockQ_r ?_
                | with_reducible refine blockQ_x ?_
                | ((with_reducible refine g_blkx ?_); refine blockQ_y rfl ?_)
                | with_reducible refine loopQ_x ?_
                | with_reducible refine loopQ_r ?_
                | with_reducible refine joinQ_r ?_
                | with_reducible refine joinQ_x ?_
                | ((with_reducible refine g_cond ?_); (first | refine T.cond_t rfl ?_ | refine T.cond_f rfl ?_ | (refine T.cond_s rfl ?_ ?_ <;> intro hc)))
                | with_reducible refine TL_nil ?_
                | with_reducible refine TS_nil ?_
                | ((with_reducible refine g_draw ?_); (first | (((with_reducible refine' T.drawM (id := 3) [(0, true), (1, true), (2, true), (3, true), (4, true), (5, true), (6, true), (7, true), (8, false), (9, false)] mixd ?q1 ?_); (case q1 => kernel_rfl)))))
                | ((with_reducible refine TL_y' ?hy ?hd ?_); (case hy => rfl); (case hd => rfl))
                | with_reducible refine TL_e ?_
                | ((with_reducible refine g_TL ?_); (first | refine TL_gy' rfl rfl rfl rfl ?_ | refine TL_gn rfl rfl rfl ?_ | refine TL_gu rfl rfl rfl ?_ | refine TL_ge rfl rfl ?_ | refine TL_gn0 rfl rfl ?_))
                | ((with_reducible refine g_TS ?_); (first | refine TS_y rfl rfl ?_ | refine TS_e rfl ?_ | refine TS_gy rfl rfl rfl rfl ?_ | refine TS_gn rfl rfl rfl rfl ?_ | refine TS_gu rfl rfl rfl rfl ?_ | refine TS_ge rfl rfl rfl ?_ | refine TS_gne rfl rfl rfl rfl ?_ | refine TS_gue rfl rfl rfl rfl ?_ | refine TS_gne0 rfl rfl rfl ?_))
                | ((with_reducible refine TSand ?hd ?_); (case hd => (repeat (first | exact List.nil_sublist _ | refine List.Sublist.cons_cons _ ?_ | refine List.Sublist.cons _ ?_))))
                | ((with_reducible refine TBand ?hd ?_); (case hd => (repeat (first | exact List.nil_sublist _ | refine List.Sublist.cons_cons _ ?_ | refine List.Sublist.cons _ ?_))))
                | ((with_reducible refine g_TB ?_); (first | with_reducible refine TB_run ?_ | refine TB_y rfl rfl ?_ | refine TB_b rfl rfl ?_ ?_ | refine TB_e rfl ?_))
                | ((with_reducible refine is_move ?_); refine ⟨_, Yl_move rfl, ?_⟩)
                | ((with_reducible refine is_assign ?_); refine ⟨_, Yl_assign rfl, ?_⟩)
                | ((with_reducible refine is_pick ?_); (first | refine ⟨_, Yl_pick_t rfl rfl, ?_⟩ | refine ⟨_, Yl_pick_f rfl rfl, ?_⟩))
                | ((with_reducible refine is_nil ?_); refine ⟨_, Yl_nilCheck rfl, ?_⟩)
                | ((with_reducible refine is_fld ?_); (first | ((refine' ⟨_, Yl_fld_ad rfl ?q1, ?_⟩); (case q1 => exact fld_of rfl rfl)) | ((refine' ⟨_, Yl_fld_blk0 rfl ?q1, ?_⟩); (case q1 => exact fld_of rfl rfl)) | ((refine' ⟨_, Yl_fld_blk rfl ?q1, ?_⟩); (case q1 => exact fld_of rfl rfl))))
                | ((with_reducible refine is_load ?_)
                   (first
                   | fail
                   | ((refine' ⟨_, Yl_load_blk rfl ?q1 ?q2 ?q3, ?_⟩); (case q1 => exact one_of rfl); (case q2 => (repeat (first | exact .head _ | apply List.Mem.tail))); (case q3 => rfl))
                   | ((refine' ⟨_, Yl_loadA_blk rfl ?q1 ?q2, ?_⟩); (case q1 => (repeat (first | exact .head _ | apply List.Mem.tail))); (case q2 => exact agg_of rfl))
                   | ((refine' ⟨_, Yl_load_blk rfl ?q1 ?q2 ?q3, ?_⟩); (case q1 => exact one_of rfl); (case q2 => (repeat (first | exact .head _ | apply List.Mem.tail))); (case q3 => assumption))
                   | ((refine' ⟨_, Yl_load_rd rfl ?q1 ?q2 List.not_mem_nil ?q3, ?_⟩); (case q1 => exact one_of rfl); (case q2 => assumption); (case q3 => assumption))
                   | ((refine' ⟨_, Yl_load_row rfl ?q1 ?q2 ?q3, ?_⟩); (case q1 => exact one_of rfl); (case q2 => (repeat (first | exact .head _ | apply List.Mem.tail))); (case q3 => assumption))
                   | ((refine' ⟨_, Yl_loadA_rd rfl ?qa ?qb List.not_mem_nil ?ql ?qc, ?_⟩); (case qa => exact agg_of rfl); (case qb => assumption); (case qc => assumption); (case ql => rfl))
                   | ((refine' ⟨_, Yl_loadA_row rfl ?qa ?qb ?ql ?qc, ?_⟩); (case qa => exact agg_of rfl); (case qb => (repeat (first | exact .head _ | apply List.Mem.tail))); (case qc => assumption); (case ql => rfl))))
                | ((with_reducible refine is_idx ?_)
                   (first
                   | fail
                   | ((refine' ⟨_, Yl_index rfl rfl ?q1 ?q2 ?q3 (Rd.some_ ?q4 ?q5), ?_⟩); (case q1 => exact und_of rfl); (case q2 => exact siz_of rfl); (case q3 => omega); (case q4 => assumption); (case q5 => omega))
                   | ((refine' ⟨_, Yl_index_row rfl rfl ?q1 ?q2 ?q3 ?q4, ?_⟩); (case q1 => exact und_of rfl); (case q2 => exact siz_of rfl); (case q3 => omega); (case q4 => (repeat (first | exact .head _ | apply List.Mem.tail))))
                   | ((refine' ⟨_, Yl_index rfl rfl ?q1 ?q2 ?q3 rfl, ?_⟩); (case q1 => exact und_of rfl); (case q2 => exact siz_of rfl); (case q3 => omega))
                   | ((refine' ⟨_, Yl_index (j := 0) rfl rfl ?q1 ?q2 ?q3 (Rd.some_ ?q4 ?q5), ?_⟩); (case q1 => exact und_of rfl); (case q2 => exact siz_of rfl); (case q3 => omega); (case q4 => assumption); (case q5 => omega))
                   | ((refine' ⟨_, Yl_index_row (j := 0) rfl rfl ?q1 ?q2 ?q3 ?q4, ?_⟩); (case q1 => exact und_of rfl); (case q2 => exact siz_of rfl); (case q3 => omega); (case q4 => (repeat (first | exact .head _ | apply List.Mem.tail))))))
                | ((with_reducible refine is_ext ?_); refine ⟨_, Yl_extract rfl rfl, ?_⟩)
                | ((with_reducible refine is_un ?_); refine ⟨_, Yl_not rfl, ?_⟩)
                | ((with_reducible refine is_len ?_); (first | ((refine' ⟨_, Yl_len_slice rfl ?q1, ?_⟩); (case q1 => exact und_of rfl)) | ((refine' ⟨_, Yl_len_string rfl ?q1, ?_⟩); (case q1 => exact und_of rfl))))
                | ((with_reducible refine is_b_lss ?_); (first | ((refine' ⟨_, Yl_lss_t rfl rfl ?q1, ?_⟩); (case q1 => omega)) | ((refine' ⟨_, Yl_lss_f rfl rfl ?q1, ?_⟩); (case q1 => omega)) | (refine sp_lss rfl rfl ?_ ?_ <;> intro hc)))
                | ((with_reducible refine is_b_leq ?_); (first | ((refine' ⟨_, Yl_leq_t rfl rfl ?q1, ?_⟩); (case q1 => omega)) | ((refine' ⟨_, Yl_leq_f rfl rfl ?q1, ?_⟩); (case q1 => omega)) | (refine sp_leq rfl rfl ?_ ?_ <;> intro hc)))
                | ((with_reducible refine is_b_gtr ?_); (first | ((refine' ⟨_, Yl_gtr_t rfl rfl ?q1, ?_⟩); (case q1 => omega)) | ((refine' ⟨_, Yl_gtr_f rfl rfl ?q1, ?_⟩); (case q1 => omega)) | (refine sp_gtr rfl rfl ?_ ?_ <;> intro hc)))
                | ((with_reducible refine is_b_geq ?_); (first | ((refine' ⟨_, Yl_geq_t rfl rfl ?q1, ?_⟩); (case q1 => omega)) | ((refine' ⟨_, Yl_geq_f rfl rfl ?q1, ?_⟩); (case q1 => omega)) | (refine sp_geq rfl rfl ?_ ?_ <;> intro hc)))
                | ((with_reducible refine is_b_eql ?_)
                   (first
                   | ((refine' ⟨_, Yl_eql_t rfl rfl ?q1, ?_⟩); (case q1 => omega))
                   | ((refine' ⟨_, Yl_eql_f rfl rfl ?q1, ?_⟩); (case q1 => omega))
                   | (refine sp_eql rfl rfl ?_ ?_ <;> intro hc)
                   | ((refine' ⟨_, Yl_remk (m := 2) rfl rfl ?q1 ?q2, ?_⟩); (case q1 => omega); (case q2 => omega))
                   | ((refine' ⟨_, Yl_quo8 (m := 2) rfl rfl ?q1 ?q2 ?q3, ?_⟩); (case q1 => omega); (case q2 => omega); (case q3 => omega))
                   | ((refine' ⟨_, Yl_quo8 (m := 4) rfl rfl ?q1 ?q2 ?q3, ?_⟩); (case q1 => omega); (case q2 => omega); (case q3 => omega))
                   | ((refine' ⟨_, Yl_quo8 (m := 8) rfl rfl ?q1 ?q2 ?q3, ?_⟩); (case q1 => omega); (case q2 => omega); (case q3 => omega))
                   | ((refine' ⟨_, Yl_addS rfl rfl ?q1, ?_⟩); (case q1 => decide))
                   | refine ⟨_, Yl_eql_str rfl rfl, ?_⟩
                   | ((refine' ⟨_, Yl_and8 rfl rfl ?q1 ?q2 ?q3 ?q4, ?_⟩); (case q1 => omega); (case q2 => omega); (case q3 => omega); (case q4 => omega))
                   | ((refine' ⟨_, Yl_eql_bool rfl rfl ?q1, ?_⟩); (case q1 => exact und_of rfl))
                   | ((refine' ⟨_, Yl_eql_strT rfl rfl ?q1, ?_⟩); (case q1 => first | assumption | rfl))
                   | ((refine' ⟨_, Yl_eql_strF rfl rfl ?q1, ?_⟩); (case q1 => first | assumption | decide))
                   | (refine sp_eqlS rfl rfl ?_ ?_ <;> intro hc)))
                | ((with_reducible refine is_b_neq ?_)
                   (first
                   | ((refine' ⟨_, Yl_neq_t rfl rfl ?q1, ?_⟩); (case q1 => omega))
                   | ((refine' ⟨_, Yl_neq_f rfl rfl ?q1, ?_⟩); (case q1 => omega))
                   | (refine sp_neq rfl rfl ?_ ?_ <;> intro hc)
                   | ((refine' ⟨_, Yl_remk (m := 2) rfl rfl ?q1 ?q2, ?_⟩); (case q1 => omega); (case q2 => omega))
                   | ((refine' ⟨_, Yl_quo8 (m := 2) rfl rfl ?q1 ?q2 ?q3, ?_⟩); (case q1 => omega); (case q2 => omega); (case q3 => omega))
                   | ((refine' ⟨_, Yl_quo8 (m := 4) rfl rfl ?q1 ?q2 ?q3, ?_⟩); (case q1 => omega); (case q2 => omega); (case q3 => omega))
                   | ((refine' ⟨_, Yl_quo8 (m := 8) rfl rfl ?q1 ?q2 ?q3, ?_⟩); (case q1 => omega); (case q2 => omega); (case q3 => omega))
                   | ((refine' ⟨_, Yl_addS rfl rfl ?q1, ?_⟩); (case q1 => decide))
                   | refine ⟨_, Yl_eql_str rfl rfl, ?_⟩
                   | ((refine' ⟨_, Yl_and8 rfl rfl ?q1 ?q2 ?q3 ?q4, ?_⟩); (case q1 => omega); (case q2 => omega); (case q3 => omega); (case q4 => omega))
                   | ((refine' ⟨_, Yl_neq_bool rfl rfl ?q1, ?_⟩); (case q1 => exact und_of rfl))
                   | ((refine' ⟨_, Yl_neq_strT rfl rfl ?q1, ?_⟩); (case q1 => first | assumption | decide))
                   | ((refine' ⟨_, Yl_neq_strF rfl rfl ?q1, ?_⟩); (case q1 => first | assumption | rfl))
                   | (refine sp_neqS rfl rfl ?_ ?_ <;> intro hc)))
                | ((with_reducible refine is_b_add ?_)
                   (first
                   | ((refine' ⟨_, Yl_add rfl rfl ?q1 ?q2, ?_⟩); (case q1 => omega); (case q2 => omega))
                   | ((refine' ⟨_, Yl_add8 rfl rfl ?q1 ?q2, ?_⟩); (case q1 => omega); (case q2 => omega))
                   | ((refine' ⟨_, Yl_remk (m := 2) rfl rfl ?q1 ?q2, ?_⟩); (case q1 => omega); (case q2 => omega))
                   | ((refine' ⟨_, Yl_quo8 (m := 2) rfl rfl ?q1 ?q2 ?q3, ?_⟩); (case q1 => omega); (case q2 => omega); (case q3 => omega))
                   | ((refine' ⟨_, Yl_quo8 (m := 4) rfl rfl ?q1 ?q2 ?q3, ?_⟩); (case q1 => omega); (case q2 => omega); (case q3 => omega))
                   | ((refine' ⟨_, Yl_quo8 (m := 8) rfl rfl ?q1 ?q2 ?q3, ?_⟩); (case q1 => omega); (case q2 => omega); (case q3 => omega))
                   | ((refine' ⟨_, Yl_addS rfl rfl ?q1, ?_⟩); (case q1 => decide))
                   | refine ⟨_, Yl_eql_str rfl rfl, ?_⟩
                   | ((refine' ⟨_, Yl_and8 rfl rfl ?q1 ?q2 ?q3 ?q4, ?_⟩); (case q1 => omega); (case q2 => omega); (case q3 => omega); (case q4 => omega))))
                | ((with_reducible refine is_min ?_); refine ⟨_, Yl_min rfl rfl, ?_⟩)
                | ((with_reducible refine is_max ?_); refine ⟨_, Yl_max rfl rfl, ?_⟩)
                | ((with_reducible refine is_b_sub ?_)
                   (first
                   | ((refine' ⟨_, Yl_sub rfl rfl ?q1 ?q2, ?_⟩); (case q1 => omega); (case q2 => omega))
                   | ((refine' ⟨_, Yl_remk (m := 2) rfl rfl ?q1 ?q2, ?_⟩); (case q1 => omega); (case q2 => omega))
                   | ((refine' ⟨_, Yl_quo8 (m := 2) rfl rfl ?q1 ?q2 ?q3, ?_⟩); (case q1 => omega); (case q2 => omega); (case q3 => omega))
                   | ((refine' ⟨_, Yl_quo8 (m := 4) rfl rfl ?q1 ?q2 ?q3, ?_⟩); (case q1 => omega); (case q2 => omega); (case q3 => omega))
                   | ((refine' ⟨_, Yl_quo8 (m := 8) rfl rfl ?q1 ?q2 ?q3, ?_⟩); (case q1 => omega); (case q2 => omega); (case q3 => omega))
                   | ((refine' ⟨_, Yl_addS rfl rfl ?q1, ?_⟩); (case q1 => decide))
                   | refine ⟨_, Yl_eql_str rfl rfl, ?_⟩
                   | ((refine' ⟨_, Yl_and8 rfl rfl ?q1 ?q2 ?q3 ?q4, ?_⟩); (case q1 => omega); (case q2 => omega); (case q3 => omega); (case q4 => omega))))
                | ((with_reducible refine is_build ?_); (first | fail))
                | (first
                  | ((refine' ⟨_, Yl_remk (m := 2) rfl rfl ?q1 ?q2, ?_⟩); (case q1 => omega); (case q2 => omega))
                  | ((refine' ⟨_, Yl_quo8 (m := 2) rfl rfl ?q1 ?q2 ?q3, ?_⟩); (case q1 => omega); (case q2 => omega); (case q3 => omega))
                  | ((refine' ⟨_, Yl_quo8 (m := 4) rfl rfl ?q1 ?q2 ?q3, ?_⟩); (case q1 => omega); (case q2 => omega); (case q3 => omega))
                  | ((refine' ⟨_, Yl_quo8 (m := 8) rfl rfl ?q1 ?q2 ?q3, ?_⟩); (case q1 => omega); (case q2 => omega); (case q3 => omega))
                  | ((refine' ⟨_, Yl_addS rfl rfl ?q1, ?_⟩); (case q1 => decide))
                  | refine ⟨_, Yl_eql_str rfl rfl, ?_⟩
                  | ((refine' ⟨_, Yl_and8 rfl rfl ?q1 ?q2 ?q3 ?q4, ?_⟩); (case q1 => omega); (case q2 => omega); (case q3 => omega); (case q4 => omega)))
                | ((with_reducible refine ie_box ?_)
                   (first
                   | (refine Ef_boxA rfl rfl ?_; (first | ((fail_if_success have := b1); intro b1) | ((fail_if_success have := b2); intro b2) | ((fail_if_success have := b3); intro b3) | ((fail_if_success have := b4); intro b4) | ((fail_if_success have := b5); intro b5) | ((fail_if_success have := b6); intro b6) | ((fail_if_success have := b7); intro b7) | ((fail_if_success have := b8); intro b8) | ((fail_if_success have := b9); intro b9)))
                   | (refine Ef_box1 rfl rfl rfl ?_; (first | ((fail_if_success have := b1); intro b1) | ((fail_if_success have := b2); intro b2) | ((fail_if_success have := b3); intro b3) | ((fail_if_success have := b4); intro b4) | ((fail_if_success have := b5); intro b5) | ((fail_if_success have := b6); intro b6) | ((fail_if_success have := b7); intro b7) | ((fail_if_success have := b8); intro b8) | ((fail_if_success have := b9); intro b9)))))
                | ((with_reducible refine ie_alloc ?_); (first | fail | (((refine' Ef_alloc rfl ?q1 ?_); (case q1 => exact zer_of rfl)); (first | ((fail_if_success have := b1); intro b1) | ((fail_if_success have := b2); intro b2) | ((fail_if_success have := b3); intro b3) | ((fail_if_success have := b4); intro b4) | ((fail_if_success have := b5); intro b5) | ((fail_if_success have := b6); intro b6) | ((fail_if_success have := b7); intro b7) | ((fail_if_success have := b8); intro b8) | ((fail_if_success have := b9); intro b9)))))
                | ((with_reducible refine ie_store ?_)
                   (first
                   | fail
                   | ((refine' Ef_store_rowA rfl rfl ?q1 ?q2 ?q3 ?q4 ?q5 ?q6 ?_); (case q1 => exact siz_of rfl); (case q2 => rfl); (case q3 => (first | assumption | (intro u hu; rcases hu with _ | ⟨_, _ | ⟨_, _ | ⟨_, _ | ⟨_, hu⟩⟩⟩⟩ <;> first | rfl | (cases hu; done)))); (case q4 => (first | exact at0 | exact at1 | exact at2 | exact at3 | exact at4 | exact at5 | exact at6)); (case q5 => omega); (case q6 => assumption))
                   | ((refine' Ef_storeA' rfl rfl ?q1 ?q2 ?q3 ?q4 ?_); (case q1 => exact siz_of rfl); (case q2 => (first | assumption | (intro u hu; rcases hu with _ | ⟨_, _ | ⟨_, _ | ⟨_, _ | ⟨_, hu⟩⟩⟩⟩ <;> first | rfl | (cases hu; done)))); (case q3 => (first | exact at0 | exact at1 | exact at2 | exact at3 | exact at4 | exact at5 | exact at6)); (case q4 => rfl))
                   | ((refine' Ef_storeC rfl rfl ?q1 ?q2 ?q3 ?q4 ?q5 ?_); (case q1 => rfl); (case q2 => exact siz_of rfl); (case q3 => (first | exact at0 | exact at1 | exact at2 | exact at3 | exact at4 | exact at5 | exact at6)); (case q4 => exact Nat.le_of_ble_eq_true rfl); (case q5 => rfl))))
                | ((with_reducible refine ie_callf ?_)
                   (first
                   | ((with_reducible refine g_call 18 ?_); (first | refine Ef_callP rfl rfl ent_18 (fun w _ => may_v x true w hmx) ?_ | refine Ef_callP rfl rfl ent_18 (fun w _ => may_v x false w hmx) ?_))
                   | ((with_reducible refine g_call 21 ?_); (first | refine Ef_callP rfl rfl ent_21 (fun w _ => rmay_v x true w hmx) ?_ | refine Ef_callP rfl rfl ent_21 (fun w _ => rmay_v x false w hmx) ?_))
                   | ((with_reducible refine g_call 17 ?_); (first | refine Ef_callP rfl rfl ent_17 (fun w hp => line_v A len cap l true w (hp.rd hr fun _ => List.not_mem_nil) hl hb) ?_ | refine Ef_callP rfl rfl ent_17 (fun w hp => line_v A len cap l false w (hp.rd hr fun _ => List.not_mem_nil) hl hb) ?_))))
                | ((with_reducible refine ie_app ?_)
                   (first
                   | fail
                   | (((refine' Ef_app0_rd rfl rfl rfl ?q1 ?q2 ?q3 ?q4 ?q5 ?q6 ?q7 ?_); (case q1 => exact app_of rfl); (case q2 => (first | exact at0 | exact at1 | exact at2 | exact at3 | exact at4 | exact at5 | exact at6)); (case q3 => assumption); (case q4 => (first | assumption | (intro u hu; rcases hu with _ | ⟨_, _ | ⟨_, _ | ⟨_, _ | ⟨_, hu⟩⟩⟩⟩ <;> first | rfl | (cases hu; done)))); (case q5 => omega); (case q6 => omega); (case q7 => exact List.not_mem_nil))
                      (first | ((fail_if_success have := A1); intro A1 c1) | ((fail_if_success have := A2); intro A2 c2) | ((fail_if_success have := A3); intro A3 c3) | ((fail_if_success have := A4); intro A4 c4) | ((fail_if_success have := A5); intro A5 c5) | ((fail_if_success have := A6); intro A6 c6) | ((fail_if_success have := A7); intro A7 c7)))
                   | (((refine' Ef_appG_row rfl rfl rfl ?q1 ?q2 ?q3 ?q4 ?q5 ?q6 ?_); (case q1 => exact app_of rfl); (case q2 => (first | exact at0 | exact at1 | exact at2 | exact at3 | exact at4 | exact at5 | exact at6)); (case q3 => (repeat (first | exact .head _ | apply List.Mem.tail))); (case q4 => (first | assumption | (intro u hu; rcases hu with _ | ⟨_, _ | ⟨_, _ | ⟨_, _ | ⟨_, hu⟩⟩⟩⟩ <;> first | rfl | (cases hu; done)))); (case q5 => omega); (case q6 => omega))
                      (first | ((fail_if_success have := A1); intro A1 c1) | ((fail_if_success have := A2); intro A2 c2) | ((fail_if_success have := A3); intro A3 c3) | ((fail_if_success have := A4); intro A4 c4) | ((fail_if_success have := A5); intro A5 c5) | ((fail_if_success have := A6); intro A6 c6) | ((fail_if_success have := A7); intro A7 c7)))
                   | (((refine' Ef_appG_rd rfl rfl rfl ?q1 ?q2 ?q3 ?q4 ?q5 ?q6 ?q7 ?_); (case q1 => exact app_of rfl); (case q2 => (first | exact at0 | exact at1 | exact at2 | exact at3 | exact at4 | exact at5 | exact at6)); (case q3 => assumption); (case q4 => (first | assumption | (intro u hu; rcases hu with _ | ⟨_, _ | ⟨_, _ | ⟨_, _ | ⟨_, hu⟩⟩⟩⟩ <;> first | rfl | (cases hu; done)))); (case q5 => omega); (case q6 => omega); (case q7 => exact List.not_mem_nil))
                      (first | ((fail_if_success have := A1); intro A1 c1) | ((fail_if_success have := A2); intro A2 c2) | ((fail_if_success have := A3); intro A3 c3) | ((fail_if_success have := A4); intro A4 c4) | ((fail_if_success have := A5); intro A5 c5) | ((fail_if_success have := A6); intro A6 c6) | ((fail_if_success have := A7); intro A7 c7)))))
                | ((with_reducible refine ie_bsl ?_)
                   (first
                   | fail
                   | (((refine' Ef_bsl0 rfl ?q1 ?_); (case q1 => exact app_of rfl)); (first | ((fail_if_success have := b1); intro b1) | ((fail_if_success have := b2); intro b2) | ((fail_if_success have := b3); intro b3) | ((fail_if_success have := b4); intro b4) | ((fail_if_success have := b5); intro b5) | ((fail_if_success have := b6); intro b6) | ((fail_if_success have := b7); intro b7) | ((fail_if_success have := b8); intro b8) | ((fail_if_success have := b9); intro b9)))
                   | (((refine' Ef_bslA rfl rfl ?q1 ?q2 ?q3 ?_); (case q1 => exact app_of rfl); (case q2 => rfl); (case q3 => decide)); (first | ((fail_if_success have := b1); intro b1) | ((fail_if_success have := b2); intro b2) | ((fail_if_success have := b3); intro b3) | ((fail_if_success have := b4); intro b4) | ((fail_if_success have := b5); intro b5) | ((fail_if_success have := b6); intro b6) | ((fail_if_success have := b7); intro b7) | ((fail_if_success have := b8); intro b8) | ((fail_if_success have := b9); intro b9)))
                   | (((refine' Ef_bsl1 rfl rfl rfl ?q1 ?_); (case q1 => exact app_of rfl)); (first | ((fail_if_success have := b1); intro b1) | ((fail_if_success have := b2); intro b2) | ((fail_if_success have := b3); intro b3) | ((fail_if_success have := b4); intro b4) | ((fail_if_success have := b5); intro b5) | ((fail_if_success have := b6); intro b6) | ((fail_if_success have := b7); intro b7) | ((fail_if_success have := b8); intro b8) | ((fail_if_success have := b9); intro b9)))))
                | (first | fail)
                | refine Ef_y rfl rfl ?_
                | ((with_reducible refine ie_conv ?_); refine Ef_y' rfl ?_)
                | ((with_reducible refine ie_bmin ?_); refine Ef_y' rfl ?_)
                | ((with_reducible refine ie_bmax ?_); refine Ef_y' rfl ?_))
        refine loopQ_n (i + 1) ?_ ?_ ⟨by (first | omega | (dsimp only; omega) | (simp; omega)), by (first | omega | (dsimp only; omega) | (simp; omega)), by rw [take_snoc hx]; exact Rt.all_snoc hm hmx⟩ (by (first | omega | (dsimp only; omega) | (simp; omega)))
        · (repeat (first | exact Sub.nil | refine Sub.cons rfl ?_))
        · (repeat (first | exact List.nil_sublist _ | refine List.Sublist.cons_cons _ ?_ | refine List.Sublist.cons _ ?_))
      | false =>
        rw [Rt.line_no (.inr (.inr ⟨x, mem_of_some hx, hmx⟩))]
        repeat' (first
                | with_reducible refine T.seq ?_
                | with_reducible refine T.block ?_
                | with_reducible refine T.region ?_
                | with_reducible refine T.skip ?_
                | with_reducible refine T.ret ?_
                | with_reducible refine T.exit ?_
                | with_reducible refine seqQ_n ?_
                | with_reducible refine seqQ_x ?_
                | with_reducible refine seqQ_r ?_
                | with_reducible refine blockQ_n ?_
                | with_reducible refine blockQ_r ?_
                | with_reducible refine blockQ_x ?_
                | ((with_reducible refine g_blkx ?_); refine blockQ_y rfl ?_)
                | with_reducible refine loopQ_x ?_
                | with_reducible refine loopQ_r ?_
                | with_reducible refine joinQ_r ?_
                | with_reducible refine joinQ_x ?_
                | ((with_reducible refine g_cond ?_); (first | refine T.cond_t rfl ?_ | refine T.cond_f rfl ?_ | (refine T.cond_s rfl ?_ ?_ <;> intro hc)))
                | with_reducible refine TL_nil ?_
                | with_reducible refine TS_nil ?_
                | ((with_reducible refine g_draw ?_); (first | (((with_reducible refine' T.drawM (id := 3) [(0, true), (1, true), (2, true), (3, true), (4, true), (5, true), (6, true), (7, true), (8, false), (9, false)] mixd ?q1 ?_); (case q1 => kernel_rfl)))))
                | ((with_reducible refine TL_y' ?hy ?hd ?_); (case hy => rfl); (case hd => rfl))
                | with_reducible refine TL_e ?_
                | ((with_reducible refine g_TL ?_); (first | refine TL_gy' rfl rfl rfl rfl ?_ | refine TL_gn rfl rfl rfl ?_ | refine TL_gu rfl rfl rfl ?_ | refine TL_ge rfl rfl ?_ | refine TL_gn0 rfl rfl ?_))
                | ((with_reducible refine g_TS ?_); (first | refine TS_y rfl rfl ?_ | refine TS_e rfl ?_ | refine TS_gy rfl rfl rfl rfl ?_ | refine TS_gn rfl rfl rfl rfl ?_ | refine TS_gu rfl rfl rfl rfl ?_ | refine TS_ge rfl rfl rfl ?_ | refine TS_gne rfl rfl rfl rfl ?_ | refine TS_gue rfl rfl rfl rfl ?_ | refine TS_gne0 rfl rfl rfl ?_))
                | ((with_reducible refine TSand ?hd ?_); (case hd => (repeat (first | exact List.nil_sublist _ | refine List.Sublist.cons_cons _ ?_ | refine List.Sublist.cons _ ?_))))
                | ((with_reducible refine TBand ?hd ?_); (case hd => (repeat (first | exact List.nil_sublist _ | refine List.Sublist.cons_cons _ ?_ | refine List.Sublist.cons _ ?_))))
                | ((with_reducible refine g_TB ?_); (first | with_reducible refine TB_run ?_ | refine TB_y rfl rfl ?_ | refine TB_b rfl rfl ?_ ?_ | refine TB_e rfl ?_))
                | ((with_reducible refine is_move ?_); refine ⟨_, Yl_move rfl, ?_⟩)
                | ((with_reducible refine is_assign ?_); refine ⟨_, Yl_assign rfl, ?_⟩)
                | ((with_reducible refine is_pick ?_); (first | refine ⟨_, Yl_pick_t rfl rfl, ?_⟩ | refine ⟨_, Yl_pick_f rfl rfl, ?_⟩))
                | ((with_reducible refine is_nil ?_); refine ⟨_, Yl_nilCheck rfl, ?_⟩)
                | ((with_reducible refine is_fld ?_); (first | ((refine' ⟨_, Yl_fld_ad rfl ?q1, ?_⟩); (case q1 => exact fld_of rfl rfl)) | ((refine' ⟨_, Yl_fld_blk0 rfl ?q1, ?_⟩); (case q1 => exact fld_of rfl rfl)) | ((refine' ⟨_, Yl_fld_blk rfl ?q1, ?_⟩); (case q1 => exact fld_of rfl rfl))))
                | ((with_reducible refine is_load ?_)
                   (first
                   | fail
                   | ((refine' ⟨_, Yl_load_blk rfl ?q1 ?q2 ?q3, ?_⟩); (case q1 => exact one_of rfl); (case q2 => (repeat (first | exact .head _ | apply List.Mem.tail))); (case q3 => rfl))
                   | ((refine' ⟨_, Yl_loadA_blk rfl ?q1 ?q2, ?_⟩); (case q1 => (repeat (first | exact .head _ | apply List.Mem.tail))); (case q2 => exact agg_of rfl))
                   | ((refine' ⟨_, Yl_load_blk rfl ?q1 ?q2 ?q3, ?_⟩); (case q1 => exact one_of rfl); (case q2 => (repeat (first | exact .head _ | apply List.Mem.tail))); (case q3 => assumption))
                   | ((refine' ⟨_, Yl_load_rd rfl ?q1 ?q2 List.not_mem_nil ?q3, ?_⟩); (case q1 => exact one_of rfl); (case q2 => assumption); (case q3 => assumption))
                   | ((refine' ⟨_, Yl_load_row rfl ?q1 ?q2 ?q3, ?_⟩); (case q1 => exact one_of rfl); (case q2 => (repeat (first | exact .head _ | apply List.Mem.tail))); (case q3 => assumption))
                   | ((refine' ⟨_, Yl_loadA_rd rfl ?qa ?qb List.not_mem_nil ?ql ?qc, ?_⟩); (case qa => exact agg_of rfl); (case qb => assumption); (case qc => assumption); (case ql => rfl))
                   | ((refine' ⟨_, Yl_loadA_row rfl ?qa ?qb ?ql ?qc, ?_⟩); (case qa => exact agg_of rfl); (case qb => (repeat (first | exact .head _ | apply List.Mem.tail))); (case qc => assumption); (case ql => rfl))))
                | ((with_reducible refine is_idx ?_)
                   (first
                   | fail
                   | ((refine' ⟨_, Yl_index rfl rfl ?q1 ?q2 ?q3 (Rd.some_ ?q4 ?q5), ?_⟩); (case q1 => exact und_of rfl); (case q2 => exact siz_of rfl); (case q3 => omega); (case q4 => assumption); (case q5 => omega))
                   | ((refine' ⟨_, Yl_index_row rfl rfl ?q1 ?q2 ?q3 ?q4, ?_⟩); (case q1 => exact und_of rfl); (case q2 => exact siz_of rfl); (case q3 => omega); (case q4 => (repeat (first | exact .head _ | apply List.Mem.tail))))
                   | ((refine' ⟨_, Yl_index rfl rfl ?q1 ?q2 ?q3 rfl, ?_⟩); (case q1 => exact und_of rfl); (case q2 => exact siz_of rfl); (case q3 => omega))
                   | ((refine' ⟨_, Yl_index (j := 0) rfl rfl ?q1 ?q2 ?q3 (Rd.some_ ?q4 ?q5), ?_⟩); (case q1 => exact und_of rfl); (case q2 => exact siz_of rfl); (case q3 => omega); (case q4 => assumption); (case q5 => omega))
                   | ((refine' ⟨_, Yl_index_row (j := 0) rfl rfl ?q1 ?q2 ?q3 ?q4, ?_⟩); (case q1 => exact und_of rfl); (case q2 => exact siz_of rfl); (case q3 => omega); (case q4 => (repeat (first | exact .head _ | apply List.Mem.tail))))))
                | ((with_reducible refine is_ext ?_); refine ⟨_, Yl_extract rfl rfl, ?_⟩)
                | ((with_reducible refine is_un ?_); refine ⟨_, Yl_not rfl, ?_⟩)
                | ((with_reducible refine is_len ?_); (first | ((refine' ⟨_, Yl_len_slice rfl ?q1, ?_⟩); (case q1 => exact und_of rfl)) | ((refine' ⟨_, Yl_len_string rfl ?q1, ?_⟩); (case q1 => exact und_of rfl))))
                | ((with_reducible refine is_b_lss ?_); (first | ((refine' ⟨_, Yl_lss_t rfl rfl ?q1, ?_⟩); (case q1 => omega)) | ((refine' ⟨_, Yl_lss_f rfl rfl ?q1, ?_⟩); (case q1 => omega)) | (refine sp_lss rfl rfl ?_ ?_ <;> intro hc)))
                | ((with_reducible refine is_b_leq ?_); (first | ((refine' ⟨_, Yl_leq_t rfl rfl ?q1, ?_⟩); (case q1 => omega)) | ((refine' ⟨_, Yl_leq_f rfl rfl ?q1, ?_⟩); (case q1 => omega)) | (refine sp_leq rfl rfl ?_ ?_ <;> intro hc)))
                | ((with_reducible refine is_b_gtr ?_); (first | ((refine' ⟨_, Yl_gtr_t rfl rfl ?q1, ?_⟩); (case q1 => omega)) | ((refine' ⟨_, Yl_gtr_f rfl rfl ?q1, ?_⟩); (case q1 => omega)) | (refine sp_gtr rfl rfl ?_ ?_ <;> intro hc)))
                | ((with_reducible refine is_b_geq ?_); (first | ((refine' ⟨_, Yl_geq_t rfl rfl ?q1, ?_⟩); (case q1 => omega)) | ((refine' ⟨_, Yl_geq_f rfl rfl ?q1, ?_⟩); (case q1 => omega)) | (refine sp_geq rfl rfl ?_ ?_ <;> intro hc)))
                | ((with_reducible refine is_b_eql ?_)
                   (first
                   | ((refine' ⟨_, Yl_eql_t rfl rfl ?q1, ?_⟩); (case q1 => omega))
                   | ((refine' ⟨_, Yl_eql_f rfl rfl ?q1, ?_⟩); (case q1 => omega))
                   | (refine sp_eql rfl rfl ?_ ?_ <;> intro hc)
                   | ((refine' ⟨_, Yl_remk (m := 2) rfl rfl ?q1 ?q2, ?_⟩); (case q1 => omega); (case q2 => omega))
                   | ((refine' ⟨_, Yl_quo8 (m := 2) rfl rfl ?q1 ?q2 ?q3, ?_⟩); (case q1 => omega); (case q2 => omega); (case q3 => omega))
                   | ((refine' ⟨_, Yl_quo8 (m := 4) rfl rfl ?q1 ?q2 ?q3, ?_⟩); (case q1 => omega); (case q2 => omega); (case q3 => omega))
                   | ((refine' ⟨_, Yl_quo8 (m := 8) rfl rfl ?q1 ?q2 ?q3, ?_⟩); (case q1 => omega); (case q2 => omega); (case q3 => omega))
                   | ((refine' ⟨_, Yl_addS rfl rfl ?q1, ?_⟩); (case q1 => decide))
                   | refine ⟨_, Yl_eql_str rfl rfl, ?_⟩
                   | ((refine' ⟨_, Yl_and8 rfl rfl ?q1 ?q2 ?q3 ?q4, ?_⟩); (case q1 => omega); (case q2 => omega); (case q3 => omega); (case q4 => omega))
                   | ((refine' ⟨_, Yl_eql_bool rfl rfl ?q1, ?_⟩); (case q1 => exact und_of rfl))
                   | ((refine' ⟨_, Yl_eql_strT rfl rfl ?q1, ?_⟩); (case q1 => first | assumption | rfl))
                   | ((refine' ⟨_, Yl_eql_strF rfl rfl ?q1, ?_⟩); (case q1 => first | assumption | decide))
                   | (refine sp_eqlS rfl rfl ?_ ?_ <;> intro hc)))
                | ((with_reducible refine is_b_neq ?_)
                   (first
                   | ((refine' ⟨_, Yl_neq_t rfl rfl ?q1, ?_⟩); (case q1 => omega))
                   | ((refine' ⟨_, Yl_neq_f rfl rfl ?q1, ?_⟩); (case q1 => omega))
                   | (refine sp_neq rfl rfl ?_ ?_ <;> intro hc)
                   | ((refine' ⟨_, Yl_remk (m := 2) rfl rfl ?q1 ?q2, ?_⟩); (case q1 => omega); (case q2 => omega))
                   | ((refine' ⟨_, Yl_quo8 (m := 2) rfl rfl ?q1 ?q2 ?q3, ?_⟩); (case q1 => omega); (case q2 => omega); (case q3 => omega))
                   | ((refine' ⟨_, Yl_quo8 (m := 4) rfl rfl ?q1 ?q2 ?q3, ?_⟩); (case q1 => omega); (case q2 => omega); (case q3 => omega))
                   | ((refine' ⟨_, Yl_quo8 (m := 8) rfl rfl ?q1 ?q2 ?q3, ?_⟩); (case q1 => omega); (case q2 => omega); (case q3 => omega))
                   | ((refine' ⟨_, Yl_addS rfl rfl ?q1, ?_⟩); (case q1 => decide))
                   | refine ⟨_, Yl_eql_str rfl rfl, ?_⟩
                   | ((refine' ⟨_, Yl_and8 rfl rfl ?q1 ?q2 ?q3 ?q4, ?_⟩); (case q1 => omega); (case q2 => omega); (case q3 => omega); (case q4 => omega))
                   | ((refine' ⟨_, Yl_neq_bool rfl rfl ?q1, ?_⟩); (case q1 => exact und_of rfl))
                   | ((refine' ⟨_, Yl_neq_strT rfl rfl ?q1, ?_⟩); (case q1 => first | assumption | decide))
                   | ((refine' ⟨_, Yl_neq_strF rfl rfl ?q1, ?_⟩); (case q1 => first | assumption | rfl))
                   | (refine sp_neqS rfl rfl ?_ ?_ <;> intro hc)))
                | ((with_reducible refine is_b_add ?_)
                   (first
                   | ((refine' ⟨_, Yl_add rfl rfl ?q1 ?q2, ?_⟩); (case q1 => omega); (case q2 => omega))
                   | ((refine' ⟨_, Yl_add8 rfl rfl ?q1 ?q2, ?_⟩); (case q1 => omega); (case q2 => omega))
                   | ((refine' ⟨_, Yl_remk (m := 2) rfl rfl ?q1 ?q2, ?_⟩); (case q1 => omega); (case q2 => omega))
                   | ((refine' ⟨_, Yl_quo8 (m := 2) rfl rfl ?q1 ?q2 ?q3, ?_⟩); (case q1 => omega); (case q2 => omega); (case q3 => omega))
                   | ((refine' ⟨_, Yl_quo8 (m := 4) rfl rfl ?q1 ?q2 ?q3, ?_⟩); (case q1 => omega); (case q2 => omega); (case q3 => omega))
                   | ((refine' ⟨_, Yl_quo8 (m := 8) rfl rfl ?q1 ?q2 ?q3, ?_⟩); (case q1 => omega); (case q2 => omega); (case q3 => omega))
                   | ((refine' ⟨_, Yl_addS rfl rfl ?q1, ?_⟩); (case q1 => decide))
                   | refine ⟨_, Yl_eql_str rfl rfl, ?_⟩
                   | ((refine' ⟨_, Yl_and8 rfl rfl ?q1 ?q2 ?q3 ?q4, ?_⟩); (case q1 => omega); (case q2 => omega); (case q3 => omega); (case q4 => omega))))
                | ((with_reducible refine is_min ?_); refine ⟨_, Yl_min rfl rfl, ?_⟩)
                | ((with_reducible refine is_max ?_); refine ⟨_, Yl_max rfl rfl, ?_⟩)
                | ((with_reducible refine is_b_sub ?_)
                   (first
                   | ((refine' ⟨_, Yl_sub rfl rfl ?q1 ?q2, ?_⟩); (case q1 => omega); (case q2 => omega))
                   | ((refine' ⟨_, Yl_remk (m := 2) rfl rfl ?q1 ?q2, ?_⟩); (case q1 => omega); (case q2 => omega))
                   | ((refine' ⟨_, Yl_quo8 (m := 2) rfl rfl ?q1 ?q2 ?q3, ?_⟩); (case q1 => omega); (case q2 => omega); (case q3 => omega))
                   | ((refine' ⟨_, Yl_quo8 (m := 4) rfl rfl ?q1 ?q2 ?q3, ?_⟩); (case q1 => omega); (case q2 => omega); (case q3 => omega))
                   | ((refine' ⟨_, Yl_quo8 (m := 8) rfl rfl ?q1 ?q2 ?q3, ?_⟩); (case q1 => omega); (case q2 => omega); (case q3 => omega))
                   | ((refine' ⟨_, Yl_addS rfl rfl ?q1, ?_⟩); (case q1 => decide))
                   | refine ⟨_, Yl_eql_str rfl rfl, ?_⟩
                   | ((refine' ⟨_, Yl_and8 rfl rfl ?q1 ?q2 ?q3 ?q4, ?_⟩); (case q1 => omega); (case q2 => omega); (case q3 => omega); (case q4 => omega))))
                | ((with_reducible refine is_build ?_); (first | fail))
                | (first
                  | ((refine' ⟨_, Yl_remk (m := 2) rfl rfl ?q1 ?q2, ?_⟩); (case q1 => omega); (case q2 => omega))
                  | ((refine' ⟨_, Yl_quo8 (m := 2) rfl rfl ?q1 ?q2 ?q3, ?_⟩); (case q1 => omega); (case q2 => omega); (case q3 => omega))
                  | ((refine' ⟨_, Yl_quo8 (m := 4) rfl rfl ?q1 ?q2 ?q3, ?_⟩); (case q1 => omega); (case q2 => omega); (case q3 => omega))
                  | ((refine' ⟨_, Yl_quo8 (m := 8) rfl rfl ?q1 ?q2 ?q3, ?_⟩); (case q1 => omega); (case q2 => omega); (case q3 => omega))
                  | ((refine' ⟨_, Yl_addS rfl rfl ?q1, ?_⟩); (case q1 => decide))
                  | refine ⟨_, Yl_eql_str rfl rfl, ?_⟩
                  | ((refine' ⟨_, Yl_and8 rfl rfl ?q1 ?q2 ?q3 ?q4, ?_⟩); (case q1 => omega); (case q2 => omega); (case q3 => omega); (case q4 => omega)))
                | ((with_reducible refine ie_box ?_)
                   (first
                   | (refine Ef_boxA rfl rfl ?_; (first | ((fail_if_success have := b1); intro b1) | ((fail_if_success have := b2); intro b2) | ((fail_if_success have := b3); intro b3) | ((fail_if_success have := b4); intro b4) | ((fail_if_success have := b5); intro b5) | ((fail_if_success have := b6); intro b6) | ((fail_if_success have := b7); intro b7) | ((fail_if_success have := b8); intro b8) | ((fail_if_success have := b9); intro b9)))
                   | (refine Ef_box1 rfl rfl rfl ?_; (first | ((fail_if_success have := b1); intro b1) | ((fail_if_success have := b2); intro b2) | ((fail_if_success have := b3); intro b3) | ((fail_if_success have := b4); intro b4) | ((fail_if_success have := b5); intro b5) | ((fail_if_success have := b6); intro b6) | ((fail_if_success have := b7); intro b7) | ((fail_if_success have := b8); intro b8) | ((fail_if_success have := b9); intro b9)))))
                | ((with_reducible refine ie_alloc ?_); (first | fail | (((refine' Ef_alloc rfl ?q1 ?_); (case q1 => exact zer_of rfl)); (first | ((fail_if_success have := b1); intro b1) | ((fail_if_success have := b2); intro b2) | ((fail_if_success have := b3); intro b3) | ((fail_if_success have := b4); intro b4) | ((fail_if_success have := b5); intro b5) | ((fail_if_success have := b6); intro b6) | ((fail_if_success have := b7); intro b7) | ((fail_if_success have := b8); intro b8) | ((fail_if_success have := b9); intro b9)))))
                | ((with_reducible refine ie_store ?_)
                   (first
                   | fail
                   | ((refine' Ef_store_rowA rfl rfl ?q1 ?q2 ?q3 ?q4 ?q5 ?q6 ?_); (case q1 => exact siz_of rfl); (case q2 => rfl); (case q3 => (first | assumption | (intro u hu; rcases hu with _ | ⟨_, _ | ⟨_, _ | ⟨_, _ | ⟨_, hu⟩⟩⟩⟩ <;> first | rfl | (cases hu; done)))); (case q4 => (first | exact at0 | exact at1 | exact at2 | exact at3 | exact at4 | exact at5 | exact at6)); (case q5 => omega); (case q6 => assumption))
                   | ((refine' Ef_storeA' rfl rfl ?q1 ?q2 ?q3 ?q4 ?_); (case q1 => exact siz_of rfl); (case q2 => (first | assumption | (intro u hu; rcases hu with _ | ⟨_, _ | ⟨_, _ | ⟨_, _ | ⟨_, hu⟩⟩⟩⟩ <;> first | rfl | (cases hu; done)))); (case q3 => (first | exact at0 | exact at1 | exact at2 | exact at3 | exact at4 | exact at5 | exact at6)); (case q4 => rfl))
                   | ((refine' Ef_storeC rfl rfl ?q1 ?q2 ?q3 ?q4 ?q5 ?_); (case q1 => rfl); (case q2 => exact siz_of rfl); (case q3 => (first | exact at0 | exact at1 | exact at2 | exact at3 | exact at4 | exact at5 | exact at6)); (case q4 => exact Nat.le_of_ble_eq_true rfl); (case q5 => rfl))))
                | ((with_reducible refine ie_callf ?_)
                   (first
                   | ((with_reducible refine g_call 18 ?_); (first | refine Ef_callP rfl rfl ent_18 (fun w _ => may_v x true w hmx) ?_ | refine Ef_callP rfl rfl ent_18 (fun w _ => may_v x false w hmx) ?_))
                   | ((with_reducible refine g_call 21 ?_); (first | refine Ef_callP rfl rfl ent_21 (fun w _ => rmay_v x true w hmx) ?_ | refine Ef_callP rfl rfl ent_21 (fun w _ => rmay_v x false w hmx) ?_))
                   | ((with_reducible refine g_call 17 ?_); (first | refine Ef_callP rfl rfl ent_17 (fun w hp => line_v A len cap l true w (hp.rd hr fun _ => List.not_mem_nil) hl hb) ?_ | refine Ef_callP rfl rfl ent_17 (fun w hp => line_v A len cap l false w (hp.rd hr fun _ => List.not_mem_nil) hl hb) ?_))))
                | ((with_reducible refine ie_app ?_)
                   (first
                   | fail
                   | (((refine' Ef_app0_rd rfl rfl rfl ?q1 ?q2 ?q3 ?q4 ?q5 ?q6 ?q7 ?_); (case q1 => exact app_of rfl); (case q2 => (first | exact at0 | exact at1 | exact at2 | exact at3 | exact at4 | exact at5 | exact at6)); (case q3 => assumption); (case q4 => (first | assumption | (intro u hu; rcases hu with _ | ⟨_, _ | ⟨_, _ | ⟨_, _ | ⟨_, hu⟩⟩⟩⟩ <;> first | rfl | (cases hu; done)))); (case q5 => omega); (case q6 => omega); (case q7 => exact List.not_mem_nil))
                      (first | ((fail_if_success have := A1); intro A1 c1) | ((fail_if_success have := A2); intro A2 c2) | ((fail_if_success have := A3); intro A3 c3) | ((fail_if_success have := A4); intro A4 c4) | ((fail_if_success have := A5); intro A5 c5) | ((fail_if_success have := A6); intro A6 c6) | ((fail_if_success have := A7); intro A7 c7)))
                   | (((refine' Ef_appG_row rfl rfl rfl ?q1 ?q2 ?q3 ?q4 ?q5 ?q6 ?_); (case q1 => exact app_of rfl); (case q2 => (first | exact at0 | exact at1 | exact at2 | exact at3 | exact at4 | exact at5 | exact at6)); (case q3 => (repeat (first | exact .head _ | apply List.Mem.tail))); (case q4 => (first | assumption | (intro u hu; rcases hu with _ | ⟨_, _ | ⟨_, _ | ⟨_, _ | ⟨_, hu⟩⟩⟩⟩ <;> first | rfl | (cases hu; done)))); (case q5 => omega); (case q6 => omega))
                      (first | ((fail_if_success have := A1); intro A1 c1) | ((fail_if_success have := A2); intro A2 c2) | ((fail_if_success have := A3); intro A3 c3) | ((fail_if_success have := A4); intro A4 c4) | ((fail_if_success have := A5); intro A5 c5) | ((fail_if_success have := A6); intro A6 c6) | ((fail_if_success have := A7); intro A7 c7)))
                   | (((refine' Ef_appG_rd rfl rfl rfl ?q1 ?q2 ?q3 ?q4 ?q5 ?q6 ?q7 ?_); (case q1 => exact app_of rfl); (case q2 => (first | exact at0 | exact at1 | exact at2 | exact at3 | exact at4 | exact at5 | exact at6)); (case q3 => assumption); (case q4 => (first | assumption | (intro u hu; rcases hu with _ | ⟨_, _ | ⟨_, _ | ⟨_, _ | ⟨_, hu⟩⟩⟩⟩ <;> first | rfl | (cases hu; done)))); (case q5 => omega); (case q6 => omega); (case q7 => exact List.not_mem_nil))
                      (first | ((fail_if_success have := A1); intro A1 c1) | ((fail_if_success have := A2); intro A2 c2) | ((fail_if_success have := A3); intro A3 c3) | ((fail_if_success have := A4); intro A4 c4) | ((fail_if_success have := A5); intro A5 c5) | ((fail_if_success have := A6); intro A6 c6) | ((fail_if_success have := A7); intro A7 c7)))))
                | ((with_reducible refine ie_bsl ?_)
                   (first
                   | fail
                   | (((refine' Ef_bsl0 rfl ?q1 ?_); (case q1 => exact app_of rfl)); (first | ((fail_if_success have := b1); intro b1) | ((fail_if_success have := b2); intro b2) | ((fail_if_success have := b3); intro b3) | ((fail_if_success have := b4); intro b4) | ((fail_if_success have := b5); intro b5) | ((fail_if_success have := b6); intro b6) | ((fail_if_success have := b7); intro b7) | ((fail_if_success have := b8); intro b8) | ((fail_if_success have := b9); intro b9)))
                   | (((refine' Ef_bslA rfl rfl ?q1 ?q2 ?q3 ?_); (case q1 => exact app_of rfl); (case q2 => rfl); (case q3 => decide)); (first | ((fail_if_success have := b1); intro b1) | ((fail_if_success have := b2); intro b2) | ((fail_if_success have := b3); intro b3) | ((fail_if_success have := b4); intro b4) | ((fail_if_success have := b5); intro b5) | ((fail_if_success have := b6); intro b6) | ((fail_if_success have := b7); intro b7) | ((fail_if_success have := b8); intro b8) | ((fail_if_success have := b9); intro b9)))
                   | (((refine' Ef_bsl1 rfl rfl rfl ?q1 ?_); (case q1 => exact app_of rfl)); (first | ((fail_if_success have := b1); intro b1) | ((fail_if_success have := b2); intro b2) | ((fail_if_success have := b3); intro b3) | ((fail_if_success have := b4); intro b4) | ((fail_if_success have := b5); intro b5) | ((fail_if_success have := b6); intro b6) | ((fail_if_success have := b7); intro b7) | ((fail_if_success have := b8); intro b8) | ((fail_if_success have := b9); intro b9)))))
                | (first | fail)
                | refine Ef_y rfl rfl ?_
                | ((with_reducible refine ie_conv ?_); refine Ef_y' rfl ?_)
                | ((with_reducible refine ie_bmin ?_); refine Ef_y' rfl ?_)
                | ((with_reducible refine ie_bmax ?_); refine Ef_y' rfl ?_))
        exact ret_n [] (res1 rfl rfl) (List.nil_sublist _) ⟨rfl, rfl⟩
    · have e : l.take i = l := List.take_of_length_le (by omega)
      rw [e] at hm
      by_cases h0 : len = 0
      · rw [Rt.line_no (.inl (by omega))]
        repeat' (first
                | with_reducible refine T.seq ?_
                | with_reducible refine T.block ?_
                | with_reducible refine T.region ?_
                | with_reducible refine T.skip ?_
                | with_reducible refine T.ret ?_
                | with_reducible refine T.exit ?_
                | with_reducible refine seqQ_n ?_
                | with_reducible refine seqQ_x ?_
                | with_reducible refine seqQ_r ?_
                | with_reducible refine blockQ_n ?_
                | with_reducible refine blockQ_r ?_
                | with_reducible refine blockQ_x ?_
                | ((with_reducible refine g_blkx ?_); refine blockQ_y rfl ?_)
                | with_reducible refine loopQ_x ?_
                | with_reducible refine loopQ_r ?_
                | with_reducible refine joinQ_r ?_
                | with_reducible refine joinQ_x ?_
                | ((with_reducible refine g_cond ?_); (first | refine T.cond_t rfl ?_ | refine T.cond_f rfl ?_ | (refine T.cond_s rfl ?_ ?_ <;> intro hc)))
                | with_reducible refine TL_nil ?_
                | with_reducible refine TS_nil ?_
                | ((with_reducible refine g_draw ?_); (first | (((with_reducible refine' T.drawM (id := 3) [(0, true), (1, true), (2, true), (3, true), (4, true), (5, true), (6, true), (7, true), (8, false), (9, false)] mixd ?q1 ?_); (case q1 => kernel_rfl)))))
                | ((with_reducible refine TL_y' ?hy ?hd ?_); (case hy => rfl); (case hd => rfl))
                | with_reducible refine TL_e ?_
                | ((with_reducible refine g_TL ?_); (first | refine TL_gy' rfl rfl rfl rfl ?_ | refine TL_gn rfl rfl rfl ?_ | refine TL_gu rfl rfl rfl ?_ | refine TL_ge rfl rfl ?_ | refine TL_gn0 rfl rfl ?_))
                | ((with_reducible refine g_TS ?_); (first | refine TS_y rfl rfl ?_ | refine TS_e rfl ?_ | refine TS_gy rfl rfl rfl rfl ?_ | refine TS_gn rfl rfl rfl rfl ?_ | refine TS_gu rfl rfl rfl rfl ?_ | refine TS_ge rfl rfl rfl ?_ | refine TS_gne rfl rfl rfl rfl ?_ | refine TS_gue rfl rfl rfl rfl ?_ | refine TS_gne0 rfl rfl rfl ?_))
                | ((with_reducible refine TSand ?hd ?_); (case hd => (repeat (first | exact List.nil_sublist _ | refine List.Sublist.cons_cons _ ?_ | refine List.Sublist.cons _ ?_))))
                | ((with_reducible refine TBand ?hd ?_); (case hd => (repeat (first | exact List.nil_sublist _ | refine List.Sublist.cons_cons _ ?_ | refine List.Sublist.cons _ ?_))))
                | ((with_reducible refine g_TB ?_); (first | with_reducible refine TB_run ?_ | refine TB_y rfl rfl ?_ | refine TB_b rfl rfl ?_ ?_ | refine TB_e rfl ?_))
                | ((with_reducible refine is_move ?_); refine ⟨_, Yl_move rfl, ?_⟩)
                | ((with_reducible refine is_assign ?_); refine ⟨_, Yl_assign rfl, ?_⟩)
                | ((with_reducible refine is_pick ?_); (first | refine ⟨_, Yl_pick_t rfl rfl, ?_⟩ | refine ⟨_, Yl_pick_f rfl rfl, ?_⟩))
                | ((with_reducible refine is_nil ?_); refine ⟨_, Yl_nilCheck rfl, ?_⟩)
                | ((with_reducible refine is_fld ?_); (first | ((refine' ⟨_, Yl_fld_ad rfl ?q1, ?_⟩); (case q1 => exact fld_of rfl rfl)) | ((refine' ⟨_, Yl_fld_blk0 rfl ?q1, ?_⟩); (case q1 => exact fld_of rfl rfl)) | ((refine' ⟨_, Yl_fld_blk rfl ?q1, ?_⟩); (case q1 => exact fld_of rfl rfl))))
                | ((with_reducible refine is_load ?_)
                   (first
                   | fail
                   | ((refine' ⟨_, Yl_load_blk rfl ?q1 ?q2 ?q3, ?_⟩); (case q1 => exact one_of rfl); (case q2 => (repeat (first | exact .head _ | apply List.Mem.tail))); (case q3 => rfl))
                   | ((refine' ⟨_, Yl_loadA_blk rfl ?q1 ?q2, ?_⟩); (case q1 => (repeat (first | exact .head _ | apply List.Mem.tail))); (case q2 => exact agg_of rfl))
                   | ((refine' ⟨_, Yl_load_blk rfl ?q1 ?q2 ?q3, ?_⟩); (case q1 => exact one_of rfl); (case q2 => (repeat (first | exact .head _ | apply List.Mem.tail))); (case q3 => assumption))
                   | ((refine' ⟨_, Yl_load_rd rfl ?q1 ?q2 List.not_mem_nil ?q3, ?_⟩); (case q1 => exact one_of rfl); (case q2 => assumption); (case q3 => assumption))
                   | ((refine' ⟨_, Yl_load_row rfl ?q1 ?q2 ?q3, ?_⟩); (case q1 => exact one_of rfl); (case q2 => (repeat (first | exact .head _ | apply List.Mem.tail))); (case q3 => assumption))
                   | ((refine' ⟨_, Yl_loadA_rd rfl ?qa ?qb List.not_mem_nil ?ql ?qc, ?_⟩); (case qa => exact agg_of rfl); (case qb => assumption); (case qc => assumption); (case ql => rfl))
                   | ((refine' ⟨_, Yl_loadA_row rfl ?qa ?qb ?ql ?qc, ?_⟩); (case qa => exact agg_of rfl); (case qb => (repeat (first | exact .head _ | apply List.Mem.tail))); (case qc => assumption); (case ql => rfl))))
                | ((with_reducible refine is_idx ?_)
                   (first
                   | fail
                   | ((refine' ⟨_, Yl_index rfl rfl ?q1 ?q2 ?q3 (Rd.some_ ?q4 ?q5), ?_⟩); (case q1 => exact und_of rfl); (case q2 => exact siz_of rfl); (case q3 => omega); (case q4 => assumption); (case q5 => omega))
                   | ((refine' ⟨_, Yl_index_row rfl rfl ?q1 ?q2 ?q3 ?q4, ?_⟩); (case q1 => exact und_of rfl); (case q2 => exact siz_of rfl); (case q3 => omega); (case q4 => (repeat (first | exact .head _ | apply List.Mem.tail))))
                   | ((refine' ⟨_, Yl_index rfl rfl ?q1 ?q2 ?q3 rfl, ?_⟩); (case q1 => exact und_of rfl); (case q2 => exact siz_of rfl); (case q3 => omega))
                   | ((refine' ⟨_, Yl_index (j := 0) rfl rfl ?q1 ?q2 ?q3 (Rd.some_ ?q4 ?q5), ?_⟩); (case q1 => exact und_of rfl); (case q2 => exact siz_of rfl); (case q3 => omega); (case q4 => assumption); (case q5 => omega))
                   | ((refine' ⟨_, Yl_index_row (j := 0) rfl rfl ?q1 ?q2 ?q3 ?q4, ?_⟩); (case q1 => exact und_of rfl); (case q2 => exact siz_of rfl); (case q3 => omega); (case q4 => (repeat (first | exact .head _ | apply List.Mem.tail))))))
                | ((with_reducible refine is_ext ?_); refine ⟨_, Yl_extract rfl rfl, ?_⟩)
                | ((with_reducible refine is_un ?_); refine ⟨_, Yl_not rfl, ?_⟩)
                | ((with_reducible refine is_len ?_); (first | ((refine' ⟨_, Yl_len_slice rfl ?q1, ?_⟩); (case q1 => exact und_of rfl)) | ((refine' ⟨_, Yl_len_string rfl ?q1, ?_⟩); (case q1 => exact und_of rfl))))
                | ((with_reducible refine is_b_lss ?_); (first | ((refine' ⟨_, Yl_lss_t rfl rfl ?q1, ?_⟩); (case q1 => omega)) | ((refine' ⟨_, Yl_lss_f rfl rfl ?q1, ?_⟩); (case q1 => omega)) | (refine sp_lss rfl rfl ?_ ?_ <;> intro hc)))
                | ((with_reducible refine is_b_leq ?_); (first | ((refine' ⟨_, Yl_leq_t rfl rfl ?q1, ?_⟩); (case q1 => omega)) | ((refine' ⟨_, Yl_leq_f rfl rfl ?q1, ?_⟩); (case q1 => omega)) | (refine sp_leq rfl rfl ?_ ?_ <;> intro hc)))
                | ((with_reducible refine is_b_gtr ?_); (first | ((refine' ⟨_, Yl_gtr_t rfl rfl ?q1, ?_⟩); (case q1 => omega)) | ((refine' ⟨_, Yl_gtr_f rfl rfl ?q1, ?_⟩); (case q1 => omega)) | (refine sp_gtr rfl rfl ?_ ?_ <;> intro hc)))
                | ((with_reducible refine is_b_geq ?_); (first | ((refine' ⟨_, Yl_geq_t rfl rfl ?q1, ?_⟩); (case q1 => omega)) | ((refine' ⟨_, Yl_geq_f rfl rfl ?q1, ?_⟩); (case q1 => omega)) | (refine sp_geq rfl rfl ?_ ?_ <;> intro hc)))
                | ((with_reducible refine is_b_eql ?_)
                   (first
                   | ((refine' ⟨_, Yl_eql_t rfl rfl ?q1, ?_⟩); (case q1 => omega))
                   | ((refine' ⟨_, Yl_eql_f rfl rfl ?q1, ?_⟩); (case q1 => omega))
                   | (refine sp_eql rfl rfl ?_ ?_ <;> intro hc)
                   | ((refine' ⟨_, Yl_remk (m := 2) rfl rfl ?q1 ?q2, ?_⟩); (case q1 => omega); (case q2 => omega))
                   | ((refine' ⟨_, Yl_quo8 (m := 2) rfl rfl ?q1 ?q2 ?q3, ?_⟩); (case q1 => omega); (case q2 => omega); (case q3 => omega))
                   | ((refine' ⟨_, Yl_quo8 (m := 4) rfl rfl ?q1 ?q2 ?q3, ?_⟩); (case q1 => omega); (case q2 => omega); (case q3 => omega))
                   | ((refine' ⟨_, Yl_quo8 (m := 8) rfl rfl ?q1 ?q2 ?q3, ?_⟩); (case q1 => omega); (case q2 => omega); (case q3 => omega))
                   | ((refine' ⟨_, Yl_addS rfl rfl ?q1, ?_⟩); (case q1 => decide))
                   | refine ⟨_, Yl_eql_str rfl rfl, ?_⟩
                   | ((refine' ⟨_, Yl_and8 rfl rfl ?q1 ?q2 ?q3 ?q4, ?_⟩); (case q1 => omega); (case q2 => omega); (case q3 => omega); (case q4 => omega))
                   | ((refine' ⟨_, Yl_eql_bool rfl rfl ?q1, ?_⟩); (case q1 => exact und_of rfl))
                   | ((refine' ⟨_, Yl_eql_strT rfl rfl ?q1, ?_⟩); (case q1 => first | assumption | rfl))
                   | ((refine' ⟨_, Yl_eql_strF rfl rfl ?q1, ?_⟩); (case q1 => first | assumption | decide))
                   | (refine sp_eqlS rfl rfl ?_ ?_ <;> intro hc)))
                | ((with_reducible refine is_b_neq ?_)
                   (first
                   | ((refine' ⟨_, Yl_neq_t rfl rfl ?q1, ?_⟩); (case q1 => omega))
                   | ((refine' ⟨_, Yl_neq_f rfl rfl ?q1, ?_⟩); (case q1 => omega))
                   | (refine sp_neq rfl rfl ?_ ?_ <;> intro hc)
                   | ((refine' ⟨_, Yl_remk (m := 2) rfl rfl ?q1 ?q2, ?_⟩); (case q1 => omega); (case q2 => omega))
                   | ((refine' ⟨_, Yl_quo8 (m := 2) rfl rfl ?q1 ?q2 ?q3, ?_⟩); (case q1 => omega); (case q2 => omega); (case q3 => omega))
                   | ((refine' ⟨_, Yl_quo8 (m := 4) rfl rfl ?q1 ?q2 ?q3, ?_⟩); (case q1 => omega); (case q2 => omega); (case q3 => omega))
                   | ((refine' ⟨_, Yl_quo8 (m := 8) rfl rfl ?q1 ?q2 ?q3, ?_⟩); (case q1 => omega); (case q2 => omega); (case q3 => omega))
                   | ((refine' ⟨_, Yl_addS rfl rfl ?q1, ?_⟩); (case q1 => decide))
                   | refine ⟨_, Yl_eql_str rfl rfl, ?_⟩
                   | ((refine' ⟨_, Yl_and8 rfl rfl ?q1 ?q2 ?q3 ?q4, ?_⟩); (case q1 => omega); (case q2 => omega); (case q3 => omega); (case q4 => omega))
                   | ((refine' ⟨_, Yl_neq_bool rfl rfl ?q1, ?_⟩); (case q1 => exact und_of rfl))
                   | ((refine' ⟨_, Yl_neq_strT rfl rfl ?q1, ?_⟩); (case q1 => first | assumption | decide))
                   | ((refine' ⟨_, Yl_neq_strF rfl rfl ?q1, ?_⟩); (case q1 => first | assumption | rfl))
                   | (refine sp_neqS rfl rfl ?_ ?_ <;> intro hc)))
                | ((with_reducible refine is_b_add ?_)
                   (first
                   | ((refine' ⟨_, Yl_add rfl rfl ?q1 ?q2, ?_⟩); (case q1 => omega); (case q2 => omega))
                   | ((refine' ⟨_, Yl_add8 rfl rfl ?q1 ?q2, ?_⟩); (case q1 => omega); (case q2 => omega))
                   | ((refine' ⟨_, Yl_remk (m := 2) rfl rfl ?q1 ?q2, ?_⟩); (case q1 => omega); (case q2 => omega))
                   | ((refine' ⟨_, Yl_quo8 (m := 2) rfl rfl ?q1 ?q2 ?q3, ?_⟩); (case q1 => omega); (case q2 => omega); (case q3 => omega))
                   | ((refine' ⟨_, Yl_quo8 (m := 4) rfl rfl ?q1 ?q2 ?q3, ?_⟩); (case q1 => omega); (case q2 => omega); (case q3 => omega))
                   | ((refine' ⟨_, Yl_quo8 (m := 8) rfl rfl ?q1 ?q2 ?q3, ?_⟩); (case q1 => omega); (case q2 => omega); (case q3 => omega))
                   | ((refine' ⟨_, Yl_addS rfl rfl ?q1, ?_⟩); (case q1 => decide))
                   | refine ⟨_, Yl_eql_str rfl rfl, ?_⟩
                   | ((refine' ⟨_, Yl_and8 rfl rfl ?q1 ?q2 ?q3 ?q4, ?_⟩); (case q1 => omega); (case q2 => omega); (case q3 => omega); (case q4 => omega))))
                | ((with_reducible refine is_min ?_); refine ⟨_, Yl_min rfl rfl, ?_⟩)
                | ((with_reducible refine is_max ?_); refine ⟨_, Yl_max rfl rfl, ?_⟩)
                | ((with_reducible refine is_b_sub ?_)
                   (first
                   | ((refine' ⟨_, Yl_sub rfl rfl ?q1 ?q2, ?_⟩); (case q1 => omega); (case q2 => omega))
                   | ((refine' ⟨_, Yl_remk (m := 2) rfl rfl ?q1 ?q2, ?_⟩); (case q1 => omega); (case q2 => omega))
                   | ((refine' ⟨_, Yl_quo8 (m := 2) rfl rfl ?q1 ?q2 ?q3, ?_⟩); (case q1 => omega); (case q2 => omega); (case q3 => omega))
                   | ((refine' ⟨_, Yl_quo8 (m := 4) rfl rfl ?q1 ?q2 ?q3, ?_⟩); (case q1 => omega); (case q2 => omega); (case q3 => omega))
                   | ((refine' ⟨_, Yl_quo8 (m := 8) rfl rfl ?q1 ?q2 ?q3, ?_⟩); (case q1 => omega); (case q2 => omega); (case q3 => omega))
                   | ((refine' ⟨_, Yl_addS rfl rfl ?q1, ?_⟩); (case q1 => decide))
                   | refine ⟨_, Yl_eql_str rfl rfl, ?_⟩
                   | ((refine' ⟨_, Yl_and8 rfl rfl ?q1 ?q2 ?q3 ?q4, ?_⟩); (case q1 => omega); (case q2 => omega); (case q3 => omega); (case q4 => omega))))
                | ((with_reducible refine is_build ?_); (first | fail))
                | (first
                  | ((refine' ⟨_, Yl_remk (m := 2) rfl rfl ?q1 ?q2, ?_⟩); (case q1 => omega); (case q2 => omega))
                  | ((refine' ⟨_, Yl_quo8 (m := 2) rfl rfl ?q1 ?q2 ?q3, ?_⟩); (case q1 => omega); (case q2 => omega); (case q3 => omega))
                  | ((refine' ⟨_, Yl_quo8 (m := 4) rfl rfl ?q1 ?q2 ?q3, ?_⟩); (case q1 => omega); (case q2 => omega); (case q3 => omega))
                  | ((refine' ⟨_, Yl_quo8 (m := 8) rfl rfl ?q1 ?q2 ?q3, ?_⟩); (case q1 => omega); (case q2 => omega); (case q3 => omega))
                  | ((refine' ⟨_, Yl_addS rfl rfl ?q1, ?_⟩); (case q1 => decide))
                  | refine ⟨_, Yl_eql_str rfl rfl, ?_⟩
                  | ((refine' ⟨_, Yl_and8 rfl rfl ?q1 ?q2 ?q3 ?q4, ?_⟩); (case q1 => omega); (case q2 => omega); (case q3 => omega); (case q4 => omega)))
                | ((with_reducible refine ie_box ?_)
                   (first
                   | (refine Ef_boxA rfl rfl ?_; (first | ((fail_if_success have := b1); intro b1) | ((fail_if_success have := b2); intro b2) | ((fail_if_success have := b3); intro b3) | ((fail_if_success have := b4); intro b4) | ((fail_if_success have := b5); intro b5) | ((fail_if_success have := b6); intro b6) | ((fail_if_success have := b7); intro b7) | ((fail_if_success have := b8); intro b8) | ((fail_if_success have := b9); intro b9)))
                   | (refine Ef_box1 rfl rfl rfl ?_; (first | ((fail_if_success have := b1); intro b1) | ((fail_if_success have := b2); intro b2) | ((fail_if_success have := b3); intro b3) | ((fail_if_success have := b4); intro b4) | ((fail_if_success have := b5); intro b5) | ((fail_if_success have := b6); intro b6) | ((fail_if_success have := b7); intro b7) | ((fail_if_success have := b8); intro b8) | ((fail_if_success have := b9); intro b9)))))
                | ((with_reducible refine ie_alloc ?_); (first | fail | (((refine' Ef_alloc rfl ?q1 ?_); (case q1 => exact zer_of rfl)); (first | ((fail_if_success have := b1); intro b1) | ((fail_if_success have := b2); intro b2) | ((fail_if_success have := b3); intro b3) | ((fail_if_success have := b4); intro b4) | ((fail_if_success have := b5); intro b5) | ((fail_if_success have := b6); intro b6) | ((fail_if_success have := b7); intro b7) | ((fail_if_success have := b8); intro b8) | ((fail_if_success have := b9); intro b9)))))
                | ((with_reducible refine ie_store ?_)
                   (first
                   | fail
                   | ((refine' Ef_store_rowA rfl rfl ?q1 ?q2 ?q3 ?q4 ?q5 ?q6 ?_); (case q1 => exact siz_of rfl); (case q2 => rfl); (case q3 => (first | assumption | (intro u hu; rcases hu with _ | ⟨_, _ | ⟨_, _ | ⟨_, _ | ⟨_, hu⟩⟩⟩⟩ <;> first | rfl | (cases hu; done)))); (case q4 => (first | exact at0 | exact at1 | exact at2 | exact at3 | exact at4 | exact at5 | exact at6)); (case q5 => omega); (case q6 => assumption))
                   | ((refine' Ef_storeA' rfl rfl ?q1 ?q2 ?q3 ?q4 ?_); (case q1 => exact siz_of rfl); (case q2 => (first | assumption | (intro u hu; rcases hu with _ | ⟨_, _ | ⟨_, _ | ⟨_, _ | ⟨_, hu⟩⟩⟩⟩ <;> first | rfl | (cases hu; done)))); (case q3 => (first | exact at0 | exact at1 | exact at2 | exact at3 | exact at4 | exact at5 | exact at6)); (case q4 => rfl))
                   | ((refine' Ef_storeC rfl rfl ?q1 ?q2 ?q3 ?q4 ?q5 ?_); (case q1 => rfl); (case q2 => exact siz_of rfl); (case q3 => (first | exact at0 | exact at1 | exact at2 | exact at3 | exact at4 | exact at5 | exact at6)); (case q4 => exact Nat.le_of_ble_eq_true rfl); (case q5 => rfl))))
                | ((with_reducible refine ie_callf ?_)
                   (first
                   | ((with_reducible refine g_call 18 ?_); (first | refine Ef_callP rfl rfl ent_18 (fun w _ => may_v x true w hmx) ?_ | refine Ef_callP rfl rfl ent_18 (fun w _ => may_v x false w hmx) ?_))
                   | ((with_reducible refine g_call 21 ?_); (first | refine Ef_callP rfl rfl ent_21 (fun w _ => rmay_v x true w hmx) ?_ | refine Ef_callP rfl rfl ent_21 (fun w _ => rmay_v x false w hmx) ?_))
                   | ((with_reducible refine g_call 17 ?_); (first | refine Ef_callP rfl rfl ent_17 (fun w hp => line_v A len cap l true w (hp.rd hr fun _ => List.not_mem_nil) hl hb) ?_ | refine Ef_callP rfl rfl ent_17 (fun w hp => line_v A len cap l false w (hp.rd hr fun _ => List.not_mem_nil) hl hb) ?_))))
                | ((with_reducible refine ie_app ?_)
                   (first
                   | fail
                   | (((refine' Ef_app0_rd rfl rfl rfl ?q1 ?q2 ?q3 ?q4 ?q5 ?q6 ?q7 ?_); (case q1 => exact app_of rfl); (case q2 => (first | exact at0 | exact at1 | exact at2 | exact at3 | exact at4 | exact at5 | exact at6)); (case q3 => assumption); (case q4 => (first | assumption | (intro u hu; rcases hu with _ | ⟨_, _ | ⟨_, _ | ⟨_, _ | ⟨_, hu⟩⟩⟩⟩ <;> first | rfl | (cases hu; done)))); (case q5 => omega); (case q6 => omega); (case q7 => exact List.not_mem_nil))
                      (first | ((fail_if_success have := A1); intro A1 c1) | ((fail_if_success have := A2); intro A2 c2) | ((fail_if_success have := A3); intro A3 c3) | ((fail_if_success have := A4); intro A4 c4) | ((fail_if_success have := A5); intro A5 c5) | ((fail_if_success have := A6); intro A6 c6) | ((fail_if_success have := A7); intro A7 c7)))
                   | (((refine' Ef_appG_row rfl rfl rfl ?q1 ?q2 ?q3 ?q4 ?q5 ?q6 ?_); (case q1 => exact app_of rfl); (case q2 => (first | exact at0 | exact at1 | exact at2 | exact at3 | exact at4 | exact at5 | exact at6)); (case q3 => (repeat (first | exact .head _ | apply List.Mem.tail))); (case q4 => (first | assumption | (intro u hu; rcases hu with _ | ⟨_, _ | ⟨_, _ | ⟨_, _ | ⟨_, hu⟩⟩⟩⟩ <;> first | rfl | (cases hu; done)))); (case q5 => omega); (case q6 => omega))
                      (first | ((fail_if_success have := A1); intro A1 c1) | ((fail_if_success have := A2); intro A2 c2) | ((fail_if_success have := A3); intro A3 c3) | ((fail_if_success have := A4); intro A4 c4) | ((fail_if_success have := A5); intro A5 c5) | ((fail_if_success have := A6); intro A6 c6) | ((fail_if_success have := A7); intro A7 c7)))
                   | (((refine' Ef_appG_rd rfl rfl rfl ?q1 ?q2 ?q3 ?q4 ?q5 ?q6 ?q7 ?_); (case q1 => exact app_of rfl); (case q2 => (first | exact at0 | exact at1 | exact at2 | exact at3 | exact at4 | exact at5 | exact at6)); (case q3 => assumption); (case q4 => (first | assumption | (intro u hu; rcases hu with _ | ⟨_, _ | ⟨_, _ | ⟨_, _ | ⟨_, hu⟩⟩⟩⟩ <;> first | rfl | (cases hu; done)))); (case q5 => omega); (case q6 => omega); (case q7 => exact List.not_mem_nil))
                      (first | ((fail_if_success have := A1); intro A1 c1) | ((fail_if_success have := A2); intro A2 c2) | ((fail_if_success have := A3); intro A3 c3) | ((fail_if_success have := A4); intro A4 c4) | ((fail_if_success have := A5); intro A5 c5) | ((fail_if_success have := A6); intro A6 c6) | ((fail_if_success have := A7); intro A7 c7)))))
                | ((with_reducible refine ie_bsl ?_)
                   (first
                   | fail
                   | (((refine' Ef_bsl0 rfl ?q1 ?_); (case q1 => exact app_of rfl)); (first | ((fail_if_success have := b1); intro b1) | ((fail_if_success have := b2); intro b2) | ((fail_if_success have := b3); intro b3) | ((fail_if_success have := b4); intro b4) | ((fail_if_success have := b5); intro b5) | ((fail_if_success have := b6); intro b6) | ((fail_if_success have := b7); intro b7) | ((fail_if_success have := b8); intro b8) | ((fail_if_success have := b9); intro b9)))
                   | (((refine' Ef_bslA rfl rfl ?q1 ?q2 ?q3 ?_); (case q1 => exact app_of rfl); (case q2 => rfl); (case q3 => decide)); (first | ((fail_if_success have := b1); intro b1) | ((fail_if_success have := b2); intro b2) | ((fail_if_success have := b3); intro b3) | ((fail_if_success have := b4); intro b4) | ((fail_if_success have := b5); intro b5) | ((fail_if_success have := b6); intro b6) | ((fail_if_success have := b7); intro b7) | ((fail_if_success have := b8); intro b8) | ((fail_if_success have := b9); intro b9)))
                   | (((refine' Ef_bsl1 rfl rfl rfl ?q1 ?_); (case q1 => exact app_of rfl)); (first | ((fail_if_success have := b1); intro b1) | ((fail_if_success have := b2); intro b2) | ((fail_if_success have := b3); intro b3) | ((fail_if_success have := b4); intro b4) | ((fail_if_success have := b5); intro b5) | ((fail_if_success have := b6); intro b6) | ((fail_if_success have := b7); intro b7) | ((fail_if_success have := b8); intro b8) | ((fail_if_success have := b9); intro b9)))))
                | (first | fail)
                | refine Ef_y rfl rfl ?_
                | ((with_reducible refine ie_conv ?_); refine Ef_y' rfl ?_)
                | ((with_reducible refine ie_bmin ?_); refine Ef_y' rfl ?_)
                | ((with_reducible refine ie_bmax ?_); refine Ef_y' rfl ?_))
        exact ret_n [] (res1 rfl rfl) (List.nil_sublist _) ⟨rfl, rfl⟩
      · rw [Rt.line_of (by omega) (by omega) hm]
        repeat' (first
                | with_reducible refine T.seq ?_
                | with_reducible refine T.block ?_
                | with_reducible refine T.region ?_
                | with_reducible refine T.skip ?_
                | with_reducible refine T.ret ?_
                | with_reducible refine T.exit ?_
                | with_reducible refine seqQ_n ?_
                | with_reducible refine seqQ_x ?_
                | with_reducible refine seqQ_r ?_
                | with_reducible refine blockQ_n ?_
                | with_reducible refine blockQ_r ?_
                | with_reducible refine blockQ_x ?_
                | ((with_reducible refine g_blkx ?_); refine blockQ_y rfl ?_)
                | with_reducible refine loopQ_x ?_
                | with_reducible refine loopQ_r ?_
                | with_reducible refine joinQ_r ?_
                | with_reducible refine joinQ_x ?_
                | ((with_reducible refine g_cond ?_); (first | refine T.cond_t rfl ?_ | refine T.cond_f rfl ?_ | (refine T.cond_s rfl ?_ ?_ <;> intro hc)))
                | with_reducible refine TL_nil ?_
                | with_reducible refine TS_nil ?_
                | ((with_reducible refine g_draw ?_); (first | (((with_reducible refine' T.drawM (id := 3) [(0, true), (1, true), (2, true), (3, true), (4, true), (5, true), (6, true), (7, true), (8, false), (9, false)] mixd ?q1 ?_); (case q1 => kernel_rfl)))))
                | ((with_reducible refine TL_y' ?hy ?hd ?_); (case hy => rfl); (case hd => rfl))
                | with_reducible refine TL_e ?_
                | ((with_reducible refine g_TL ?_); (first | refine TL_gy' rfl rfl rfl rfl ?_ | refine TL_gn rfl rfl rfl ?_ | refine TL_gu rfl rfl rfl ?_ | refine TL_ge rfl rfl ?_ | refine TL_gn0 rfl rfl ?_))
                | ((with_reducible refine g_TS ?_); (first | refine TS_y rfl rfl ?_ | refine TS_e rfl ?_ | refine TS_gy rfl rfl rfl rfl ?_ | refine TS_gn rfl rfl rfl rfl ?_ | refine TS_gu rfl rfl rfl rfl ?_ | refine TS_ge rfl rfl rfl ?_ | refine TS_gne rfl rfl rfl rfl ?_ | refine TS_gue rfl rfl rfl rfl ?_ | refine TS_gne0 rfl rfl rfl ?_))
                | ((with_reducible refine TSand ?hd ?_); (case hd => (repeat (first | exact List.nil_sublist _ | refine List.Sublist.cons_cons _ ?_ | refine List.Sublist.cons _ ?_))))
                | ((with_reducible refine TBand ?hd ?_); (case hd => (repeat (first | exact List.nil_sublist _ | refine List.Sublist.cons_cons _ ?_ | refine List.Sublist.cons _ ?_))))
                | ((with_reducible refine g_TB ?_); (first | with_reducible refine TB_run ?_ | refine TB_y rfl rfl ?_ | refine TB_b rfl rfl ?_ ?_ | refine TB_e rfl ?_))
                | ((with_reducible refine is_move ?_); refine ⟨_, Yl_move rfl, ?_⟩)
                | ((with_reducible refine is_assign ?_); refine ⟨_, Yl_assign rfl, ?_⟩)
                | ((with_reducible refine is_pick ?_); (first | refine ⟨_, Yl_pick_t rfl rfl, ?_⟩ | refine ⟨_, Yl_pick_f rfl rfl, ?_⟩))
                | ((with_reducible refine is_nil ?_); refine ⟨_, Yl_nilCheck rfl, ?_⟩)
                | ((with_reducible refine is_fld ?_); (first | ((refine' ⟨_, Yl_fld_ad rfl ?q1, ?_⟩); (case q1 => exact fld_of rfl rfl)) | ((refine' ⟨_, Yl_fld_blk0 rfl ?q1, ?_⟩); (case q1 => exact fld_of rfl rfl)) | ((refine' ⟨_, Yl_fld_blk rfl ?q1, ?_⟩); (case q1 => exact fld_of rfl rfl))))
                | ((with_reducible refine is_load ?_)
                   (first
                   | fail
                   | ((refine' ⟨_, Yl_load_blk rfl ?q1 ?q2 ?q3, ?_⟩); (case q1 => exact one_of rfl); (case q2 => (repeat (first | exact .head _ | apply List.Mem.tail))); (case q3 => rfl))
                   | ((refine' ⟨_, Yl_loadA_blk rfl ?q1 ?q2, ?_⟩); (case q1 => (repeat (first | exact .head _ | apply List.Mem.tail))); (case q2 => exact agg_of rfl))
                   | ((refine' ⟨_, Yl_load_blk rfl ?q1 ?q2 ?q3, ?_⟩); (case q1 => exact one_of rfl); (case q2 => (repeat (first | exact .head _ | apply List.Mem.tail))); (case q3 => assumption))
                   | ((refine' ⟨_, Yl_load_rd rfl ?q1 ?q2 List.not_mem_nil ?q3, ?_⟩); (case q1 => exact one_of rfl); (case q2 => assumption); (case q3 => assumption))
                   | ((refine' ⟨_, Yl_load_row rfl ?q1 ?q2 ?q3, ?_⟩); (case q1 => exact one_of rfl); (case q2 => (repeat (first | exact .head _ | apply List.Mem.tail))); (case q3 => assumption))
                   | ((refine' ⟨_, Yl_loadA_rd rfl ?qa ?qb List.not_mem_nil ?ql ?qc, ?_⟩); (case qa => exact agg_of rfl); (case qb => assumption); (case qc => assumption); (case ql => rfl))
                   | ((refine' ⟨_, Yl_loadA_row rfl ?qa ?qb ?ql ?qc, ?_⟩); (case qa => exact agg_of rfl); (case qb => (repeat (first | exact .head _ | apply List.Mem.tail))); (case qc => assumption); (case ql => rfl))))
                | ((with_reducible refine is_idx ?_)
                   (first
                   | fail
                   | ((refine' ⟨_, Yl_index rfl rfl ?q1 ?q2 ?q3 (Rd.some_ ?q4 ?q5), ?_⟩); (case q1 => exact und_of rfl); (case q2 => exact siz_of rfl); (case q3 => omega); (case q4 => assumption); (case q5 => omega))
                   | ((refine' ⟨_, Yl_index_row rfl rfl ?q1 ?q2 ?q3 ?q4, ?_⟩); (case q1 => exact und_of rfl); (case q2 => exact siz_of rfl); (case q3 => omega); (case q4 => (repeat (first | exact .head _ | apply List.Mem.tail))))
                   | ((refine' ⟨_, Yl_index rfl rfl ?q1 ?q2 ?q3 rfl, ?_⟩); (case q1 => exact und_of rfl); (case q2 => exact siz_of rfl); (case q3 => omega))
                   | ((refine' ⟨_, Yl_index (j := 0) rfl rfl ?q1 ?q2 ?q3 (Rd.some_ ?q4 ?q5), ?_⟩); (case q1 => exact und_of rfl); (case q2 => exact siz_of rfl); (case q3 => omega); (case q4 => assumption); (case q5 => omega))
                   | ((refine' ⟨_, Yl_index_row (j := 0) rfl rfl ?q1 ?q2 ?q3 ?q4, ?_⟩); (case q1 => exact und_of rfl); (case q2 => exact siz_of rfl); (case q3 => omega); (case q4 => (repeat (first | exact .head _ | apply List.Mem.tail))))))
                | ((with_reducible refine is_ext ?_); refine ⟨_, Yl_extract rfl rfl, ?_⟩)
                | ((with_reducible refine is_un ?_); refine ⟨_, Yl_not rfl, ?_⟩)
                | ((with_reducible refine is_len ?_); (first | ((refine' ⟨_, Yl_len_slice rfl ?q1, ?_⟩); (case q1 => exact und_of rfl)) | ((refine' ⟨_, Yl_len_string rfl ?q1, ?_⟩); (case q1 => exact und_of rfl))))
                | ((with_reducible refine is_b_lss ?_); (first | ((refine' ⟨_, Yl_lss_t rfl rfl ?q1, ?_⟩); (case q1 => omega)) | ((refine' ⟨_, Yl_lss_f rfl rfl ?q1, ?_⟩); (case q1 => omega)) | (refine sp_lss rfl rfl ?_ ?_ <;> intro hc)))
                | ((with_reducible refine is_b_leq ?_); (first | ((refine' ⟨_, Yl_leq_t rfl rfl ?q1, ?_⟩); (case q1 => omega)) | ((refine' ⟨_, Yl_leq_f rfl rfl ?q1, ?_⟩); (case q1 => omega)) | (refine sp_leq rfl rfl ?_ ?_ <;> intro hc)))
                | ((with_reducible refine is_b_gtr ?_); (first | ((refine' ⟨_, Yl_gtr_t rfl rfl ?q1, ?_⟩); (case q1 => omega)) | ((refine' ⟨_, Yl_gtr_f rfl rfl ?q1, ?_⟩); (case q1 => omega)) | (refine sp_gtr rfl rfl ?_ ?_ <;> intro hc)))
                | ((with_reducible refine is_b_geq ?_); (first | ((refine' ⟨_, Yl_geq_t rfl rfl ?q1, ?_⟩); (case q1 => omega)) | ((refine' ⟨_, Yl_geq_f rfl rfl ?q1, ?_⟩); (case q1 => omega)) | (refine sp_geq rfl rfl ?_ ?_ <;> intro hc)))
                | ((with_reducible refine is_b_eql ?_)
                   (first
                   | ((refine' ⟨_, Yl_eql_t rfl rfl ?q1, ?_⟩); (case q1 => omega))
                   | ((refine' ⟨_, Yl_eql_f rfl rfl ?q1, ?_⟩); (case q1 => omega))
                   | (refine sp_eql rfl rfl ?_ ?_ <;> intro hc)
                   | ((refine' ⟨_, Yl_remk (m := 2) rfl rfl ?q1 ?q2, ?_⟩); (case q1 => omega); (case q2 => omega))
                   | ((refine' ⟨_, Yl_quo8 (m := 2) rfl rfl ?q1 ?q2 ?q3, ?_⟩); (case q1 => omega); (case q2 => omega); (case q3 => omega))
                   | ((refine' ⟨_, Yl_quo8 (m := 4) rfl rfl ?q1 ?q2 ?q3, ?_⟩); (case q1 => omega); (case q2 => omega); (case q3 => omega))
                   | ((refine' ⟨_, Yl_quo8 (m := 8) rfl rfl ?q1 ?q2 ?q3, ?_⟩); (case q1 => omega); (case q2 => omega); (case q3 => omega))
                   | ((refine' ⟨_, Yl_addS rfl rfl ?q1, ?_⟩); (case q1 => decide))
                   | refine ⟨_, Yl_eql_str rfl rfl, ?_⟩
                   | ((refine' ⟨_, Yl_and8 rfl rfl ?q1 ?q2 ?q3 ?q4, ?_⟩); (case q1 => omega); (case q2 => omega); (case q3 => omega); (case q4 => omega))
                   | ((refine' ⟨_, Yl_eql_bool rfl rfl ?q1, ?_⟩); (case q1 => exact und_of rfl))
                   | ((refine' ⟨_, Yl_eql_strT rfl rfl ?q1, ?_⟩); (case q1 => first | assumption | rfl))
                   | ((refine' ⟨_, Yl_eql_strF rfl rfl ?q1, ?_⟩); (case q1 => first | assumption | decide))
                   | (refine sp_eqlS rfl rfl ?_ ?_ <;> intro hc)))
                | ((with_reducible refine is_b_neq ?_)
                   (first
                   | ((refine' ⟨_, Yl_neq_t rfl rfl ?q1, ?_⟩); (case q1 => omega))
                   | ((refine' ⟨_, Yl_neq_f rfl rfl ?q1, ?_⟩); (case q1 => omega))
                   | (refine sp_neq rfl rfl ?_ ?_ <;> intro hc)
                   | ((refine' ⟨_, Yl_remk (m := 2) rfl rfl ?q1 ?q2, ?_⟩); (case q1 => omega); (case q2 => omega))
                   | ((refine' ⟨_, Yl_quo8 (m := 2) rfl rfl ?q1 ?q2 ?q3, ?_⟩); (case q1 => omega); (case q2 => omega); (case q3 => omega))
                   | ((refine' ⟨_, Yl_quo8 (m := 4) rfl rfl ?q1 ?q2 ?q3, ?_⟩); (case q1 => omega); (case q2 => omega); (case q3 => omega))
                   | ((refine' ⟨_, Yl_quo8 (m := 8) rfl rfl ?q1 ?q2 ?q3, ?_⟩); (case q1 => omega); (case q2 => omega); (case q3 => omega))
                   | ((refine' ⟨_, Yl_addS rfl rfl ?q1, ?_⟩); (case q1 => decide))
                   | refine ⟨_, Yl_eql_str rfl rfl, ?_⟩
                   | ((refine' ⟨_, Yl_and8 rfl rfl ?q1 ?q2 ?q3 ?q4, ?_⟩); (case q1 => omega); (case q2 => omega); (case q3 => omega); (case q4 => omega))
                   | ((refine' ⟨_, Yl_neq_bool rfl rfl ?q1, ?_⟩); (case q1 => exact und_of rfl))
                   | ((refine' ⟨_, Yl_neq_strT rfl rfl ?q1, ?_⟩); (case q1 => first | assumption | decide))
                   | ((refine' ⟨_, Yl_neq_strF rfl rfl ?q1, ?_⟩); (case q1 => first | assumption | rfl))
                   | (refine sp_neqS rfl rfl ?_ ?_ <;> intro hc)))
                | ((with_reducible refine is_b_add ?_)
                   (first
                   | ((refine' ⟨_, Yl_add rfl rfl ?q1 ?q2, ?_⟩); (case q1 => omega); (case q2 => omega))
                   | ((refine' ⟨_, Yl_add8 rfl rfl ?q1 ?q2, ?_⟩); (case q1 => omega); (case q2 => omega))
                   | ((refine' ⟨_, Yl_remk (m := 2) rfl rfl ?q1 ?q2, ?_⟩); (case q1 => omega); (case q2 => omega))
                   | ((refine' ⟨_, Yl_quo8 (m := 2) rfl rfl ?q1 ?q2 ?q3, ?_⟩); (case q1 => omega); (case q2 => omega); (case q3 => omega))
                   | ((refine' ⟨_, Yl_quo8 (m := 4) rfl rfl ?q1 ?q2 ?q3, ?_⟩); (case q1 => omega); (case q2 => omega); (case q3 => omega))
                   | ((refine' ⟨_, Yl_quo8 (m := 8) rfl rfl ?q1 ?q2 ?q3, ?_⟩); (case q1 => omega); (case q2 => omega); (case q3 => omega))
                   | ((refine' ⟨_, Yl_addS rfl rfl ?q1, ?_⟩); (case q1 => decide))
                   | refine ⟨_, Yl_eql_str rfl rfl, ?_⟩
                   | ((refine' ⟨_, Yl_and8 rfl rfl ?q1 ?q2 ?q3 ?q4, ?_⟩); (case q1 => omega); (case q2 => omega); (case q3 => omega); (case q4 => omega))))
                | ((with_reducible refine is_min ?_); refine ⟨_, Yl_min rfl rfl, ?_⟩)
                | ((with_reducible refine is_max ?_); refine ⟨_, Yl_max rfl rfl, ?_⟩)
                | ((with_reducible refine is_b_sub ?_)
                   (first
                   | ((refine' ⟨_, Yl_sub rfl rfl ?q1 ?q2, ?_⟩); (case q1 => omega); (case q2 => omega))
                   | ((refine' ⟨_, Yl_remk (m := 2) rfl rfl ?q1 ?q2, ?_⟩); (case q1 => omega); (case q2 => omega))
                   | ((refine' ⟨_, Yl_quo8 (m := 2) rfl rfl ?q1 ?q2 ?q3, ?_⟩); (case q1 => omega); (case q2 => omega); (case q3 => omega))
                   | ((refine' ⟨_, Yl_quo8 (m := 4) rfl rfl ?q1 ?q2 ?q3, ?_⟩); (case q1 => omega); (case q2 => omega); (case q3 => omega))
                   | ((refine' ⟨_, Yl_quo8 (m := 8) rfl rfl ?q1 ?q2 ?q3, ?_⟩); (case q1 => omega); (case q2 => omega); (case q3 => omega))
                   | ((refine' ⟨_, Yl_addS rfl rfl ?q1, ?_⟩); (case q1 => decide))
                   | refine ⟨_, Yl_eql_str rfl rfl, ?_⟩
                   | ((refine' ⟨_, Yl_and8 rfl rfl ?q1 ?q2 ?q3 ?q4, ?_⟩); (case q1 => omega); (case q2 => omega); (case q3 => omega); (case q4 => omega))))
                | ((with_reducible refine is_build ?_); (first | fail))
                | (first
                  | ((refine' ⟨_, Yl_remk (m := 2) rfl rfl ?q1 ?q2, ?_⟩); (case q1 => omega); (case q2 => omega))
                  | ((refine' ⟨_, Yl_quo8 (m := 2) rfl rfl ?q1 ?q2 ?q3, ?_⟩); (case q1 => omega); (case q2 => omega); (case q3 => omega))
                  | ((refine' ⟨_, Yl_quo8 (m := 4) rfl rfl ?q1 ?q2 ?q3, ?_⟩); (case q1 => omega); (case q2 => omega); (case q3 => omega))
                  | ((refine' ⟨_, Yl_quo8 (m := 8) rfl rfl ?q1 ?q2 ?q3, ?_⟩); (case q1 => omega); (case q2 => omega); (case q3 => omega))
                  | ((refine' ⟨_, Yl_addS rfl rfl ?q1, ?_⟩); (case q1 => decide))
                  | refine ⟨_, Yl_eql_str rfl rfl, ?_⟩
                  | ((refine' ⟨_, Yl_and8 rfl rfl ?q1 ?q2 ?q3 ?q4, ?_⟩); (case q1 => omega); (case q2 => omega); (case q3 => omega); (case q4 => omega)))
                | ((with_reducible refine ie_box ?_)
                   (first
                   | (refine Ef_boxA rfl rfl ?_; (first | ((fail_if_success have := b1); intro b1) | ((fail_if_success have := b2); intro b2) | ((fail_if_success have := b3); intro b3) | ((fail_if_success have := b4); intro b4) | ((fail_if_success have := b5); intro b5) | ((fail_if_success have := b6); intro b6) | ((fail_if_success have := b7); intro b7) | ((fail_if_success have := b8); intro b8) | ((fail_if_success have := b9); intro b9)))
                   | (refine Ef_box1 rfl rfl rfl ?_; (first | ((fail_if_success have := b1); intro b1) | ((fail_if_success have := b2); intro b2) | ((fail_if_success have := b3); intro b3) | ((fail_if_success have := b4); intro b4) | ((fail_if_success have := b5); intro b5) | ((fail_if_success have := b6); intro b6) | ((fail_if_success have := b7); intro b7) | ((fail_if_success have := b8); intro b8) | ((fail_if_success have := b9); intro b9)))))
                | ((with_reducible refine ie_alloc ?_); (first | fail | (((refine' Ef_alloc rfl ?q1 ?_); (case q1 => exact zer_of rfl)); (first | ((fail_if_success have := b1); intro b1) | ((fail_if_success have := b2); intro b2) | ((fail_if_success have := b3); intro b3) | ((fail_if_success have := b4); intro b4) | ((fail_if_success have := b5); intro b5) | ((fail_if_success have := b6); intro b6) | ((fail_if_success have := b7); intro b7) | ((fail_if_success have := b8); intro b8) | ((fail_if_success have := b9); intro b9)))))
                | ((with_reducible refine ie_store ?_)
                   (first
                   | fail
                   | ((refine' Ef_store_rowA rfl rfl ?q1 ?q2 ?q3 ?q4 ?q5 ?q6 ?_); (case q1 => exact siz_of rfl); (case q2 => rfl); (case q3 => (first | assumption | (intro u hu; rcases hu with _ | ⟨_, _ | ⟨_, _ | ⟨_, _ | ⟨_, hu⟩⟩⟩⟩ <;> first | rfl | (cases hu; done)))); (case q4 => (first | exact at0 | exact at1 | exact at2 | exact at3 | exact at4 | exact at5 | exact at6)); (case q5 => omega); (case q6 => assumption))
                   | ((refine' Ef_storeA' rfl rfl ?q1 ?q2 ?q3 ?q4 ?_); (case q1 => exact siz_of rfl); (case q2 => (first | assumption | (intro u hu; rcases hu with _ | ⟨_, _ | ⟨_, _ | ⟨_, _ | ⟨_, hu⟩⟩⟩⟩ <;> first | rfl | (cases hu; done)))); (case q3 => (first | exact at0 | exact at1 | exact at2 | exact at3 | exact at4 | exact at5 | exact at6)); (case q4 => rfl))
                   | ((refine' Ef_storeC rfl rfl ?q1 ?q2 ?q3 ?q4 ?q5 ?_); (case q1 => rfl); (case q2 => exact siz_of rfl); (case q3 => (first | exact at0 | exact at1 | exact at2 | exact at3 | exact at4 | exact at5 | exact at6)); (case q4 => exact Nat.le_of_ble_eq_true rfl); (case q5 => rfl))))
                | ((with_reducible refine ie_callf ?_)
                   (first
                   | ((with_reducible refine g_call 18 ?_); (first | refine Ef_callP rfl rfl ent_18 (fun w _ => may_v x true w hmx) ?_ | refine Ef_callP rfl rfl ent_18 (fun w _ => may_v x false w hmx) ?_))
                   | ((with_reducible refine g_call 21 ?_); (first | refine Ef_callP rfl rfl ent_21 (fun w _ => rmay_v x true w hmx) ?_ | refine Ef_callP rfl rfl ent_21 (fun w _ => rmay_v x false w hmx) ?_))
                   | ((with_reducible refine g_call 17 ?_); (first | refine Ef_callP rfl rfl ent_17 (fun w hp => line_v A len cap l true w (hp.rd hr fun _ => List.not_mem_nil) hl hb) ?_ | refine Ef_callP rfl rfl ent_17 (fun w hp => line_v A len cap l false w (hp.rd hr fun _ => List.not_mem_nil) hl hb) ?_))))
                | ((with_reducible refine ie_app ?_)
                   (first
                   | fail
                   | (((refine' Ef_app0_rd rfl rfl rfl ?q1 ?q2 ?q3 ?q4 ?q5 ?q6 ?q7 ?_); (case q1 => exact app_of rfl); (case q2 => (first | exact at0 | exact at1 | exact at2 | exact at3 | exact at4 | exact at5 | exact at6)); (case q3 => assumption); (case q4 => (first | assumption | (intro u hu; rcases hu with _ | ⟨_, _ | ⟨_, _ | ⟨_, _ | ⟨_, hu⟩⟩⟩⟩ <;> first | rfl | (cases hu; done)))); (case q5 => omega); (case q6 => omega); (case q7 => exact List.not_mem_nil))
                      (first | ((fail_if_success have := A1); intro A1 c1) | ((fail_if_success have := A2); intro A2 c2) | ((fail_if_success have := A3); intro A3 c3) | ((fail_if_success have := A4); intro A4 c4) | ((fail_if_success have := A5); intro A5 c5) | ((fail_if_success have := A6); intro A6 c6) | ((fail_if_success have := A7); intro A7 c7)))
                   | (((refine' Ef_appG_row rfl rfl rfl ?q1 ?q2 ?q3 ?q4 ?q5 ?q6 ?_); (case q1 => exact app_of rfl); (case q2 => (first | exact at0 | exact at1 | exact at2 | exact at3 | exact at4 | exact at5 | exact at6)); (case q3 => (repeat (first | exact .head _ | apply List.Mem.tail))); (case q4 => (first | assumption | (intro u hu; rcases hu with _ | ⟨_, _ | ⟨_, _ | ⟨_, _ | ⟨_, hu⟩⟩⟩⟩ <;> first | rfl | (cases hu; done)))); (case q5 => omega); (case q6 => omega))
                      (first | ((fail_if_success have := A1); intro A1 c1) | ((fail_if_success have := A2); intro A2 c2) | ((fail_if_success have := A3); intro A3 c3) | ((fail_if_success have := A4); intro A4 c4) | ((fail_if_success have := A5); intro A5 c5) | ((fail_if_success have := A6); intro A6 c6) | ((fail_if_success have := A7); intro A7 c7)))
                   | (((refine' Ef_appG_rd rfl rfl rfl ?q1 ?q2 ?q3 ?q4 ?q5 ?q6 ?q7 ?_); (case q1 => exact app_of rfl); (case q2 => (first | exact at0 | exact at1 | exact at2 | exact at3 | exact at4 | exact at5 | exact at6)); (case q3 => assumption); (case q4 => (first | assumption | (intro u hu; rcases hu with _ | ⟨_, _ | ⟨_, _ | ⟨_, _ | ⟨_, hu⟩⟩⟩⟩ <;> first | rfl | (cases hu; done)))); (case q5 => omega); (case q6 => omega); (case q7 => exact List.not_mem_nil))
                      (first | ((fail_if_success have := A1); intro A1 c1) | ((fail_if_success have := A2); intro A2 c2) | ((fail_if_success have := A3); intro A3 c3) | ((fail_if_success have := A4); intro A4 c4) | ((fail_if_success have := A5); intro A5 c5) | ((fail_if_success have := A6); intro A6 c6) | ((fail_if_success have := A7); intro A7 c7)))))
                | ((with_reducible refine ie_bsl ?_)
                   (first
                   | fail
                   | (((refine' Ef_bsl0 rfl ?q1 ?_); (case q1 => exact app_of rfl)); (first | ((fail_if_success have := b1); intro b1) | ((fail_if_success have := b2); intro b2) | ((fail_if_success have := b3); intro b3) | ((fail_if_success have := b4); intro b4) | ((fail_if_success have := b5); intro b5) | ((fail_if_success have := b6); intro b6) | ((fail_if_success have := b7); intro b7) | ((fail_if_success have := b8); intro b8) | ((fail_if_success have := b9); intro b9)))
                   | (((refine' Ef_bslA rfl rfl ?q1 ?q2 ?q3 ?_); (case q1 => exact app_of rfl); (case q2 => rfl); (case q3 => decide)); (first | ((fail_if_success have := b1); intro b1) | ((fail_if_success have := b2); intro b2) | ((fail_if_success have := b3); intro b3) | ((fail_if_success have := b4); intro b4) | ((fail_if_success have := b5); intro b5) | ((fail_if_success have := b6); intro b6) | ((fail_if_success have := b7); intro b7) | ((fail_if_success have := b8); intro b8) | ((fail_if_success have := b9); intro b9)))
                   | (((refine' Ef_bsl1 rfl rfl rfl ?q1 ?_); (case q1 => exact app_of rfl)); (first | ((fail_if_success have := b1); intro b1) | ((fail_if_success have := b2); intro b2) | ((fail_if_success have := b3); intro b3) | ((fail_if_success have := b4); intro b4) | ((fail_if_success have := b5); intro b5) | ((fail_if_success have := b6); intro b6) | ((fail_if_success have := b7); intro b7) | ((fail_if_success have := b8); intro b8) | ((fail_if_success have := b9); intro b9)))))
                | (first | fail)
                | refine Ef_y rfl rfl ?_
                | ((with_reducible refine ie_conv ?_); refine Ef_y' rfl ?_)
                | ((with_reducible refine ie_bmin ?_); refine Ef_y' rfl ?_)
                | ((with_reducible refine ie_bmax ?_); refine Ef_y' rfl ?_))
        exact ret_n [] (res1 rfl rfl) (List.nil_sublist _) ⟨rfl, rfl⟩
end
end Go.Proofs.Ytiekpkkmiciakaa
