/- The document's window: what calls of its functions come to: for every window of numbers of 64 bits. -/
import Derived.Test.YtbmegafjphcdnaaL3
import Derived.Test.YtbmegafjphcdnaaL5
namespace Go.Proofs.Ytbmegafjphcdnaa
open Go.RowKit
set_option maxRecDepth 20000

def rM (b : Nat) (bd : Int) (C : List Int) (z : Option Addr × Nat) : List Asrt := [.blk b (.cells #[.int .i64 bd, .slice z.1 C.length z.2] 45 (0, 0)), .row 3 1 (.slice z.1 C.length z.2) C.length (C.flatMap (eI .i64))]
theorem rnew_build (w : World) : (Instr.build 45 #[(0, .int .i64 (-1))]).run Try.prog w = .ok (.agg #[.int .i64 (-1), .slice none 0 0]) w := by kernel_rfl

theorem rnew_c (w : World) : Sp Try.prog 15 [] w [] fun v N => ∃ b : Nat, v = .pointer (some ⟨b, 0, none⟩) ∧ N = [.blk b (.cells #[.int .i64 (-1), .slice none 0 0] 45 (0, 0))] := by
  refine Sp.enter (n := 3) Try.func15 rfl rfl rfl (Hp.refl w) ?_
  repeat' (first
          | with_reducible refine T.seq ?_
          | with_reducible refine T.block ?_
          | with_reducible refine T.region ?_
          | with_reducible refine T.skip ?_
          | with_reducible refine T.ret ?_
          | with_reducible refine T.exit ?_
          | with_reducible refine seqQ_n ?_
          | with_reducible refine seqQ_x ?_
          | with_reducible refine seqQ_r ?_
          | with_reducible refine blockQ_n ?_
          | with_reducible refine blockQ_r ?_
          | with_reducible refine blockQ_x ?_
          | ((with_reducible refine g_blkx ?_); refine blockQ_y rfl ?_)
          | with_reducible refine loopQ_x ?_
          | with_reducible refine loopQ_r ?_
          | ((with_reducible refine g_cond ?_); (first | refine T.cond_t rfl ?_ | refine T.cond_f rfl ?_ | (refine T.cond_s rfl ?_ ?_ <;> intro hc)))
          | with_reducible refine TL_nil ?_
          | with_reducible refine TS_nil ?_
          | ((with_reducible refine g_draw ?_); (first | fail))
          | ((with_reducible refine TL_y' ?hy ?hd ?_); (case hy => rfl); (case hd => rfl))
          | with_reducible refine TL_e ?_
          | ((with_reducible refine g_TL ?_); (first | refine TL_gy' rfl rfl rfl rfl ?_ | refine TL_gn rfl rfl rfl ?_ | refine TL_gu rfl rfl rfl ?_ | refine TL_ge rfl rfl ?_ | refine TL_gn0 rfl rfl ?_))
          | ((with_reducible refine g_TS ?_)
             (first
             | refine TS_y rfl rfl ?_
             | refine TS_e rfl ?_
             | refine TS_gy rfl rfl rfl rfl ?_
             | refine TS_gn rfl rfl rfl rfl ?_
             | refine TS_gu rfl rfl rfl rfl ?_
             | refine TS_ge rfl rfl rfl ?_
             | refine TS_gne rfl rfl rfl rfl ?_
             | refine TS_gue rfl rfl rfl rfl ?_
             | refine TS_gne0 rfl rfl rfl ?_))
          | ((with_reducible refine TSand ?hd ?_); (case hd => (repeat (first | exact List.nil_sublist _ | refine List.Sublist.cons_cons _ ?_ | refine List.Sublist.cons _ ?_))))
          | ((with_reducible refine is_move ?_); refine ⟨_, Yl_move rfl, ?_⟩)
          | ((with_reducible refine is_assign ?_); refine ⟨_, Yl_assign rfl, ?_⟩)
          | ((with_reducible refine is_pick ?_); (first | refine ⟨_, Yl_pick_t rfl rfl, ?_⟩ | refine ⟨_, Yl_pick_f rfl rfl, ?_⟩))
          | ((with_reducible refine is_nil ?_); refine ⟨_, Yl_nilCheck rfl, ?_⟩)
          | ((with_reducible refine is_fld ?_)
             (first | ((refine' ⟨_, Yl_fld_blk0 rfl ?q1, ?_⟩); (case q1 => exact fld_of rfl rfl)) | ((refine' ⟨_, Yl_fld_blk rfl ?q1, ?_⟩); (case q1 => exact fld_of rfl rfl)) | ((refine' ⟨_, Yl_fld_ad rfl ?q1, ?_⟩); (case q1 => exact fld_of rfl rfl))))
          | ((with_reducible refine is_load ?_)
             (first
             | ((refine' ⟨_, Yl_load_old rfl ?q1 hb List.not_mem_nil ?q2, ?_⟩); (case q1 => exact one_of rfl); (case q2 => rfl))
             | ((refine' ⟨_, Yl_load_blk rfl ?q1 ?q2 ?q3, ?_⟩); (case q1 => exact one_of rfl); (case q2 => (repeat (first | exact .head _ | apply List.Mem.tail))); (case q3 => rfl))
             | ((refine' ⟨_, Yl_loadA_blk rfl ?q1 ?q2, ?_⟩); (case q1 => (repeat (first | exact .head _ | apply List.Mem.tail))); (case q2 => exact agg_of rfl))
             | ((refine' ⟨_, Yl_load_blk rfl ?q1 ?q2 ?q3, ?_⟩); (case q1 => exact one_of rfl); (case q2 => (repeat (first | exact .head _ | apply List.Mem.tail))); (case q3 => assumption))
             | ((refine' ⟨_, Yl_load_rd rfl ?q1 ?q2 List.not_mem_nil ?q3, ?_⟩); (case q1 => exact one_of rfl); (case q2 => assumption); (case q3 => assumption))
             | ((refine' ⟨_, Yl_load_row rfl ?q1 ?q2 ?q3, ?_⟩); (case q1 => exact one_of rfl); (case q2 => (repeat (first | exact .head _ | apply List.Mem.tail))); (case q3 => assumption))
             | ((refine' ⟨_, Yl_loadA_rd rfl ?qa ?qb List.not_mem_nil ?ql ?qc, ?_⟩); (case qa => exact agg_of rfl); (case qb => assumption); (case qc => assumption); (case ql => rfl))
             | ((refine' ⟨_, Yl_loadA_row rfl ?qa ?qb ?ql ?qc, ?_⟩); (case qa => exact agg_of rfl); (case qb => (repeat (first | exact .head _ | apply List.Mem.tail))); (case qc => assumption); (case ql => rfl))))
          | ((with_reducible refine is_idx ?_)
             (first
             | fail
             | ((refine' ⟨_, Yl_index rfl rfl ?q1 ?q2 ?q3 (Rd.some_ ?q4 ?q5), ?_⟩); (case q1 => exact und_of rfl); (case q2 => exact siz_of rfl); (case q3 => omega); (case q4 => assumption); (case q5 => omega))
             | ((refine' ⟨_, Yl_index_row rfl rfl ?q1 ?q2 ?q3 ?q4, ?_⟩); (case q1 => exact und_of rfl); (case q2 => exact siz_of rfl); (case q3 => omega); (case q4 => (repeat (first | exact .head _ | apply List.Mem.tail))))
             | ((refine' ⟨_, Yl_index rfl rfl ?q1 ?q2 ?q3 rfl, ?_⟩); (case q1 => exact und_of rfl); (case q2 => exact siz_of rfl); (case q3 => omega))))
          | ((with_reducible refine is_ext ?_); refine ⟨_, Yl_extract rfl rfl, ?_⟩)
          | ((with_reducible refine is_un ?_); refine ⟨_, Yl_not rfl, ?_⟩)
          | ((with_reducible refine is_len ?_); (first | ((refine' ⟨_, Yl_len_slice rfl ?q1, ?_⟩); (case q1 => exact und_of rfl)) | ((refine' ⟨_, Yl_len_string rfl ?q1, ?_⟩); (case q1 => exact und_of rfl))))
          | ((with_reducible refine is_b_lss ?_); (first | ((refine' ⟨_, Yl_lss_t rfl rfl ?q1, ?_⟩); (case q1 => omega)) | ((refine' ⟨_, Yl_lss_f rfl rfl ?q1, ?_⟩); (case q1 => omega)) | (refine sp_lss rfl rfl ?_ ?_ <;> intro hc)))
          | ((with_reducible refine is_b_leq ?_); (first | ((refine' ⟨_, Yl_leq_t rfl rfl ?q1, ?_⟩); (case q1 => omega)) | ((refine' ⟨_, Yl_leq_f rfl rfl ?q1, ?_⟩); (case q1 => omega)) | (refine sp_leq rfl rfl ?_ ?_ <;> intro hc)))
          | ((with_reducible refine is_b_gtr ?_); (first | ((refine' ⟨_, Yl_gtr_t rfl rfl ?q1, ?_⟩); (case q1 => omega)) | ((refine' ⟨_, Yl_gtr_f rfl rfl ?q1, ?_⟩); (case q1 => omega)) | (refine sp_gtr rfl rfl ?_ ?_ <;> intro hc)))
          | ((with_reducible refine is_b_geq ?_); (first | ((refine' ⟨_, Yl_geq_t rfl rfl ?q1, ?_⟩); (case q1 => omega)) | ((refine' ⟨_, Yl_geq_f rfl rfl ?q1, ?_⟩); (case q1 => omega)) | (refine sp_geq rfl rfl ?_ ?_ <;> intro hc)))
          | ((with_reducible refine is_b_eql ?_); (first | ((refine' ⟨_, Yl_eql_t rfl rfl ?q1, ?_⟩); (case q1 => omega)) | ((refine' ⟨_, Yl_eql_f rfl rfl ?q1, ?_⟩); (case q1 => omega)) | (refine sp_eql rfl rfl ?_ ?_ <;> intro hc) | fail))
          | ((with_reducible refine is_b_neq ?_); (first | ((refine' ⟨_, Yl_neq_t rfl rfl ?q1, ?_⟩); (case q1 => omega)) | ((refine' ⟨_, Yl_neq_f rfl rfl ?q1, ?_⟩); (case q1 => omega)) | (refine sp_neq rfl rfl ?_ ?_ <;> intro hc) | fail))
          | ((with_reducible refine is_b_add ?_); (first | ((refine' ⟨_, Yl_add rfl rfl ?q1 ?q2, ?_⟩); (case q1 => omega); (case q2 => omega)) | fail))
          | ((with_reducible refine is_b_sub ?_); (first | ((refine' ⟨_, Yl_sub rfl rfl ?q1 ?q2, ?_⟩); (case q1 => omega); (case q2 => omega)) | fail))
          | ((with_reducible refine is_build ?_); (first | refine ⟨_, Yl_build rfl rnew_build, ?_⟩))
          | (first | fail)
          | ((with_reducible refine ie_box ?_)
             (first
             | (refine Ef_boxA rfl rfl ?_
                (first
                | ((fail_if_success have := b1); intro b1)
                | ((fail_if_success have := b2); intro b2)
                | ((fail_if_success have := b3); intro b3)
                | ((fail_if_success have := b4); intro b4)
                | ((fail_if_success have := b5); intro b5)
                | ((fail_if_success have := b6); intro b6)
                | ((fail_if_success have := b7); intro b7)
                | ((fail_if_success have := b8); intro b8)
                | ((fail_if_success have := b9); intro b9)))
             | (refine Ef_box1 rfl rfl rfl ?_
                (first
                | ((fail_if_success have := b1); intro b1)
                | ((fail_if_success have := b2); intro b2)
                | ((fail_if_success have := b3); intro b3)
                | ((fail_if_success have := b4); intro b4)
                | ((fail_if_success have := b5); intro b5)
                | ((fail_if_success have := b6); intro b6)
                | ((fail_if_success have := b7); intro b7)
                | ((fail_if_success have := b8); intro b8)
                | ((fail_if_success have := b9); intro b9)))))
          | ((with_reducible refine ie_alloc ?_)
             (first
             | fail
             | (((refine' Ef_alloc rfl ?q1 ?_); (case q1 => exact zer_of rfl))
                (first
                | ((fail_if_success have := b1); intro b1)
                | ((fail_if_success have := b2); intro b2)
                | ((fail_if_success have := b3); intro b3)
                | ((fail_if_success have := b4); intro b4)
                | ((fail_if_success have := b5); intro b5)
                | ((fail_if_success have := b6); intro b6)
                | ((fail_if_success have := b7); intro b7)
                | ((fail_if_success have := b8); intro b8)
                | ((fail_if_success have := b9); intro b9)))))
          | ((with_reducible refine ie_store ?_)
             (first
             | fail
             | ((refine' Ef_storeC rfl rfl ?q1 ?q2 ?q3 ?q4 ?q5 ?_)
                (case q1 => rfl)
                (case q2 => exact siz_of rfl)
                (case q3 => (first | exact at0 | exact at1 | exact at2 | exact at3 | exact at4 | exact at5 | exact at6))
                (case q4 => exact Nat.le_of_ble_eq_true rfl)
                (case q5 => rfl))))
          | ((with_reducible refine ie_callf ?_)
             (first
             | ((with_reducible refine g_call 16 ?_)
                (first
                | ((refine' Ef_callP rfl rfl ent_16 (fun w hp => rtop_c b bd C z.1 z.2 w hC (hp.blkOf ?q1) (hp.rowOf ?q2)) ?_); (case q1 => (repeat (first | exact .head _ | apply List.Mem.tail))); (case q2 => (repeat (first | exact .head _ | apply List.Mem.tail))))
                | ((refine' Ef_callP rfl rfl ent_16 (fun w hp => rtop_c b boot [] none 0 w ?q1 (hp.blkOf ?q2) Rd.nil) ?_); (case q1 => decide); (case q2 => (repeat (first | exact .head _ | apply List.Mem.tail))))))))
          | ((with_reducible refine ie_app ?_)
             (first
             | fail
             | (((refine' Ef_append_row rfl rfl rfl ?q1 ?q2 ?q3 ?q4 ?q5 ?q6 ?_)
                 (case q1 => exact app_of rfl)
                 (case q2 => (first | exact at0 | exact at1 | exact at2 | exact at3 | exact at4 | exact at5 | exact at6))
                 (case q3 => (repeat (first | exact .head _ | apply List.Mem.tail)))
                 (case q4 => (first | assumption | (intro u hu; rcases hu with _ | ⟨_, _ | ⟨_, _ | ⟨_, _ | ⟨_, hu⟩⟩⟩⟩ <;> first | rfl | (cases hu; done))))
                 (case q5 => omega)
                 (case q6 => omega))
                (first
                | ((fail_if_success have := A1); intro A1 c1)
                | ((fail_if_success have := A2); intro A2 c2)
                | ((fail_if_success have := A3); intro A3 c3)
                | ((fail_if_success have := A4); intro A4 c4)
                | ((fail_if_success have := A5); intro A5 c5)
                | ((fail_if_success have := A6); intro A6 c6)
                | ((fail_if_success have := A7); intro A7 c7)))
             | (((refine' Ef_append_rd rfl rfl rfl ?q1 ?q2 ?q3 List.not_mem_nil ?q4 ?q5 ?q6 ?q7 ?_)
                 (case q1 => exact app_of rfl)
                 (case q2 => (first | exact at0 | exact at1 | exact at2 | exact at3 | exact at4 | exact at5 | exact at6))
                 (case q3 => assumption)
                 (case q4 => omega)
                 (case q5 => (first | assumption | (intro u hu; rcases hu with _ | ⟨_, _ | ⟨_, _ | ⟨_, _ | ⟨_, hu⟩⟩⟩⟩ <;> first | rfl | (cases hu; done))))
                 (case q6 => omega)
                 (case q7 => omega))
                (first
                | ((fail_if_success have := A1); intro A1 c1)
                | ((fail_if_success have := A2); intro A2 c2)
                | ((fail_if_success have := A3); intro A3 c3)
                | ((fail_if_success have := A4); intro A4 c4)
                | ((fail_if_success have := A5); intro A5 c5)
                | ((fail_if_success have := A6); intro A6 c6)
                | ((fail_if_success have := A7); intro A7 c7)))))
          | ((with_reducible refine ie_bsl ?_)
             (first
             | fail
             | (((refine' Ef_bslA rfl rfl ?q1 ?q2 ?q3 ?_); (case q1 => exact app_of rfl); (case q2 => rfl); (case q3 => decide))
                (first
                | ((fail_if_success have := b1); intro b1)
                | ((fail_if_success have := b2); intro b2)
                | ((fail_if_success have := b3); intro b3)
                | ((fail_if_success have := b4); intro b4)
                | ((fail_if_success have := b5); intro b5)
                | ((fail_if_success have := b6); intro b6)
                | ((fail_if_success have := b7); intro b7)
                | ((fail_if_success have := b8); intro b8)
                | ((fail_if_success have := b9); intro b9)))
             | (((refine' Ef_bsl1 rfl rfl rfl ?q1 ?_); (case q1 => exact app_of rfl))
                (first
                | ((fail_if_success have := b1); intro b1)
                | ((fail_if_success have := b2); intro b2)
                | ((fail_if_success have := b3); intro b3)
                | ((fail_if_success have := b4); intro b4)
                | ((fail_if_success have := b5); intro b5)
                | ((fail_if_success have := b6); intro b6)
                | ((fail_if_success have := b7); intro b7)
                | ((fail_if_success have := b8); intro b8)
                | ((fail_if_success have := b9); intro b9)))))
          | (first | fail)
          | refine Ef_y rfl rfl ?_)
  exact ret_n [_] (res1 rfl rfl) (List.Sublist.refl _) ⟨_, rfl, rfl⟩

theorem rtop_c (b : Nat) (bd : Int) (C : List Int) (A : Option Addr) (cap : Nat) (w : World) (hC : C.length ≤ 300) (hb : w.heap[b]? = some (.cells #[.int .i64 bd, .slice A C.length cap] 45 (0, 0))) (hr : Rd w A C.length 1 (C.flatMap (eI .i64))) :
    Sp Try.prog 16 [.pointer (some ⟨b, 0, none⟩)] w [] fun v N => v = .int .i64 (Win.topOf C) ∧ N = [] := by
  refine Sp.enter (n := 31) Try.func16 rfl rfl rfl (Hp.refl w) ?_
  repeat' (first
          | with_reducible refine T.seq ?_
          | with_reducible refine T.block ?_
          | with_reducible refine T.region ?_
          | with_reducible refine T.skip ?_
          | with_reducible refine T.ret ?_
          | with_reducible refine T.exit ?_
          | with_reducible refine seqQ_n ?_
          | with_reducible refine seqQ_x ?_
          | with_reducible refine seqQ_r ?_
          | with_reducible refine blockQ_n ?_
          | with_reducible refine blockQ_r ?_
          | with_reducible refine blockQ_x ?_
          | ((with_reducible refine g_blkx ?_); refine blockQ_y rfl ?_)
          | with_reducible refine loopQ_x ?_
          | with_reducible refine loopQ_r ?_
          | ((with_reducible refine g_cond ?_); (first | refine T.cond_t rfl ?_ | refine T.cond_f rfl ?_ | (refine T.cond_s rfl ?_ ?_ <;> intro hc)))
          | with_reducible refine TL_nil ?_
          | with_reducible refine TS_nil ?_
          | ((with_reducible refine g_draw ?_); (first | fail))
          | ((with_reducible refine TL_y' ?hy ?hd ?_); (case hy => rfl); (case hd => rfl))
          | with_reducible refine TL_e ?_
          | ((with_reducible refine g_TL ?_); (first | refine TL_gy' rfl rfl rfl rfl ?_ | refine TL_gn rfl rfl rfl ?_ | refine TL_gu rfl rfl rfl ?_ | refine TL_ge rfl rfl ?_ | refine TL_gn0 rfl rfl ?_))
          | ((with_reducible refine g_TS ?_)
             (first
             | refine TS_y rfl rfl ?_
             | refine TS_e rfl ?_
             | refine TS_gy rfl rfl rfl rfl ?_
             | refine TS_gn rfl rfl rfl rfl ?_
             | refine TS_gu rfl rfl rfl rfl ?_
             | refine TS_ge rfl rfl rfl ?_
             | refine TS_gne rfl rfl rfl rfl ?_
             | refine TS_gue rfl rfl rfl rfl ?_
             | refine TS_gne0 rfl rfl rfl ?_))
          | ((with_reducible refine TSand ?hd ?_); (case hd => (repeat (first | exact List.nil_sublist _ | refine List.Sublist.cons_cons _ ?_ | refine List.Sublist.cons _ ?_))))
          | ((with_reducible refine is_move ?_); refine ⟨_, Yl_move rfl, ?_⟩)
          | ((with_reducible refine is_assign ?_); refine ⟨_, Yl_assign rfl, ?_⟩)
          | ((with_reducible refine is_pick ?_); (first | refine ⟨_, Yl_pick_t rfl rfl, ?_⟩ | refine ⟨_, Yl_pick_f rfl rfl, ?_⟩))
          | ((with_reducible refine is_nil ?_); refine ⟨_, Yl_nilCheck rfl, ?_⟩)
          | ((with_reducible refine is_fld ?_)
             (first | ((refine' ⟨_, Yl_fld_blk0 rfl ?q1, ?_⟩); (case q1 => exact fld_of rfl rfl)) | ((refine' ⟨_, Yl_fld_blk rfl ?q1, ?_⟩); (case q1 => exact fld_of rfl rfl)) | ((refine' ⟨_, Yl_fld_ad rfl ?q1, ?_⟩); (case q1 => exact fld_of rfl rfl))))
          | ((with_reducible refine is_load ?_)
             (first
             | ((refine' ⟨_, Yl_load_old rfl ?q1 hb List.not_mem_nil ?q2, ?_⟩); (case q1 => exact one_of rfl); (case q2 => rfl))
             | ((refine' ⟨_, Yl_load_blk rfl ?q1 ?q2 ?q3, ?_⟩); (case q1 => exact one_of rfl); (case q2 => (repeat (first | exact .head _ | apply List.Mem.tail))); (case q3 => rfl))
             | ((refine' ⟨_, Yl_loadA_blk rfl ?q1 ?q2, ?_⟩); (case q1 => (repeat (first | exact .head _ | apply List.Mem.tail))); (case q2 => exact agg_of rfl))
             | ((refine' ⟨_, Yl_load_blk rfl ?q1 ?q2 ?q3, ?_⟩); (case q1 => exact one_of rfl); (case q2 => (repeat (first | exact .head _ | apply List.Mem.tail))); (case q3 => assumption))
             | ((refine' ⟨_, Yl_load_rd rfl ?q1 ?q2 List.not_mem_nil ?q3, ?_⟩); (case q1 => exact one_of rfl); (case q2 => assumption); (case q3 => assumption))
             | ((refine' ⟨_, Yl_load_row rfl ?q1 ?q2 ?q3, ?_⟩); (case q1 => exact one_of rfl); (case q2 => (repeat (first | exact .head _ | apply List.Mem.tail))); (case q3 => assumption))
             | ((refine' ⟨_, Yl_loadA_rd rfl ?qa ?qb List.not_mem_nil ?ql ?qc, ?_⟩); (case qa => exact agg_of rfl); (case qb => assumption); (case qc => assumption); (case ql => rfl))
             | ((refine' ⟨_, Yl_loadA_row rfl ?qa ?qb ?ql ?qc, ?_⟩); (case qa => exact agg_of rfl); (case qb => (repeat (first | exact .head _ | apply List.Mem.tail))); (case qc => assumption); (case ql => rfl))))
          | ((with_reducible refine is_idx ?_)
             (first
             | fail
             | ((refine' ⟨_, Yl_index rfl rfl ?q1 ?q2 ?q3 (Rd.some_ ?q4 ?q5), ?_⟩); (case q1 => exact und_of rfl); (case q2 => exact siz_of rfl); (case q3 => omega); (case q4 => assumption); (case q5 => omega))
             | ((refine' ⟨_, Yl_index_row rfl rfl ?q1 ?q2 ?q3 ?q4, ?_⟩); (case q1 => exact und_of rfl); (case q2 => exact siz_of rfl); (case q3 => omega); (case q4 => (repeat (first | exact .head _ | apply List.Mem.tail))))
             | ((refine' ⟨_, Yl_index rfl rfl ?q1 ?q2 ?q3 rfl, ?_⟩); (case q1 => exact und_of rfl); (case q2 => exact siz_of rfl); (case q3 => omega))))
          | ((with_reducible refine is_ext ?_); refine ⟨_, Yl_extract rfl rfl, ?_⟩)
          | ((with_reducible refine is_un ?_); refine ⟨_, Yl_not rfl, ?_⟩)
          | ((with_reducible refine is_len ?_); (first | ((refine' ⟨_, Yl_len_slice rfl ?q1, ?_⟩); (case q1 => exact und_of rfl)) | ((refine' ⟨_, Yl_len_string rfl ?q1, ?_⟩); (case q1 => exact und_of rfl))))
          | ((with_reducible refine is_b_lss ?_); (first | ((refine' ⟨_, Yl_lss_t rfl rfl ?q1, ?_⟩); (case q1 => omega)) | ((refine' ⟨_, Yl_lss_f rfl rfl ?q1, ?_⟩); (case q1 => omega)) | (refine sp_lss rfl rfl ?_ ?_ <;> intro hc)))
          | ((with_reducible refine is_b_leq ?_); (first | ((refine' ⟨_, Yl_leq_t rfl rfl ?q1, ?_⟩); (case q1 => omega)) | ((refine' ⟨_, Yl_leq_f rfl rfl ?q1, ?_⟩); (case q1 => omega)) | (refine sp_leq rfl rfl ?_ ?_ <;> intro hc)))
          | ((with_reducible refine is_b_gtr ?_); (first | ((refine' ⟨_, Yl_gtr_t rfl rfl ?q1, ?_⟩); (case q1 => omega)) | ((refine' ⟨_, Yl_gtr_f rfl rfl ?q1, ?_⟩); (case q1 => omega)) | (refine sp_gtr rfl rfl ?_ ?_ <;> intro hc)))
          | ((with_reducible refine is_b_geq ?_); (first | ((refine' ⟨_, Yl_geq_t rfl rfl ?q1, ?_⟩); (case q1 => omega)) | ((refine' ⟨_, Yl_geq_f rfl rfl ?q1, ?_⟩); (case q1 => omega)) | (refine sp_geq rfl rfl ?_ ?_ <;> intro hc)))
          | ((with_reducible refine is_b_eql ?_); (first | ((refine' ⟨_, Yl_eql_t rfl rfl ?q1, ?_⟩); (case q1 => omega)) | ((refine' ⟨_, Yl_eql_f rfl rfl ?q1, ?_⟩); (case q1 => omega)) | (refine sp_eql rfl rfl ?_ ?_ <;> intro hc) | fail))
          | ((with_reducible refine is_b_neq ?_); (first | ((refine' ⟨_, Yl_neq_t rfl rfl ?q1, ?_⟩); (case q1 => omega)) | ((refine' ⟨_, Yl_neq_f rfl rfl ?q1, ?_⟩); (case q1 => omega)) | (refine sp_neq rfl rfl ?_ ?_ <;> intro hc) | fail))
          | ((with_reducible refine is_b_add ?_); (first | ((refine' ⟨_, Yl_add rfl rfl ?q1 ?q2, ?_⟩); (case q1 => omega); (case q2 => omega)) | fail))
          | ((with_reducible refine is_b_sub ?_); (first | ((refine' ⟨_, Yl_sub rfl rfl ?q1 ?q2, ?_⟩); (case q1 => omega); (case q2 => omega)) | fail))
          | ((with_reducible refine is_build ?_); (first | refine ⟨_, Yl_build rfl rnew_build, ?_⟩))
          | (first | fail)
          | ((with_reducible refine ie_box ?_)
             (first
             | (refine Ef_boxA rfl rfl ?_
                (first
                | ((fail_if_success have := b1); intro b1)
                | ((fail_if_success have := b2); intro b2)
                | ((fail_if_success have := b3); intro b3)
                | ((fail_if_success have := b4); intro b4)
                | ((fail_if_success have := b5); intro b5)
                | ((fail_if_success have := b6); intro b6)
                | ((fail_if_success have := b7); intro b7)
                | ((fail_if_success have := b8); intro b8)
                | ((fail_if_success have := b9); intro b9)))
             | (refine Ef_box1 rfl rfl rfl ?_
                (first
                | ((fail_if_success have := b1); intro b1)
                | ((fail_if_success have := b2); intro b2)
                | ((fail_if_success have := b3); intro b3)
                | ((fail_if_success have := b4); intro b4)
                | ((fail_if_success have := b5); intro b5)
                | ((fail_if_success have := b6); intro b6)
                | ((fail_if_success have := b7); intro b7)
                | ((fail_if_success have := b8); intro b8)
                | ((fail_if_success have := b9); intro b9)))))
          | ((with_reducible refine ie_alloc ?_)
             (first
             | fail
             | (((refine' Ef_alloc rfl ?q1 ?_); (case q1 => exact zer_of rfl))
                (first
                | ((fail_if_success have := b1); intro b1)
                | ((fail_if_success have := b2); intro b2)
                | ((fail_if_success have := b3); intro b3)
                | ((fail_if_success have := b4); intro b4)
                | ((fail_if_success have := b5); intro b5)
                | ((fail_if_success have := b6); intro b6)
                | ((fail_if_success have := b7); intro b7)
                | ((fail_if_success have := b8); intro b8)
                | ((fail_if_success have := b9); intro b9)))))
          | ((with_reducible refine ie_store ?_)
             (first
             | fail
             | ((refine' Ef_storeC rfl rfl ?q1 ?q2 ?q3 ?q4 ?q5 ?_)
                (case q1 => rfl)
                (case q2 => exact siz_of rfl)
                (case q3 => (first | exact at0 | exact at1 | exact at2 | exact at3 | exact at4 | exact at5 | exact at6))
                (case q4 => exact Nat.le_of_ble_eq_true rfl)
                (case q5 => rfl))))
          | ((with_reducible refine ie_callf ?_)
             (first
             | ((with_reducible refine g_call 16 ?_)
                (first
                | ((refine' Ef_callP rfl rfl ent_16 (fun w hp => rtop_c b bd C z.1 z.2 w hC (hp.blkOf ?q1) (hp.rowOf ?q2)) ?_); (case q1 => (repeat (first | exact .head _ | apply List.Mem.tail))); (case q2 => (repeat (first | exact .head _ | apply List.Mem.tail))))
                | ((refine' Ef_callP rfl rfl ent_16 (fun w hp => rtop_c b boot [] none 0 w ?q1 (hp.blkOf ?q2) Rd.nil) ?_); (case q1 => decide); (case q2 => (repeat (first | exact .head _ | apply List.Mem.tail))))))))
          | ((with_reducible refine ie_app ?_)
             (first
             | fail
             | (((refine' Ef_append_row rfl rfl rfl ?q1 ?q2 ?q3 ?q4 ?q5 ?q6 ?_)
                 (case q1 => exact app_of rfl)
                 (case q2 => (first | exact at0 | exact at1 | exact at2 | exact at3 | exact at4 | exact at5 | exact at6))
                 (case q3 => (repeat (first | exact .head _ | apply List.Mem.tail)))
                 (case q4 => (first | assumption | (intro u hu; rcases hu with _ | ⟨_, _ | ⟨_, _ | ⟨_, _ | ⟨_, hu⟩⟩⟩⟩ <;> first | rfl | (cases hu; done))))
                 (case q5 => omega)
                 (case q6 => omega))
                (first
                | ((fail_if_success have := A1); intro A1 c1)
                | ((fail_if_success have := A2); intro A2 c2)
                | ((fail_if_success have := A3); intro A3 c3)
                | ((fail_if_success have := A4); intro A4 c4)
                | ((fail_if_success have := A5); intro A5 c5)
                | ((fail_if_success have := A6); intro A6 c6)
                | ((fail_if_success have := A7); intro A7 c7)))
             | (((refine' Ef_append_rd rfl rfl rfl ?q1 ?q2 ?q3 List.not_mem_nil ?q4 ?q5 ?q6 ?q7 ?_)
                 (case q1 => exact app_of rfl)
                 (case q2 => (first | exact at0 | exact at1 | exact at2 | exact at3 | exact at4 | exact at5 | exact at6))
                 (case q3 => assumption)
                 (case q4 => omega)
                 (case q5 => (first | assumption | (intro u hu; rcases hu with _ | ⟨_, _ | ⟨_, _ | ⟨_, _ | ⟨_, hu⟩⟩⟩⟩ <;> first | rfl | (cases hu; done))))
                 (case q6 => omega)
                 (case q7 => omega))
                (first
                | ((fail_if_success have := A1); intro A1 c1)
                | ((fail_if_success have := A2); intro A2 c2)
                | ((fail_if_success have := A3); intro A3 c3)
                | ((fail_if_success have := A4); intro A4 c4)
                | ((fail_if_success have := A5); intro A5 c5)
                | ((fail_if_success have := A6); intro A6 c6)
                | ((fail_if_success have := A7); intro A7 c7)))))
          | ((with_reducible refine ie_bsl ?_)
             (first
             | fail
             | (((refine' Ef_bslA rfl rfl ?q1 ?q2 ?q3 ?_); (case q1 => exact app_of rfl); (case q2 => rfl); (case q3 => decide))
                (first
                | ((fail_if_success have := b1); intro b1)
                | ((fail_if_success have := b2); intro b2)
                | ((fail_if_success have := b3); intro b3)
                | ((fail_if_success have := b4); intro b4)
                | ((fail_if_success have := b5); intro b5)
                | ((fail_if_success have := b6); intro b6)
                | ((fail_if_success have := b7); intro b7)
                | ((fail_if_success have := b8); intro b8)
                | ((fail_if_success have := b9); intro b9)))
             | (((refine' Ef_bsl1 rfl rfl rfl ?q1 ?_); (case q1 => exact app_of rfl))
                (first
                | ((fail_if_success have := b1); intro b1)
                | ((fail_if_success have := b2); intro b2)
                | ((fail_if_success have := b3); intro b3)
                | ((fail_if_success have := b4); intro b4)
                | ((fail_if_success have := b5); intro b5)
                | ((fail_if_success have := b6); intro b6)
                | ((fail_if_success have := b7); intro b7)
                | ((fail_if_success have := b8); intro b8)
                | ((fail_if_success have := b9); intro b9)))))
          | (first | fail)
          | refine Ef_y rfl rfl ?_)
  refine T.loop (α := Nat) (fun i => [(0, .pointer (some ⟨b, 0, none⟩)), (3, .int .i64 (Win.topOf (C.take i))), (4, .int .i64 (i : Int))]) (fun _ => []) (fun i => i ≤ C.length) (fun i => C.length - i) 0 ?_ ?_ ?_ ?_
  · (repeat (first | exact Sub.nil | refine Sub.cons rfl ?_))
  · (repeat (first | exact List.nil_sublist _ | refine List.Sublist.cons_cons _ ?_ | refine List.Sublist.cons _ ?_))
  · exact Nat.zero_le _
  · intro i hi
    by_cases hlt : i < C.length
    · obtain ⟨x, hx⟩ := some_of_lt hlt
      have e0 : (C.flatMap (eI .i64))[i * 1 + 0]? = some (.int .i64 x) := enc_at (eI_len .i64) hx (by omega)
      have ht := take_snoc hx
      have htop := Win.topOf_snoc (C.take i) x
      rw [← ht] at htop
      repeat' (first
              | with_reducible refine T.seq ?_
              | with_reducible refine T.block ?_
              | with_reducible refine T.region ?_
              | with_reducible refine T.skip ?_
              | with_reducible refine T.ret ?_
              | with_reducible refine T.exit ?_
              | with_reducible refine seqQ_n ?_
              | with_reducible refine seqQ_x ?_
              | with_reducible refine seqQ_r ?_
              | with_reducible refine blockQ_n ?_
              | with_reducible refine blockQ_r ?_
              | with_reducible refine blockQ_x ?_
              | ((with_reducible refine g_blkx ?_); refine blockQ_y rfl ?_)
              | with_reducible refine loopQ_x ?_
              | with_reducible refine loopQ_r ?_
              | ((with_reducible refine g_cond ?_); (first | refine T.cond_t rfl ?_ | refine T.cond_f rfl ?_ | (refine T.cond_s rfl ?_ ?_ <;> intro hc)))
              | with_reducible refine TL_nil ?_
              | with_reducible refine TS_nil ?_
              | ((with_reducible refine g_draw ?_); (first | fail))
              | ((with_reducible refine TL_y' ?hy ?hd ?_); (case hy => rfl); (case hd => rfl))
              | with_reducible refine TL_e ?_
              | ((with_reducible refine g_TL ?_); (first | refine TL_gy' rfl rfl rfl rfl ?_ | refine TL_gn rfl rfl rfl ?_ | refine TL_gu rfl rfl rfl ?_ | refine TL_ge rfl rfl ?_ | refine TL_gn0 rfl rfl ?_))
              | ((with_reducible refine g_TS ?_)
                 (first
                 | refine TS_y rfl rfl ?_
                 | refine TS_e rfl ?_
                 | refine TS_gy rfl rfl rfl rfl ?_
                 | refine TS_gn rfl rfl rfl rfl ?_
                 | refine TS_gu rfl rfl rfl rfl ?_
                 | refine TS_ge rfl rfl rfl ?_
                 | refine TS_gne rfl rfl rfl rfl ?_
                 | refine TS_gue rfl rfl rfl rfl ?_
                 | refine TS_gne0 rfl rfl rfl ?_))
              | ((with_reducible refine TSand ?hd ?_); (case hd => (repeat (first | exact List.nil_sublist _ | refine List.Sublist.cons_cons _ ?_ | refine List.Sublist.cons _ ?_))))
              | ((with_reducible refine is_move ?_); refine ⟨_, Yl_move rfl, ?_⟩)
              | ((with_reducible refine is_assign ?_); refine ⟨_, Yl_assign rfl, ?_⟩)
              | ((with_reducible refine is_pick ?_); (first | refine ⟨_, Yl_pick_t rfl rfl, ?_⟩ | refine ⟨_, Yl_pick_f rfl rfl, ?_⟩))
              | ((with_reducible refine is_nil ?_); refine ⟨_, Yl_nilCheck rfl, ?_⟩)
              | ((with_reducible refine is_fld ?_)
                 (first | ((refine' ⟨_, Yl_fld_blk0 rfl ?q1, ?_⟩); (case q1 => exact fld_of rfl rfl)) | ((refine' ⟨_, Yl_fld_blk rfl ?q1, ?_⟩); (case q1 => exact fld_of rfl rfl)) | ((refine' ⟨_, Yl_fld_ad rfl ?q1, ?_⟩); (case q1 => exact fld_of rfl rfl))))
              | ((with_reducible refine is_load ?_)
                 (first
                 | ((refine' ⟨_, Yl_load_old rfl ?q1 hb List.not_mem_nil ?q2, ?_⟩); (case q1 => exact one_of rfl); (case q2 => rfl))
                 | ((refine' ⟨_, Yl_load_blk rfl ?q1 ?q2 ?q3, ?_⟩); (case q1 => exact one_of rfl); (case q2 => (repeat (first | exact .head _ | apply List.Mem.tail))); (case q3 => rfl))
                 | ((refine' ⟨_, Yl_loadA_blk rfl ?q1 ?q2, ?_⟩); (case q1 => (repeat (first | exact .head _ | apply List.Mem.tail))); (case q2 => exact agg_of rfl))
                 | ((refine' ⟨_, Yl_load_blk rfl ?q1 ?q2 ?q3, ?_⟩); (case q1 => exact one_of rfl); (case q2 => (repeat (first | exact .head _ | apply List.Mem.tail))); (case q3 => assumption))
                 | ((refine' ⟨_, Yl_load_rd rfl ?q1 ?q2 List.not_mem_nil ?q3, ?_⟩); (case q1 => exact one_of rfl); (case q2 => assumption); (case q3 => assumption))
                 | ((refine' ⟨_, Yl_load_row rfl ?q1 ?q2 ?q3, ?_⟩); (case q1 => exact one_of rfl); (case q2 => (repeat (first | exact .head _ | apply List.Mem.tail))); (case q3 => assumption))
                 | ((refine' ⟨_, Yl_loadA_rd rfl ?qa ?qb List.not_mem_nil ?ql ?qc, ?_⟩); (case qa => exact agg_of rfl); (case qb => assumption); (case qc => assumption); (case ql => rfl))
                 | ((refine' ⟨_, Yl_loadA_row rfl ?qa ?qb ?ql ?qc, ?_⟩); (case qa => exact agg_of rfl); (case qb => (repeat (first | exact .head _ | apply List.Mem.tail))); (case qc => assumption); (case ql => rfl))))
              | ((with_reducible refine is_idx ?_)
                 (first
                 | fail
                 | ((refine' ⟨_, Yl_index rfl rfl ?q1 ?q2 ?q3 (Rd.some_ ?q4 ?q5), ?_⟩); (case q1 => exact und_of rfl); (case q2 => exact siz_of rfl); (case q3 => omega); (case q4 => assumption); (case q5 => omega))
                 | ((refine' ⟨_, Yl_index_row rfl rfl ?q1 ?q2 ?q3 ?q4, ?_⟩); (case q1 => exact und_of rfl); (case q2 => exact siz_of rfl); (case q3 => omega); (case q4 => (repeat (first | exact .head _ | apply List.Mem.tail))))
                 | ((refine' ⟨_, Yl_index rfl rfl ?q1 ?q2 ?q3 rfl, ?_⟩); (case q1 => exact und_of rfl); (case q2 => exact siz_of rfl); (case q3 => omega))))
              | ((with_reducible refine is_ext ?_); refine ⟨_, Yl_extract rfl rfl, ?_⟩)
              | ((with_reducible refine is_un ?_); refine ⟨_, Yl_not rfl, ?_⟩)
              | ((with_reducible refine is_len ?_); (first | ((refine' ⟨_, Yl_len_slice rfl ?q1, ?_⟩); (case q1 => exact und_of rfl)) | ((refine' ⟨_, Yl_len_string rfl ?q1, ?_⟩); (case q1 => exact und_of rfl))))
              | ((with_reducible refine is_b_lss ?_); (first | ((refine' ⟨_, Yl_lss_t rfl rfl ?q1, ?_⟩); (case q1 => omega)) | ((refine' ⟨_, Yl_lss_f rfl rfl ?q1, ?_⟩); (case q1 => omega)) | (refine sp_lss rfl rfl ?_ ?_ <;> intro hc)))
              | ((with_reducible refine is_b_leq ?_); (first | ((refine' ⟨_, Yl_leq_t rfl rfl ?q1, ?_⟩); (case q1 => omega)) | ((refine' ⟨_, Yl_leq_f rfl rfl ?q1, ?_⟩); (case q1 => omega)) | (refine sp_leq rfl rfl ?_ ?_ <;> intro hc)))
              | ((with_reducible refine is_b_gtr ?_); (first | ((refine' ⟨_, Yl_gtr_t rfl rfl ?q1, ?_⟩); (case q1 => omega)) | ((refine' ⟨_, Yl_gtr_f rfl rfl ?q1, ?_⟩); (case q1 => omega)) | (refine sp_gtr rfl rfl ?_ ?_ <;> intro hc)))
              | ((with_reducible refine is_b_geq ?_); (first | ((refine' ⟨_, Yl_geq_t rfl rfl ?q1, ?_⟩); (case q1 => omega)) | ((refine' ⟨_, Yl_geq_f rfl rfl ?q1, ?_⟩); (case q1 => omega)) | (refine sp_geq rfl rfl ?_ ?_ <;> intro hc)))
              | ((with_reducible refine is_b_eql ?_); (first | ((refine' ⟨_, Yl_eql_t rfl rfl ?q1, ?_⟩); (case q1 => omega)) | ((refine' ⟨_, Yl_eql_f rfl rfl ?q1, ?_⟩); (case q1 => omega)) | (refine sp_eql rfl rfl ?_ ?_ <;> intro hc) | fail))
              | ((with_reducible refine is_b_neq ?_); (first | ((refine' ⟨_, Yl_neq_t rfl rfl ?q1, ?_⟩); (case q1 => omega)) | ((refine' ⟨_, Yl_neq_f rfl rfl ?q1, ?_⟩); (case q1 => omega)) | (refine sp_neq rfl rfl ?_ ?_ <;> intro hc) | fail))
              | ((with_reducible refine is_b_add ?_); (first | ((refine' ⟨_, Yl_add rfl rfl ?q1 ?q2, ?_⟩); (case q1 => omega); (case q2 => omega)) | fail))
              | ((with_reducible refine is_b_sub ?_); (first | ((refine' ⟨_, Yl_sub rfl rfl ?q1 ?q2, ?_⟩); (case q1 => omega); (case q2 => omega)) | fail))
              | ((with_reducible refine is_build ?_); (first | refine ⟨_, Yl_build rfl rnew_build, ?_⟩))
              | (first | fail)
              | ((with_reducible refine ie_box ?_)
                 (first
                 | (refine Ef_boxA rfl rfl ?_
                    (first
                    | ((fail_if_success have := b1); intro b1)
                    | ((fail_if_success have := b2); intro b2)
                    | ((fail_if_success have := b3); intro b3)
                    | ((fail_if_success have := b4); intro b4)
                    | ((fail_if_success have := b5); intro b5)
                    | ((fail_if_success have := b6); intro b6)
                    | ((fail_if_success have := b7); intro b7)
                    | ((fail_if_success have := b8); intro b8)
                    | ((fail_if_success have := b9); intro b9)))
                 | (refine Ef_box1 rfl rfl rfl ?_
                    (first
                    | ((fail_if_success have := b1); intro b1)
                    | ((fail_if_success have := b2); intro b2)
                    | ((fail_if_success have := b3); intro b3)
                    | ((fail_if_success have := b4); intro b4)
                    | ((fail_if_success have := b5); intro b5)
                    | ((fail_if_success have := b6); intro b6)
                    | ((fail_if_success have := b7); intro b7)
                    | ((fail_if_success have := b8); intro b8)
                    | ((fail_if_success have := b9); intro b9)))))
              | ((with_reducible refine ie_alloc ?_)
                 (first
                 | fail
                 | (((refine' Ef_alloc rfl ?q1 ?_); (case q1 => exact zer_of rfl))
                    (first
                    | ((fail_if_success have := b1); intro b1)
                    | ((fail_if_success have := b2); intro b2)
                    | ((fail_if_success have := b3); intro b3)
                    | ((fail_if_success have := b4); intro b4)
                    | ((fail_if_success have := b5); intro b5)
                    | ((fail_if_success have := b6); intro b6)
                    | ((fail_if_success have := b7); intro b7)
                    | ((fail_if_success have := b8); intro b8)
                    | ((fail_if_success have := b9); intro b9)))))
              | ((with_reducible refine ie_store ?_)
                 (first
                 | fail
                 | ((refine' Ef_storeC rfl rfl ?q1 ?q2 ?q3 ?q4 ?q5 ?_)
                    (case q1 => rfl)
                    (case q2 => exact siz_of rfl)
                    (case q3 => (first | exact at0 | exact at1 | exact at2 | exact at3 | exact at4 | exact at5 | exact at6))
                    (case q4 => exact Nat.le_of_ble_eq_true rfl)
                    (case q5 => rfl))))
              | ((with_reducible refine ie_callf ?_)
                 (first
                 | ((with_reducible refine g_call 16 ?_)
                    (first
                    | ((refine' Ef_callP rfl rfl ent_16 (fun w hp => rtop_c b bd C z.1 z.2 w hC (hp.blkOf ?q1) (hp.rowOf ?q2)) ?_); (case q1 => (repeat (first | exact .head _ | apply List.Mem.tail))); (case q2 => (repeat (first | exact .head _ | apply List.Mem.tail))))
                    | ((refine' Ef_callP rfl rfl ent_16 (fun w hp => rtop_c b boot [] none 0 w ?q1 (hp.blkOf ?q2) Rd.nil) ?_); (case q1 => decide); (case q2 => (repeat (first | exact .head _ | apply List.Mem.tail))))))))
              | ((with_reducible refine ie_app ?_)
                 (first
                 | fail
                 | (((refine' Ef_append_row rfl rfl rfl ?q1 ?q2 ?q3 ?q4 ?q5 ?q6 ?_)
                     (case q1 => exact app_of rfl)
                     (case q2 => (first | exact at0 | exact at1 | exact at2 | exact at3 | exact at4 | exact at5 | exact at6))
                     (case q3 => (repeat (first | exact .head _ | apply List.Mem.tail)))
                     (case q4 => (first | assumption | (intro u hu; rcases hu with _ | ⟨_, _ | ⟨_, _ | ⟨_, _ | ⟨_, hu⟩⟩⟩⟩ <;> first | rfl | (cases hu; done))))
                     (case q5 => omega)
                     (case q6 => omega))
                    (first
                    | ((fail_if_success have := A1); intro A1 c1)
                    | ((fail_if_success have := A2); intro A2 c2)
                    | ((fail_if_success have := A3); intro A3 c3)
                    | ((fail_if_success have := A4); intro A4 c4)
                    | ((fail_if_success have := A5); intro A5 c5)
                    | ((fail_if_success have := A6); intro A6 c6)
                    | ((fail_if_success have := A7); intro A7 c7)))
                 | (((refine' Ef_append_rd rfl rfl rfl ?q1 ?q2 ?q3 List.not_mem_nil ?q4 ?q5 ?q6 ?q7 ?_)
                     (case q1 => exact app_of rfl)
                     (case q2 => (first | exact at0 | exact at1 | exact at2 | exact at3 | exact at4 | exact at5 | exact at6))
                     (case q3 => assumption)
                     (case q4 => omega)
                     (case q5 => (first | assumption | (intro u hu; rcases hu with _ | ⟨_, _ | ⟨_, _ | ⟨_, _ | ⟨_, hu⟩⟩⟩⟩ <;> first | rfl | (cases hu; done))))
                     (case q6 => omega)
                     (case q7 => omega))
                    (first
                    | ((fail_if_success have := A1); intro A1 c1)
                    | ((fail_if_success have := A2); intro A2 c2)
                    | ((fail_if_success have := A3); intro A3 c3)
                    | ((fail_if_success have := A4); intro A4 c4)
                    | ((fail_if_success have := A5); intro A5 c5)
                    | ((fail_if_success have := A6); intro A6 c6)
                    | ((fail_if_success have := A7); intro A7 c7)))))
              | ((with_reducible refine ie_bsl ?_)
                 (first
                 | fail
                 | (((refine' Ef_bslA rfl rfl ?q1 ?q2 ?q3 ?_); (case q1 => exact app_of rfl); (case q2 => rfl); (case q3 => decide))
                    (first
                    | ((fail_if_success have := b1); intro b1)
                    | ((fail_if_success have := b2); intro b2)
                    | ((fail_if_success have := b3); intro b3)
                    | ((fail_if_success have := b4); intro b4)
                    | ((fail_if_success have := b5); intro b5)
                    | ((fail_if_success have := b6); intro b6)
                    | ((fail_if_success have := b7); intro b7)
                    | ((fail_if_success have := b8); intro b8)
                    | ((fail_if_success have := b9); intro b9)))
                 | (((refine' Ef_bsl1 rfl rfl rfl ?q1 ?_); (case q1 => exact app_of rfl))
                    (first
                    | ((fail_if_success have := b1); intro b1)
                    | ((fail_if_success have := b2); intro b2)
                    | ((fail_if_success have := b3); intro b3)
                    | ((fail_if_success have := b4); intro b4)
                    | ((fail_if_success have := b5); intro b5)
                    | ((fail_if_success have := b6); intro b6)
                    | ((fail_if_success have := b7); intro b7)
                    | ((fail_if_success have := b8); intro b8)
                    | ((fail_if_success have := b9); intro b9)))))
              | (first | fail)
              | refine Ef_y rfl rfl ?_)
      · rw [if_pos (by assumption)] at htop
        refine loopQ_n (i + 1) ?_ ?_ (by (first | omega | (dsimp only; omega) | (simp; omega))) (by (first | omega | (dsimp only; omega) | (simp; omega)))
        · try dsimp only
          rw [htop]
          (repeat (first | exact Sub.nil | refine Sub.cons rfl ?_))
        · (repeat (first | exact List.nil_sublist _ | refine List.Sublist.cons_cons _ ?_ | refine List.Sublist.cons _ ?_))
      · rw [if_neg (by assumption)] at htop
        refine loopQ_n (i + 1) ?_ ?_ (by (first | omega | (dsimp only; omega) | (simp; omega))) (by (first | omega | (dsimp only; omega) | (simp; omega)))
        · try dsimp only
          rw [htop]
          (repeat (first | exact Sub.nil | refine Sub.cons rfl ?_))
        · (repeat (first | exact List.nil_sublist _ | refine List.Sublist.cons_cons _ ?_ | refine List.Sublist.cons _ ?_))
    · have e : C.take i = C := List.take_of_length_le (by omega)
      repeat' (first
              | with_reducible refine T.seq ?_
              | with_reducible refine T.block ?_
              | with_reducible refine T.region ?_
              | with_reducible refine T.skip ?_
              | with_reducible refine T.ret ?_
              | with_reducible refine T.exit ?_
              | with_reducible refine seqQ_n ?_
              | with_reducible refine seqQ_x ?_
              | with_reducible refine seqQ_r ?_
              | with_reducible refine blockQ_n ?_
              | with_reducible refine blockQ_r ?_
              | with_reducible refine blockQ_x ?_
              | ((with_reducible refine g_blkx ?_); refine blockQ_y rfl ?_)
              | with_reducible refine loopQ_x ?_
              | with_reducible refine loopQ_r ?_
              | ((with_reducible refine g_cond ?_); (first | refine T.cond_t rfl ?_ | refine T.cond_f rfl ?_ | (refine T.cond_s rfl ?_ ?_ <;> intro hc)))
              | with_reducible refine TL_nil ?_
              | with_reducible refine TS_nil ?_
              | ((with_reducible refine g_draw ?_); (first | fail))
              | ((with_reducible refine TL_y' ?hy ?hd ?_); (case hy => rfl); (case hd => rfl))
              | with_reducible refine TL_e ?_
              | ((with_reducible refine g_TL ?_); (first | refine TL_gy' rfl rfl rfl rfl ?_ | refine TL_gn rfl rfl rfl ?_ | refine TL_gu rfl rfl rfl ?_ | refine TL_ge rfl rfl ?_ | refine TL_gn0 rfl rfl ?_))
              | ((with_reducible refine g_TS ?_)
                 (first
                 | refine TS_y rfl rfl ?_
                 | refine TS_e rfl ?_
                 | refine TS_gy rfl rfl rfl rfl ?_
                 | refine TS_gn rfl rfl rfl rfl ?_
                 | refine TS_gu rfl rfl rfl rfl ?_
                 | refine TS_ge rfl rfl rfl ?_
                 | refine TS_gne rfl rfl rfl rfl ?_
                 | refine TS_gue rfl rfl rfl rfl ?_
                 | refine TS_gne0 rfl rfl rfl ?_))
              | ((with_reducible refine TSand ?hd ?_); (case hd => (repeat (first | exact List.nil_sublist _ | refine List.Sublist.cons_cons _ ?_ | refine List.Sublist.cons _ ?_))))
              | ((with_reducible refine is_move ?_); refine ⟨_, Yl_move rfl, ?_⟩)
              | ((with_reducible refine is_assign ?_); refine ⟨_, Yl_assign rfl, ?_⟩)
              | ((with_reducible refine is_pick ?_); (first | refine ⟨_, Yl_pick_t rfl rfl, ?_⟩ | refine ⟨_, Yl_pick_f rfl rfl, ?_⟩))
              | ((with_reducible refine is_nil ?_); refine ⟨_, Yl_nilCheck rfl, ?_⟩)
              | ((with_reducible refine is_fld ?_)
                 (first | ((refine' ⟨_, Yl_fld_blk0 rfl ?q1, ?_⟩); (case q1 => exact fld_of rfl rfl)) | ((refine' ⟨_, Yl_fld_blk rfl ?q1, ?_⟩); (case q1 => exact fld_of rfl rfl)) | ((refine' ⟨_, Yl_fld_ad rfl ?q1, ?_⟩); (case q1 => exact fld_of rfl rfl))))
              | ((with_reducible refine is_load ?_)
                 (first
                 | ((refine' ⟨_, Yl_load_old rfl ?q1 hb List.not_mem_nil ?q2, ?_⟩); (case q1 => exact one_of rfl); (case q2 => rfl))
                 | ((refine' ⟨_, Yl_load_blk rfl ?q1 ?q2 ?q3, ?_⟩); (case q1 => exact one_of rfl); (case q2 => (repeat (first | exact .head _ | apply List.Mem.tail))); (case q3 => rfl))
                 | ((refine' ⟨_, Yl_loadA_blk rfl ?q1 ?q2, ?_⟩); (case q1 => (repeat (first | exact .head _ | apply List.Mem.tail))); (case q2 => exact agg_of rfl))
                 | ((refine' ⟨_, Yl_load_blk rfl ?q1 ?q2 ?q3, ?_⟩); (case q1 => exact one_of rfl); (case q2 => (repeat (first | exact .head _ | apply List.Mem.tail))); (case q3 => assumption))
                 | ((refine' ⟨_, Yl_load_rd rfl ?q1 ?q2 List.not_mem_nil ?q3, ?_⟩); (case q1 => exact one_of rfl); (case q2 => assumption); (case q3 => assumption))
                 | ((refine' ⟨_, Yl_load_row rfl ?q1 ?q2 ?q3, ?_⟩); (case q1 => exact one_of rfl); (case q2 => (repeat (first | exact .head _ | apply List.Mem.tail))); (case q3 => assumption))
                 | ((refine' ⟨_, Yl_loadA_rd rfl ?qa ?qb List.not_mem_nil ?ql ?qc, ?_⟩); (case qa => exact agg_of rfl); (case qb => assumption); (case qc => assumption); (case ql => rfl))
                 | ((refine' ⟨_, Yl_loadA_row rfl ?qa ?qb ?ql ?qc, ?_⟩); (case qa => exact agg_of rfl); (case qb => (repeat (first | exact .head _ | apply List.Mem.tail))); (case qc => assumption); (case ql => rfl))))
              | ((with_reducible refine is_idx ?_)
                 (first
                 | fail
                 | ((refine' ⟨_, Yl_index rfl rfl ?q1 ?q2 ?q3 (Rd.some_ ?q4 ?q5), ?_⟩); (case q1 => exact und_of rfl); (case q2 => exact siz_of rfl); (case q3 => omega); (case q4 => assumption); (case q5 => omega))
                 | ((refine' ⟨_, Yl_index_row rfl rfl ?q1 ?q2 ?q3 ?q4, ?_⟩); (case q1 => exact und_of rfl); (case q2 => exact siz_of rfl); (case q3 => omega); (case q4 => (repeat (first | exact .head _ | apply List.Mem.tail))))
                 | ((refine' ⟨_, Yl_index rfl rfl ?q1 ?q2 ?q3 rfl, ?_⟩); (case q1 => exact und_of rfl); (case q2 => exact siz_of rfl); (case q3 => omega))))
              | ((with_reducible refine is_ext ?_); refine ⟨_, Yl_extract rfl rfl, ?_⟩)
              | ((with_reducible refine is_un ?_); refine ⟨_, Yl_not rfl, ?_⟩)
              | ((with_reducible refine is_len ?_); (first | ((refine' ⟨_, Yl_len_slice rfl ?q1, ?_⟩); (case q1 => exact und_of rfl)) | ((refine' ⟨_, Yl_len_string rfl ?q1, ?_⟩); (case q1 => exact und_of rfl))))
              | ((with_reducible refine is_b_lss ?_); (first | ((refine' ⟨_, Yl_lss_t rfl rfl ?q1, ?_⟩); (case q1 => omega)) | ((refine' ⟨_, Yl_lss_f rfl rfl ?q1, ?_⟩); (case q1 => omega)) | (refine sp_lss rfl rfl ?_ ?_ <;> intro hc)))
              | ((with_reducible refine is_b_leq ?_); (first | ((refine' ⟨_, Yl_leq_t rfl rfl ?q1, ?_⟩); (case q1 => omega)) | ((refine' ⟨_, Yl_leq_f rfl rfl ?q1, ?_⟩); (case q1 => omega)) | (refine sp_leq rfl rfl ?_ ?_ <;> intro hc)))
              | ((with_reducible refine is_b_gtr ?_); (first | ((refine' ⟨_, Yl_gtr_t rfl rfl ?q1, ?_⟩); (case q1 => omega)) | ((refine' ⟨_, Yl_gtr_f rfl rfl ?q1, ?_⟩); (case q1 => omega)) | (refine sp_gtr rfl rfl ?_ ?_ <;> intro hc)))
              | ((with_reducible refine is_b_geq ?_); (first | ((refine' ⟨_, Yl_geq_t rfl rfl ?q1, ?_⟩); (case q1 => omega)) | ((refine' ⟨_, Yl_geq_f rfl rfl ?q1, ?_⟩); (case q1 => omega)) | (refine sp_geq rfl rfl ?_ ?_ <;> intro hc)))
              | ((with_reducible refine is_b_eql ?_); (first | ((refine' ⟨_, Yl_eql_t rfl rfl ?q1, ?_⟩); (case q1 => omega)) | ((refine' ⟨_, Yl_eql_f rfl rfl ?q1, ?_⟩); (case q1 => omega)) | (refine sp_eql rfl rfl ?_ ?_ <;> intro hc) | fail))
              | ((with_reducible refine is_b_neq ?_); (first | ((refine' ⟨_, Yl_neq_t rfl rfl ?q1, ?_⟩); (case q1 => omega)) | ((refine' ⟨_, Yl_neq_f rfl rfl ?q1, ?_⟩); (case q1 => omega)) | (refine sp_neq rfl rfl ?_ ?_ <;> intro hc) | fail))
              | ((with_reducible refine is_b_add ?_); (first | ((refine' ⟨_, Yl_add rfl rfl ?q1 ?q2, ?_⟩); (case q1 => omega); (case q2 => omega)) | fail))
              | ((with_reducible refine is_b_sub ?_); (first | ((refine' ⟨_, Yl_sub rfl rfl ?q1 ?q2, ?_⟩); (case q1 => omega); (case q2 => omega)) | fail))
              | ((with_reducible refine is_build ?_); (first | refine ⟨_, Yl_build rfl rnew_build, ?_⟩))
              | (first | fail)
              | ((with_reducible refine ie_box ?_)
                 (first
                 | (refine Ef_boxA rfl rfl ?_
                    (first
                    | ((fail_if_success have := b1); intro b1)
                    | ((fail_if_success have := b2); intro b2)
                    | ((fail_if_success have := b3); intro b3)
                    | ((fail_if_success have := b4); intro b4)
                    | ((fail_if_success have := b5); intro b5)
                    | ((fail_if_success have := b6); intro b6)
                    | ((fail_if_success have := b7); intro b7)
                    | ((fail_if_success have := b8); intro b8)
                    | ((fail_if_success have := b9); intro b9)))
                 | (refine Ef_box1 rfl rfl rfl ?_
                    (first
                    | ((fail_if_success have := b1); intro b1)
                    | ((fail_if_success have := b2); intro b2)
                    | ((fail_if_success have := b3); intro b3)
                    | ((fail_if_success have := b4); intro b4)
                    | ((fail_if_success have := b5); intro b5)
                    | ((fail_if_success have := b6); intro b6)
                    | ((fail_if_success have := b7); intro b7)
                    | ((fail_if_success have := b8); intro b8)
                    | ((fail_if_success have := b9); intro b9)))))
              | ((with_reducible refine ie_alloc ?_)
                 (first
                 | fail
                 | (((refine' Ef_alloc rfl ?q1 ?_); (case q1 => exact zer_of rfl))
                    (first
                    | ((fail_if_success have := b1); intro b1)
                    | ((fail_if_success have := b2); intro b2)
                    | ((fail_if_success have := b3); intro b3)
                    | ((fail_if_success have := b4); intro b4)
                    | ((fail_if_success have := b5); intro b5)
                    | ((fail_if_success have := b6); intro b6)
                    | ((fail_if_success have := b7); intro b7)
                    | ((fail_if_success have := b8); intro b8)
                    | ((fail_if_success have := b9); intro b9)))))
              | ((with_reducible refine ie_store ?_)
                 (first
                 | fail
                 | ((refine' Ef_storeC rfl rfl ?q1 ?q2 ?q3 ?q4 ?q5 ?_)
                    (case q1 => rfl)
                    (case q2 => exact siz_of rfl)
                    (case q3 => (first | exact at0 | exact at1 | exact at2 | exact at3 | exact at4 | exact at5 | exact at6))
                    (case q4 => exact Nat.le_of_ble_eq_true rfl)
                    (case q5 => rfl))))
              | ((with_reducible refine ie_callf ?_)
                 (first
                 | ((with_reducible refine g_call 16 ?_)
                    (first
                    | ((refine' Ef_callP rfl rfl ent_16 (fun w hp => rtop_c b bd C z.1 z.2 w hC (hp.blkOf ?q1) (hp.rowOf ?q2)) ?_); (case q1 => (repeat (first | exact .head _ | apply List.Mem.tail))); (case q2 => (repeat (first | exact .head _ | apply List.Mem.tail))))
                    | ((refine' Ef_callP rfl rfl ent_16 (fun w hp => rtop_c b boot [] none 0 w ?q1 (hp.blkOf ?q2) Rd.nil) ?_); (case q1 => decide); (case q2 => (repeat (first | exact .head _ | apply List.Mem.tail))))))))
              | ((with_reducible refine ie_app ?_)
                 (first
                 | fail
                 | (((refine' Ef_append_row rfl rfl rfl ?q1 ?q2 ?q3 ?q4 ?q5 ?q6 ?_)
                     (case q1 => exact app_of rfl)
                     (case q2 => (first | exact at0 | exact at1 | exact at2 | exact at3 | exact at4 | exact at5 | exact at6))
                     (case q3 => (repeat (first | exact .head _ | apply List.Mem.tail)))
                     (case q4 => (first | assumption | (intro u hu; rcases hu with _ | ⟨_, _ | ⟨_, _ | ⟨_, _ | ⟨_, hu⟩⟩⟩⟩ <;> first | rfl | (cases hu; done))))
                     (case q5 => omega)
                     (case q6 => omega))
                    (first
                    | ((fail_if_success have := A1); intro A1 c1)
                    | ((fail_if_success have := A2); intro A2 c2)
                    | ((fail_if_success have := A3); intro A3 c3)
                    | ((fail_if_success have := A4); intro A4 c4)
                    | ((fail_if_success have := A5); intro A5 c5)
                    | ((fail_if_success have := A6); intro A6 c6)
                    | ((fail_if_success have := A7); intro A7 c7)))
                 | (((refine' Ef_append_rd rfl rfl rfl ?q1 ?q2 ?q3 List.not_mem_nil ?q4 ?q5 ?q6 ?q7 ?_)
                     (case q1 => exact app_of rfl)
                     (case q2 => (first | exact at0 | exact at1 | exact at2 | exact at3 | exact at4 | exact at5 | exact at6))
                     (case q3 => assumption)
                     (case q4 => omega)
                     (case q5 => (first | assumption | (intro u hu; rcases hu with _ | ⟨_, _ | ⟨_, _ | ⟨_, _ | ⟨_, hu⟩⟩⟩⟩ <;> first | rfl | (cases hu; done))))
                     (case q6 => omega)
                     (case q7 => omega))
                    (first
                    | ((fail_if_success have := A1); intro A1 c1)
                    | ((fail_if_success have := A2); intro A2 c2)
                    | ((fail_if_success have := A3); intro A3 c3)
                    | ((fail_if_success have := A4); intro A4 c4)
                    | ((fail_if_success have := A5); intro A5 c5)
                    | ((fail_if_success have := A6); intro A6 c6)
                    | ((fail_if_success have := A7); intro A7 c7)))))
              | ((with_reducible refine ie_bsl ?_)
                 (first
                 | fail
                 | (((refine' Ef_bslA rfl rfl ?q1 ?q2 ?q3 ?_); (case q1 => exact app_of rfl); (case q2 => rfl); (case q3 => decide))
                    (first
                    | ((fail_if_success have := b1); intro b1)
                    | ((fail_if_success have := b2); intro b2)
                    | ((fail_if_success have := b3); intro b3)
                    | ((fail_if_success have := b4); intro b4)
                    | ((fail_if_success have := b5); intro b5)
                    | ((fail_if_success have := b6); intro b6)
                    | ((fail_if_success have := b7); intro b7)
                    | ((fail_if_success have := b8); intro b8)
                    | ((fail_if_success have := b9); intro b9)))
                 | (((refine' Ef_bsl1 rfl rfl rfl ?q1 ?_); (case q1 => exact app_of rfl))
                    (first
                    | ((fail_if_success have := b1); intro b1)
                    | ((fail_if_success have := b2); intro b2)
                    | ((fail_if_success have := b3); intro b3)
                    | ((fail_if_success have := b4); intro b4)
                    | ((fail_if_success have := b5); intro b5)
                    | ((fail_if_success have := b6); intro b6)
                    | ((fail_if_success have := b7); intro b7)
                    | ((fail_if_success have := b8); intro b8)
                    | ((fail_if_success have := b9); intro b9)))))
              | (first | fail)
              | refine Ef_y rfl rfl ?_)
      exact ret_n [] (res1 rfl rfl) (List.nil_sublist _) ⟨by rw [e], rfl⟩

section
variable {b : Int} {C : List Int} {boot n : Int}
theorem rt_arg (h : boot < 0 ∨ n < 1) : Win.refTake b C boot n = (b, C, 2) := by unfold Win.refTake; rw [if_pos h]
theorem rt_old (h : ¬ (boot < 0 ∨ n < 1)) (h2 : boot < b) : Win.refTake b C boot n = (b, C, 180) := by unfold Win.refTake; rw [if_neg h, if_pos h2]
theorem rt_new (h : ¬ (boot < 0 ∨ n < 1)) (h2 : b < boot) : Win.refTake b C boot n = (boot, [n], 0) := by
  unfold Win.refTake
  have e : Win.topOf [] = 0 := rfl
  rw [if_neg h, if_neg (by omega)]
  simp only [if_pos h2]
  rw [if_neg (by omega), if_neg (by simp)]
  rfl
theorem rt_far (h : ¬ (boot < 0 ∨ n < 1)) (h2 : ¬ boot < b) (h3 : ¬ b < boot) (h4 : n ≤ Win.topOf C - 64) : Win.refTake b C boot n = (b, C, 180) := by
  unfold Win.refTake
  rw [if_neg h, if_neg h2]
  simp only [if_neg h3]
  rw [if_pos h4]
theorem rt_in (h : ¬ (boot < 0 ∨ n < 1)) (h2 : ¬ boot < b) (h3 : ¬ b < boot) (h4 : ¬ n ≤ Win.topOf C - 64) (h5 : n ∈ C) : Win.refTake b C boot n = (b, C, 180) := by
  unfold Win.refTake
  rw [if_neg h, if_neg h2]
  simp only [if_neg h3]
  rw [if_neg h4, if_pos h5]
theorem rt_ok (h : ¬ (boot < 0 ∨ n < 1)) (h2 : ¬ boot < b) (h3 : ¬ b < boot) (h4 : ¬ n ≤ Win.topOf C - 64) (h5 : ¬ n ∈ C) : Win.refTake b C boot n = (b, C ++ [n], 0) := by
  unfold Win.refTake
  rw [if_neg h, if_neg h2]
  simp only [if_neg h3]
  rw [if_neg h4, if_neg h5]
end
theorem eI_snoc (C : List Int) (n : Int) : C.flatMap (eI .i64) ++ [.int .i64 n] = (C ++ [n]).flatMap (eI .i64) := by simp [eI]
theorem lenI_snoc (C : List Int) (n : Int) : C.length + 1 = (C ++ [n]).length := by simp

set_option maxHeartbeats 1000000 in
theorem rtake_c (b : Nat) (bd : Int) (C : List Int) (z : Option Addr × Nat) (boot n : Int) (w : World) (hC : C.length ≤ 300) (ht0 : 0 ≤ Win.topOf C) (ht1 : Win.topOf C ≤ 9223372036854775807) (hp : Hp w ((rM b bd C z).flatMap Asrt.foot) (rM b bd C z) w) :
    Sp Try.prog 17 [.pointer (some ⟨b, 0, none⟩), .int .i64 boot, .int .i64 n] w ((rM b bd C z).flatMap Asrt.foot)
      fun v N => ∃ z' : Option Addr × Nat, True ∧ v = .int .i64 (Win.refTake bd C boot n).2.2 ∧ N = rM b (Win.refTake bd C boot n).1 (Win.refTake bd C boot n).2.1 z' := by
  have hnil : Win.topOf [] = 0 := rfl
  refine Sp.enter (n := 66) (M0 := [.blk b (.cells #[.int .i64 bd, .slice z.1 C.length z.2] 45 (0, 0)), .row 3 1 (.slice z.1 C.length z.2) C.length (C.flatMap (eI .i64))]) Try.func17 rfl rfl rfl hp ?_
  repeat' (first
          | with_reducible refine T.seq ?_
          | with_reducible refine T.block ?_
          | with_reducible refine T.region ?_
          | with_reducible refine T.skip ?_
          | with_reducible refine T.ret ?_
          | with_reducible refine T.exit ?_
          | with_reducible refine seqQ_n ?_
          | with_reducible refine seqQ_x ?_
          | with_reducible refine seqQ_r ?_
          | with_reducible refine blockQ_n ?_
          | with_reducible refine blockQ_r ?_
          | with_reducible refine blockQ_x ?_
          | ((with_reducible refine g_blkx ?_); refine blockQ_y rfl ?_)
          | with_reducible refine loopQ_x ?_
          | with_reducible refine loopQ_r ?_
          | ((with_reducible refine g_cond ?_); (first | refine T.cond_t rfl ?_ | refine T.cond_f rfl ?_ | (refine T.cond_s rfl ?_ ?_ <;> intro hc)))
          | with_reducible refine TL_nil ?_
          | with_reducible refine TS_nil ?_
          | ((with_reducible refine g_draw ?_); (first | fail))
          | ((with_reducible refine TL_y' ?hy ?hd ?_); (case hy => rfl); (case hd => rfl))
          | with_reducible refine TL_e ?_
          | ((with_reducible refine g_TL ?_); (first | refine TL_gy' rfl rfl rfl rfl ?_ | refine TL_gn rfl rfl rfl ?_ | refine TL_gu rfl rfl rfl ?_ | refine TL_ge rfl rfl ?_ | refine TL_gn0 rfl rfl ?_))
          | ((with_reducible refine g_TS ?_)
             (first
             | refine TS_y rfl rfl ?_
             | refine TS_e rfl ?_
             | refine TS_gy rfl rfl rfl rfl ?_
             | refine TS_gn rfl rfl rfl rfl ?_
             | refine TS_gu rfl rfl rfl rfl ?_
             | refine TS_ge rfl rfl rfl ?_
             | refine TS_gne rfl rfl rfl rfl ?_
             | refine TS_gue rfl rfl rfl rfl ?_
             | refine TS_gne0 rfl rfl rfl ?_))
          | ((with_reducible refine TSand ?hd ?_); (case hd => (repeat (first | exact List.nil_sublist _ | refine List.Sublist.cons_cons _ ?_ | refine List.Sublist.cons _ ?_))))
          | ((with_reducible refine is_move ?_); refine ⟨_, Yl_move rfl, ?_⟩)
          | ((with_reducible refine is_assign ?_); refine ⟨_, Yl_assign rfl, ?_⟩)
          | ((with_reducible refine is_pick ?_); (first | refine ⟨_, Yl_pick_t rfl rfl, ?_⟩ | refine ⟨_, Yl_pick_f rfl rfl, ?_⟩))
          | ((with_reducible refine is_nil ?_); refine ⟨_, Yl_nilCheck rfl, ?_⟩)
          | ((with_reducible refine is_fld ?_)
             (first | ((refine' ⟨_, Yl_fld_blk0 rfl ?q1, ?_⟩); (case q1 => exact fld_of rfl rfl)) | ((refine' ⟨_, Yl_fld_blk rfl ?q1, ?_⟩); (case q1 => exact fld_of rfl rfl)) | ((refine' ⟨_, Yl_fld_ad rfl ?q1, ?_⟩); (case q1 => exact fld_of rfl rfl))))
          | ((with_reducible refine is_load ?_)
             (first
             | ((refine' ⟨_, Yl_load_old rfl ?q1 hb List.not_mem_nil ?q2, ?_⟩); (case q1 => exact one_of rfl); (case q2 => rfl))
             | ((refine' ⟨_, Yl_load_blk rfl ?q1 ?q2 ?q3, ?_⟩); (case q1 => exact one_of rfl); (case q2 => (repeat (first | exact .head _ | apply List.Mem.tail))); (case q3 => rfl))
             | ((refine' ⟨_, Yl_loadA_blk rfl ?q1 ?q2, ?_⟩); (case q1 => (repeat (first | exact .head _ | apply List.Mem.tail))); (case q2 => exact agg_of rfl))
             | ((refine' ⟨_, Yl_load_blk rfl ?q1 ?q2 ?q3, ?_⟩); (case q1 => exact one_of rfl); (case q2 => (repeat (first | exact .head _ | apply List.Mem.tail))); (case q3 => assumption))
             | ((refine' ⟨_, Yl_load_rd rfl ?q1 ?q2 List.not_mem_nil ?q3, ?_⟩); (case q1 => exact one_of rfl); (case q2 => assumption); (case q3 => assumption))
             | ((refine' ⟨_, Yl_load_row rfl ?q1 ?q2 ?q3, ?_⟩); (case q1 => exact one_of rfl); (case q2 => (repeat (first | exact .head _ | apply List.Mem.tail))); (case q3 => assumption))
             | ((refine' ⟨_, Yl_loadA_rd rfl ?qa ?qb List.not_mem_nil ?ql ?qc, ?_⟩); (case qa => exact agg_of rfl); (case qb => assumption); (case qc => assumption); (case ql => rfl))
             | ((refine' ⟨_, Yl_loadA_row rfl ?qa ?qb ?ql ?qc, ?_⟩); (case qa => exact agg_of rfl); (case qb => (repeat (first | exact .head _ | apply List.Mem.tail))); (case qc => assumption); (case ql => rfl))))
          | ((with_reducible refine is_idx ?_)
             (first
             | fail
             | ((refine' ⟨_, Yl_index rfl rfl ?q1 ?q2 ?q3 (Rd.some_ ?q4 ?q5), ?_⟩); (case q1 => exact und_of rfl); (case q2 => exact siz_of rfl); (case q3 => omega); (case q4 => assumption); (case q5 => omega))
             | ((refine' ⟨_, Yl_index_row rfl rfl ?q1 ?q2 ?q3 ?q4, ?_⟩); (case q1 => exact und_of rfl); (case q2 => exact siz_of rfl); (case q3 => omega); (case q4 => (repeat (first | exact .head _ | apply List.Mem.tail))))
             | ((refine' ⟨_, Yl_index rfl rfl ?q1 ?q2 ?q3 rfl, ?_⟩); (case q1 => exact und_of rfl); (case q2 => exact siz_of rfl); (case q3 => omega))))
          | ((with_reducible refine is_ext ?_); refine ⟨_, Yl_extract rfl rfl, ?_⟩)
          | ((with_reducible refine is_un ?_); refine ⟨_, Yl_not rfl, ?_⟩)
          | ((with_reducible refine is_len ?_); (first | ((refine' ⟨_, Yl_len_slice rfl ?q1, ?_⟩); (case q1 => exact und_of rfl)) | ((refine' ⟨_, Yl_len_string rfl ?q1, ?_⟩); (case q1 => exact und_of rfl))))
          | ((with_reducible refine is_b_lss ?_); (first | ((refine' ⟨_, Yl_lss_t rfl rfl ?q1, ?_⟩); (case q1 => omega)) | ((refine' ⟨_, Yl_lss_f rfl rfl ?q1, ?_⟩); (case q1 => omega)) | (refine sp_lss rfl rfl ?_ ?_ <;> intro hc)))
          | ((with_reducible refine is_b_leq ?_); (first | ((refine' ⟨_, Yl_leq_t rfl rfl ?q1, ?_⟩); (case q1 => omega)) | ((refine' ⟨_, Yl_leq_f rfl rfl ?q1, ?_⟩); (case q1 => omega)) | (refine sp_leq rfl rfl ?_ ?_ <;> intro hc)))
          | ((with_reducible refine is_b_gtr ?_); (first | ((refine' ⟨_, Yl_gtr_t rfl rfl ?q1, ?_⟩); (case q1 => omega)) | ((refine' ⟨_, Yl_gtr_f rfl rfl ?q1, ?_⟩); (case q1 => omega)) | (refine sp_gtr rfl rfl ?_ ?_ <;> intro hc)))
          | ((with_reducible refine is_b_geq ?_); (first | ((refine' ⟨_, Yl_geq_t rfl rfl ?q1, ?_⟩); (case q1 => omega)) | ((refine' ⟨_, Yl_geq_f rfl rfl ?q1, ?_⟩); (case q1 => omega)) | (refine sp_geq rfl rfl ?_ ?_ <;> intro hc)))
          | ((with_reducible refine is_b_eql ?_); (first | ((refine' ⟨_, Yl_eql_t rfl rfl ?q1, ?_⟩); (case q1 => omega)) | ((refine' ⟨_, Yl_eql_f rfl rfl ?q1, ?_⟩); (case q1 => omega)) | (refine sp_eql rfl rfl ?_ ?_ <;> intro hc) | fail))
          | ((with_reducible refine is_b_neq ?_); (first | ((refine' ⟨_, Yl_neq_t rfl rfl ?q1, ?_⟩); (case q1 => omega)) | ((refine' ⟨_, Yl_neq_f rfl rfl ?q1, ?_⟩); (case q1 => omega)) | (refine sp_neq rfl rfl ?_ ?_ <;> intro hc) | fail))
          | ((with_reducible refine is_b_add ?_); (first | ((refine' ⟨_, Yl_add rfl rfl ?q1 ?q2, ?_⟩); (case q1 => omega); (case q2 => omega)) | fail))
          | ((with_reducible refine is_b_sub ?_); (first | ((refine' ⟨_, Yl_sub rfl rfl ?q1 ?q2, ?_⟩); (case q1 => omega); (case q2 => omega)) | fail))
          | ((with_reducible refine is_build ?_); (first | refine ⟨_, Yl_build rfl rnew_build, ?_⟩))
          | (first | fail)
          | ((with_reducible refine ie_box ?_)
             (first
             | (refine Ef_boxA rfl rfl ?_
                (first
                | ((fail_if_success have := b1); intro b1)
                | ((fail_if_success have := b2); intro b2)
                | ((fail_if_success have := b3); intro b3)
                | ((fail_if_success have := b4); intro b4)
                | ((fail_if_success have := b5); intro b5)
                | ((fail_if_success have := b6); intro b6)
                | ((fail_if_success have := b7); intro b7)
                | ((fail_if_success have := b8); intro b8)
                | ((fail_if_success have := b9); intro b9)))
             | (refine Ef_box1 rfl rfl rfl ?_
                (first
                | ((fail_if_success have := b1); intro b1)
                | ((fail_if_success have := b2); intro b2)
                | ((fail_if_success have := b3); intro b3)
                | ((fail_if_success have := b4); intro b4)
                | ((fail_if_success have := b5); intro b5)
                | ((fail_if_success have := b6); intro b6)
                | ((fail_if_success have := b7); intro b7)
                | ((fail_if_success have := b8); intro b8)
                | ((fail_if_success have := b9); intro b9)))))
          | ((with_reducible refine ie_alloc ?_)
             (first
             | fail
             | (((refine' Ef_alloc rfl ?q1 ?_); (case q1 => exact zer_of rfl))
                (first
                | ((fail_if_success have := b1); intro b1)
                | ((fail_if_success have := b2); intro b2)
                | ((fail_if_success have := b3); intro b3)
                | ((fail_if_success have := b4); intro b4)
                | ((fail_if_success have := b5); intro b5)
                | ((fail_if_success have := b6); intro b6)
                | ((fail_if_success have := b7); intro b7)
                | ((fail_if_success have := b8); intro b8)
                | ((fail_if_success have := b9); intro b9)))))
          | ((with_reducible refine ie_store ?_)
             (first
             | fail
             | ((refine' Ef_storeC rfl rfl ?q1 ?q2 ?q3 ?q4 ?q5 ?_)
                (case q1 => rfl)
                (case q2 => exact siz_of rfl)
                (case q3 => (first | exact at0 | exact at1 | exact at2 | exact at3 | exact at4 | exact at5 | exact at6))
                (case q4 => exact Nat.le_of_ble_eq_true rfl)
                (case q5 => rfl))))
          | ((with_reducible refine ie_callf ?_)
             (first
             | ((with_reducible refine g_call 16 ?_)
                (first
                | ((refine' Ef_callP rfl rfl ent_16 (fun w hp => rtop_c b bd C z.1 z.2 w hC (hp.blkOf ?q1) (hp.rowOf ?q2)) ?_); (case q1 => (repeat (first | exact .head _ | apply List.Mem.tail))); (case q2 => (repeat (first | exact .head _ | apply List.Mem.tail))))
                | ((refine' Ef_callP rfl rfl ent_16 (fun w hp => rtop_c b boot [] none 0 w ?q1 (hp.blkOf ?q2) Rd.nil) ?_); (case q1 => decide); (case q2 => (repeat (first | exact .head _ | apply List.Mem.tail))))))))
          | ((with_reducible refine ie_app ?_)
             (first
             | fail
             | (((refine' Ef_append_row rfl rfl rfl ?q1 ?q2 ?q3 ?q4 ?q5 ?q6 ?_)
                 (case q1 => exact app_of rfl)
                 (case q2 => (first | exact at0 | exact at1 | exact at2 | exact at3 | exact at4 | exact at5 | exact at6))
                 (case q3 => (repeat (first | exact .head _ | apply List.Mem.tail)))
                 (case q4 => (first | assumption | (intro u hu; rcases hu with _ | ⟨_, _ | ⟨_, _ | ⟨_, _ | ⟨_, hu⟩⟩⟩⟩ <;> first | rfl | (cases hu; done))))
                 (case q5 => omega)
                 (case q6 => omega))
                (first
                | ((fail_if_success have := A1); intro A1 c1)
                | ((fail_if_success have := A2); intro A2 c2)
                | ((fail_if_success have := A3); intro A3 c3)
                | ((fail_if_success have := A4); intro A4 c4)
                | ((fail_if_success have := A5); intro A5 c5)
                | ((fail_if_success have := A6); intro A6 c6)
                | ((fail_if_success have := A7); intro A7 c7)))
             | (((refine' Ef_append_rd rfl rfl rfl ?q1 ?q2 ?q3 List.not_mem_nil ?q4 ?q5 ?q6 ?q7 ?_)
                 (case q1 => exact app_of rfl)
                 (case q2 => (first | exact at0 | exact at1 | exact at2 | exact at3 | exact at4 | exact at5 | exact at6))
                 (case q3 => assumption)
                 (case q4 => omega)
                 (case q5 => (first | assumption | (intro u hu; rcases hu with _ | ⟨_, _ | ⟨_, _ | ⟨_, _ | ⟨_, hu⟩⟩⟩⟩ <;> first | rfl | (cases hu; done))))
                 (case q6 => omega)
                 (case q7 => omega))
                (first
                | ((fail_if_success have := A1); intro A1 c1)
                | ((fail_if_success have := A2); intro A2 c2)
                | ((fail_if_success have := A3); intro A3 c3)
                | ((fail_if_success have := A4); intro A4 c4)
                | ((fail_if_success have := A5); intro A5 c5)
                | ((fail_if_success have := A6); intro A6 c6)
                | ((fail_if_success have := A7); intro A7 c7)))))
          | ((with_reducible refine ie_bsl ?_)
             (first
             | fail
             | (((refine' Ef_bslA rfl rfl ?q1 ?q2 ?q3 ?_); (case q1 => exact app_of rfl); (case q2 => rfl); (case q3 => decide))
                (first
                | ((fail_if_success have := b1); intro b1)
                | ((fail_if_success have := b2); intro b2)
                | ((fail_if_success have := b3); intro b3)
                | ((fail_if_success have := b4); intro b4)
                | ((fail_if_success have := b5); intro b5)
                | ((fail_if_success have := b6); intro b6)
                | ((fail_if_success have := b7); intro b7)
                | ((fail_if_success have := b8); intro b8)
                | ((fail_if_success have := b9); intro b9)))
             | (((refine' Ef_bsl1 rfl rfl rfl ?q1 ?_); (case q1 => exact app_of rfl))
                (first
                | ((fail_if_success have := b1); intro b1)
                | ((fail_if_success have := b2); intro b2)
                | ((fail_if_success have := b3); intro b3)
                | ((fail_if_success have := b4); intro b4)
                | ((fail_if_success have := b5); intro b5)
                | ((fail_if_success have := b6); intro b6)
                | ((fail_if_success have := b7); intro b7)
                | ((fail_if_success have := b8); intro b8)
                | ((fail_if_success have := b9); intro b9)))))
          | (first | fail)
          | refine Ef_y rfl rfl ?_)
  · rw [rt_arg (by omega)]
    exact ret_n (rM b bd C z) (res1 rfl rfl) (List.Sublist.refl _) ⟨z, trivial, rfl, rfl⟩
  · rw [rt_arg (by omega)]
    exact ret_n (rM b bd C z) (res1 rfl rfl) (List.Sublist.refl _) ⟨z, trivial, rfl, rfl⟩
  · rw [rt_old (by omega) (by omega)]
    exact ret_n (rM b bd C z) (res1 rfl rfl) (List.Sublist.refl _) ⟨z, trivial, rfl, rfl⟩
  · rw [rt_new (by omega) (by omega)]
    refine T.row0e 3 1 ?_
    refine T.loop (α := Unit) (fun _ => [(0, .pointer (some ⟨b, 0, none⟩)), (2, .int .i64 n), (7, .int .i64 0)]) (fun _ => [.blk b (.cells #[.int .i64 boot, .slice none 0 0] 45 (0, 0)), .row 3 1 (.slice none 0 0) 0 []]) (fun _ => True) (fun _ => 0) () ?_ ?_ ?_ ?_
    · (repeat (first | exact Sub.nil | refine Sub.cons rfl ?_))
    · (repeat (first | exact List.nil_sublist _ | refine List.Sublist.cons_cons _ ?_ | refine List.Sublist.cons _ ?_))
    · trivial
    · intro _ _
      repeat' (first
              | with_reducible refine T.seq ?_
              | with_reducible refine T.block ?_
              | with_reducible refine T.region ?_
              | with_reducible refine T.skip ?_
              | with_reducible refine T.ret ?_
              | with_reducible refine T.exit ?_
              | with_reducible refine seqQ_n ?_
              | with_reducible refine seqQ_x ?_
              | with_reducible refine seqQ_r ?_
              | with_reducible refine blockQ_n ?_
              | with_reducible refine blockQ_r ?_
              | with_reducible refine blockQ_x ?_
              | ((with_reducible refine g_blkx ?_); refine blockQ_y rfl ?_)
              | with_reducible refine loopQ_x ?_
              | with_reducible refine loopQ_r ?_
              | ((with_reducible refine g_cond ?_); (first | refine T.cond_t rfl ?_ | refine T.cond_f rfl ?_ | (refine T.cond_s rfl ?_ ?_ <;> intro hc)))
              | with_reducible refine TL_nil ?_
              | with_reducible refine TS_nil ?_
              | ((with_reducible refine g_draw ?_); (first | fail))
              | ((with_reducible refine TL_y' ?hy ?hd ?_); (case hy => rfl); (case hd => rfl))
              | with_reducible refine TL_e ?_
              | ((with_reducible refine g_TL ?_); (first | refine TL_gy' rfl rfl rfl rfl ?_ | refine TL_gn rfl rfl rfl ?_ | refine TL_gu rfl rfl rfl ?_ | refine TL_ge rfl rfl ?_ | refine TL_gn0 rfl rfl ?_))
              | ((with_reducible refine g_TS ?_)
                 (first
                 | refine TS_y rfl rfl ?_
                 | refine TS_e rfl ?_
                 | refine TS_gy rfl rfl rfl rfl ?_
                 | refine TS_gn rfl rfl rfl rfl ?_
                 | refine TS_gu rfl rfl rfl rfl ?_
                 | refine TS_ge rfl rfl rfl ?_
                 | refine TS_gne rfl rfl rfl rfl ?_
                 | refine TS_gue rfl rfl rfl rfl ?_
                 | refine TS_gne0 rfl rfl rfl ?_))
              | ((with_reducible refine TSand ?hd ?_); (case hd => (repeat (first | exact List.nil_sublist _ | refine List.Sublist.cons_cons _ ?_ | refine List.Sublist.cons _ ?_))))
              | ((with_reducible refine is_move ?_); refine ⟨_, Yl_move rfl, ?_⟩)
              | ((with_reducible refine is_assign ?_); refine ⟨_, Yl_assign rfl, ?_⟩)
              | ((with_reducible refine is_pick ?_); (first | refine ⟨_, Yl_pick_t rfl rfl, ?_⟩ | refine ⟨_, Yl_pick_f rfl rfl, ?_⟩))
              | ((with_reducible refine is_nil ?_); refine ⟨_, Yl_nilCheck rfl, ?_⟩)
              | ((with_reducible refine is_fld ?_)
                 (first | ((refine' ⟨_, Yl_fld_blk0 rfl ?q1, ?_⟩); (case q1 => exact fld_of rfl rfl)) | ((refine' ⟨_, Yl_fld_blk rfl ?q1, ?_⟩); (case q1 => exact fld_of rfl rfl)) | ((refine' ⟨_, Yl_fld_ad rfl ?q1, ?_⟩); (case q1 => exact fld_of rfl rfl))))
              | ((with_reducible refine is_load ?_)
                 (first
                 | ((refine' ⟨_, Yl_load_old rfl ?q1 hb List.not_mem_nil ?q2, ?_⟩); (case q1 => exact one_of rfl); (case q2 => rfl))
                 | ((refine' ⟨_, Yl_load_blk rfl ?q1 ?q2 ?q3, ?_⟩); (case q1 => exact one_of rfl); (case q2 => (repeat (first | exact .head _ | apply List.Mem.tail))); (case q3 => rfl))
                 | ((refine' ⟨_, Yl_loadA_blk rfl ?q1 ?q2, ?_⟩); (case q1 => (repeat (first | exact .head _ | apply List.Mem.tail))); (case q2 => exact agg_of rfl))
                 | ((refine' ⟨_, Yl_load_blk rfl ?q1 ?q2 ?q3, ?_⟩); (case q1 => exact one_of rfl); (case q2 => (repeat (first | exact .head _ | apply List.Mem.tail))); (case q3 => assumption))
                 | ((refine' ⟨_, Yl_load_rd rfl ?q1 ?q2 List.not_mem_nil ?q3, ?_⟩); (case q1 => exact one_of rfl); (case q2 => assumption); (case q3 => assumption))
                 | ((refine' ⟨_, Yl_load_row rfl ?q1 ?q2 ?q3, ?_⟩); (case q1 => exact one_of rfl); (case q2 => (repeat (first | exact .head _ | apply List.Mem.tail))); (case q3 => assumption))
                 | ((refine' ⟨_, Yl_loadA_rd rfl ?qa ?qb List.not_mem_nil ?ql ?qc, ?_⟩); (case qa => exact agg_of rfl); (case qb => assumption); (case qc => assumption); (case ql => rfl))
                 | ((refine' ⟨_, Yl_loadA_row rfl ?qa ?qb ?ql ?qc, ?_⟩); (case qa => exact agg_of rfl); (case qb => (repeat (first | exact .head _ | apply List.Mem.tail))); (case qc => assumption); (case ql => rfl))))
              | ((with_reducible refine is_idx ?_)
                 (first
                 | fail
                 | ((refine' ⟨_, Yl_index rfl rfl ?q1 ?q2 ?q3 (Rd.some_ ?q4 ?q5), ?_⟩); (case q1 => exact und_of rfl); (case q2 => exact siz_of rfl); (case q3 => omega); (case q4 => assumption); (case q5 => omega))
                 | ((refine' ⟨_, Yl_index_row rfl rfl ?q1 ?q2 ?q3 ?q4, ?_⟩); (case q1 => exact und_of rfl); (case q2 => exact siz_of rfl); (case q3 => omega); (case q4 => (repeat (first | exact .head _ | apply List.Mem.tail))))
                 | ((refine' ⟨_, Yl_index rfl rfl ?q1 ?q2 ?q3 rfl, ?_⟩); (case q1 => exact und_of rfl); (case q2 => exact siz_of rfl); (case q3 => omega))))
              | ((with_reducible refine is_ext ?_); refine ⟨_, Yl_extract rfl rfl, ?_⟩)
              | ((with_reducible refine is_un ?_); refine ⟨_, Yl_not rfl, ?_⟩)
              | ((with_reducible refine is_len ?_); (first | ((refine' ⟨_, Yl_len_slice rfl ?q1, ?_⟩); (case q1 => exact und_of rfl)) | ((refine' ⟨_, Yl_len_string rfl ?q1, ?_⟩); (case q1 => exact und_of rfl))))
              | ((with_reducible refine is_b_lss ?_); (first | ((refine' ⟨_, Yl_lss_t rfl rfl ?q1, ?_⟩); (case q1 => omega)) | ((refine' ⟨_, Yl_lss_f rfl rfl ?q1, ?_⟩); (case q1 => omega)) | (refine sp_lss rfl rfl ?_ ?_ <;> intro hc)))
              | ((with_reducible refine is_b_leq ?_); (first | ((refine' ⟨_, Yl_leq_t rfl rfl ?q1, ?_⟩); (case q1 => omega)) | ((refine' ⟨_, Yl_leq_f rfl rfl ?q1, ?_⟩); (case q1 => omega)) | (refine sp_leq rfl rfl ?_ ?_ <;> intro hc)))
              | ((with_reducible refine is_b_gtr ?_); (first | ((refine' ⟨_, Yl_gtr_t rfl rfl ?q1, ?_⟩); (case q1 => omega)) | ((refine' ⟨_, Yl_gtr_f rfl rfl ?q1, ?_⟩); (case q1 => omega)) | (refine sp_gtr rfl rfl ?_ ?_ <;> intro hc)))
              | ((with_reducible refine is_b_geq ?_); (first | ((refine' ⟨_, Yl_geq_t rfl rfl ?q1, ?_⟩); (case q1 => omega)) | ((refine' ⟨_, Yl_geq_f rfl rfl ?q1, ?_⟩); (case q1 => omega)) | (refine sp_geq rfl rfl ?_ ?_ <;> intro hc)))
              | ((with_reducible refine is_b_eql ?_); (first | ((refine' ⟨_, Yl_eql_t rfl rfl ?q1, ?_⟩); (case q1 => omega)) | ((refine' ⟨_, Yl_eql_f rfl rfl ?q1, ?_⟩); (case q1 => omega)) | (refine sp_eql rfl rfl ?_ ?_ <;> intro hc) | fail))
              | ((with_reducible refine is_b_neq ?_); (first | ((refine' ⟨_, Yl_neq_t rfl rfl ?q1, ?_⟩); (case q1 => omega)) | ((refine' ⟨_, Yl_neq_f rfl rfl ?q1, ?_⟩); (case q1 => omega)) | (refine sp_neq rfl rfl ?_ ?_ <;> intro hc) | fail))
              | ((with_reducible refine is_b_add ?_); (first | ((refine' ⟨_, Yl_add rfl rfl ?q1 ?q2, ?_⟩); (case q1 => omega); (case q2 => omega)) | fail))
              | ((with_reducible refine is_b_sub ?_); (first | ((refine' ⟨_, Yl_sub rfl rfl ?q1 ?q2, ?_⟩); (case q1 => omega); (case q2 => omega)) | fail))
              | ((with_reducible refine is_build ?_); (first | refine ⟨_, Yl_build rfl rnew_build, ?_⟩))
              | (first | fail)
              | ((with_reducible refine ie_box ?_)
                 (first
                 | (refine Ef_boxA rfl rfl ?_
                    (first
                    | ((fail_if_success have := b1); intro b1)
                    | ((fail_if_success have := b2); intro b2)
                    | ((fail_if_success have := b3); intro b3)
                    | ((fail_if_success have := b4); intro b4)
                    | ((fail_if_success have := b5); intro b5)
                    | ((fail_if_success have := b6); intro b6)
                    | ((fail_if_success have := b7); intro b7)
                    | ((fail_if_success have := b8); intro b8)
                    | ((fail_if_success have := b9); intro b9)))
                 | (refine Ef_box1 rfl rfl rfl ?_
                    (first
                    | ((fail_if_success have := b1); intro b1)
                    | ((fail_if_success have := b2); intro b2)
                    | ((fail_if_success have := b3); intro b3)
                    | ((fail_if_success have := b4); intro b4)
                    | ((fail_if_success have := b5); intro b5)
                    | ((fail_if_success have := b6); intro b6)
                    | ((fail_if_success have := b7); intro b7)
                    | ((fail_if_success have := b8); intro b8)
                    | ((fail_if_success have := b9); intro b9)))))
              | ((with_reducible refine ie_alloc ?_)
                 (first
                 | fail
                 | (((refine' Ef_alloc rfl ?q1 ?_); (case q1 => exact zer_of rfl))
                    (first
                    | ((fail_if_success have := b1); intro b1)
                    | ((fail_if_success have := b2); intro b2)
                    | ((fail_if_success have := b3); intro b3)
                    | ((fail_if_success have := b4); intro b4)
                    | ((fail_if_success have := b5); intro b5)
                    | ((fail_if_success have := b6); intro b6)
                    | ((fail_if_success have := b7); intro b7)
                    | ((fail_if_success have := b8); intro b8)
                    | ((fail_if_success have := b9); intro b9)))))
              | ((with_reducible refine ie_store ?_)
                 (first
                 | fail
                 | ((refine' Ef_storeC rfl rfl ?q1 ?q2 ?q3 ?q4 ?q5 ?_)
                    (case q1 => rfl)
                    (case q2 => exact siz_of rfl)
                    (case q3 => (first | exact at0 | exact at1 | exact at2 | exact at3 | exact at4 | exact at5 | exact at6))
                    (case q4 => exact Nat.le_of_ble_eq_true rfl)
                    (case q5 => rfl))))
              | ((with_reducible refine ie_callf ?_)
                 (first
                 | ((with_reducible refine g_call 16 ?_)
                    (first
                    | ((refine' Ef_callP rfl rfl ent_16 (fun w hp => rtop_c b bd C z.1 z.2 w hC (hp.blkOf ?q1) (hp.rowOf ?q2)) ?_); (case q1 => (repeat (first | exact .head _ | apply List.Mem.tail))); (case q2 => (repeat (first | exact .head _ | apply List.Mem.tail))))
                    | ((refine' Ef_callP rfl rfl ent_16 (fun w hp => rtop_c b boot [] none 0 w ?q1 (hp.blkOf ?q2) Rd.nil) ?_); (case q1 => decide); (case q2 => (repeat (first | exact .head _ | apply List.Mem.tail))))))))
              | ((with_reducible refine ie_app ?_)
                 (first
                 | fail
                 | (((refine' Ef_append_row rfl rfl rfl ?q1 ?q2 ?q3 ?q4 ?q5 ?q6 ?_)
                     (case q1 => exact app_of rfl)
                     (case q2 => (first | exact at0 | exact at1 | exact at2 | exact at3 | exact at4 | exact at5 | exact at6))
                     (case q3 => (repeat (first | exact .head _ | apply List.Mem.tail)))
                     (case q4 => (first | assumption | (intro u hu; rcases hu with _ | ⟨_, _ | ⟨_, _ | ⟨_, _ | ⟨_, hu⟩⟩⟩⟩ <;> first | rfl | (cases hu; done))))
                     (case q5 => omega)
                     (case q6 => omega))
                    (first
                    | ((fail_if_success have := A1); intro A1 c1)
                    | ((fail_if_success have := A2); intro A2 c2)
                    | ((fail_if_success have := A3); intro A3 c3)
                    | ((fail_if_success have := A4); intro A4 c4)
                    | ((fail_if_success have := A5); intro A5 c5)
                    | ((fail_if_success have := A6); intro A6 c6)
                    | ((fail_if_success have := A7); intro A7 c7)))
                 | (((refine' Ef_append_rd rfl rfl rfl ?q1 ?q2 ?q3 List.not_mem_nil ?q4 ?q5 ?q6 ?q7 ?_)
                     (case q1 => exact app_of rfl)
                     (case q2 => (first | exact at0 | exact at1 | exact at2 | exact at3 | exact at4 | exact at5 | exact at6))
                     (case q3 => assumption)
                     (case q4 => omega)
                     (case q5 => (first | assumption | (intro u hu; rcases hu with _ | ⟨_, _ | ⟨_, _ | ⟨_, _ | ⟨_, hu⟩⟩⟩⟩ <;> first | rfl | (cases hu; done))))
                     (case q6 => omega)
                     (case q7 => omega))
                    (first
                    | ((fail_if_success have := A1); intro A1 c1)
                    | ((fail_if_success have := A2); intro A2 c2)
                    | ((fail_if_success have := A3); intro A3 c3)
                    | ((fail_if_success have := A4); intro A4 c4)
                    | ((fail_if_success have := A5); intro A5 c5)
                    | ((fail_if_success have := A6); intro A6 c6)
                    | ((fail_if_success have := A7); intro A7 c7)))))
              | ((with_reducible refine ie_bsl ?_)
                 (first
                 | fail
                 | (((refine' Ef_bslA rfl rfl ?q1 ?q2 ?q3 ?_); (case q1 => exact app_of rfl); (case q2 => rfl); (case q3 => decide))
                    (first
                    | ((fail_if_success have := b1); intro b1)
                    | ((fail_if_success have := b2); intro b2)
                    | ((fail_if_success have := b3); intro b3)
                    | ((fail_if_success have := b4); intro b4)
                    | ((fail_if_success have := b5); intro b5)
                    | ((fail_if_success have := b6); intro b6)
                    | ((fail_if_success have := b7); intro b7)
                    | ((fail_if_success have := b8); intro b8)
                    | ((fail_if_success have := b9); intro b9)))
                 | (((refine' Ef_bsl1 rfl rfl rfl ?q1 ?_); (case q1 => exact app_of rfl))
                    (first
                    | ((fail_if_success have := b1); intro b1)
                    | ((fail_if_success have := b2); intro b2)
                    | ((fail_if_success have := b3); intro b3)
                    | ((fail_if_success have := b4); intro b4)
                    | ((fail_if_success have := b5); intro b5)
                    | ((fail_if_success have := b6); intro b6)
                    | ((fail_if_success have := b7); intro b7)
                    | ((fail_if_success have := b8); intro b8)
                    | ((fail_if_success have := b9); intro b9)))))
              | (first | fail)
              | refine Ef_y rfl rfl ?_)
      exact ret_n (rM b boot [n] (A1, c1)) (res1 rfl rfl) (by (repeat (first | exact List.nil_sublist _ | refine List.Sublist.cons_cons _ ?_ | refine List.Sublist.cons _ ?_))) ⟨(A1, c1), trivial, rfl, rfl⟩
  · rw [rt_far (by omega) (by omega) (by omega) (by omega)]
    exact ret_n (rM b bd C z) (res1 rfl rfl) (List.Sublist.refl _) ⟨z, trivial, rfl, rfl⟩
  · have hbe : boot = bd := by omega
    subst hbe
    refine T.loop (α := Nat) (fun k => [(0, .pointer (some ⟨b, 0, none⟩)), (2, .int .i64 n), (7, .int .i64 (k : Int))]) (fun _ => rM b boot C z) (fun k => k ≤ C.length ∧ ¬ n ∈ C.take k) (fun k => C.length - k) 0 ?_ ?_ ?_ ?_
    · (repeat (first | exact Sub.nil | refine Sub.cons rfl ?_))
    · exact List.Sublist.refl _
    · exact ⟨Nat.zero_le _, by simp⟩
    · rintro k ⟨hk, hno⟩
      unfold rM
      by_cases hlt : k < C.length
      · obtain ⟨x, hx⟩ := some_of_lt hlt
        have e0 : (C.flatMap (eI .i64))[k * 1 + 0]? = some (.int .i64 x) := enc_at (eI_len .i64) hx (by omega)
        repeat' (first
                | with_reducible refine T.seq ?_
                | with_reducible refine T.block ?_
                | with_reducible refine T.region ?_
                | with_reducible refine T.skip ?_
                | with_reducible refine T.ret ?_
                | with_reducible refine T.exit ?_
                | with_reducible refine seqQ_n ?_
                | with_reducible refine seqQ_x ?_
                | with_reducible refine seqQ_r ?_
                | with_reducible refine blockQ_n ?_
                | with_reducible refine blockQ_r ?_
                | with_reducible refine blockQ_x ?_
                | ((with_reducible refine g_blkx ?_); refine blockQ_y rfl ?_)
                | with_reducible refine loopQ_x ?_
                | with_reducible refine loopQ_r ?_
                | ((with_reducible refine g_cond ?_); (first | refine T.cond_t rfl ?_ | refine T.cond_f rfl ?_ | (refine T.cond_s rfl ?_ ?_ <;> intro hc)))
                | with_reducible refine TL_nil ?_
                | with_reducible refine TS_nil ?_
                | ((with_reducible refine g_draw ?_); (first | fail))
                | ((with_reducible refine TL_y' ?hy ?hd ?_); (case hy => rfl); (case hd => rfl))
                | with_reducible refine TL_e ?_
                | ((with_reducible refine g_TL ?_); (first | refine TL_gy' rfl rfl rfl rfl ?_ | refine TL_gn rfl rfl rfl ?_ | refine TL_gu rfl rfl rfl ?_ | refine TL_ge rfl rfl ?_ | refine TL_gn0 rfl rfl ?_))
                | ((with_reducible refine g_TS ?_)
                   (first
                   | refine TS_y rfl rfl ?_
                   | refine TS_e rfl ?_
                   | refine TS_gy rfl rfl rfl rfl ?_
                   | refine TS_gn rfl rfl rfl rfl ?_
                   | refine TS_gu rfl rfl rfl rfl ?_
                   | refine TS_ge rfl rfl rfl ?_
                   | refine TS_gne rfl rfl rfl rfl ?_
                   | refine TS_gue rfl rfl rfl rfl ?_
                   | refine TS_gne0 rfl rfl rfl ?_))
                | ((with_reducible refine TSand ?hd ?_); (case hd => (repeat (first | exact List.nil_sublist _ | refine List.Sublist.cons_cons _ ?_ | refine List.Sublist.cons _ ?_))))
                | ((with_reducible refine is_move ?_); refine ⟨_, Yl_move rfl, ?_⟩)
                | ((with_reducible refine is_assign ?_); refine ⟨_, Yl_assign rfl, ?_⟩)
                | ((with_reducible refine is_pick ?_); (first | refine ⟨_, Yl_pick_t rfl rfl, ?_⟩ | refine ⟨_, Yl_pick_f rfl rfl, ?_⟩))
                | ((with_reducible refine is_nil ?_); refine ⟨_, Yl_nilCheck rfl, ?_⟩)
                | ((with_reducible refine is_fld ?_)
                   (first | ((refine' ⟨_, Yl_fld_blk0 rfl ?q1, ?_⟩); (case q1 => exact fld_of rfl rfl)) | ((refine' ⟨_, Yl_fld_blk rfl ?q1, ?_⟩); (case q1 => exact fld_of rfl rfl)) | ((refine' ⟨_, Yl_fld_ad rfl ?q1, ?_⟩); (case q1 => exact fld_of rfl rfl))))
                | ((with_reducible refine is_load ?_)
                   (first
                   | ((refine' ⟨_, Yl_load_old rfl ?q1 hb List.not_mem_nil ?q2, ?_⟩); (case q1 => exact one_of rfl); (case q2 => rfl))
                   | ((refine' ⟨_, Yl_load_blk rfl ?q1 ?q2 ?q3, ?_⟩); (case q1 => exact one_of rfl); (case q2 => (repeat (first | exact .head _ | apply List.Mem.tail))); (case q3 => rfl))
                   | ((refine' ⟨_, Yl_loadA_blk rfl ?q1 ?q2, ?_⟩); (case q1 => (repeat (first | exact .head _ | apply List.Mem.tail))); (case q2 => exact agg_of rfl))
                   | ((refine' ⟨_, Yl_load_blk rfl ?q1 ?q2 ?q3, ?_⟩); (case q1 => exact one_of rfl); (case q2 => (repeat (first | exact .head _ | apply List.Mem.tail))); (case q3 => assumption))
                   | ((refine' ⟨_, Yl_load_rd rfl ?q1 ?q2 List.not_mem_nil ?q3, ?_⟩); (case q1 => exact one_of rfl); (case q2 => assumption); (case q3 => assumption))
                   | ((refine' ⟨_, Yl_load_row rfl ?q1 ?q2 ?q3, ?_⟩); (case q1 => exact one_of rfl); (case q2 => (repeat (first | exact .head _ | apply List.Mem.tail))); (case q3 => assumption))
                   | ((refine' ⟨_, Yl_loadA_rd rfl ?qa ?qb List.not_mem_nil ?ql ?qc, ?_⟩); (case qa => exact agg_of rfl); (case qb => assumption); (case qc => assumption); (case ql => rfl))
                   | ((refine' ⟨_, Yl_loadA_row rfl ?qa ?qb ?ql ?qc, ?_⟩); (case qa => exact agg_of rfl); (case qb => (repeat (first | exact .head _ | apply List.Mem.tail))); (case qc => assumption); (case ql => rfl))))
                | ((with_reducible refine is_idx ?_)
                   (first
                   | fail
                   | ((refine' ⟨_, Yl_index rfl rfl ?q1 ?q2 ?q3 (Rd.some_ ?q4 ?q5), ?_⟩); (case q1 => exact und_of rfl); (case q2 => exact siz_of rfl); (case q3 => omega); (case q4 => assumption); (case q5 => omega))
                   | ((refine' ⟨_, Yl_index_row rfl rfl ?q1 ?q2 ?q3 ?q4, ?_⟩); (case q1 => exact und_of rfl); (case q2 => exact siz_of rfl); (case q3 => omega); (case q4 => (repeat (first | exact .head _ | apply List.Mem.tail))))
                   | ((refine' ⟨_, Yl_index rfl rfl ?q1 ?q2 ?q3 rfl, ?_⟩); (case q1 => exact und_of rfl); (case q2 => exact siz_of rfl); (case q3 => omega))))
                | ((with_reducible refine is_ext ?_); refine ⟨_, Yl_extract rfl rfl, ?_⟩)
                | ((with_reducible refine is_un ?_); refine ⟨_, Yl_not rfl, ?_⟩)
                | ((with_reducible refine is_len ?_); (first | ((refine' ⟨_, Yl_len_slice rfl ?q1, ?_⟩); (case q1 => exact und_of rfl)) | ((refine' ⟨_, Yl_len_string rfl ?q1, ?_⟩); (case q1 => exact und_of rfl))))
                | ((with_reducible refine is_b_lss ?_); (first | ((refine' ⟨_, Yl_lss_t rfl rfl ?q1, ?_⟩); (case q1 => omega)) | ((refine' ⟨_, Yl_lss_f rfl rfl ?q1, ?_⟩); (case q1 => omega)) | (refine sp_lss rfl rfl ?_ ?_ <;> intro hc)))
                | ((with_reducible refine is_b_leq ?_); (first | ((refine' ⟨_, Yl_leq_t rfl rfl ?q1, ?_⟩); (case q1 => omega)) | ((refine' ⟨_, Yl_leq_f rfl rfl ?q1, ?_⟩); (case q1 => omega)) | (refine sp_leq rfl rfl ?_ ?_ <;> intro hc)))
                | ((with_reducible refine is_b_gtr ?_); (first | ((refine' ⟨_, Yl_gtr_t rfl rfl ?q1, ?_⟩); (case q1 => omega)) | ((refine' ⟨_, Yl_gtr_f rfl rfl ?q1, ?_⟩); (case q1 => omega)) | (refine sp_gtr rfl rfl ?_ ?_ <;> intro hc)))
                | ((with_reducible refine is_b_geq ?_); (first | ((refine' ⟨_, Yl_geq_t rfl rfl ?q1, ?_⟩); (case q1 => omega)) | ((refine' ⟨_, Yl_geq_f rfl rfl ?q1, ?_⟩); (case q1 => omega)) | (refine sp_geq rfl rfl ?_ ?_ <;> intro hc)))
                | ((with_reducible refine is_b_eql ?_); (first | ((refine' ⟨_, Yl_eql_t rfl rfl ?q1, ?_⟩); (case q1 => omega)) | ((refine' ⟨_, Yl_eql_f rfl rfl ?q1, ?_⟩); (case q1 => omega)) | (refine sp_eql rfl rfl ?_ ?_ <;> intro hc) | fail))
                | ((with_reducible refine is_b_neq ?_); (first | ((refine' ⟨_, Yl_neq_t rfl rfl ?q1, ?_⟩); (case q1 => omega)) | ((refine' ⟨_, Yl_neq_f rfl rfl ?q1, ?_⟩); (case q1 => omega)) | (refine sp_neq rfl rfl ?_ ?_ <;> intro hc) | fail))
                | ((with_reducible refine is_b_add ?_); (first | ((refine' ⟨_, Yl_add rfl rfl ?q1 ?q2, ?_⟩); (case q1 => omega); (case q2 => omega)) | fail))
                | ((with_reducible refine is_b_sub ?_); (first | ((refine' ⟨_, Yl_sub rfl rfl ?q1 ?q2, ?_⟩); (case q1 => omega); (case q2 => omega)) | fail))
                | ((with_reducible refine is_build ?_); (first | refine ⟨_, Yl_build rfl rnew_build, ?_⟩))
                | (first | fail)
                | ((with_reducible refine ie_box ?_)
                   (first
                   | (refine Ef_boxA rfl rfl ?_
                      (first
                      | ((fail_if_success have := b1); intro b1)
                      | ((fail_if_success have := b2); intro b2)
                      | ((fail_if_success have := b3); intro b3)
                      | ((fail_if_success have := b4); intro b4)
                      | ((fail_if_success have := b5); intro b5)
                      | ((fail_if_success have := b6); intro b6)
                      | ((fail_if_success have := b7); intro b7)
                      | ((fail_if_success have := b8); intro b8)
                      | ((fail_if_success have := b9); intro b9)))
                   | (refine Ef_box1 rfl rfl rfl ?_
                      (first
                      | ((fail_if_success have := b1); intro b1)
                      | ((fail_if_success have := b2); intro b2)
                      | ((fail_if_success have := b3); intro b3)
                      | ((fail_if_success have := b4); intro b4)
                      | ((fail_if_success have := b5); intro b5)
                      | ((fail_if_success have := b6); intro b6)
                      | ((fail_if_success have := b7); intro b7)
                      | ((fail_if_success have := b8); intro b8)
                      | ((fail_if_success have := b9); intro b9)))))
                | ((with_reducible refine ie_alloc ?_)
                   (first
                   | fail
                   | (((refine' Ef_alloc rfl ?q1 ?_); (case q1 => exact zer_of rfl))
                      (first
                      | ((fail_if_success have := b1); intro b1)
                      | ((fail_if_success have := b2); intro b2)
                      | ((fail_if_success have := b3); intro b3)
                      | ((fail_if_success have := b4); intro b4)
                      | ((fail_if_success have := b5); intro b5)
                      | ((fail_if_success have := b6); intro b6)
                      | ((fail_if_success have := b7); intro b7)
                      | ((fail_if_success have := b8); intro b8)
                      | ((fail_if_success have := b9); intro b9)))))
                | ((with_reducible refine ie_store ?_)
                   (first
                   | fail
                   | ((refine' Ef_storeC rfl rfl ?q1 ?q2 ?q3 ?q4 ?q5 ?_)
                      (case q1 => rfl)
                      (case q2 => exact siz_of rfl)
                      (case q3 => (first | exact at0 | exact at1 | exact at2 | exact at3 | exact at4 | exact at5 | exact at6))
                      (case q4 => exact Nat.le_of_ble_eq_true rfl)
                      (case q5 => rfl))))
                | ((with_reducible refine ie_callf ?_)
                   (first
                   | ((with_reducible refine g_call 16 ?_)
                      (first
                      | ((refine' Ef_callP rfl rfl ent_16 (fun w hp => rtop_c b bd C z.1 z.2 w hC (hp.blkOf ?q1) (hp.rowOf ?q2)) ?_); (case q1 => (repeat (first | exact .head _ | apply List.Mem.tail))); (case q2 => (repeat (first | exact .head _ | apply List.Mem.tail))))
                      | ((refine' Ef_callP rfl rfl ent_16 (fun w hp => rtop_c b boot [] none 0 w ?q1 (hp.blkOf ?q2) Rd.nil) ?_); (case q1 => decide); (case q2 => (repeat (first | exact .head _ | apply List.Mem.tail))))))))
                | ((with_reducible refine ie_app ?_)
                   (first
                   | fail
                   | (((refine' Ef_append_row rfl rfl rfl ?q1 ?q2 ?q3 ?q4 ?q5 ?q6 ?_)
                       (case q1 => exact app_of rfl)
                       (case q2 => (first | exact at0 | exact at1 | exact at2 | exact at3 | exact at4 | exact at5 | exact at6))
                       (case q3 => (repeat (first | exact .head _ | apply List.Mem.tail)))
                       (case q4 => (first | assumption | (intro u hu; rcases hu with _ | ⟨_, _ | ⟨_, _ | ⟨_, _ | ⟨_, hu⟩⟩⟩⟩ <;> first | rfl | (cases hu; done))))
                       (case q5 => omega)
                       (case q6 => omega))
                      (first
                      | ((fail_if_success have := A1); intro A1 c1)
                      | ((fail_if_success have := A2); intro A2 c2)
                      | ((fail_if_success have := A3); intro A3 c3)
                      | ((fail_if_success have := A4); intro A4 c4)
                      | ((fail_if_success have := A5); intro A5 c5)
                      | ((fail_if_success have := A6); intro A6 c6)
                      | ((fail_if_success have := A7); intro A7 c7)))
                   | (((refine' Ef_append_rd rfl rfl rfl ?q1 ?q2 ?q3 List.not_mem_nil ?q4 ?q5 ?q6 ?q7 ?_)
                       (case q1 => exact app_of rfl)
                       (case q2 => (first | exact at0 | exact at1 | exact at2 | exact at3 | exact at4 | exact at5 | exact at6))
                       (case q3 => assumption)
                       (case q4 => omega)
                       (case q5 => (first | assumption | (intro u hu; rcases hu with _ | ⟨_, _ | ⟨_, _ | ⟨_, _ | ⟨_, hu⟩⟩⟩⟩ <;> first | rfl | (cases hu; done))))
                       (case q6 => omega)
                       (case q7 => omega))
                      (first
                      | ((fail_if_success have := A1); intro A1 c1)
                      | ((fail_if_success have := A2); intro A2 c2)
                      | ((fail_if_success have := A3); intro A3 c3)
                      | ((fail_if_success have := A4); intro A4 c4)
                      | ((fail_if_success have := A5); intro A5 c5)
                      | ((fail_if_success have := A6); intro A6 c6)
                      | ((fail_if_success have := A7); intro A7 c7)))))
                | ((with_reducible refine ie_bsl ?_)
                   (first
                   | fail
                   | (((refine' Ef_bslA rfl rfl ?q1 ?q2 ?q3 ?_); (case q1 => exact app_of rfl); (case q2 => rfl); (case q3 => decide))
                      (first
                      | ((fail_if_success have := b1); intro b1)
                      | ((fail_if_success have := b2); intro b2)
                      | ((fail_if_success have := b3); intro b3)
                      | ((fail_if_success have := b4); intro b4)
                      | ((fail_if_success have := b5); intro b5)
                      | ((fail_if_success have := b6); intro b6)
                      | ((fail_if_success have := b7); intro b7)
                      | ((fail_if_success have := b8); intro b8)
                      | ((fail_if_success have := b9); intro b9)))
                   | (((refine' Ef_bsl1 rfl rfl rfl ?q1 ?_); (case q1 => exact app_of rfl))
                      (first
                      | ((fail_if_success have := b1); intro b1)
                      | ((fail_if_success have := b2); intro b2)
                      | ((fail_if_success have := b3); intro b3)
                      | ((fail_if_success have := b4); intro b4)
                      | ((fail_if_success have := b5); intro b5)
                      | ((fail_if_success have := b6); intro b6)
                      | ((fail_if_success have := b7); intro b7)
                      | ((fail_if_success have := b8); intro b8)
                      | ((fail_if_success have := b9); intro b9)))))
                | (first | fail)
                | refine Ef_y rfl rfl ?_)
        · have hin : n ∈ C := by
            have := mem_of_some hx
            rwa [show x = n by assumption] at this
          rw [rt_in (by omega) (by omega) (by omega) (by omega) hin]
          exact ret_n (rM b boot C z) (res1 rfl rfl) (List.Sublist.refl _) ⟨z, trivial, rfl, rfl⟩
        · have hne : ¬ x = n := by assumption
          refine loopQ_n (k + 1) ?_ ?_ ⟨hlt, ?_⟩ (by (first | omega | (dsimp only; omega) | (simp; omega)))
          · (repeat (first | exact Sub.nil | refine Sub.cons rfl ?_))
          · exact List.Sublist.refl _
          · rw [take_snoc hx, List.mem_append, List.mem_singleton]
            rintro (h | h)
            · exact hno h
            · exact hne h.symm
      · have e : C.take k = C := List.take_of_length_le (by omega)
        rw [e] at hno
        rw [rt_ok (by omega) (by omega) (by omega) (by omega) hno]
        repeat' (first
                | with_reducible refine T.seq ?_
                | with_reducible refine T.block ?_
                | with_reducible refine T.region ?_
                | with_reducible refine T.skip ?_
                | with_reducible refine T.ret ?_
                | with_reducible refine T.exit ?_
                | with_reducible refine seqQ_n ?_
                | with_reducible refine seqQ_x ?_
                | with_reducible refine seqQ_r ?_
                | with_reducible refine blockQ_n ?_
                | with_reducible refine blockQ_r ?_
                | with_reducible refine blockQ_x ?_
                | ((with_reducible refine g_blkx ?_); refine blockQ_y rfl ?_)
                | with_reducible refine loopQ_x ?_
                | with_reducible refine loopQ_r ?_
                | ((with_reducible refine g_cond ?_); (first | refine T.cond_t rfl ?_ | refine T.cond_f rfl ?_ | (refine T.cond_s rfl ?_ ?_ <;> intro hc)))
                | with_reducible refine TL_nil ?_
                | with_reducible refine TS_nil ?_
                | ((with_reducible refine g_draw ?_); (first | fail))
                | ((with_reducible refine TL_y' ?hy ?hd ?_); (case hy => rfl); (case hd => rfl))
                | with_reducible refine TL_e ?_
                | ((with_reducible refine g_TL ?_); (first | refine TL_gy' rfl rfl rfl rfl ?_ | refine TL_gn rfl rfl rfl ?_ | refine TL_gu rfl rfl rfl ?_ | refine TL_ge rfl rfl ?_ | refine TL_gn0 rfl rfl ?_))
                | ((with_reducible refine g_TS ?_)
                   (first
                   | refine TS_y rfl rfl ?_
                   | refine TS_e rfl ?_
                   | refine TS_gy rfl rfl rfl rfl ?_
                   | refine TS_gn rfl rfl rfl rfl ?_
                   | refine TS_gu rfl rfl rfl rfl ?_
                   | refine TS_ge rfl rfl rfl ?_
                   | refine TS_gne rfl rfl rfl rfl ?_
                   | refine TS_gue rfl rfl rfl rfl ?_
                   | refine TS_gne0 rfl rfl rfl ?_))
                | ((with_reducible refine TSand ?hd ?_); (case hd => (repeat (first | exact List.nil_sublist _ | refine List.Sublist.cons_cons _ ?_ | refine List.Sublist.cons _ ?_))))
                | ((with_reducible refine is_move ?_); refine ⟨_, Yl_move rfl, ?_⟩)
                | ((with_reducible refine is_assign ?_); refine ⟨_, Yl_assign rfl, ?_⟩)
                | ((with_reducible refine is_pick ?_); (first | refine ⟨_, Yl_pick_t rfl rfl, ?_⟩ | refine ⟨_, Yl_pick_f rfl rfl, ?_⟩))
                | ((with_reducible refine is_nil ?_); refine ⟨_, Yl_nilCheck rfl, ?_⟩)
                | ((with_reducible refine is_fld ?_)
                   (first | ((refine' ⟨_, Yl_fld_blk0 rfl ?q1, ?_⟩); (case q1 => exact fld_of rfl rfl)) | ((refine' ⟨_, Yl_fld_blk rfl ?q1, ?_⟩); (case q1 => exact fld_of rfl rfl)) | ((refine' ⟨_, Yl_fld_ad rfl ?q1, ?_⟩); (case q1 => exact fld_of rfl rfl))))
                | ((with_reducible refine is_load ?_)
                   (first
                   | ((refine' ⟨_, Yl_load_old rfl ?q1 hb List.not_mem_nil ?q2, ?_⟩); (case q1 => exact one_of rfl); (case q2 => rfl))
                   | ((refine' ⟨_, Yl_load_blk rfl ?q1 ?q2 ?q3, ?_⟩); (case q1 => exact one_of rfl); (case q2 => (repeat (first | exact .head _ | apply List.Mem.tail))); (case q3 => rfl))
                   | ((refine' ⟨_, Yl_loadA_blk rfl ?q1 ?q2, ?_⟩); (case q1 => (repeat (first | exact .head _ | apply List.Mem.tail))); (case q2 => exact agg_of rfl))
                   | ((refine' ⟨_, Yl_load_blk rfl ?q1 ?q2 ?q3, ?_⟩); (case q1 => exact one_of rfl); (case q2 => (repeat (first | exact .head _ | apply List.Mem.tail))); (case q3 => assumption))
                   | ((refine' ⟨_, Yl_load_rd rfl ?q1 ?q2 List.not_mem_nil ?q3, ?_⟩); (case q1 => exact one_of rfl); (case q2 => assumption); (case q3 => assumption))
                   | ((refine' ⟨_, Yl_load_row rfl ?q1 ?q2 ?q3, ?_⟩); (case q1 => exact one_of rfl); (case q2 => (repeat (first | exact .head _ | apply List.Mem.tail))); (case q3 => assumption))
                   | ((refine' ⟨_, Yl_loadA_rd rfl ?qa ?qb List.not_mem_nil ?ql ?qc, ?_⟩); (case qa => exact agg_of rfl); (case qb => assumption); (case qc => assumption); (case ql => rfl))
                   | ((refine' ⟨_, Yl_loadA_row rfl ?qa ?qb ?ql ?qc, ?_⟩); (case qa => exact agg_of rfl); (case qb => (repeat (first | exact .head _ | apply List.Mem.tail))); (case qc => assumption); (case ql => rfl))))
                | ((with_reducible refine is_idx ?_)
                   (first
                   | fail
                   | ((refine' ⟨_, Yl_index rfl rfl ?q1 ?q2 ?q3 (Rd.some_ ?q4 ?q5), ?_⟩); (case q1 => exact und_of rfl); (case q2 => exact siz_of rfl); (case q3 => omega); (case q4 => assumption); (case q5 => omega))
                   | ((refine' ⟨_, Yl_index_row rfl rfl ?q1 ?q2 ?q3 ?q4, ?_⟩); (case q1 => exact und_of rfl); (case q2 => exact siz_of rfl); (case q3 => omega); (case q4 => (repeat (first | exact .head _ | apply List.Mem.tail))))
                   | ((refine' ⟨_, Yl_index rfl rfl ?q1 ?q2 ?q3 rfl, ?_⟩); (case q1 => exact und_of rfl); (case q2 => exact siz_of rfl); (case q3 => omega))))
                | ((with_reducible refine is_ext ?_); refine ⟨_, Yl_extract rfl rfl, ?_⟩)
                | ((with_reducible refine is_un ?_); refine ⟨_, Yl_not rfl, ?_⟩)
                | ((with_reducible refine is_len ?_); (first | ((refine' ⟨_, Yl_len_slice rfl ?q1, ?_⟩); (case q1 => exact und_of rfl)) | ((refine' ⟨_, Yl_len_string rfl ?q1, ?_⟩); (case q1 => exact und_of rfl))))
                | ((with_reducible refine is_b_lss ?_); (first | ((refine' ⟨_, Yl_lss_t rfl rfl ?q1, ?_⟩); (case q1 => omega)) | ((refine' ⟨_, Yl_lss_f rfl rfl ?q1, ?_⟩); (case q1 => omega)) | (refine sp_lss rfl rfl ?_ ?_ <;> intro hc)))
                | ((with_reducible refine is_b_leq ?_); (first | ((refine' ⟨_, Yl_leq_t rfl rfl ?q1, ?_⟩); (case q1 => omega)) | ((refine' ⟨_, Yl_leq_f rfl rfl ?q1, ?_⟩); (case q1 => omega)) | (refine sp_leq rfl rfl ?_ ?_ <;> intro hc)))
                | ((with_reducible refine is_b_gtr ?_); (first | ((refine' ⟨_, Yl_gtr_t rfl rfl ?q1, ?_⟩); (case q1 => omega)) | ((refine' ⟨_, Yl_gtr_f rfl rfl ?q1, ?_⟩); (case q1 => omega)) | (refine sp_gtr rfl rfl ?_ ?_ <;> intro hc)))
                | ((with_reducible refine is_b_geq ?_); (first | ((refine' ⟨_, Yl_geq_t rfl rfl ?q1, ?_⟩); (case q1 => omega)) | ((refine' ⟨_, Yl_geq_f rfl rfl ?q1, ?_⟩); (case q1 => omega)) | (refine sp_geq rfl rfl ?_ ?_ <;> intro hc)))
                | ((with_reducible refine is_b_eql ?_); (first | ((refine' ⟨_, Yl_eql_t rfl rfl ?q1, ?_⟩); (case q1 => omega)) | ((refine' ⟨_, Yl_eql_f rfl rfl ?q1, ?_⟩); (case q1 => omega)) | (refine sp_eql rfl rfl ?_ ?_ <;> intro hc) | fail))
                | ((with_reducible refine is_b_neq ?_); (first | ((refine' ⟨_, Yl_neq_t rfl rfl ?q1, ?_⟩); (case q1 => omega)) | ((refine' ⟨_, Yl_neq_f rfl rfl ?q1, ?_⟩); (case q1 => omega)) | (refine sp_neq rfl rfl ?_ ?_ <;> intro hc) | fail))
                | ((with_reducible refine is_b_add ?_); (first | ((refine' ⟨_, Yl_add rfl rfl ?q1 ?q2, ?_⟩); (case q1 => omega); (case q2 => omega)) | fail))
                | ((with_reducible refine is_b_sub ?_); (first | ((refine' ⟨_, Yl_sub rfl rfl ?q1 ?q2, ?_⟩); (case q1 => omega); (case q2 => omega)) | fail))
                | ((with_reducible refine is_build ?_); (first | refine ⟨_, Yl_build rfl rnew_build, ?_⟩))
                | (first | fail)
                | ((with_reducible refine ie_box ?_)
                   (first
                   | (refine Ef_boxA rfl rfl ?_
                      (first
                      | ((fail_if_success have := b1); intro b1)
                      | ((fail_if_success have := b2); intro b2)
                      | ((fail_if_success have := b3); intro b3)
                      | ((fail_if_success have := b4); intro b4)
                      | ((fail_if_success have := b5); intro b5)
                      | ((fail_if_success have := b6); intro b6)
                      | ((fail_if_success have := b7); intro b7)
                      | ((fail_if_success have := b8); intro b8)
                      | ((fail_if_success have := b9); intro b9)))
                   | (refine Ef_box1 rfl rfl rfl ?_
                      (first
                      | ((fail_if_success have := b1); intro b1)
                      | ((fail_if_success have := b2); intro b2)
                      | ((fail_if_success have := b3); intro b3)
                      | ((fail_if_success have := b4); intro b4)
                      | ((fail_if_success have := b5); intro b5)
                      | ((fail_if_success have := b6); intro b6)
                      | ((fail_if_success have := b7); intro b7)
                      | ((fail_if_success have := b8); intro b8)
                      | ((fail_if_success have := b9); intro b9)))))
                | ((with_reducible refine ie_alloc ?_)
                   (first
                   | fail
                   | (((refine' Ef_alloc rfl ?q1 ?_); (case q1 => exact zer_of rfl))
                      (first
                      | ((fail_if_success have := b1); intro b1)
                      | ((fail_if_success have := b2); intro b2)
                      | ((fail_if_success have := b3); intro b3)
                      | ((fail_if_success have := b4); intro b4)
                      | ((fail_if_success have := b5); intro b5)
                      | ((fail_if_success have := b6); intro b6)
                      | ((fail_if_success have := b7); intro b7)
                      | ((fail_if_success have := b8); intro b8)
                      | ((fail_if_success have := b9); intro b9)))))
                | ((with_reducible refine ie_store ?_)
                   (first
                   | fail
                   | ((refine' Ef_storeC rfl rfl ?q1 ?q2 ?q3 ?q4 ?q5 ?_)
                      (case q1 => rfl)
                      (case q2 => exact siz_of rfl)
                      (case q3 => (first | exact at0 | exact at1 | exact at2 | exact at3 | exact at4 | exact at5 | exact at6))
                      (case q4 => exact Nat.le_of_ble_eq_true rfl)
                      (case q5 => rfl))))
                | ((with_reducible refine ie_callf ?_)
                   (first
                   | ((with_reducible refine g_call 16 ?_)
                      (first
                      | ((refine' Ef_callP rfl rfl ent_16 (fun w hp => rtop_c b bd C z.1 z.2 w hC (hp.blkOf ?q1) (hp.rowOf ?q2)) ?_); (case q1 => (repeat (first | exact .head _ | apply List.Mem.tail))); (case q2 => (repeat (first | exact .head _ | apply List.Mem.tail))))
                      | ((refine' Ef_callP rfl rfl ent_16 (fun w hp => rtop_c b boot [] none 0 w ?q1 (hp.blkOf ?q2) Rd.nil) ?_); (case q1 => decide); (case q2 => (repeat (first | exact .head _ | apply List.Mem.tail))))))))
                | ((with_reducible refine ie_app ?_)
                   (first
                   | fail
                   | (((refine' Ef_append_row rfl rfl rfl ?q1 ?q2 ?q3 ?q4 ?q5 ?q6 ?_)
                       (case q1 => exact app_of rfl)
                       (case q2 => (first | exact at0 | exact at1 | exact at2 | exact at3 | exact at4 | exact at5 | exact at6))
                       (case q3 => (repeat (first | exact .head _ | apply List.Mem.tail)))
                       (case q4 => (first | assumption | (intro u hu; rcases hu with _ | ⟨_, _ | ⟨_, _ | ⟨_, _ | ⟨_, hu⟩⟩⟩⟩ <;> first | rfl | (cases hu; done))))
                       (case q5 => omega)
                       (case q6 => omega))
                      (first
                      | ((fail_if_success have := A1); intro A1 c1)
                      | ((fail_if_success have := A2); intro A2 c2)
                      | ((fail_if_success have := A3); intro A3 c3)
                      | ((fail_if_success have := A4); intro A4 c4)
                      | ((fail_if_success have := A5); intro A5 c5)
                      | ((fail_if_success have := A6); intro A6 c6)
                      | ((fail_if_success have := A7); intro A7 c7)))
                   | (((refine' Ef_append_rd rfl rfl rfl ?q1 ?q2 ?q3 List.not_mem_nil ?q4 ?q5 ?q6 ?q7 ?_)
                       (case q1 => exact app_of rfl)
                       (case q2 => (first | exact at0 | exact at1 | exact at2 | exact at3 | exact at4 | exact at5 | exact at6))
                       (case q3 => assumption)
                       (case q4 => omega)
                       (case q5 => (first | assumption | (intro u hu; rcases hu with _ | ⟨_, _ | ⟨_, _ | ⟨_, _ | ⟨_, hu⟩⟩⟩⟩ <;> first | rfl | (cases hu; done))))
                       (case q6 => omega)
                       (case q7 => omega))
                      (first
                      | ((fail_if_success have := A1); intro A1 c1)
                      | ((fail_if_success have := A2); intro A2 c2)
                      | ((fail_if_success have := A3); intro A3 c3)
                      | ((fail_if_success have := A4); intro A4 c4)
                      | ((fail_if_success have := A5); intro A5 c5)
                      | ((fail_if_success have := A6); intro A6 c6)
                      | ((fail_if_success have := A7); intro A7 c7)))))
                | ((with_reducible refine ie_bsl ?_)
                   (first
                   | fail
                   | (((refine' Ef_bslA rfl rfl ?q1 ?q2 ?q3 ?_); (case q1 => exact app_of rfl); (case q2 => rfl); (case q3 => decide))
                      (first
                      | ((fail_if_success have := b1); intro b1)
                      | ((fail_if_success have := b2); intro b2)
                      | ((fail_if_success have := b3); intro b3)
                      | ((fail_if_success have := b4); intro b4)
                      | ((fail_if_success have := b5); intro b5)
                      | ((fail_if_success have := b6); intro b6)
                      | ((fail_if_success have := b7); intro b7)
                      | ((fail_if_success have := b8); intro b8)
                      | ((fail_if_success have := b9); intro b9)))
                   | (((refine' Ef_bsl1 rfl rfl rfl ?q1 ?_); (case q1 => exact app_of rfl))
                      (first
                      | ((fail_if_success have := b1); intro b1)
                      | ((fail_if_success have := b2); intro b2)
                      | ((fail_if_success have := b3); intro b3)
                      | ((fail_if_success have := b4); intro b4)
                      | ((fail_if_success have := b5); intro b5)
                      | ((fail_if_success have := b6); intro b6)
                      | ((fail_if_success have := b7); intro b7)
                      | ((fail_if_success have := b8); intro b8)
                      | ((fail_if_success have := b9); intro b9)))))
                | (first | fail)
                | refine Ef_y rfl rfl ?_)
        refine ret_n (rM b boot (C ++ [n]) (A1, c1)) (res1 rfl rfl) ?_ ⟨(A1, c1), trivial, rfl, rfl⟩
        unfold rM
        rw [← lenI_snoc, ← eI_snoc]
        (repeat (first | exact List.nil_sublist _ | refine List.Sublist.cons_cons _ ?_ | refine List.Sublist.cons _ ?_))
end Go.Proofs.Ytbmegafjphcdnaa
