/- The functions on rights' texts: what a call of each comes to: for every number of 8 bits, every text. -/
import Derived.Test.YtiekpkkmiciakaaRows
import Derived.Test.YtiekpkkmiciakaaRt
import Derived.Test.YtiekpkkmiciakaaFacts
import Derived.Test.YtiekpkkmiciakaaRead
namespace Go.Proofs.Ytiekpkkmiciakaa
open Go.RowKit
set_option maxRecDepth 20000

def letters : Array Value := #[.int .u8 114, .int .u8 119, .int .u8 108, .int .u8 97]
theorem letters_b (w : World) : (Instr.build 46 #[(0, .int .u8 114), (1, .int .u8 119), (2, .int .u8 108), (3, .int .u8 97)]).run Try.prog w = .ok (.agg letters) w := by kernel_rfl
theorem letters_at (i : Nat) (h : i < 4) : letters[i]? = some (.int .u8 ((Rt.lt i).toNat : Int)) := by
  rcases (show i = 0 ∨ i = 1 ∨ i = 2 ∨ i = 3 by omega) with rfl | rfl | rfl | rfl <;> rfl
theorem letters_c (w : World) : Sp Try.prog 22 [] w [] fun v N => v = .agg letters ∧ N = [] := by
  refine Sp.enter (n := 2) Try.func22 rfl rfl rfl (Hp.refl w) ?_
  repeat' (first
          | with_reducible refine T.seq ?_
          | with_reducible refine T.block ?_
          | with_reducible refine T.region ?_
          | with_reducible refine T.skip ?_
          | with_reducible refine T.ret ?_
          | with_reducible refine T.exit ?_
          | with_reducible refine seqQ_n ?_
          | with_reducible refine seqQ_x ?_
          | with_reducible refine seqQ_r ?_
          | with_reducible refine blockQ_n ?_
          | with_reducible refine blockQ_r ?_
          | with_reducible refine blockQ_x ?_
          | ((with_reducible refine g_blkx ?_); refine blockQ_y rfl ?_)
          | with_reducible refine loopQ_x ?_
          | with_reducible refine loopQ_r ?_
          | with_reducible refine joinQ_r ?_
          | with_reducible refine joinQ_x ?_
          | ((with_reducible refine g_cond ?_); (first | refine T.cond_t rfl ?_ | refine T.cond_f rfl ?_ | (refine T.cond_s rfl ?_ ?_ <;> intro hc)))
          | with_reducible refine TL_nil ?_
          | with_reducible refine TS_nil ?_
          | ((with_reducible refine g_draw ?_); (first | fail))
          | ((with_reducible refine TL_y' ?hy ?hd ?_); (case hy => rfl); (case hd => rfl))
          | with_reducible refine TL_e ?_
          | ((with_reducible refine g_TL ?_); (first | refine TL_gy' rfl rfl rfl rfl ?_ | refine TL_gn rfl rfl rfl ?_ | refine TL_gu rfl rfl rfl ?_ | refine TL_ge rfl rfl ?_ | refine TL_gn0 rfl rfl ?_))
          | ((with_reducible refine g_TS ?_); (first | refine TS_y rfl rfl ?_ | refine TS_e rfl ?_ | refine TS_gy rfl rfl rfl rfl ?_ | refine TS_gn rfl rfl rfl rfl ?_ | refine TS_gu rfl rfl rfl rfl ?_ | refine TS_ge rfl rfl rfl ?_ | refine TS_gne rfl rfl rfl rfl ?_ | refine TS_gue rfl rfl rfl rfl ?_ | refine TS_gne0 rfl rfl rfl ?_))
          | ((with_reducible refine TSand ?hd ?_); (case hd => (repeat (first | exact List.nil_sublist _ | refine List.Sublist.cons_cons _ ?_ | refine List.Sublist.cons _ ?_))))
          | ((with_reducible refine TBand ?hd ?_); (case hd => (repeat (first | exact List.nil_sublist _ | refine List.Sublist.cons_cons _ ?_ | refine List.Sublist.cons _ ?_))))
          | ((with_reducible refine g_TB ?_); (first | with_reducible refine TB_run ?_ | refine TB_y rfl rfl ?_ | refine TB_b rfl rfl ?_ ?_ | refine TB_e rfl ?_))
          | ((with_reducible refine is_move ?_); refine ⟨_, Yl_move rfl, ?_⟩)
          | ((with_reducible refine is_assign ?_); refine ⟨_, Yl_assign rfl, ?_⟩)
          | ((with_reducible refine is_pick ?_); (first | refine ⟨_, Yl_pick_t rfl rfl, ?_⟩ | refine ⟨_, Yl_pick_f rfl rfl, ?_⟩))
          | ((with_reducible refine is_nil ?_); refine ⟨_, Yl_nilCheck rfl, ?_⟩)
          | ((with_reducible refine is_fld ?_); (first | ((refine' ⟨_, Yl_fld_ad rfl ?q1, ?_⟩); (case q1 => exact fld_of rfl rfl)) | ((refine' ⟨_, Yl_fld_blk0 rfl ?q1, ?_⟩); (case q1 => exact fld_of rfl rfl)) | ((refine' ⟨_, Yl_fld_blk rfl ?q1, ?_⟩); (case q1 => exact fld_of rfl rfl))))
          | ((with_reducible refine is_load ?_)
             (first
             | fail
             | ((refine' ⟨_, Yl_load_blk rfl ?q1 ?q2 ?q3, ?_⟩); (case q1 => exact one_of rfl); (case q2 => (repeat (first | exact .head _ | apply List.Mem.tail))); (case q3 => rfl))
             | ((refine' ⟨_, Yl_loadA_blk rfl ?q1 ?q2, ?_⟩); (case q1 => (repeat (first | exact .head _ | apply List.Mem.tail))); (case q2 => exact agg_of rfl))
             | ((refine' ⟨_, Yl_load_blk rfl ?q1 ?q2 ?q3, ?_⟩); (case q1 => exact one_of rfl); (case q2 => (repeat (first | exact .head _ | apply List.Mem.tail))); (case q3 => assumption))
             | ((refine' ⟨_, Yl_load_rd rfl ?q1 ?q2 List.not_mem_nil ?q3, ?_⟩); (case q1 => exact one_of rfl); (case q2 => assumption); (case q3 => assumption))
             | ((refine' ⟨_, Yl_load_row rfl ?q1 ?q2 ?q3, ?_⟩); (case q1 => exact one_of rfl); (case q2 => (repeat (first | exact .head _ | apply List.Mem.tail))); (case q3 => assumption))
             | ((refine' ⟨_, Yl_loadA_rd rfl ?qa ?qb List.not_mem_nil ?ql ?qc, ?_⟩); (case qa => exact agg_of rfl); (case qb => assumption); (case qc => assumption); (case ql => rfl))
             | ((refine' ⟨_, Yl_loadA_row rfl ?qa ?qb ?ql ?qc, ?_⟩); (case qa => exact agg_of rfl); (case qb => (repeat (first | exact .head _ | apply List.Mem.tail))); (case qc => assumption); (case ql => rfl))))
          | ((with_reducible refine is_idx ?_)
             (first
             | fail
             | ((refine' ⟨_, Yl_index rfl rfl ?q1 ?q2 ?q3 (Rd.some_ ?q4 ?q5), ?_⟩); (case q1 => exact und_of rfl); (case q2 => exact siz_of rfl); (case q3 => omega); (case q4 => assumption); (case q5 => omega))
             | ((refine' ⟨_, Yl_index_row rfl rfl ?q1 ?q2 ?q3 ?q4, ?_⟩); (case q1 => exact und_of rfl); (case q2 => exact siz_of rfl); (case q3 => omega); (case q4 => (repeat (first | exact .head _ | apply List.Mem.tail))))
             | ((refine' ⟨_, Yl_index rfl rfl ?q1 ?q2 ?q3 rfl, ?_⟩); (case q1 => exact und_of rfl); (case q2 => exact siz_of rfl); (case q3 => omega))
             | ((refine' ⟨_, Yl_index (j := 0) rfl rfl ?q1 ?q2 ?q3 (Rd.some_ ?q4 ?q5), ?_⟩); (case q1 => exact und_of rfl); (case q2 => exact siz_of rfl); (case q3 => omega); (case q4 => assumption); (case q5 => omega))
             | ((refine' ⟨_, Yl_index_row (j := 0) rfl rfl ?q1 ?q2 ?q3 ?q4, ?_⟩); (case q1 => exact und_of rfl); (case q2 => exact siz_of rfl); (case q3 => omega); (case q4 => (repeat (first | exact .head _ | apply List.Mem.tail))))))
          | ((with_reducible refine is_ext ?_); refine ⟨_, Yl_extract rfl rfl, ?_⟩)
          | ((with_reducible refine is_un ?_); refine ⟨_, Yl_not rfl, ?_⟩)
          | ((with_reducible refine is_len ?_); (first | ((refine' ⟨_, Yl_len_slice rfl ?q1, ?_⟩); (case q1 => exact und_of rfl)) | ((refine' ⟨_, Yl_len_string rfl ?q1, ?_⟩); (case q1 => exact und_of rfl))))
          | ((with_reducible refine is_b_lss ?_); (first | ((refine' ⟨_, Yl_lss_t rfl rfl ?q1, ?_⟩); (case q1 => omega)) | ((refine' ⟨_, Yl_lss_f rfl rfl ?q1, ?_⟩); (case q1 => omega)) | (refine sp_lss rfl rfl ?_ ?_ <;> intro hc)))
          | ((with_reducible refine is_b_leq ?_); (first | ((refine' ⟨_, Yl_leq_t rfl rfl ?q1, ?_⟩); (case q1 => omega)) | ((refine' ⟨_, Yl_leq_f rfl rfl ?q1, ?_⟩); (case q1 => omega)) | (refine sp_leq rfl rfl ?_ ?_ <;> intro hc)))
          | ((with_reducible refine is_b_gtr ?_); (first | ((refine' ⟨_, Yl_gtr_t rfl rfl ?q1, ?_⟩); (case q1 => omega)) | ((refine' ⟨_, Yl_gtr_f rfl rfl ?q1, ?_⟩); (case q1 => omega)) | (refine sp_gtr rfl rfl ?_ ?_ <;> intro hc)))
          | ((with_reducible refine is_b_geq ?_); (first | ((refine' ⟨_, Yl_geq_t rfl rfl ?q1, ?_⟩); (case q1 => omega)) | ((refine' ⟨_, Yl_geq_f rfl rfl ?q1, ?_⟩); (case q1 => omega)) | (refine sp_geq rfl rfl ?_ ?_ <;> intro hc)))
          | ((with_reducible refine is_b_eql ?_)
             (first
             | ((refine' ⟨_, Yl_eql_t rfl rfl ?q1, ?_⟩); (case q1 => omega))
             | ((refine' ⟨_, Yl_eql_f rfl rfl ?q1, ?_⟩); (case q1 => omega))
             | (refine sp_eql rfl rfl ?_ ?_ <;> intro hc)
             | ((refine' ⟨_, Yl_indexV rfl rfl ?q1 ?q2 ?q3 ?q4 ?q5, ?_⟩); (case q1 => exact und_of rfl); (case q2 => exact one_of rfl); (case q3 => exact siz_of rfl); (case q4 => omega); (case q5 => assumption))
             | ((refine' ⟨_, Yl_convI rfl ?q1 ?q2 ?q3, ?_⟩); (case q1 => exact und_of rfl); (case q2 => exact und_of rfl); (case q3 => ((refine' u64_in ?q1); (case q1 => omega))))
             | ((refine' ⟨_, Yl_shr8 rfl rfl ?q1, ?_⟩); (case q1 => omega))
             | ((refine' ⟨_, Yl_and1 rfl rfl ?q1 ?q2, ?_⟩); (case q1 => omega); (case q2 => omega))
             | refine ⟨_, Yl_eql_str rfl rfl, ?_⟩
             | ((refine' ⟨_, Yl_str_row rfl ?q1 ?q2 ?q3 ?q4 ?q5, ?_⟩); (case q1 => exact und_of rfl); (case q2 => exact und_of rfl); (case q3 => exact und_of rfl); (case q4 => omega); (case q5 => (repeat (first | exact .head _ | apply List.Mem.tail))))
             | ((refine' ⟨_, Yl_andNot8 rfl rfl ?q1 ?q2 ?q3 ?q4, ?_⟩); (case q1 => omega); (case q2 => omega); (case q3 => omega); (case q4 => omega))
             | ((refine' ⟨_, Yl_eql_bool rfl rfl ?q1, ?_⟩); (case q1 => exact und_of rfl))
             | ((refine' ⟨_, Yl_eql_strT rfl rfl ?q1, ?_⟩); (case q1 => first | assumption | rfl))
             | ((refine' ⟨_, Yl_eql_strF rfl rfl ?q1, ?_⟩); (case q1 => first | assumption | decide))
             | (refine sp_eqlS rfl rfl ?_ ?_ <;> intro hc)))
          | ((with_reducible refine is_b_neq ?_)
             (first
             | ((refine' ⟨_, Yl_neq_t rfl rfl ?q1, ?_⟩); (case q1 => omega))
             | ((refine' ⟨_, Yl_neq_f rfl rfl ?q1, ?_⟩); (case q1 => omega))
             | (refine sp_neq rfl rfl ?_ ?_ <;> intro hc)
             | ((refine' ⟨_, Yl_indexV rfl rfl ?q1 ?q2 ?q3 ?q4 ?q5, ?_⟩); (case q1 => exact und_of rfl); (case q2 => exact one_of rfl); (case q3 => exact siz_of rfl); (case q4 => omega); (case q5 => assumption))
             | ((refine' ⟨_, Yl_convI rfl ?q1 ?q2 ?q3, ?_⟩); (case q1 => exact und_of rfl); (case q2 => exact und_of rfl); (case q3 => ((refine' u64_in ?q1); (case q1 => omega))))
             | ((refine' ⟨_, Yl_shr8 rfl rfl ?q1, ?_⟩); (case q1 => omega))
             | ((refine' ⟨_, Yl_and1 rfl rfl ?q1 ?q2, ?_⟩); (case q1 => omega); (case q2 => omega))
             | refine ⟨_, Yl_eql_str rfl rfl, ?_⟩
             | ((refine' ⟨_, Yl_str_row rfl ?q1 ?q2 ?q3 ?q4 ?q5, ?_⟩); (case q1 => exact und_of rfl); (case q2 => exact und_of rfl); (case q3 => exact und_of rfl); (case q4 => omega); (case q5 => (repeat (first | exact .head _ | apply List.Mem.tail))))
             | ((refine' ⟨_, Yl_andNot8 rfl rfl ?q1 ?q2 ?q3 ?q4, ?_⟩); (case q1 => omega); (case q2 => omega); (case q3 => omega); (case q4 => omega))
             | ((refine' ⟨_, Yl_neq_bool rfl rfl ?q1, ?_⟩); (case q1 => exact und_of rfl))
             | ((refine' ⟨_, Yl_neq_strT rfl rfl ?q1, ?_⟩); (case q1 => first | assumption | decide))
             | ((refine' ⟨_, Yl_neq_strF rfl rfl ?q1, ?_⟩); (case q1 => first | assumption | rfl))
             | (refine sp_neqS rfl rfl ?_ ?_ <;> intro hc)))
          | ((with_reducible refine is_b_add ?_)
             (first
             | ((refine' ⟨_, Yl_add rfl rfl ?q1 ?q2, ?_⟩); (case q1 => omega); (case q2 => omega))
             | ((refine' ⟨_, Yl_add8 rfl rfl ?q1 ?q2, ?_⟩); (case q1 => omega); (case q2 => omega))
             | ((refine' ⟨_, Yl_indexV rfl rfl ?q1 ?q2 ?q3 ?q4 ?q5, ?_⟩); (case q1 => exact und_of rfl); (case q2 => exact one_of rfl); (case q3 => exact siz_of rfl); (case q4 => omega); (case q5 => assumption))
             | ((refine' ⟨_, Yl_convI rfl ?q1 ?q2 ?q3, ?_⟩); (case q1 => exact und_of rfl); (case q2 => exact und_of rfl); (case q3 => ((refine' u64_in ?q1); (case q1 => omega))))
             | ((refine' ⟨_, Yl_shr8 rfl rfl ?q1, ?_⟩); (case q1 => omega))
             | ((refine' ⟨_, Yl_and1 rfl rfl ?q1 ?q2, ?_⟩); (case q1 => omega); (case q2 => omega))
             | refine ⟨_, Yl_eql_str rfl rfl, ?_⟩
             | ((refine' ⟨_, Yl_str_row rfl ?q1 ?q2 ?q3 ?q4 ?q5, ?_⟩); (case q1 => exact und_of rfl); (case q2 => exact und_of rfl); (case q3 => exact und_of rfl); (case q4 => omega); (case q5 => (repeat (first | exact .head _ | apply List.Mem.tail))))
             | ((refine' ⟨_, Yl_andNot8 rfl rfl ?q1 ?q2 ?q3 ?q4, ?_⟩); (case q1 => omega); (case q2 => omega); (case q3 => omega); (case q4 => omega))))
          | ((with_reducible refine is_min ?_); refine ⟨_, Yl_min rfl rfl, ?_⟩)
          | ((with_reducible refine is_max ?_); refine ⟨_, Yl_max rfl rfl, ?_⟩)
          | ((with_reducible refine is_b_sub ?_)
             (first
             | ((refine' ⟨_, Yl_sub rfl rfl ?q1 ?q2, ?_⟩); (case q1 => omega); (case q2 => omega))
             | ((refine' ⟨_, Yl_indexV rfl rfl ?q1 ?q2 ?q3 ?q4 ?q5, ?_⟩); (case q1 => exact und_of rfl); (case q2 => exact one_of rfl); (case q3 => exact siz_of rfl); (case q4 => omega); (case q5 => assumption))
             | ((refine' ⟨_, Yl_convI rfl ?q1 ?q2 ?q3, ?_⟩); (case q1 => exact und_of rfl); (case q2 => exact und_of rfl); (case q3 => ((refine' u64_in ?q1); (case q1 => omega))))
             | ((refine' ⟨_, Yl_shr8 rfl rfl ?q1, ?_⟩); (case q1 => omega))
             | ((refine' ⟨_, Yl_and1 rfl rfl ?q1 ?q2, ?_⟩); (case q1 => omega); (case q2 => omega))
             | refine ⟨_, Yl_eql_str rfl rfl, ?_⟩
             | ((refine' ⟨_, Yl_str_row rfl ?q1 ?q2 ?q3 ?q4 ?q5, ?_⟩); (case q1 => exact und_of rfl); (case q2 => exact und_of rfl); (case q3 => exact und_of rfl); (case q4 => omega); (case q5 => (repeat (first | exact .head _ | apply List.Mem.tail))))
             | ((refine' ⟨_, Yl_andNot8 rfl rfl ?q1 ?q2 ?q3 ?q4, ?_⟩); (case q1 => omega); (case q2 => omega); (case q3 => omega); (case q4 => omega))))
          | ((with_reducible refine is_build ?_); (first | refine ⟨_, Yl_build rfl letters_b, ?_⟩))
          | (first
            | ((refine' ⟨_, Yl_indexV rfl rfl ?q1 ?q2 ?q3 ?q4 ?q5, ?_⟩); (case q1 => exact und_of rfl); (case q2 => exact one_of rfl); (case q3 => exact siz_of rfl); (case q4 => omega); (case q5 => assumption))
            | ((refine' ⟨_, Yl_convI rfl ?q1 ?q2 ?q3, ?_⟩); (case q1 => exact und_of rfl); (case q2 => exact und_of rfl); (case q3 => ((refine' u64_in ?q1); (case q1 => omega))))
            | ((refine' ⟨_, Yl_shr8 rfl rfl ?q1, ?_⟩); (case q1 => omega))
            | ((refine' ⟨_, Yl_and1 rfl rfl ?q1 ?q2, ?_⟩); (case q1 => omega); (case q2 => omega))
            | refine ⟨_, Yl_eql_str rfl rfl, ?_⟩
            | ((refine' ⟨_, Yl_str_row rfl ?q1 ?q2 ?q3 ?q4 ?q5, ?_⟩); (case q1 => exact und_of rfl); (case q2 => exact und_of rfl); (case q3 => exact und_of rfl); (case q4 => omega); (case q5 => (repeat (first | exact .head _ | apply List.Mem.tail))))
            | ((refine' ⟨_, Yl_andNot8 rfl rfl ?q1 ?q2 ?q3 ?q4, ?_⟩); (case q1 => omega); (case q2 => omega); (case q3 => omega); (case q4 => omega)))
          | ((with_reducible refine ie_box ?_)
             (first
             | (refine Ef_boxA rfl rfl ?_; (first | ((fail_if_success have := b1); intro b1) | ((fail_if_success have := b2); intro b2) | ((fail_if_success have := b3); intro b3) | ((fail_if_success have := b4); intro b4) | ((fail_if_success have := b5); intro b5) | ((fail_if_success have := b6); intro b6) | ((fail_if_success have := b7); intro b7) | ((fail_if_success have := b8); intro b8) | ((fail_if_success have := b9); intro b9)))
             | (refine Ef_box1 rfl rfl rfl ?_; (first | ((fail_if_success have := b1); intro b1) | ((fail_if_success have := b2); intro b2) | ((fail_if_success have := b3); intro b3) | ((fail_if_success have := b4); intro b4) | ((fail_if_success have := b5); intro b5) | ((fail_if_success have := b6); intro b6) | ((fail_if_success have := b7); intro b7) | ((fail_if_success have := b8); intro b8) | ((fail_if_success have := b9); intro b9)))))
          | ((with_reducible refine ie_alloc ?_); (first | fail | (((refine' Ef_alloc rfl ?q1 ?_); (case q1 => exact zer_of rfl)); (first | ((fail_if_success have := b1); intro b1) | ((fail_if_success have := b2); intro b2) | ((fail_if_success have := b3); intro b3) | ((fail_if_success have := b4); intro b4) | ((fail_if_success have := b5); intro b5) | ((fail_if_success have := b6); intro b6) | ((fail_if_success have := b7); intro b7) | ((fail_if_success have := b8); intro b8) | ((fail_if_success have := b9); intro b9)))))
          | ((with_reducible refine ie_store ?_)
             (first
             | fail
             | ((refine' Ef_store_rowA rfl rfl ?q1 ?q2 ?q3 ?q4 ?q5 ?q6 ?_); (case q1 => exact siz_of rfl); (case q2 => rfl); (case q3 => (first | assumption | (intro u hu; rcases hu with _ | ⟨_, _ | ⟨_, _ | ⟨_, _ | ⟨_, hu⟩⟩⟩⟩ <;> first | rfl | (cases hu; done)))); (case q4 => (first | exact at0 | exact at1 | exact at2 | exact at3 | exact at4 | exact at5 | exact at6)); (case q5 => omega); (case q6 => assumption))
             | ((refine' Ef_storeA' rfl rfl ?q1 ?q2 ?q3 ?q4 ?_); (case q1 => exact siz_of rfl); (case q2 => (first | assumption | (intro u hu; rcases hu with _ | ⟨_, _ | ⟨_, _ | ⟨_, _ | ⟨_, hu⟩⟩⟩⟩ <;> first | rfl | (cases hu; done)))); (case q3 => (first | exact at0 | exact at1 | exact at2 | exact at3 | exact at4 | exact at5 | exact at6)); (case q4 => rfl))
             | ((refine' Ef_storeC rfl rfl ?q1 ?q2 ?q3 ?q4 ?q5 ?_); (case q1 => rfl); (case q2 => exact siz_of rfl); (case q3 => (first | exact at0 | exact at1 | exact at2 | exact at3 | exact at4 | exact at5 | exact at6)); (case q4 => exact Nat.le_of_ble_eq_true rfl); (case q5 => rfl))))
          | ((with_reducible refine ie_callf ?_); (first | ((with_reducible refine g_call 22 ?_); (first | refine Ef_callP rfl rfl ent_22 (fun w _ => letters_c w) ?_)) | ((with_reducible refine g_call 11 ?_); (first | ((refine' Ef_callP rfl rfl ent_11 (fun w _ => text_c _ w ?q1 ?q2) ?_); (case q1 => omega); (case q2 => omega))))))
          | ((with_reducible refine ie_app ?_)
             (first
             | fail
             | (((refine' Ef_app0_rd rfl rfl rfl ?q1 ?q2 ?q3 ?q4 ?q5 ?q6 ?q7 ?_); (case q1 => exact app_of rfl); (case q2 => (first | exact at0 | exact at1 | exact at2 | exact at3 | exact at4 | exact at5 | exact at6)); (case q3 => assumption); (case q4 => (first | assumption | (intro u hu; rcases hu with _ | ⟨_, _ | ⟨_, _ | ⟨_, _ | ⟨_, hu⟩⟩⟩⟩ <;> first | rfl | (cases hu; done)))); (case q5 => omega); (case q6 => omega); (case q7 => exact List.not_mem_nil))
                (first | ((fail_if_success have := A1); intro A1 c1) | ((fail_if_success have := A2); intro A2 c2) | ((fail_if_success have := A3); intro A3 c3) | ((fail_if_success have := A4); intro A4 c4) | ((fail_if_success have := A5); intro A5 c5) | ((fail_if_success have := A6); intro A6 c6) | ((fail_if_success have := A7); intro A7 c7)))
             | (((refine' Ef_appG_row rfl rfl rfl ?q1 ?q2 ?q3 ?q4 ?q5 ?q6 ?_); (case q1 => exact app_of rfl); (case q2 => (first | exact at0 | exact at1 | exact at2 | exact at3 | exact at4 | exact at5 | exact at6)); (case q3 => (repeat (first | exact .head _ | apply List.Mem.tail))); (case q4 => (first | assumption | (intro u hu; rcases hu with _ | ⟨_, _ | ⟨_, _ | ⟨_, _ | ⟨_, hu⟩⟩⟩⟩ <;> first | rfl | (cases hu; done)))); (case q5 => omega); (case q6 => omega))
                (first | ((fail_if_success have := A1); intro A1 c1) | ((fail_if_success have := A2); intro A2 c2) | ((fail_if_success have := A3); intro A3 c3) | ((fail_if_success have := A4); intro A4 c4) | ((fail_if_success have := A5); intro A5 c5) | ((fail_if_success have := A6); intro A6 c6) | ((fail_if_success have := A7); intro A7 c7)))
             | (((refine' Ef_appG_rd rfl rfl rfl ?q1 ?q2 ?q3 ?q4 ?q5 ?q6 ?q7 ?_); (case q1 => exact app_of rfl); (case q2 => (first | exact at0 | exact at1 | exact at2 | exact at3 | exact at4 | exact at5 | exact at6)); (case q3 => assumption); (case q4 => (first | assumption | (intro u hu; rcases hu with _ | ⟨_, _ | ⟨_, _ | ⟨_, _ | ⟨_, hu⟩⟩⟩⟩ <;> first | rfl | (cases hu; done)))); (case q5 => omega); (case q6 => omega); (case q7 => exact List.not_mem_nil))
                (first | ((fail_if_success have := A1); intro A1 c1) | ((fail_if_success have := A2); intro A2 c2) | ((fail_if_success have := A3); intro A3 c3) | ((fail_if_success have := A4); intro A4 c4) | ((fail_if_success have := A5); intro A5 c5) | ((fail_if_success have := A6); intro A6 c6) | ((fail_if_success have := A7); intro A7 c7)))))
          | ((with_reducible refine ie_bsl ?_)
             (first
             | fail
             | (((refine' Ef_bsl0 rfl ?q1 ?_); (case q1 => exact app_of rfl)); (first | ((fail_if_success have := b1); intro b1) | ((fail_if_success have := b2); intro b2) | ((fail_if_success have := b3); intro b3) | ((fail_if_success have := b4); intro b4) | ((fail_if_success have := b5); intro b5) | ((fail_if_success have := b6); intro b6) | ((fail_if_success have := b7); intro b7) | ((fail_if_success have := b8); intro b8) | ((fail_if_success have := b9); intro b9)))
             | (((refine' Ef_bslA rfl rfl ?q1 ?q2 ?q3 ?_); (case q1 => exact app_of rfl); (case q2 => rfl); (case q3 => decide)); (first | ((fail_if_success have := b1); intro b1) | ((fail_if_success have := b2); intro b2) | ((fail_if_success have := b3); intro b3) | ((fail_if_success have := b4); intro b4) | ((fail_if_success have := b5); intro b5) | ((fail_if_success have := b6); intro b6) | ((fail_if_success have := b7); intro b7) | ((fail_if_success have := b8); intro b8) | ((fail_if_success have := b9); intro b9)))
             | (((refine' Ef_bsl1 rfl rfl rfl ?q1 ?_); (case q1 => exact app_of rfl)); (first | ((fail_if_success have := b1); intro b1) | ((fail_if_success have := b2); intro b2) | ((fail_if_success have := b3); intro b3) | ((fail_if_success have := b4); intro b4) | ((fail_if_success have := b5); intro b5) | ((fail_if_success have := b6); intro b6) | ((fail_if_success have := b7); intro b7) | ((fail_if_success have := b8); intro b8) | ((fail_if_success have := b9); intro b9)))))
          | (first | fail)
          | refine Ef_y rfl rfl ?_
          | ((with_reducible refine ie_conv ?_); refine Ef_y' rfl ?_)
          | ((with_reducible refine ie_bmin ?_); refine Ef_y' rfl ?_)
          | ((with_reducible refine ie_bmax ?_); refine Ef_y' rfl ?_))
  exact ret_n [] (resC rfl rfl (.head _) (agg_of rfl)) (List.nil_sublist _) ⟨rfl, rfl⟩

theorem eU_snoc (l : List UInt8) (b : UInt8) : l.flatMap eU ++ [.int .u8 (b.toNat : Int)] = (l ++ [b]).flatMap eU := by simp [eU]
theorem lenU_snoc (l : List UInt8) (b : UInt8) : l.length + 1 = (l ++ [b]).length := by simp

set_option maxHeartbeats 1000000 in
theorem text_c (r : Int) (w : World) (h0 : 0 ≤ r) (h1 : r ≤ 255) : Sp Try.prog 11 [.int .u8 r] w [] fun v N => v = .string (Rt.txt r) ∧ N = [] := by
  refine Sp.enter (n := 29) Try.func11 rfl rfl rfl (Hp.refl w) ?_
  repeat' (first
          | with_reducible refine T.seq ?_
          | with_reducible refine T.block ?_
          | with_reducible refine T.region ?_
          | with_reducible refine T.skip ?_
          | with_reducible refine T.ret ?_
          | with_reducible refine T.exit ?_
          | with_reducible refine seqQ_n ?_
          | with_reducible refine seqQ_x ?_
          | with_reducible refine seqQ_r ?_
          | with_reducible refine blockQ_n ?_
          | with_reducible refine blockQ_r ?_
          | with_reducible refine blockQ_x ?_
          | ((with_reducible refine g_blkx ?_); refine blockQ_y rfl ?_)
          | with_reducible refine loopQ_x ?_
          | with_reducible refine loopQ_r ?_
          | with_reducible refine joinQ_r ?_
          | with_reducible refine joinQ_x ?_
          | ((with_reducible refine g_cond ?_); (first | refine T.cond_t rfl ?_ | refine T.cond_f rfl ?_ | (refine T.cond_s rfl ?_ ?_ <;> intro hc)))
          | with_reducible refine TL_nil ?_
          | with_reducible refine TS_nil ?_
          | ((with_reducible refine g_draw ?_); (first | fail))
          | ((with_reducible refine TL_y' ?hy ?hd ?_); (case hy => rfl); (case hd => rfl))
          | with_reducible refine TL_e ?_
          | ((with_reducible refine g_TL ?_); (first | refine TL_gy' rfl rfl rfl rfl ?_ | refine TL_gn rfl rfl rfl ?_ | refine TL_gu rfl rfl rfl ?_ | refine TL_ge rfl rfl ?_ | refine TL_gn0 rfl rfl ?_))
          | ((with_reducible refine g_TS ?_); (first | refine TS_y rfl rfl ?_ | refine TS_e rfl ?_ | refine TS_gy rfl rfl rfl rfl ?_ | refine TS_gn rfl rfl rfl rfl ?_ | refine TS_gu rfl rfl rfl rfl ?_ | refine TS_ge rfl rfl rfl ?_ | refine TS_gne rfl rfl rfl rfl ?_ | refine TS_gue rfl rfl rfl rfl ?_ | refine TS_gne0 rfl rfl rfl ?_))
          | ((with_reducible refine TSand ?hd ?_); (case hd => (repeat (first | exact List.nil_sublist _ | refine List.Sublist.cons_cons _ ?_ | refine List.Sublist.cons _ ?_))))
          | ((with_reducible refine TBand ?hd ?_); (case hd => (repeat (first | exact List.nil_sublist _ | refine List.Sublist.cons_cons _ ?_ | refine List.Sublist.cons _ ?_))))
          | ((with_reducible refine g_TB ?_); (first | with_reducible refine TB_run ?_ | refine TB_y rfl rfl ?_ | refine TB_b rfl rfl ?_ ?_ | refine TB_e rfl ?_))
          | ((with_reducible refine is_move ?_); refine ⟨_, Yl_move rfl, ?_⟩)
          | ((with_reducible refine is_assign ?_); refine ⟨_, Yl_assign rfl, ?_⟩)
          | ((with_reducible refine is_pick ?_); (first | refine ⟨_, Yl_pick_t rfl rfl, ?_⟩ | refine ⟨_, Yl_pick_f rfl rfl, ?_⟩))
          | ((with_reducible refine is_nil ?_); refine ⟨_, Yl_nilCheck rfl, ?_⟩)
          | ((with_reducible refine is_fld ?_); (first | ((refine' ⟨_, Yl_fld_ad rfl ?q1, ?_⟩); (case q1 => exact fld_of rfl rfl)) | ((refine' ⟨_, Yl_fld_blk0 rfl ?q1, ?_⟩); (case q1 => exact fld_of rfl rfl)) | ((refine' ⟨_, Yl_fld_blk rfl ?q1, ?_⟩); (case q1 => exact fld_of rfl rfl))))
          | ((with_reducible refine is_load ?_)
             (first
             | fail
             | ((refine' ⟨_, Yl_load_blk rfl ?q1 ?q2 ?q3, ?_⟩); (case q1 => exact one_of rfl); (case q2 => (repeat (first | exact .head _ | apply List.Mem.tail))); (case q3 => rfl))
             | ((refine' ⟨_, Yl_loadA_blk rfl ?q1 ?q2, ?_⟩); (case q1 => (repeat (first | exact .head _ | apply List.Mem.tail))); (case q2 => exact agg_of rfl))
             | ((refine' ⟨_, Yl_load_blk rfl ?q1 ?q2 ?q3, ?_⟩); (case q1 => exact one_of rfl); (case q2 => (repeat (first | exact .head _ | apply List.Mem.tail))); (case q3 => assumption))
             | ((refine' ⟨_, Yl_load_rd rfl ?q1 ?q2 List.not_mem_nil ?q3, ?_⟩); (case q1 => exact one_of rfl); (case q2 => assumption); (case q3 => assumption))
             | ((refine' ⟨_, Yl_load_row rfl ?q1 ?q2 ?q3, ?_⟩); (case q1 => exact one_of rfl); (case q2 => (repeat (first | exact .head _ | apply List.Mem.tail))); (case q3 => assumption))
             | ((refine' ⟨_, Yl_loadA_rd rfl ?qa ?qb List.not_mem_nil ?ql ?qc, ?_⟩); (case qa => exact agg_of rfl); (case qb => assumption); (case qc => assumption); (case ql => rfl))
             | ((refine' ⟨_, Yl_loadA_row rfl ?qa ?qb ?ql ?qc, ?_⟩); (case qa => exact agg_of rfl); (case qb => (repeat (first | exact .head _ | apply List.Mem.tail))); (case qc => assumption); (case ql => rfl))))
          | ((with_reducible refine is_idx ?_)
             (first
             | fail
             | ((refine' ⟨_, Yl_index rfl rfl ?q1 ?q2 ?q3 (Rd.some_ ?q4 ?q5), ?_⟩); (case q1 => exact und_of rfl); (case q2 => exact siz_of rfl); (case q3 => omega); (case q4 => assumption); (case q5 => omega))
             | ((refine' ⟨_, Yl_index_row rfl rfl ?q1 ?q2 ?q3 ?q4, ?_⟩); (case q1 => exact und_of rfl); (case q2 => exact siz_of rfl); (case q3 => omega); (case q4 => (repeat (first | exact .head _ | apply List.Mem.tail))))
             | ((refine' ⟨_, Yl_index rfl rfl ?q1 ?q2 ?q3 rfl, ?_⟩); (case q1 => exact und_of rfl); (case q2 => exact siz_of rfl); (case q3 => omega))
             | ((refine' ⟨_, Yl_index (j := 0) rfl rfl ?q1 ?q2 ?q3 (Rd.some_ ?q4 ?q5), ?_⟩); (case q1 => exact und_of rfl); (case q2 => exact siz_of rfl); (case q3 => omega); (case q4 => assumption); (case q5 => omega))
             | ((refine' ⟨_, Yl_index_row (j := 0) rfl rfl ?q1 ?q2 ?q3 ?q4, ?_⟩); (case q1 => exact und_of rfl); (case q2 => exact siz_of rfl); (case q3 => omega); (case q4 => (repeat (first | exact .head _ | apply List.Mem.tail))))))
          | ((with_reducible refine is_ext ?_); refine ⟨_, Yl_extract rfl rfl, ?_⟩)
          | ((with_reducible refine is_un ?_); refine ⟨_, Yl_not rfl, ?_⟩)
          | ((with_reducible refine is_len ?_); (first | ((refine' ⟨_, Yl_len_slice rfl ?q1, ?_⟩); (case q1 => exact und_of rfl)) | ((refine' ⟨_, Yl_len_string rfl ?q1, ?_⟩); (case q1 => exact und_of rfl))))
          | ((with_reducible refine is_b_lss ?_); (first | ((refine' ⟨_, Yl_lss_t rfl rfl ?q1, ?_⟩); (case q1 => omega)) | ((refine' ⟨_, Yl_lss_f rfl rfl ?q1, ?_⟩); (case q1 => omega)) | (refine sp_lss rfl rfl ?_ ?_ <;> intro hc)))
          | ((with_reducible refine is_b_leq ?_); (first | ((refine' ⟨_, Yl_leq_t rfl rfl ?q1, ?_⟩); (case q1 => omega)) | ((refine' ⟨_, Yl_leq_f rfl rfl ?q1, ?_⟩); (case q1 => omega)) | (refine sp_leq rfl rfl ?_ ?_ <;> intro hc)))
          | ((with_reducible refine is_b_gtr ?_); (first | ((refine' ⟨_, Yl_gtr_t rfl rfl ?q1, ?_⟩); (case q1 => omega)) | ((refine' ⟨_, Yl_gtr_f rfl rfl ?q1, ?_⟩); (case q1 => omega)) | (refine sp_gtr rfl rfl ?_ ?_ <;> intro hc)))
          | ((with_reducible refine is_b_geq ?_); (first | ((refine' ⟨_, Yl_geq_t rfl rfl ?q1, ?_⟩); (case q1 => omega)) | ((refine' ⟨_, Yl_geq_f rfl rfl ?q1, ?_⟩); (case q1 => omega)) | (refine sp_geq rfl rfl ?_ ?_ <;> intro hc)))
          | ((with_reducible refine is_b_eql ?_)
             (first
             | ((refine' ⟨_, Yl_eql_t rfl rfl ?q1, ?_⟩); (case q1 => omega))
             | ((refine' ⟨_, Yl_eql_f rfl rfl ?q1, ?_⟩); (case q1 => omega))
             | (refine sp_eql rfl rfl ?_ ?_ <;> intro hc)
             | ((refine' ⟨_, Yl_indexV rfl rfl ?q1 ?q2 ?q3 ?q4 ?q5, ?_⟩); (case q1 => exact und_of rfl); (case q2 => exact one_of rfl); (case q3 => exact siz_of rfl); (case q4 => omega); (case q5 => assumption))
             | ((refine' ⟨_, Yl_convI rfl ?q1 ?q2 ?q3, ?_⟩); (case q1 => exact und_of rfl); (case q2 => exact und_of rfl); (case q3 => ((refine' u64_in ?q1); (case q1 => omega))))
             | ((refine' ⟨_, Yl_shr8 rfl rfl ?q1, ?_⟩); (case q1 => omega))
             | ((refine' ⟨_, Yl_and1 rfl rfl ?q1 ?q2, ?_⟩); (case q1 => omega); (case q2 => omega))
             | refine ⟨_, Yl_eql_str rfl rfl, ?_⟩
             | ((refine' ⟨_, Yl_str_row rfl ?q1 ?q2 ?q3 ?q4 ?q5, ?_⟩); (case q1 => exact und_of rfl); (case q2 => exact und_of rfl); (case q3 => exact und_of rfl); (case q4 => omega); (case q5 => (repeat (first | exact .head _ | apply List.Mem.tail))))
             | ((refine' ⟨_, Yl_andNot8 rfl rfl ?q1 ?q2 ?q3 ?q4, ?_⟩); (case q1 => omega); (case q2 => omega); (case q3 => omega); (case q4 => omega))
             | ((refine' ⟨_, Yl_eql_bool rfl rfl ?q1, ?_⟩); (case q1 => exact und_of rfl))
             | ((refine' ⟨_, Yl_eql_strT rfl rfl ?q1, ?_⟩); (case q1 => first | assumption | rfl))
             | ((refine' ⟨_, Yl_eql_strF rfl rfl ?q1, ?_⟩); (case q1 => first | assumption | decide))
             | (refine sp_eqlS rfl rfl ?_ ?_ <;> intro hc)))
          | ((with_reducible refine is_b_neq ?_)
             (first
             | ((refine' ⟨_, Yl_neq_t rfl rfl ?q1, ?_⟩); (case q1 => omega))
             | ((refine' ⟨_, Yl_neq_f rfl rfl ?q1, ?_⟩); (case q1 => omega))
             | (refine sp_neq rfl rfl ?_ ?_ <;> intro hc)
             | ((refine' ⟨_, Yl_indexV rfl rfl ?q1 ?q2 ?q3 ?q4 ?q5, ?_⟩); (case q1 => exact und_of rfl); (case q2 => exact one_of rfl); (case q3 => exact siz_of rfl); (case q4 => omega); (case q5 => assumption))
             | ((refine' ⟨_, Yl_convI rfl ?q1 ?q2 ?q3, ?_⟩); (case q1 => exact und_of rfl); (case q2 => exact und_of rfl); (case q3 => ((refine' u64_in ?q1); (case q1 => omega))))
             | ((refine' ⟨_, Yl_shr8 rfl rfl ?q1, ?_⟩); (case q1 => omega))
             | ((refine' ⟨_, Yl_and1 rfl rfl ?q1 ?q2, ?_⟩); (case q1 => omega); (case q2 => omega))
             | refine ⟨_, Yl_eql_str rfl rfl, ?_⟩
             | ((refine' ⟨_, Yl_str_row rfl ?q1 ?q2 ?q3 ?q4 ?q5, ?_⟩); (case q1 => exact und_of rfl); (case q2 => exact und_of rfl); (case q3 => exact und_of rfl); (case q4 => omega); (case q5 => (repeat (first | exact .head _ | apply List.Mem.tail))))
             | ((refine' ⟨_, Yl_andNot8 rfl rfl ?q1 ?q2 ?q3 ?q4, ?_⟩); (case q1 => omega); (case q2 => omega); (case q3 => omega); (case q4 => omega))
             | ((refine' ⟨_, Yl_neq_bool rfl rfl ?q1, ?_⟩); (case q1 => exact und_of rfl))
             | ((refine' ⟨_, Yl_neq_strT rfl rfl ?q1, ?_⟩); (case q1 => first | assumption | decide))
             | ((refine' ⟨_, Yl_neq_strF rfl rfl ?q1, ?_⟩); (case q1 => first | assumption | rfl))
             | (refine sp_neqS rfl rfl ?_ ?_ <;> intro hc)))
          | ((with_reducible refine is_b_add ?_)
             (first
             | ((refine' ⟨_, Yl_add rfl rfl ?q1 ?q2, ?_⟩); (case q1 => omega); (case q2 => omega))
             | ((refine' ⟨_, Yl_add8 rfl rfl ?q1 ?q2, ?_⟩); (case q1 => omega); (case q2 => omega))
             | ((refine' ⟨_, Yl_indexV rfl rfl ?q1 ?q2 ?q3 ?q4 ?q5, ?_⟩); (case q1 => exact und_of rfl); (case q2 => exact one_of rfl); (case q3 => exact siz_of rfl); (case q4 => omega); (case q5 => assumption))
             | ((refine' ⟨_, Yl_convI rfl ?q1 ?q2 ?q3, ?_⟩); (case q1 => exact und_of rfl); (case q2 => exact und_of rfl); (case q3 => ((refine' u64_in ?q1); (case q1 => omega))))
             | ((refine' ⟨_, Yl_shr8 rfl rfl ?q1, ?_⟩); (case q1 => omega))
             | ((refine' ⟨_, Yl_and1 rfl rfl ?q1 ?q2, ?_⟩); (case q1 => omega); (case q2 => omega))
             | refine ⟨_, Yl_eql_str rfl rfl, ?_⟩
             | ((refine' ⟨_, Yl_str_row rfl ?q1 ?q2 ?q3 ?q4 ?q5, ?_⟩); (case q1 => exact und_of rfl); (case q2 => exact und_of rfl); (case q3 => exact und_of rfl); (case q4 => omega); (case q5 => (repeat (first | exact .head _ | apply List.Mem.tail))))
             | ((refine' ⟨_, Yl_andNot8 rfl rfl ?q1 ?q2 ?q3 ?q4, ?_⟩); (case q1 => omega); (case q2 => omega); (case q3 => omega); (case q4 => omega))))
          | ((with_reducible refine is_min ?_); refine ⟨_, Yl_min rfl rfl, ?_⟩)
          | ((with_reducible refine is_max ?_); refine ⟨_, Yl_max rfl rfl, ?_⟩)
          | ((with_reducible refine is_b_sub ?_)
             (first
             | ((refine' ⟨_, Yl_sub rfl rfl ?q1 ?q2, ?_⟩); (case q1 => omega); (case q2 => omega))
             | ((refine' ⟨_, Yl_indexV rfl rfl ?q1 ?q2 ?q3 ?q4 ?q5, ?_⟩); (case q1 => exact und_of rfl); (case q2 => exact one_of rfl); (case q3 => exact siz_of rfl); (case q4 => omega); (case q5 => assumption))
             | ((refine' ⟨_, Yl_convI rfl ?q1 ?q2 ?q3, ?_⟩); (case q1 => exact und_of rfl); (case q2 => exact und_of rfl); (case q3 => ((refine' u64_in ?q1); (case q1 => omega))))
             | ((refine' ⟨_, Yl_shr8 rfl rfl ?q1, ?_⟩); (case q1 => omega))
             | ((refine' ⟨_, Yl_and1 rfl rfl ?q1 ?q2, ?_⟩); (case q1 => omega); (case q2 => omega))
             | refine ⟨_, Yl_eql_str rfl rfl, ?_⟩
             | ((refine' ⟨_, Yl_str_row rfl ?q1 ?q2 ?q3 ?q4 ?q5, ?_⟩); (case q1 => exact und_of rfl); (case q2 => exact und_of rfl); (case q3 => exact und_of rfl); (case q4 => omega); (case q5 => (repeat (first | exact .head _ | apply List.Mem.tail))))
             | ((refine' ⟨_, Yl_andNot8 rfl rfl ?q1 ?q2 ?q3 ?q4, ?_⟩); (case q1 => omega); (case q2 => omega); (case q3 => omega); (case q4 => omega))))
          | ((with_reducible refine is_build ?_); (first | refine ⟨_, Yl_build rfl letters_b, ?_⟩))
          | (first
            | ((refine' ⟨_, Yl_indexV rfl rfl ?q1 ?q2 ?q3 ?q4 ?q5, ?_⟩); (case q1 => exact und_of rfl); (case q2 => exact one_of rfl); (case q3 => exact siz_of rfl); (case q4 => omega); (case q5 => assumption))
            | ((refine' ⟨_, Yl_convI rfl ?q1 ?q2 ?q3, ?_⟩); (case q1 => exact und_of rfl); (case q2 => exact und_of rfl); (case q3 => ((refine' u64_in ?q1); (case q1 => omega))))
            | ((refine' ⟨_, Yl_shr8 rfl rfl ?q1, ?_⟩); (case q1 => omega))
            | ((refine' ⟨_, Yl_and1 rfl rfl ?q1 ?q2, ?_⟩); (case q1 => omega); (case q2 => omega))
            | refine ⟨_, Yl_eql_str rfl rfl, ?_⟩
            | ((refine' ⟨_, Yl_str_row rfl ?q1 ?q2 ?q3 ?q4 ?q5, ?_⟩); (case q1 => exact und_of rfl); (case q2 => exact und_of rfl); (case q3 => exact und_of rfl); (case q4 => omega); (case q5 => (repeat (first | exact .head _ | apply List.Mem.tail))))
            | ((refine' ⟨_, Yl_andNot8 rfl rfl ?q1 ?q2 ?q3 ?q4, ?_⟩); (case q1 => omega); (case q2 => omega); (case q3 => omega); (case q4 => omega)))
          | ((with_reducible refine ie_box ?_)
             (first
             | (refine Ef_boxA rfl rfl ?_; (first | ((fail_if_success have := b1); intro b1) | ((fail_if_success have := b2); intro b2) | ((fail_if_success have := b3); intro b3) | ((fail_if_success have := b4); intro b4) | ((fail_if_success have := b5); intro b5) | ((fail_if_success have := b6); intro b6) | ((fail_if_success have := b7); intro b7) | ((fail_if_success have := b8); intro b8) | ((fail_if_success have := b9); intro b9)))
             | (refine Ef_box1 rfl rfl rfl ?_; (first | ((fail_if_success have := b1); intro b1) | ((fail_if_success have := b2); intro b2) | ((fail_if_success have := b3); intro b3) | ((fail_if_success have := b4); intro b4) | ((fail_if_success have := b5); intro b5) | ((fail_if_success have := b6); intro b6) | ((fail_if_success have := b7); intro b7) | ((fail_if_success have := b8); intro b8) | ((fail_if_success have := b9); intro b9)))))
          | ((with_reducible refine ie_alloc ?_); (first | fail | (((refine' Ef_alloc rfl ?q1 ?_); (case q1 => exact zer_of rfl)); (first | ((fail_if_success have := b1); intro b1) | ((fail_if_success have := b2); intro b2) | ((fail_if_success have := b3); intro b3) | ((fail_if_success have := b4); intro b4) | ((fail_if_success have := b5); intro b5) | ((fail_if_success have := b6); intro b6) | ((fail_if_success have := b7); intro b7) | ((fail_if_success have := b8); intro b8) | ((fail_if_success have := b9); intro b9)))))
          | ((with_reducible refine ie_store ?_)
             (first
             | fail
             | ((refine' Ef_store_rowA rfl rfl ?q1 ?q2 ?q3 ?q4 ?q5 ?q6 ?_); (case q1 => exact siz_of rfl); (case q2 => rfl); (case q3 => (first | assumption | (intro u hu; rcases hu with _ | ⟨_, _ | ⟨_, _ | ⟨_, _ | ⟨_, hu⟩⟩⟩⟩ <;> first | rfl | (cases hu; done)))); (case q4 => (first | exact at0 | exact at1 | exact at2 | exact at3 | exact at4 | exact at5 | exact at6)); (case q5 => omega); (case q6 => assumption))
             | ((refine' Ef_storeA' rfl rfl ?q1 ?q2 ?q3 ?q4 ?_); (case q1 => exact siz_of rfl); (case q2 => (first | assumption | (intro u hu; rcases hu with _ | ⟨_, _ | ⟨_, _ | ⟨_, _ | ⟨_, hu⟩⟩⟩⟩ <;> first | rfl | (cases hu; done)))); (case q3 => (first | exact at0 | exact at1 | exact at2 | exact at3 | exact at4 | exact at5 | exact at6)); (case q4 => rfl))
             | ((refine' Ef_storeC rfl rfl ?q1 ?q2 ?q3 ?q4 ?q5 ?_); (case q1 => rfl); (case q2 => exact siz_of rfl); (case q3 => (first | exact at0 | exact at1 | exact at2 | exact at3 | exact at4 | exact at5 | exact at6)); (case q4 => exact Nat.le_of_ble_eq_true rfl); (case q5 => rfl))))
          | ((with_reducible refine ie_callf ?_); (first | ((with_reducible refine g_call 22 ?_); (first | refine Ef_callP rfl rfl ent_22 (fun w _ => letters_c w) ?_)) | ((with_reducible refine g_call 11 ?_); (first | ((refine' Ef_callP rfl rfl ent_11 (fun w _ => text_c _ w ?q1 ?q2) ?_); (case q1 => omega); (case q2 => omega))))))
          | ((with_reducible refine ie_app ?_)
             (first
             | fail
             | (((refine' Ef_app0_rd rfl rfl rfl ?q1 ?q2 ?q3 ?q4 ?q5 ?q6 ?q7 ?_); (case q1 => exact app_of rfl); (case q2 => (first | exact at0 | exact at1 | exact at2 | exact at3 | exact at4 | exact at5 | exact at6)); (case q3 => assumption); (case q4 => (first | assumption | (intro u hu; rcases hu with _ | ⟨_, _ | ⟨_, _ | ⟨_, _ | ⟨_, hu⟩⟩⟩⟩ <;> first | rfl | (cases hu; done)))); (case q5 => omega); (case q6 => omega); (case q7 => exact List.not_mem_nil))
                (first | ((fail_if_success have := A1); intro A1 c1) | ((fail_if_success have := A2); intro A2 c2) | ((fail_if_success have := A3); intro A3 c3) | ((fail_if_success have := A4); intro A4 c4) | ((fail_if_success have := A5); intro A5 c5) | ((fail_if_success have := A6); intro A6 c6) | ((fail_if_success have := A7); intro A7 c7)))
             | (((refine' Ef_appG_row rfl rfl rfl ?q1 ?q2 ?q3 ?q4 ?q5 ?q6 ?_); (case q1 => exact app_of rfl); (case q2 => (first | exact at0 | exact at1 | exact at2 | exact at3 | exact at4 | exact at5 | exact at6)); (case q3 => (repeat (first | exact .head _ | apply List.Mem.tail))); (case q4 => (first | assumption | (intro u hu; rcases hu with _ | ⟨_, _ | ⟨_, _ | ⟨_, _ | ⟨_, hu⟩⟩⟩⟩ <;> first | rfl | (cases hu; done)))); (case q5 => omega); (case q6 => omega))
                (first | ((fail_if_success have := A1); intro A1 c1) | ((fail_if_success have := A2); intro A2 c2) | ((fail_if_success have := A3); intro A3 c3) | ((fail_if_success have := A4); intro A4 c4) | ((fail_if_success have := A5); intro A5 c5) | ((fail_if_success have := A6); intro A6 c6) | ((fail_if_success have := A7); intro A7 c7)))
             | (((refine' Ef_appG_rd rfl rfl rfl ?q1 ?q2 ?q3 ?q4 ?q5 ?q6 ?q7 ?_); (case q1 => exact app_of rfl); (case q2 => (first | exact at0 | exact at1 | exact at2 | exact at3 | exact at4 | exact at5 | exact at6)); (case q3 => assumption); (case q4 => (first | assumption | (intro u hu; rcases hu with _ | ⟨_, _ | ⟨_, _ | ⟨_, _ | ⟨_, hu⟩⟩⟩⟩ <;> first | rfl | (cases hu; done)))); (case q5 => omega); (case q6 => omega); (case q7 => exact List.not_mem_nil))
                (first | ((fail_if_success have := A1); intro A1 c1) | ((fail_if_success have := A2); intro A2 c2) | ((fail_if_success have := A3); intro A3 c3) | ((fail_if_success have := A4); intro A4 c4) | ((fail_if_success have := A5); intro A5 c5) | ((fail_if_success have := A6); intro A6 c6) | ((fail_if_success have := A7); intro A7 c7)))))
          | ((with_reducible refine ie_bsl ?_)
             (first
             | fail
             | (((refine' Ef_bsl0 rfl ?q1 ?_); (case q1 => exact app_of rfl)); (first | ((fail_if_success have := b1); intro b1) | ((fail_if_success have := b2); intro b2) | ((fail_if_success have := b3); intro b3) | ((fail_if_success have := b4); intro b4) | ((fail_if_success have := b5); intro b5) | ((fail_if_success have := b6); intro b6) | ((fail_if_success have := b7); intro b7) | ((fail_if_success have := b8); intro b8) | ((fail_if_success have := b9); intro b9)))
             | (((refine' Ef_bslA rfl rfl ?q1 ?q2 ?q3 ?_); (case q1 => exact app_of rfl); (case q2 => rfl); (case q3 => decide)); (first | ((fail_if_success have := b1); intro b1) | ((fail_if_success have := b2); intro b2) | ((fail_if_success have := b3); intro b3) | ((fail_if_success have := b4); intro b4) | ((fail_if_success have := b5); intro b5) | ((fail_if_success have := b6); intro b6) | ((fail_if_success have := b7); intro b7) | ((fail_if_success have := b8); intro b8) | ((fail_if_success have := b9); intro b9)))
             | (((refine' Ef_bsl1 rfl rfl rfl ?q1 ?_); (case q1 => exact app_of rfl)); (first | ((fail_if_success have := b1); intro b1) | ((fail_if_success have := b2); intro b2) | ((fail_if_success have := b3); intro b3) | ((fail_if_success have := b4); intro b4) | ((fail_if_success have := b5); intro b5) | ((fail_if_success have := b6); intro b6) | ((fail_if_success have := b7); intro b7) | ((fail_if_success have := b8); intro b8) | ((fail_if_success have := b9); intro b9)))))
          | (first | fail)
          | refine Ef_y rfl rfl ?_
          | ((with_reducible refine ie_conv ?_); refine Ef_y' rfl ?_)
          | ((with_reducible refine ie_bmin ?_); refine Ef_y' rfl ?_)
          | ((with_reducible refine ie_bmax ?_); refine Ef_y' rfl ?_))
  · have e : Rt.txt r = ⟨#[63]⟩ := by unfold Rt.txt; rw [if_pos (by assumption)]
    exact ret_n [] (res1 rfl rfl) (List.nil_sublist _) ⟨by rw [e], rfl⟩
  refine T.row0e 5 1 ?_
  refine T.loop (α := Nat × Option Addr × Nat) (fun x => [(0, .int .u8 r), (3, .slice x.2.1 (Rt.bits r x.1).length x.2.2), (8, .agg letters), (9, .int .i64 (x.1 : Int))])
    (fun x => [.row 5 1 (.slice x.2.1 (Rt.bits r x.1).length x.2.2) (Rt.bits r x.1).length ((Rt.bits r x.1).flatMap eU)]) (fun x => x.1 ≤ 4) (fun x => 4 - x.1) (0, none, 0) ?_ ?_ ?_ ?_
  · (repeat (first | exact Sub.nil | refine Sub.cons rfl ?_))
  · (repeat (first | exact List.nil_sublist _ | refine List.Sublist.cons_cons _ ?_ | refine List.Sublist.cons _ ?_))
  · exact Nat.zero_le _
  · rintro ⟨i, A, c⟩ hi
    dsimp only at hi ⊢
    have hbl := Rt.bits_len r i
    by_cases hlt : i < 4
    · have lv := letters_at i hlt
      have hq : 0 ≤ r / 2 ^ i ∧ r / 2 ^ i < 256 := ⟨Int.ediv_nonneg h0 (Int.le_of_lt (Int.pow_pos (by decide))), by have := Int.ediv_le_self (2 ^ i) h0; omega⟩
      repeat' (first
              | with_reducible refine T.seq ?_
              | with_reducible refine T.block ?_
              | with_reducible refine T.region ?_
              | with_reducible refine T.skip ?_
              | with_reducible refine T.ret ?_
              | with_reducible refine T.exit ?_
              | with_reducible refine seqQ_n ?_
              | with_reducible refine seqQ_x ?_
              | with_reducible refine seqQ_r ?_
              | with_reducible refine blockQ_n ?_
              | with_reducible refine blockQ_r ?_
              | with_reducible refine blockQ_x ?_
              | ((with_reducible refine g_blkx ?_); refine blockQ_y rfl ?_)
              | with_reducible refine loopQ_x ?_
              | with_reducible refine loopQ_r ?_
              | with_reducible refine joinQ_r ?_
              | with_reducible refine joinQ_x ?_
              | ((with_reducible refine g_cond ?_); (first | refine T.cond_t rfl ?_ | refine T.cond_f rfl ?_ | (refine T.cond_s rfl ?_ ?_ <;> intro hc)))
              | with_reducible refine TL_nil ?_
              | with_reducible refine TS_nil ?_
              | ((with_reducible refine g_draw ?_); (first | fail))
              | ((with_reducible refine TL_y' ?hy ?hd ?_); (case hy => rfl); (case hd => rfl))
              | with_reducible refine TL_e ?_
              | ((with_reducible refine g_TL ?_); (first | refine TL_gy' rfl rfl rfl rfl ?_ | refine TL_gn rfl rfl rfl ?_ | refine TL_gu rfl rfl rfl ?_ | refine TL_ge rfl rfl ?_ | refine TL_gn0 rfl rfl ?_))
              | ((with_reducible refine g_TS ?_); (first | refine TS_y rfl rfl ?_ | refine TS_e rfl ?_ | refine TS_gy rfl rfl rfl rfl ?_ | refine TS_gn rfl rfl rfl rfl ?_ | refine TS_gu rfl rfl rfl rfl ?_ | refine TS_ge rfl rfl rfl ?_ | refine TS_gne rfl rfl rfl rfl ?_ | refine TS_gue rfl rfl rfl rfl ?_ | refine TS_gne0 rfl rfl rfl ?_))
              | ((with_reducible refine TSand ?hd ?_); (case hd => (repeat (first | exact List.nil_sublist _ | refine List.Sublist.cons_cons _ ?_ | refine List.Sublist.cons _ ?_))))
              | ((with_reducible refine TBand ?hd ?_); (case hd => (repeat (first | exact List.nil_sublist _ | refine List.Sublist.cons_cons _ ?_ | refine List.Sublist.cons _ ?_))))
              | ((with_reducible refine g_TB ?_); (first | with_reducible refine TB_run ?_ | refine TB_y rfl rfl ?_ | refine TB_b rfl rfl ?_ ?_ | refine TB_e rfl ?_))
              | ((with_reducible refine is_move ?_); refine ⟨_, Yl_move rfl, ?_⟩)
              | ((with_reducible refine is_assign ?_); refine ⟨_, Yl_assign rfl, ?_⟩)
              | ((with_reducible refine is_pick ?_); (first | refine ⟨_, Yl_pick_t rfl rfl, ?_⟩ | refine ⟨_, Yl_pick_f rfl rfl, ?_⟩))
              | ((with_reducible refine is_nil ?_); refine ⟨_, Yl_nilCheck rfl, ?_⟩)
              | ((with_reducible refine is_fld ?_); (first | ((refine' ⟨_, Yl_fld_ad rfl ?q1, ?_⟩); (case q1 => exact fld_of rfl rfl)) | ((refine' ⟨_, Yl_fld_blk0 rfl ?q1, ?_⟩); (case q1 => exact fld_of rfl rfl)) | ((refine' ⟨_, Yl_fld_blk rfl ?q1, ?_⟩); (case q1 => exact fld_of rfl rfl))))
              | ((with_reducible refine is_load ?_)
                 (first
                 | fail
                 | ((refine' ⟨_, Yl_load_blk rfl ?q1 ?q2 ?q3, ?_⟩); (case q1 => exact one_of rfl); (case q2 => (repeat (first | exact .head _ | apply List.Mem.tail))); (case q3 => rfl))
                 | ((refine' ⟨_, Yl_loadA_blk rfl ?q1 ?q2, ?_⟩); (case q1 => (repeat (first | exact .head _ | apply List.Mem.tail))); (case q2 => exact agg_of rfl))
                 | ((refine' ⟨_, Yl_load_blk rfl ?q1 ?q2 ?q3, ?_⟩); (case q1 => exact one_of rfl); (case q2 => (repeat (first | exact .head _ | apply List.Mem.tail))); (case q3 => assumption))
                 | ((refine' ⟨_, Yl_load_rd rfl ?q1 ?q2 List.not_mem_nil ?q3, ?_⟩); (case q1 => exact one_of rfl); (case q2 => assumption); (case q3 => assumption))
                 | ((refine' ⟨_, Yl_load_row rfl ?q1 ?q2 ?q3, ?_⟩); (case q1 => exact one_of rfl); (case q2 => (repeat (first | exact .head _ | apply List.Mem.tail))); (case q3 => assumption))
                 | ((refine' ⟨_, Yl_loadA_rd rfl ?qa ?qb List.not_mem_nil ?ql ?qc, ?_⟩); (case qa => exact agg_of rfl); (case qb => assumption); (case qc => assumption); (case ql => rfl))
                 | ((refine' ⟨_, Yl_loadA_row rfl ?qa ?qb ?ql ?qc, ?_⟩); (case qa => exact agg_of rfl); (case qb => (repeat (first | exact .head _ | apply List.Mem.tail))); (case qc => assumption); (case ql => rfl))))
              | ((with_reducible refine is_idx ?_)
                 (first
                 | fail
                 | ((refine' ⟨_, Yl_index rfl rfl ?q1 ?q2 ?q3 (Rd.some_ ?q4 ?q5), ?_⟩); (case q1 => exact und_of rfl); (case q2 => exact siz_of rfl); (case q3 => omega); (case q4 => assumption); (case q5 => omega))
                 | ((refine' ⟨_, Yl_index_row rfl rfl ?q1 ?q2 ?q3 ?q4, ?_⟩); (case q1 => exact und_of rfl); (case q2 => exact siz_of rfl); (case q3 => omega); (case q4 => (repeat (first | exact .head _ | apply List.Mem.tail))))
                 | ((refine' ⟨_, Yl_index rfl rfl ?q1 ?q2 ?q3 rfl, ?_⟩); (case q1 => exact und_of rfl); (case q2 => exact siz_of rfl); (case q3 => omega))
                 | ((refine' ⟨_, Yl_index (j := 0) rfl rfl ?q1 ?q2 ?q3 (Rd.some_ ?q4 ?q5), ?_⟩); (case q1 => exact und_of rfl); (case q2 => exact siz_of rfl); (case q3 => omega); (case q4 => assumption); (case q5 => omega))
                 | ((refine' ⟨_, Yl_index_row (j := 0) rfl rfl ?q1 ?q2 ?q3 ?q4, ?_⟩); (case q1 => exact und_of rfl); (case q2 => exact siz_of rfl); (case q3 => omega); (case q4 => (repeat (first | exact .head _ | apply List.Mem.tail))))))
              | ((with_reducible refine is_ext ?_); refine ⟨_, Yl_extract rfl rfl, ?_⟩)
              | ((with_reducible refine is_un ?_); refine ⟨_, Yl_not rfl, ?_⟩)
              | ((with_reducible refine is_len ?_); (first | ((refine' ⟨_, Yl_len_slice rfl ?q1, ?_⟩); (case q1 => exact und_of rfl)) | ((refine' ⟨_, Yl_len_string rfl ?q1, ?_⟩); (case q1 => exact und_of rfl))))
              | ((with_reducible refine is_b_lss ?_); (first | ((refine' ⟨_, Yl_lss_t rfl rfl ?q1, ?_⟩); (case q1 => omega)) | ((refine' ⟨_, Yl_lss_f rfl rfl ?q1, ?_⟩); (case q1 => omega)) | (refine sp_lss rfl rfl ?_ ?_ <;> intro hc)))
              | ((with_reducible refine is_b_leq ?_); (first | ((refine' ⟨_, Yl_leq_t rfl rfl ?q1, ?_⟩); (case q1 => omega)) | ((refine' ⟨_, Yl_leq_f rfl rfl ?q1, ?_⟩); (case q1 => omega)) | (refine sp_leq rfl rfl ?_ ?_ <;> intro hc)))
              | ((with_reducible refine is_b_gtr ?_); (first | ((refine' ⟨_, Yl_gtr_t rfl rfl ?q1, ?_⟩); (case q1 => omega)) | ((refine' ⟨_, Yl_gtr_f rfl rfl ?q1, ?_⟩); (case q1 => omega)) | (refine sp_gtr rfl rfl ?_ ?_ <;> intro hc)))
              | ((with_reducible refine is_b_geq ?_); (first | ((refine' ⟨_, Yl_geq_t rfl rfl ?q1, ?_⟩); (case q1 => omega)) | ((refine' ⟨_, Yl_geq_f rfl rfl ?q1, ?_⟩); (case q1 => omega)) | (refine sp_geq rfl rfl ?_ ?_ <;> intro hc)))
              | ((with_reducible refine is_b_eql ?_)
                 (first
                 | ((refine' ⟨_, Yl_eql_t rfl rfl ?q1, ?_⟩); (case q1 => omega))
                 | ((refine' ⟨_, Yl_eql_f rfl rfl ?q1, ?_⟩); (case q1 => omega))
                 | (refine sp_eql rfl rfl ?_ ?_ <;> intro hc)
                 | ((refine' ⟨_, Yl_indexV rfl rfl ?q1 ?q2 ?q3 ?q4 ?q5, ?_⟩); (case q1 => exact und_of rfl); (case q2 => exact one_of rfl); (case q3 => exact siz_of rfl); (case q4 => omega); (case q5 => assumption))
                 | ((refine' ⟨_, Yl_convI rfl ?q1 ?q2 ?q3, ?_⟩); (case q1 => exact und_of rfl); (case q2 => exact und_of rfl); (case q3 => ((refine' u64_in ?q1); (case q1 => omega))))
                 | ((refine' ⟨_, Yl_shr8 rfl rfl ?q1, ?_⟩); (case q1 => omega))
                 | ((refine' ⟨_, Yl_and1 rfl rfl ?q1 ?q2, ?_⟩); (case q1 => omega); (case q2 => omega))
                 | refine ⟨_, Yl_eql_str rfl rfl, ?_⟩
                 | ((refine' ⟨_, Yl_str_row rfl ?q1 ?q2 ?q3 ?q4 ?q5, ?_⟩); (case q1 => exact und_of rfl); (case q2 => exact und_of rfl); (case q3 => exact und_of rfl); (case q4 => omega); (case q5 => (repeat (first | exact .head _ | apply List.Mem.tail))))
                 | ((refine' ⟨_, Yl_andNot8 rfl rfl ?q1 ?q2 ?q3 ?q4, ?_⟩); (case q1 => omega); (case q2 => omega); (case q3 => omega); (case q4 => omega))
                 | ((refine' ⟨_, Yl_eql_bool rfl rfl ?q1, ?_⟩); (case q1 => exact und_of rfl))
                 | ((refine' ⟨_, Yl_eql_strT rfl rfl ?q1, ?_⟩); (case q1 => first | assumption | rfl))
                 | ((refine' ⟨_, Yl_eql_strF rfl rfl ?q1, ?_⟩); (case q1 => first | assumption | decide))
                 | (refine sp_eqlS rfl rfl ?_ ?_ <;> intro hc)))
              | ((with_reducible refine is_b_neq ?_)
                 (first
                 | ((refine' ⟨_, Yl_neq_t rfl rfl ?q1, ?_⟩); (case q1 => omega))
                 | ((refine' ⟨_, Yl_neq_f rfl rfl ?q1, ?_⟩); (case q1 => omega))
                 | (refine sp_neq rfl rfl ?_ ?_ <;> intro hc)
                 | ((refine' ⟨_, Yl_indexV rfl rfl ?q1 ?q2 ?q3 ?q4 ?q5, ?_⟩); (case q1 => exact und_of rfl); (case q2 => exact one_of rfl); (case q3 => exact siz_of rfl); (case q4 => omega); (case q5 => assumption))
                 | ((refine' ⟨_, Yl_convI rfl ?q1 ?q2 ?q3, ?_⟩); (case q1 => exact und_of rfl); (case q2 => exact und_of rfl); (case q3 => ((refine' u64_in ?q1); (case q1 => omega))))
                 | ((refine' ⟨_, Yl_shr8 rfl rfl ?q1, ?_⟩); (case q1 => omega))
                 | ((refine' ⟨_, Yl_and1 rfl rfl ?q1 ?q2, ?_⟩); (case q1 => omega); (case q2 => omega))
                 | refine ⟨_, Yl_eql_str rfl rfl, ?_⟩
                 | ((refine' ⟨_, Yl_str_row rfl ?q1 ?q2 ?q3 ?q4 ?q5, ?_⟩); (case q1 => exact und_of rfl); (case q2 => exact und_of rfl); (case q3 => exact und_of rfl); (case q4 => omega); (case q5 => (repeat (first | exact .head _ | apply List.Mem.tail))))
                 | ((refine' ⟨_, Yl_andNot8 rfl rfl ?q1 ?q2 ?q3 ?q4, ?_⟩); (case q1 => omega); (case q2 => omega); (case q3 => omega); (case q4 => omega))
                 | ((refine' ⟨_, Yl_neq_bool rfl rfl ?q1, ?_⟩); (case q1 => exact und_of rfl))
                 | ((refine' ⟨_, Yl_neq_strT rfl rfl ?q1, ?_⟩); (case q1 => first | assumption | decide))
                 | ((refine' ⟨_, Yl_neq_strF rfl rfl ?q1, ?_⟩); (case q1 => first | assumption | rfl))
                 | (refine sp_neqS rfl rfl ?_ ?_ <;> intro hc)))
              | ((with_reducible refine is_b_add ?_)
                 (first
                 | ((refine' ⟨_, Yl_add rfl rfl ?q1 ?q2, ?_⟩); (case q1 => omega); (case q2 => omega))
                 | ((refine' ⟨_, Yl_add8 rfl rfl ?q1 ?q2, ?_⟩); (case q1 => omega); (case q2 => omega))
                 | ((refine' ⟨_, Yl_indexV rfl rfl ?q1 ?q2 ?q3 ?q4 ?q5, ?_⟩); (case q1 => exact und_of rfl); (case q2 => exact one_of rfl); (case q3 => exact siz_of rfl); (case q4 => omega); (case q5 => assumption))
                 | ((refine' ⟨_, Yl_convI rfl ?q1 ?q2 ?q3, ?_⟩); (case q1 => exact und_of rfl); (case q2 => exact und_of rfl); (case q3 => ((refine' u64_in ?q1); (case q1 => omega))))
                 | ((refine' ⟨_, Yl_shr8 rfl rfl ?q1, ?_⟩); (case q1 => omega))
                 | ((refine' ⟨_, Yl_and1 rfl rfl ?q1 ?q2, ?_⟩); (case q1 => omega); (case q2 => omega))
                 | refine ⟨_, Yl_eql_str rfl rfl, ?_⟩
                 | ((refine' ⟨_, Yl_str_row rfl ?q1 ?q2 ?q3 ?q4 ?q5, ?_⟩); (case q1 => exact und_of rfl); (case q2 => exact und_of rfl); (case q3 => exact und_of rfl); (case q4 => omega); (case q5 => (repeat (first | exact .head _ | apply List.Mem.tail))))
                 | ((refine' ⟨_, Yl_andNot8 rfl rfl ?q1 ?q2 ?q3 ?q4, ?_⟩); (case q1 => omega); (case q2 => omega); (case q3 => omega); (case q4 => omega))))
              | ((with_reducible refine is_min ?_); refine ⟨_, Yl_min rfl rfl, ?_⟩)
              | ((with_reducible refine is_max ?_); refine ⟨_, Yl_max rfl rfl, ?_⟩)
              | ((with_reducible refine is_b_sub ?_)
                 (first
                 | ((refine' ⟨_, Yl_sub rfl rfl ?q1 ?q2, ?_⟩); (case q1 => omega); (case q2 => omega))
                 | ((refine' ⟨_, Yl_indexV rfl rfl ?q1 ?q2 ?q3 ?q4 ?q5, ?_⟩); (case q1 => exact und_of rfl); (case q2 => exact one_of rfl); (case q3 => exact siz_of rfl); (case q4 => omega); (case q5 => assumption))
                 | ((refine' ⟨_, Yl_convI rfl ?q1 ?q2 ?q3, ?_⟩); (case q1 => exact und_of rfl); (case q2 => exact und_of rfl); (case q3 => ((refine' u64_in ?q1); (case q1 => omega))))
                 | ((refine' ⟨_, Yl_shr8 rfl rfl ?q1, ?_⟩); (case q1 => omega))
                 | ((refine' ⟨_, Yl_and1 rfl rfl ?q1 ?q2, ?_⟩); (case q1 => omega); (case q2 => omega))
                 | refine ⟨_, Yl_eql_str rfl rfl, ?_⟩
                 | ((refine' ⟨_, Yl_str_row rfl ?q1 ?q2 ?q3 ?q4 ?q5, ?_⟩); (case q1 => exact und_of rfl); (case q2 => exact und_of rfl); (case q3 => exact und_of rfl); (case q4 => omega); (case q5 => (repeat (first | exact .head _ | apply List.Mem.tail))))
                 | ((refine' ⟨_, Yl_andNot8 rfl rfl ?q1 ?q2 ?q3 ?q4, ?_⟩); (case q1 => omega); (case q2 => omega); (case q3 => omega); (case q4 => omega))))
              | ((with_reducible refine is_build ?_); (first | refine ⟨_, Yl_build rfl letters_b, ?_⟩))
              | (first
                | ((refine' ⟨_, Yl_indexV rfl rfl ?q1 ?q2 ?q3 ?q4 ?q5, ?_⟩); (case q1 => exact und_of rfl); (case q2 => exact one_of rfl); (case q3 => exact siz_of rfl); (case q4 => omega); (case q5 => assumption))
                | ((refine' ⟨_, Yl_convI rfl ?q1 ?q2 ?q3, ?_⟩); (case q1 => exact und_of rfl); (case q2 => exact und_of rfl); (case q3 => ((refine' u64_in ?q1); (case q1 => omega))))
                | ((refine' ⟨_, Yl_shr8 rfl rfl ?q1, ?_⟩); (case q1 => omega))
                | ((refine' ⟨_, Yl_and1 rfl rfl ?q1 ?q2, ?_⟩); (case q1 => omega); (case q2 => omega))
                | refine ⟨_, Yl_eql_str rfl rfl, ?_⟩
                | ((refine' ⟨_, Yl_str_row rfl ?q1 ?q2 ?q3 ?q4 ?q5, ?_⟩); (case q1 => exact und_of rfl); (case q2 => exact und_of rfl); (case q3 => exact und_of rfl); (case q4 => omega); (case q5 => (repeat (first | exact .head _ | apply List.Mem.tail))))
                | ((refine' ⟨_, Yl_andNot8 rfl rfl ?q1 ?q2 ?q3 ?q4, ?_⟩); (case q1 => omega); (case q2 => omega); (case q3 => omega); (case q4 => omega)))
              | ((with_reducible refine ie_box ?_)
                 (first
                 | (refine Ef_boxA rfl rfl ?_; (first | ((fail_if_success have := b1); intro b1) | ((fail_if_success have := b2); intro b2) | ((fail_if_success have := b3); intro b3) | ((fail_if_success have := b4); intro b4) | ((fail_if_success have := b5); intro b5) | ((fail_if_success have := b6); intro b6) | ((fail_if_success have := b7); intro b7) | ((fail_if_success have := b8); intro b8) | ((fail_if_success have := b9); intro b9)))
                 | (refine Ef_box1 rfl rfl rfl ?_; (first | ((fail_if_success have := b1); intro b1) | ((fail_if_success have := b2); intro b2) | ((fail_if_success have := b3); intro b3) | ((fail_if_success have := b4); intro b4) | ((fail_if_success have := b5); intro b5) | ((fail_if_success have := b6); intro b6) | ((fail_if_success have := b7); intro b7) | ((fail_if_success have := b8); intro b8) | ((fail_if_success have := b9); intro b9)))))
              | ((with_reducible refine ie_alloc ?_); (first | fail | (((refine' Ef_alloc rfl ?q1 ?_); (case q1 => exact zer_of rfl)); (first | ((fail_if_success have := b1); intro b1) | ((fail_if_success have := b2); intro b2) | ((fail_if_success have := b3); intro b3) | ((fail_if_success have := b4); intro b4) | ((fail_if_success have := b5); intro b5) | ((fail_if_success have := b6); intro b6) | ((fail_if_success have := b7); intro b7) | ((fail_if_success have := b8); intro b8) | ((fail_if_success have := b9); intro b9)))))
              | ((with_reducible refine ie_store ?_)
                 (first
                 | fail
                 | ((refine' Ef_store_rowA rfl rfl ?q1 ?q2 ?q3 ?q4 ?q5 ?q6 ?_); (case q1 => exact siz_of rfl); (case q2 => rfl); (case q3 => (first | assumption | (intro u hu; rcases hu with _ | ⟨_, _ | ⟨_, _ | ⟨_, _ | ⟨_, hu⟩⟩⟩⟩ <;> first | rfl | (cases hu; done)))); (case q4 => (first | exact at0 | exact at1 | exact at2 | exact at3 | exact at4 | exact at5 | exact at6)); (case q5 => omega); (case q6 => assumption))
                 | ((refine' Ef_storeA' rfl rfl ?q1 ?q2 ?q3 ?q4 ?_); (case q1 => exact siz_of rfl); (case q2 => (first | assumption | (intro u hu; rcases hu with _ | ⟨_, _ | ⟨_, _ | ⟨_, _ | ⟨_, hu⟩⟩⟩⟩ <;> first | rfl | (cases hu; done)))); (case q3 => (first | exact at0 | exact at1 | exact at2 | exact at3 | exact at4 | exact at5 | exact at6)); (case q4 => rfl))
                 | ((refine' Ef_storeC rfl rfl ?q1 ?q2 ?q3 ?q4 ?q5 ?_); (case q1 => rfl); (case q2 => exact siz_of rfl); (case q3 => (first | exact at0 | exact at1 | exact at2 | exact at3 | exact at4 | exact at5 | exact at6)); (case q4 => exact Nat.le_of_ble_eq_true rfl); (case q5 => rfl))))
              | ((with_reducible refine ie_callf ?_); (first | ((with_reducible refine g_call 22 ?_); (first | refine Ef_callP rfl rfl ent_22 (fun w _ => letters_c w) ?_)) | ((with_reducible refine g_call 11 ?_); (first | ((refine' Ef_callP rfl rfl ent_11 (fun w _ => text_c _ w ?q1 ?q2) ?_); (case q1 => omega); (case q2 => omega))))))
              | ((with_reducible refine ie_app ?_)
                 (first
                 | fail
                 | (((refine' Ef_app0_rd rfl rfl rfl ?q1 ?q2 ?q3 ?q4 ?q5 ?q6 ?q7 ?_); (case q1 => exact app_of rfl); (case q2 => (first | exact at0 | exact at1 | exact at2 | exact at3 | exact at4 | exact at5 | exact at6)); (case q3 => assumption); (case q4 => (first | assumption | (intro u hu; rcases hu with _ | ⟨_, _ | ⟨_, _ | ⟨_, _ | ⟨_, hu⟩⟩⟩⟩ <;> first | rfl | (cases hu; done)))); (case q5 => omega); (case q6 => omega); (case q7 => exact List.not_mem_nil))
                    (first | ((fail_if_success have := A1); intro A1 c1) | ((fail_if_success have := A2); intro A2 c2) | ((fail_if_success have := A3); intro A3 c3) | ((fail_if_success have := A4); intro A4 c4) | ((fail_if_success have := A5); intro A5 c5) | ((fail_if_success have := A6); intro A6 c6) | ((fail_if_success have := A7); intro A7 c7)))
                 | (((refine' Ef_appG_row rfl rfl rfl ?q1 ?q2 ?q3 ?q4 ?q5 ?q6 ?_); (case q1 => exact app_of rfl); (case q2 => (first | exact at0 | exact at1 | exact at2 | exact at3 | exact at4 | exact at5 | exact at6)); (case q3 => (repeat (first | exact .head _ | apply List.Mem.tail))); (case q4 => (first | assumption | (intro u hu; rcases hu with _ | ⟨_, _ | ⟨_, _ | ⟨_, _ | ⟨_, hu⟩⟩⟩⟩ <;> first | rfl | (cases hu; done)))); (case q5 => omega); (case q6 => omega))
                    (first | ((fail_if_success have := A1); intro A1 c1) | ((fail_if_success have := A2); intro A2 c2) | ((fail_if_success have := A3); intro A3 c3) | ((fail_if_success have := A4); intro A4 c4) | ((fail_if_success have := A5); intro A5 c5) | ((fail_if_success have := A6); intro A6 c6) | ((fail_if_success have := A7); intro A7 c7)))
                 | (((refine' Ef_appG_rd rfl rfl rfl ?q1 ?q2 ?q3 ?q4 ?q5 ?q6 ?q7 ?_); (case q1 => exact app_of rfl); (case q2 => (first | exact at0 | exact at1 | exact at2 | exact at3 | exact at4 | exact at5 | exact at6)); (case q3 => assumption); (case q4 => (first | assumption | (intro u hu; rcases hu with _ | ⟨_, _ | ⟨_, _ | ⟨_, _ | ⟨_, hu⟩⟩⟩⟩ <;> first | rfl | (cases hu; done)))); (case q5 => omega); (case q6 => omega); (case q7 => exact List.not_mem_nil))
                    (first | ((fail_if_success have := A1); intro A1 c1) | ((fail_if_success have := A2); intro A2 c2) | ((fail_if_success have := A3); intro A3 c3) | ((fail_if_success have := A4); intro A4 c4) | ((fail_if_success have := A5); intro A5 c5) | ((fail_if_success have := A6); intro A6 c6) | ((fail_if_success have := A7); intro A7 c7)))))
              | ((with_reducible refine ie_bsl ?_)
                 (first
                 | fail
                 | (((refine' Ef_bsl0 rfl ?q1 ?_); (case q1 => exact app_of rfl)); (first | ((fail_if_success have := b1); intro b1) | ((fail_if_success have := b2); intro b2) | ((fail_if_success have := b3); intro b3) | ((fail_if_success have := b4); intro b4) | ((fail_if_success have := b5); intro b5) | ((fail_if_success have := b6); intro b6) | ((fail_if_success have := b7); intro b7) | ((fail_if_success have := b8); intro b8) | ((fail_if_success have := b9); intro b9)))
                 | (((refine' Ef_bslA rfl rfl ?q1 ?q2 ?q3 ?_); (case q1 => exact app_of rfl); (case q2 => rfl); (case q3 => decide)); (first | ((fail_if_success have := b1); intro b1) | ((fail_if_success have := b2); intro b2) | ((fail_if_success have := b3); intro b3) | ((fail_if_success have := b4); intro b4) | ((fail_if_success have := b5); intro b5) | ((fail_if_success have := b6); intro b6) | ((fail_if_success have := b7); intro b7) | ((fail_if_success have := b8); intro b8) | ((fail_if_success have := b9); intro b9)))
                 | (((refine' Ef_bsl1 rfl rfl rfl ?q1 ?_); (case q1 => exact app_of rfl)); (first | ((fail_if_success have := b1); intro b1) | ((fail_if_success have := b2); intro b2) | ((fail_if_success have := b3); intro b3) | ((fail_if_success have := b4); intro b4) | ((fail_if_success have := b5); intro b5) | ((fail_if_success have := b6); intro b6) | ((fail_if_success have := b7); intro b7) | ((fail_if_success have := b8); intro b8) | ((fail_if_success have := b9); intro b9)))))
              | (first | fail)
              | refine Ef_y rfl rfl ?_
              | ((with_reducible refine ie_conv ?_); refine Ef_y' rfl ?_)
              | ((with_reducible refine ie_bmin ?_); refine Ef_y' rfl ?_)
              | ((with_reducible refine ie_bmax ?_); refine Ef_y' rfl ?_))
      · refine loopQ_n (i + 1, A1, c1) ?_ ?_ (by (first | omega | (dsimp only; omega) | (simp; omega))) (by (first | omega | (dsimp only; omega) | (simp; omega)))
        · dsimp only
          rw [Rt.bits_t (by assumption), ← lenU_snoc]
          (repeat (first | exact Sub.nil | refine Sub.cons rfl ?_))
        · dsimp only
          rw [Rt.bits_t (by assumption), ← lenU_snoc, ← eU_snoc]
          (repeat (first | exact List.nil_sublist _ | refine List.Sublist.cons_cons _ ?_ | refine List.Sublist.cons _ ?_))
      · refine loopQ_n (i + 1, A, c) ?_ ?_ (by (first | omega | (dsimp only; omega) | (simp; omega))) (by (first | omega | (dsimp only; omega) | (simp; omega)))
        · dsimp only
          rw [Rt.bits_f (by assumption)]
          (repeat (first | exact Sub.nil | refine Sub.cons rfl ?_))
        · dsimp only
          rw [Rt.bits_f (by assumption)]
          (repeat (first | exact List.nil_sublist _ | refine List.Sublist.cons_cons _ ?_ | refine List.Sublist.cons _ ?_))
    · obtain rfl : i = 4 := by omega
      repeat' (first
              | with_reducible refine T.seq ?_
              | with_reducible refine T.block ?_
              | with_reducible refine T.region ?_
              | with_reducible refine T.skip ?_
              | with_reducible refine T.ret ?_
              | with_reducible refine T.exit ?_
              | with_reducible refine seqQ_n ?_
              | with_reducible refine seqQ_x ?_
              | with_reducible refine seqQ_r ?_
              | with_reducible refine blockQ_n ?_
              | with_reducible refine blockQ_r ?_
              | with_reducible refine blockQ_x ?_
              | ((with_reducible refine g_blkx ?_); refine blockQ_y rfl ?_)
              | with_reducible refine loopQ_x ?_
              | with_reducible refine loopQ_r ?_
              | with_reducible refine joinQ_r ?_
              | with_reducible refine joinQ_x ?_
              | ((with_reducible refine g_cond ?_); (first | refine T.cond_t rfl ?_ | refine T.cond_f rfl ?_ | (refine T.cond_s rfl ?_ ?_ <;> intro hc)))
              | with_reducible refine TL_nil ?_
              | with_reducible refine TS_nil ?_
              | ((with_reducible refine g_draw ?_); (first | fail))
              | ((with_reducible refine TL_y' ?hy ?hd ?_); (case hy => rfl); (case hd => rfl))
              | with_reducible refine TL_e ?_
              | ((with_reducible refine g_TL ?_); (first | refine TL_gy' rfl rfl rfl rfl ?_ | refine TL_gn rfl rfl rfl ?_ | refine TL_gu rfl rfl rfl ?_ | refine TL_ge rfl rfl ?_ | refine TL_gn0 rfl rfl ?_))
              | ((with_reducible refine g_TS ?_); (first | refine TS_y rfl rfl ?_ | refine TS_e rfl ?_ | refine TS_gy rfl rfl rfl rfl ?_ | refine TS_gn rfl rfl rfl rfl ?_ | refine TS_gu rfl rfl rfl rfl ?_ | refine TS_ge rfl rfl rfl ?_ | refine TS_gne rfl rfl rfl rfl ?_ | refine TS_gue rfl rfl rfl rfl ?_ | refine TS_gne0 rfl rfl rfl ?_))
              | ((with_reducible refine TSand ?hd ?_); (case hd => (repeat (first | exact List.nil_sublist _ | refine List.Sublist.cons_cons _ ?_ | refine List.Sublist.cons _ ?_))))
              | ((with_reducible refine TBand ?hd ?_); (case hd => (repeat (first | exact List.nil_sublist _ | refine List.Sublist.cons_cons _ ?_ | refine List.Sublist.cons _ ?_))))
              | ((with_reducible refine g_TB ?_); (first | with_reducible refine TB_run ?_ | refine TB_y rfl rfl ?_ | refine TB_b rfl rfl ?_ ?_ | refine TB_e rfl ?_))
              | ((with_reducible refine is_move ?_); refine ⟨_, Yl_move rfl, ?_⟩)
              | ((with_reducible refine is_assign ?_); refine ⟨_, Yl_assign rfl, ?_⟩)
              | ((with_reducible refine is_pick ?_); (first | refine ⟨_, Yl_pick_t rfl rfl, ?_⟩ | refine ⟨_, Yl_pick_f rfl rfl, ?_⟩))
              | ((with_reducible refine is_nil ?_); refine ⟨_, Yl_nilCheck rfl, ?_⟩)
              | ((with_reducible refine is_fld ?_); (first | ((refine' ⟨_, Yl_fld_ad rfl ?q1, ?_⟩); (case q1 => exact fld_of rfl rfl)) | ((refine' ⟨_, Yl_fld_blk0 rfl ?q1, ?_⟩); (case q1 => exact fld_of rfl rfl)) | ((refine' ⟨_, Yl_fld_blk rfl ?q1, ?_⟩); (case q1 => exact fld_of rfl rfl))))
              | ((with_reducible refine is_load ?_)
                 (first
                 | fail
                 | ((refine' ⟨_, Yl_load_blk rfl ?q1 ?q2 ?q3, ?_⟩); (case q1 => exact one_of rfl); (case q2 => (repeat (first | exact .head _ | apply List.Mem.tail))); (case q3 => rfl))
                 | ((refine' ⟨_, Yl_loadA_blk rfl ?q1 ?q2, ?_⟩); (case q1 => (repeat (first | exact .head _ | apply List.Mem.tail))); (case q2 => exact agg_of rfl))
                 | ((refine' ⟨_, Yl_load_blk rfl ?q1 ?q2 ?q3, ?_⟩); (case q1 => exact one_of rfl); (case q2 => (repeat (first | exact .head _ | apply List.Mem.tail))); (case q3 => assumption))
                 | ((refine' ⟨_, Yl_load_rd rfl ?q1 ?q2 List.not_mem_nil ?q3, ?_⟩); (case q1 => exact one_of rfl); (case q2 => assumption); (case q3 => assumption))
                 | ((refine' ⟨_, Yl_load_row rfl ?q1 ?q2 ?q3, ?_⟩); (case q1 => exact one_of rfl); (case q2 => (repeat (first | exact .head _ | apply List.Mem.tail))); (case q3 => assumption))
                 | ((refine' ⟨_, Yl_loadA_rd rfl ?qa ?qb List.not_mem_nil ?ql ?qc, ?_⟩); (case qa => exact agg_of rfl); (case qb => assumption); (case qc => assumption); (case ql => rfl))
                 | ((refine' ⟨_, Yl_loadA_row rfl ?qa ?qb ?ql ?qc, ?_⟩); (case qa => exact agg_of rfl); (case qb => (repeat (first | exact .head _ | apply List.Mem.tail))); (case qc => assumption); (case ql => rfl))))
              | ((with_reducible refine is_idx ?_)
                 (first
                 | fail
                 | ((refine' ⟨_, Yl_index rfl rfl ?q1 ?q2 ?q3 (Rd.some_ ?q4 ?q5), ?_⟩); (case q1 => exact und_of rfl); (case q2 => exact siz_of rfl); (case q3 => omega); (case q4 => assumption); (case q5 => omega))
                 | ((refine' ⟨_, Yl_index_row rfl rfl ?q1 ?q2 ?q3 ?q4, ?_⟩); (case q1 => exact und_of rfl); (case q2 => exact siz_of rfl); (case q3 => omega); (case q4 => (repeat (first | exact .head _ | apply List.Mem.tail))))
                 | ((refine' ⟨_, Yl_index rfl rfl ?q1 ?q2 ?q3 rfl, ?_⟩); (case q1 => exact und_of rfl); (case q2 => exact siz_of rfl); (case q3 => omega))
                 | ((refine' ⟨_, Yl_index (j := 0) rfl rfl ?q1 ?q2 ?q3 (Rd.some_ ?q4 ?q5), ?_⟩); (case q1 => exact und_of rfl); (case q2 => exact siz_of rfl); (case q3 => omega); (case q4 => assumption); (case q5 => omega))
                 | ((refine' ⟨_, Yl_index_row (j := 0) rfl rfl ?q1 ?q2 ?q3 ?q4, ?_⟩); (case q1 => exact und_of rfl); (case q2 => exact siz_of rfl); (case q3 => omega); (case q4 => (repeat (first | exact .head _ | apply List.Mem.tail))))))
              | ((with_reducible refine is_ext ?_); refine ⟨_, Yl_extract rfl rfl, ?_⟩)
              | ((with_reducible refine is_un ?_); refine ⟨_, Yl_not rfl, ?_⟩)
              | ((with_reducible refine is_len ?_); (first | ((refine' ⟨_, Yl_len_slice rfl ?q1, ?_⟩); (case q1 => exact und_of rfl)) | ((refine' ⟨_, Yl_len_string rfl ?q1, ?_⟩); (case q1 => exact und_of rfl))))
              | ((with_reducible refine is_b_lss ?_); (first | ((refine' ⟨_, Yl_lss_t rfl rfl ?q1, ?_⟩); (case q1 => omega)) | ((refine' ⟨_, Yl_lss_f rfl rfl ?q1, ?_⟩); (case q1 => omega)) | (refine sp_lss rfl rfl ?_ ?_ <;> intro hc)))
              | ((with_reducible refine is_b_leq ?_); (first | ((refine' ⟨_, Yl_leq_t rfl rfl ?q1, ?_⟩); (case q1 => omega)) | ((refine' ⟨_, Yl_leq_f rfl rfl ?q1, ?_⟩); (case q1 => omega)) | (refine sp_leq rfl rfl ?_ ?_ <;> intro hc)))
              | ((with_reducible refine is_b_gtr ?_); (first | ((refine' ⟨_, Yl_gtr_t rfl rfl ?q1, ?_⟩); (case q1 => omega)) | ((refine' ⟨_, Yl_gtr_f rfl rfl ?q1, ?_⟩); (case q1 => omega)) | (refine sp_gtr rfl rfl ?_ ?_ <;> intro hc)))
              | ((with_reducible refine is_b_geq ?_); (first | ((refine' ⟨_, Yl_geq_t rfl rfl ?q1, ?_⟩); (case q1 => omega)) | ((refine' ⟨_, Yl_geq_f rfl rfl ?q1, ?_⟩); (case q1 => omega)) | (refine sp_geq rfl rfl ?_ ?_ <;> intro hc)))
              | ((with_reducible refine is_b_eql ?_)
                 (first
                 | ((refine' ⟨_, Yl_eql_t rfl rfl ?q1, ?_⟩); (case q1 => omega))
                 | ((refine' ⟨_, Yl_eql_f rfl rfl ?q1, ?_⟩); (case q1 => omega))
                 | (refine sp_eql rfl rfl ?_ ?_ <;> intro hc)
                 | ((refine' ⟨_, Yl_indexV rfl rfl ?q1 ?q2 ?q3 ?q4 ?q5, ?_⟩); (case q1 => exact und_of rfl); (case q2 => exact one_of rfl); (case q3 => exact siz_of rfl); (case q4 => omega); (case q5 => assumption))
                 | ((refine' ⟨_, Yl_convI rfl ?q1 ?q2 ?q3, ?_⟩); (case q1 => exact und_of rfl); (case q2 => exact und_of rfl); (case q3 => ((refine' u64_in ?q1); (case q1 => omega))))
                 | ((refine' ⟨_, Yl_shr8 rfl rfl ?q1, ?_⟩); (case q1 => omega))
                 | ((refine' ⟨_, Yl_and1 rfl rfl ?q1 ?q2, ?_⟩); (case q1 => omega); (case q2 => omega))
                 | refine ⟨_, Yl_eql_str rfl rfl, ?_⟩
                 | ((refine' ⟨_, Yl_str_row rfl ?q1 ?q2 ?q3 ?q4 ?q5, ?_⟩); (case q1 => exact und_of rfl); (case q2 => exact und_of rfl); (case q3 => exact und_of rfl); (case q4 => omega); (case q5 => (repeat (first | exact .head _ | apply List.Mem.tail))))
                 | ((refine' ⟨_, Yl_andNot8 rfl rfl ?q1 ?q2 ?q3 ?q4, ?_⟩); (case q1 => omega); (case q2 => omega); (case q3 => omega); (case q4 => omega))
                 | ((refine' ⟨_, Yl_eql_bool rfl rfl ?q1, ?_⟩); (case q1 => exact und_of rfl))
                 | ((refine' ⟨_, Yl_eql_strT rfl rfl ?q1, ?_⟩); (case q1 => first | assumption | rfl))
                 | ((refine' ⟨_, Yl_eql_strF rfl rfl ?q1, ?_⟩); (case q1 => first | assumption | decide))
                 | (refine sp_eqlS rfl rfl ?_ ?_ <;> intro hc)))
              | ((with_reducible refine is_b_neq ?_)
                 (first
                 | ((refine' ⟨_, Yl_neq_t rfl rfl ?q1, ?_⟩); (case q1 => omega))
                 | ((refine' ⟨_, Yl_neq_f rfl rfl ?q1, ?_⟩); (case q1 => omega))
                 | (refine sp_neq rfl rfl ?_ ?_ <;> intro hc)
                 | ((refine' ⟨_, Yl_indexV rfl rfl ?q1 ?q2 ?q3 ?q4 ?q5, ?_⟩); (case q1 => exact und_of rfl); (case q2 => exact one_of rfl); (case q3 => exact siz_of rfl); (case q4 => omega); (case q5 => assumption))
                 | ((refine' ⟨_, Yl_convI rfl ?q1 ?q2 ?q3, ?_⟩); (case q1 => exact und_of rfl); (case q2 => exact und_of rfl); (case q3 => ((refine' u64_in ?q1); (case q1 => omega))))
                 | ((refine' ⟨_, Yl_shr8 rfl rfl ?q1, ?_⟩); (case q1 => omega))
                 | ((refine' ⟨_, Yl_and1 rfl rfl ?q1 ?q2, ?_⟩); (case q1 => omega); (case q2 => omega))
                 | refine ⟨_, Yl_eql_str rfl rfl, ?_⟩
                 | ((refine' ⟨_, Yl_str_row rfl ?q1 ?q2 ?q3 ?q4 ?q5, ?_⟩); (case q1 => exact und_of rfl); (case q2 => exact und_of rfl); (case q3 => exact und_of rfl); (case q4 => omega); (case q5 => (repeat (first | exact .head _ | apply List.Mem.tail))))
                 | ((refine' ⟨_, Yl_andNot8 rfl rfl ?q1 ?q2 ?q3 ?q4, ?_⟩); (case q1 => omega); (case q2 => omega); (case q3 => omega); (case q4 => omega))
                 | ((refine' ⟨_, Yl_neq_bool rfl rfl ?q1, ?_⟩); (case q1 => exact und_of rfl))
                 | ((refine' ⟨_, Yl_neq_strT rfl rfl ?q1, ?_⟩); (case q1 => first | assumption | decide))
                 | ((refine' ⟨_, Yl_neq_strF rfl rfl ?q1, ?_⟩); (case q1 => first | assumption | rfl))
                 | (refine sp_neqS rfl rfl ?_ ?_ <;> intro hc)))
              | ((with_reducible refine is_b_add ?_)
                 (first
                 | ((refine' ⟨_, Yl_add rfl rfl ?q1 ?q2, ?_⟩); (case q1 => omega); (case q2 => omega))
                 | ((refine' ⟨_, Yl_add8 rfl rfl ?q1 ?q2, ?_⟩); (case q1 => omega); (case q2 => omega))
                 | ((refine' ⟨_, Yl_indexV rfl rfl ?q1 ?q2 ?q3 ?q4 ?q5, ?_⟩); (case q1 => exact und_of rfl); (case q2 => exact one_of rfl); (case q3 => exact siz_of rfl); (case q4 => omega); (case q5 => assumption))
                 | ((refine' ⟨_, Yl_convI rfl ?q1 ?q2 ?q3, ?_⟩); (case q1 => exact und_of rfl); (case q2 => exact und_of rfl); (case q3 => ((refine' u64_in ?q1); (case q1 => omega))))
                 | ((refine' ⟨_, Yl_shr8 rfl rfl ?q1, ?_⟩); (case q1 => omega))
                 | ((refine' ⟨_, Yl_and1 rfl rfl ?q1 ?q2, ?_⟩); (case q1 => omega); (case q2 => omega))
                 | refine ⟨_, Yl_eql_str rfl rfl, ?_⟩
                 | ((refine' ⟨_, Yl_str_row rfl ?q1 ?q2 ?q3 ?q4 ?q5, ?_⟩); (case q1 => exact und_of rfl); (case q2 => exact und_of rfl); (case q3 => exact und_of rfl); (case q4 => omega); (case q5 => (repeat (first | exact .head _ | apply List.Mem.tail))))
                 | ((refine' ⟨_, Yl_andNot8 rfl rfl ?q1 ?q2 ?q3 ?q4, ?_⟩); (case q1 => omega); (case q2 => omega); (case q3 => omega); (case q4 => omega))))
              | ((with_reducible refine is_min ?_); refine ⟨_, Yl_min rfl rfl, ?_⟩)
              | ((with_reducible refine is_max ?_); refine ⟨_, Yl_max rfl rfl, ?_⟩)
              | ((with_reducible refine is_b_sub ?_)
                 (first
                 | ((refine' ⟨_, Yl_sub rfl rfl ?q1 ?q2, ?_⟩); (case q1 => omega); (case q2 => omega))
                 | ((refine' ⟨_, Yl_indexV rfl rfl ?q1 ?q2 ?q3 ?q4 ?q5, ?_⟩); (case q1 => exact und_of rfl); (case q2 => exact one_of rfl); (case q3 => exact siz_of rfl); (case q4 => omega); (case q5 => assumption))
                 | ((refine' ⟨_, Yl_convI rfl ?q1 ?q2 ?q3, ?_⟩); (case q1 => exact und_of rfl); (case q2 => exact und_of rfl); (case q3 => ((refine' u64_in ?q1); (case q1 => omega))))
                 | ((refine' ⟨_, Yl_shr8 rfl rfl ?q1, ?_⟩); (case q1 => omega))
                 | ((refine' ⟨_, Yl_and1 rfl rfl ?q1 ?q2, ?_⟩); (case q1 => omega); (case q2 => omega))
                 | refine ⟨_, Yl_eql_str rfl rfl, ?_⟩
                 | ((refine' ⟨_, Yl_str_row rfl ?q1 ?q2 ?q3 ?q4 ?q5, ?_⟩); (case q1 => exact und_of rfl); (case q2 => exact und_of rfl); (case q3 => exact und_of rfl); (case q4 => omega); (case q5 => (repeat (first | exact .head _ | apply List.Mem.tail))))
                 | ((refine' ⟨_, Yl_andNot8 rfl rfl ?q1 ?q2 ?q3 ?q4, ?_⟩); (case q1 => omega); (case q2 => omega); (case q3 => omega); (case q4 => omega))))
              | ((with_reducible refine is_build ?_); (first | refine ⟨_, Yl_build rfl letters_b, ?_⟩))
              | (first
                | ((refine' ⟨_, Yl_indexV rfl rfl ?q1 ?q2 ?q3 ?q4 ?q5, ?_⟩); (case q1 => exact und_of rfl); (case q2 => exact one_of rfl); (case q3 => exact siz_of rfl); (case q4 => omega); (case q5 => assumption))
                | ((refine' ⟨_, Yl_convI rfl ?q1 ?q2 ?q3, ?_⟩); (case q1 => exact und_of rfl); (case q2 => exact und_of rfl); (case q3 => ((refine' u64_in ?q1); (case q1 => omega))))
                | ((refine' ⟨_, Yl_shr8 rfl rfl ?q1, ?_⟩); (case q1 => omega))
                | ((refine' ⟨_, Yl_and1 rfl rfl ?q1 ?q2, ?_⟩); (case q1 => omega); (case q2 => omega))
                | refine ⟨_, Yl_eql_str rfl rfl, ?_⟩
                | ((refine' ⟨_, Yl_str_row rfl ?q1 ?q2 ?q3 ?q4 ?q5, ?_⟩); (case q1 => exact und_of rfl); (case q2 => exact und_of rfl); (case q3 => exact und_of rfl); (case q4 => omega); (case q5 => (repeat (first | exact .head _ | apply List.Mem.tail))))
                | ((refine' ⟨_, Yl_andNot8 rfl rfl ?q1 ?q2 ?q3 ?q4, ?_⟩); (case q1 => omega); (case q2 => omega); (case q3 => omega); (case q4 => omega)))
              | ((with_reducible refine ie_box ?_)
                 (first
                 | (refine Ef_boxA rfl rfl ?_; (first | ((fail_if_success have := b1); intro b1) | ((fail_if_success have := b2); intro b2) | ((fail_if_success have := b3); intro b3) | ((fail_if_success have := b4); intro b4) | ((fail_if_success have := b5); intro b5) | ((fail_if_success have := b6); intro b6) | ((fail_if_success have := b7); intro b7) | ((fail_if_success have := b8); intro b8) | ((fail_if_success have := b9); intro b9)))
                 | (refine Ef_box1 rfl rfl rfl ?_; (first | ((fail_if_success have := b1); intro b1) | ((fail_if_success have := b2); intro b2) | ((fail_if_success have := b3); intro b3) | ((fail_if_success have := b4); intro b4) | ((fail_if_success have := b5); intro b5) | ((fail_if_success have := b6); intro b6) | ((fail_if_success have := b7); intro b7) | ((fail_if_success have := b8); intro b8) | ((fail_if_success have := b9); intro b9)))))
              | ((with_reducible refine ie_alloc ?_); (first | fail | (((refine' Ef_alloc rfl ?q1 ?_); (case q1 => exact zer_of rfl)); (first | ((fail_if_success have := b1); intro b1) | ((fail_if_success have := b2); intro b2) | ((fail_if_success have := b3); intro b3) | ((fail_if_success have := b4); intro b4) | ((fail_if_success have := b5); intro b5) | ((fail_if_success have := b6); intro b6) | ((fail_if_success have := b7); intro b7) | ((fail_if_success have := b8); intro b8) | ((fail_if_success have := b9); intro b9)))))
              | ((with_reducible refine ie_store ?_)
                 (first
                 | fail
                 | ((refine' Ef_store_rowA rfl rfl ?q1 ?q2 ?q3 ?q4 ?q5 ?q6 ?_); (case q1 => exact siz_of rfl); (case q2 => rfl); (case q3 => (first | assumption | (intro u hu; rcases hu with _ | ⟨_, _ | ⟨_, _ | ⟨_, _ | ⟨_, hu⟩⟩⟩⟩ <;> first | rfl | (cases hu; done)))); (case q4 => (first | exact at0 | exact at1 | exact at2 | exact at3 | exact at4 | exact at5 | exact at6)); (case q5 => omega); (case q6 => assumption))
                 | ((refine' Ef_storeA' rfl rfl ?q1 ?q2 ?q3 ?q4 ?_); (case q1 => exact siz_of rfl); (case q2 => (first | assumption | (intro u hu; rcases hu with _ | ⟨_, _ | ⟨_, _ | ⟨_, _ | ⟨_, hu⟩⟩⟩⟩ <;> first | rfl | (cases hu; done)))); (case q3 => (first | exact at0 | exact at1 | exact at2 | exact at3 | exact at4 | exact at5 | exact at6)); (case q4 => rfl))
                 | ((refine' Ef_storeC rfl rfl ?q1 ?q2 ?q3 ?q4 ?q5 ?_); (case q1 => rfl); (case q2 => exact siz_of rfl); (case q3 => (first | exact at0 | exact at1 | exact at2 | exact at3 | exact at4 | exact at5 | exact at6)); (case q4 => exact Nat.le_of_ble_eq_true rfl); (case q5 => rfl))))
              | ((with_reducible refine ie_callf ?_); (first | ((with_reducible refine g_call 22 ?_); (first | refine Ef_callP rfl rfl ent_22 (fun w _ => letters_c w) ?_)) | ((with_reducible refine g_call 11 ?_); (first | ((refine' Ef_callP rfl rfl ent_11 (fun w _ => text_c _ w ?q1 ?q2) ?_); (case q1 => omega); (case q2 => omega))))))
              | ((with_reducible refine ie_app ?_)
                 (first
                 | fail
                 | (((refine' Ef_app0_rd rfl rfl rfl ?q1 ?q2 ?q3 ?q4 ?q5 ?q6 ?q7 ?_); (case q1 => exact app_of rfl); (case q2 => (first | exact at0 | exact at1 | exact at2 | exact at3 | exact at4 | exact at5 | exact at6)); (case q3 => assumption); (case q4 => (first | assumption | (intro u hu; rcases hu with _ | ⟨_, _ | ⟨_, _ | ⟨_, _ | ⟨_, hu⟩⟩⟩⟩ <;> first | rfl | (cases hu; done)))); (case q5 => omega); (case q6 => omega); (case q7 => exact List.not_mem_nil))
                    (first | ((fail_if_success have := A1); intro A1 c1) | ((fail_if_success have := A2); intro A2 c2) | ((fail_if_success have := A3); intro A3 c3) | ((fail_if_success have := A4); intro A4 c4) | ((fail_if_success have := A5); intro A5 c5) | ((fail_if_success have := A6); intro A6 c6) | ((fail_if_success have := A7); intro A7 c7)))
                 | (((refine' Ef_appG_row rfl rfl rfl ?q1 ?q2 ?q3 ?q4 ?q5 ?q6 ?_); (case q1 => exact app_of rfl); (case q2 => (first | exact at0 | exact at1 | exact at2 | exact at3 | exact at4 | exact at5 | exact at6)); (case q3 => (repeat (first | exact .head _ | apply List.Mem.tail))); (case q4 => (first | assumption | (intro u hu; rcases hu with _ | ⟨_, _ | ⟨_, _ | ⟨_, _ | ⟨_, hu⟩⟩⟩⟩ <;> first | rfl | (cases hu; done)))); (case q5 => omega); (case q6 => omega))
                    (first | ((fail_if_success have := A1); intro A1 c1) | ((fail_if_success have := A2); intro A2 c2) | ((fail_if_success have := A3); intro A3 c3) | ((fail_if_success have := A4); intro A4 c4) | ((fail_if_success have := A5); intro A5 c5) | ((fail_if_success have := A6); intro A6 c6) | ((fail_if_success have := A7); intro A7 c7)))
                 | (((refine' Ef_appG_rd rfl rfl rfl ?q1 ?q2 ?q3 ?q4 ?q5 ?q6 ?q7 ?_); (case q1 => exact app_of rfl); (case q2 => (first | exact at0 | exact at1 | exact at2 | exact at3 | exact at4 | exact at5 | exact at6)); (case q3 => assumption); (case q4 => (first | assumption | (intro u hu; rcases hu with _ | ⟨_, _ | ⟨_, _ | ⟨_, _ | ⟨_, hu⟩⟩⟩⟩ <;> first | rfl | (cases hu; done)))); (case q5 => omega); (case q6 => omega); (case q7 => exact List.not_mem_nil))
                    (first | ((fail_if_success have := A1); intro A1 c1) | ((fail_if_success have := A2); intro A2 c2) | ((fail_if_success have := A3); intro A3 c3) | ((fail_if_success have := A4); intro A4 c4) | ((fail_if_success have := A5); intro A5 c5) | ((fail_if_success have := A6); intro A6 c6) | ((fail_if_success have := A7); intro A7 c7)))))
              | ((with_reducible refine ie_bsl ?_)
                 (first
                 | fail
                 | (((refine' Ef_bsl0 rfl ?q1 ?_); (case q1 => exact app_of rfl)); (first | ((fail_if_success have := b1); intro b1) | ((fail_if_success have := b2); intro b2) | ((fail_if_success have := b3); intro b3) | ((fail_if_success have := b4); intro b4) | ((fail_if_success have := b5); intro b5) | ((fail_if_success have := b6); intro b6) | ((fail_if_success have := b7); intro b7) | ((fail_if_success have := b8); intro b8) | ((fail_if_success have := b9); intro b9)))
                 | (((refine' Ef_bslA rfl rfl ?q1 ?q2 ?q3 ?_); (case q1 => exact app_of rfl); (case q2 => rfl); (case q3 => decide)); (first | ((fail_if_success have := b1); intro b1) | ((fail_if_success have := b2); intro b2) | ((fail_if_success have := b3); intro b3) | ((fail_if_success have := b4); intro b4) | ((fail_if_success have := b5); intro b5) | ((fail_if_success have := b6); intro b6) | ((fail_if_success have := b7); intro b7) | ((fail_if_success have := b8); intro b8) | ((fail_if_success have := b9); intro b9)))
                 | (((refine' Ef_bsl1 rfl rfl rfl ?q1 ?_); (case q1 => exact app_of rfl)); (first | ((fail_if_success have := b1); intro b1) | ((fail_if_success have := b2); intro b2) | ((fail_if_success have := b3); intro b3) | ((fail_if_success have := b4); intro b4) | ((fail_if_success have := b5); intro b5) | ((fail_if_success have := b6); intro b6) | ((fail_if_success have := b7); intro b7) | ((fail_if_success have := b8); intro b8) | ((fail_if_success have := b9); intro b9)))))
              | (first | fail)
              | refine Ef_y rfl rfl ?_
              | ((with_reducible refine ie_conv ?_); refine Ef_y' rfl ?_)
              | ((with_reducible refine ie_bmin ?_); refine Ef_y' rfl ?_)
              | ((with_reducible refine ie_bmax ?_); refine Ef_y' rfl ?_))
      · have e : Rt.txt r = ⟨#[45]⟩ := by unfold Rt.txt; rw [if_neg (by omega), if_pos (by omega)]
        exact ret_n [] (res1 rfl rfl) (List.nil_sublist _) ⟨by rw [e], rfl⟩
      · have e : Rt.txt r = ⟨(Rt.bits r 4).toArray⟩ := by unfold Rt.txt; rw [if_neg (by omega), if_neg (by omega)]
        exact ret_n [] (res1 rfl rfl) (List.nil_sublist _) ⟨by rw [e], rfl⟩

set_option maxHeartbeats 1000000 in
theorem parse_c (s : ByteArray) (w : World) : Sp Try.prog 10 [.string s] w [] fun v N => v = .tuple #[.int .u8 (Rt.parse s).1, .bool (Rt.parse s).2] ∧ N = [] := by
  refine Sp.enter (n := 14) Try.func10 rfl rfl rfl (Hp.refl w) ?_
  repeat' (first
          | with_reducible refine T.seq ?_
          | with_reducible refine T.block ?_
          | with_reducible refine T.region ?_
          | with_reducible refine T.skip ?_
          | with_reducible refine T.ret ?_
          | with_reducible refine T.exit ?_
          | with_reducible refine seqQ_n ?_
          | with_reducible refine seqQ_x ?_
          | with_reducible refine seqQ_r ?_
          | with_reducible refine blockQ_n ?_
          | with_reducible refine blockQ_r ?_
          | with_reducible refine blockQ_x ?_
          | ((with_reducible refine g_blkx ?_); refine blockQ_y rfl ?_)
          | with_reducible refine loopQ_x ?_
          | with_reducible refine loopQ_r ?_
          | with_reducible refine joinQ_r ?_
          | with_reducible refine joinQ_x ?_
          | ((with_reducible refine g_cond ?_); (first | refine T.cond_t rfl ?_ | refine T.cond_f rfl ?_ | (refine T.cond_s rfl ?_ ?_ <;> intro hc)))
          | with_reducible refine TL_nil ?_
          | with_reducible refine TS_nil ?_
          | ((with_reducible refine g_draw ?_); (first | fail))
          | ((with_reducible refine TL_y' ?hy ?hd ?_); (case hy => rfl); (case hd => rfl))
          | with_reducible refine TL_e ?_
          | ((with_reducible refine g_TL ?_); (first | refine TL_gy' rfl rfl rfl rfl ?_ | refine TL_gn rfl rfl rfl ?_ | refine TL_gu rfl rfl rfl ?_ | refine TL_ge rfl rfl ?_ | refine TL_gn0 rfl rfl ?_))
          | ((with_reducible refine g_TS ?_); (first | refine TS_y rfl rfl ?_ | refine TS_e rfl ?_ | refine TS_gy rfl rfl rfl rfl ?_ | refine TS_gn rfl rfl rfl rfl ?_ | refine TS_gu rfl rfl rfl rfl ?_ | refine TS_ge rfl rfl rfl ?_ | refine TS_gne rfl rfl rfl rfl ?_ | refine TS_gue rfl rfl rfl rfl ?_ | refine TS_gne0 rfl rfl rfl ?_))
          | ((with_reducible refine TSand ?hd ?_); (case hd => (repeat (first | exact List.nil_sublist _ | refine List.Sublist.cons_cons _ ?_ | refine List.Sublist.cons _ ?_))))
          | ((with_reducible refine TBand ?hd ?_); (case hd => (repeat (first | exact List.nil_sublist _ | refine List.Sublist.cons_cons _ ?_ | refine List.Sublist.cons _ ?_))))
          | ((with_reducible refine g_TB ?_); (first | with_reducible refine TB_run ?_ | refine TB_y rfl rfl ?_ | refine TB_b rfl rfl ?_ ?_ | refine TB_e rfl ?_))
          | ((with_reducible refine is_move ?_); refine ⟨_, Yl_move rfl, ?_⟩)
          | ((with_reducible refine is_assign ?_); refine ⟨_, Yl_assign rfl, ?_⟩)
          | ((with_reducible refine is_pick ?_); (first | refine ⟨_, Yl_pick_t rfl rfl, ?_⟩ | refine ⟨_, Yl_pick_f rfl rfl, ?_⟩))
          | ((with_reducible refine is_nil ?_); refine ⟨_, Yl_nilCheck rfl, ?_⟩)
          | ((with_reducible refine is_fld ?_); (first | ((refine' ⟨_, Yl_fld_ad rfl ?q1, ?_⟩); (case q1 => exact fld_of rfl rfl)) | ((refine' ⟨_, Yl_fld_blk0 rfl ?q1, ?_⟩); (case q1 => exact fld_of rfl rfl)) | ((refine' ⟨_, Yl_fld_blk rfl ?q1, ?_⟩); (case q1 => exact fld_of rfl rfl))))
          | ((with_reducible refine is_load ?_)
             (first
             | fail
             | ((refine' ⟨_, Yl_load_blk rfl ?q1 ?q2 ?q3, ?_⟩); (case q1 => exact one_of rfl); (case q2 => (repeat (first | exact .head _ | apply List.Mem.tail))); (case q3 => rfl))
             | ((refine' ⟨_, Yl_loadA_blk rfl ?q1 ?q2, ?_⟩); (case q1 => (repeat (first | exact .head _ | apply List.Mem.tail))); (case q2 => exact agg_of rfl))
             | ((refine' ⟨_, Yl_load_blk rfl ?q1 ?q2 ?q3, ?_⟩); (case q1 => exact one_of rfl); (case q2 => (repeat (first | exact .head _ | apply List.Mem.tail))); (case q3 => assumption))
             | ((refine' ⟨_, Yl_load_rd rfl ?q1 ?q2 List.not_mem_nil ?q3, ?_⟩); (case q1 => exact one_of rfl); (case q2 => assumption); (case q3 => assumption))
             | ((refine' ⟨_, Yl_load_row rfl ?q1 ?q2 ?q3, ?_⟩); (case q1 => exact one_of rfl); (case q2 => (repeat (first | exact .head _ | apply List.Mem.tail))); (case q3 => assumption))
             | ((refine' ⟨_, Yl_loadA_rd rfl ?qa ?qb List.not_mem_nil ?ql ?qc, ?_⟩); (case qa => exact agg_of rfl); (case qb => assumption); (case qc => assumption); (case ql => rfl))
             | ((refine' ⟨_, Yl_loadA_row rfl ?qa ?qb ?ql ?qc, ?_⟩); (case qa => exact agg_of rfl); (case qb => (repeat (first | exact .head _ | apply List.Mem.tail))); (case qc => assumption); (case ql => rfl))))
          | ((with_reducible refine is_idx ?_)
             (first
             | fail
             | ((refine' ⟨_, Yl_index rfl rfl ?q1 ?q2 ?q3 (Rd.some_ ?q4 ?q5), ?_⟩); (case q1 => exact und_of rfl); (case q2 => exact siz_of rfl); (case q3 => omega); (case q4 => assumption); (case q5 => omega))
             | ((refine' ⟨_, Yl_index_row rfl rfl ?q1 ?q2 ?q3 ?q4, ?_⟩); (case q1 => exact und_of rfl); (case q2 => exact siz_of rfl); (case q3 => omega); (case q4 => (repeat (first | exact .head _ | apply List.Mem.tail))))
             | ((refine' ⟨_, Yl_index rfl rfl ?q1 ?q2 ?q3 rfl, ?_⟩); (case q1 => exact und_of rfl); (case q2 => exact siz_of rfl); (case q3 => omega))
             | ((refine' ⟨_, Yl_index (j := 0) rfl rfl ?q1 ?q2 ?q3 (Rd.some_ ?q4 ?q5), ?_⟩); (case q1 => exact und_of rfl); (case q2 => exact siz_of rfl); (case q3 => omega); (case q4 => assumption); (case q5 => omega))
             | ((refine' ⟨_, Yl_index_row (j := 0) rfl rfl ?q1 ?q2 ?q3 ?q4, ?_⟩); (case q1 => exact und_of rfl); (case q2 => exact siz_of rfl); (case q3 => omega); (case q4 => (repeat (first | exact .head _ | apply List.Mem.tail))))))
          | ((with_reducible refine is_ext ?_); refine ⟨_, Yl_extract rfl rfl, ?_⟩)
          | ((with_reducible refine is_un ?_); refine ⟨_, Yl_not rfl, ?_⟩)
          | ((with_reducible refine is_len ?_); (first | ((refine' ⟨_, Yl_len_slice rfl ?q1, ?_⟩); (case q1 => exact und_of rfl)) | ((refine' ⟨_, Yl_len_string rfl ?q1, ?_⟩); (case q1 => exact und_of rfl))))
          | ((with_reducible refine is_b_lss ?_); (first | ((refine' ⟨_, Yl_lss_t rfl rfl ?q1, ?_⟩); (case q1 => omega)) | ((refine' ⟨_, Yl_lss_f rfl rfl ?q1, ?_⟩); (case q1 => omega)) | (refine sp_lss rfl rfl ?_ ?_ <;> intro hc)))
          | ((with_reducible refine is_b_leq ?_); (first | ((refine' ⟨_, Yl_leq_t rfl rfl ?q1, ?_⟩); (case q1 => omega)) | ((refine' ⟨_, Yl_leq_f rfl rfl ?q1, ?_⟩); (case q1 => omega)) | (refine sp_leq rfl rfl ?_ ?_ <;> intro hc)))
          | ((with_reducible refine is_b_gtr ?_); (first | ((refine' ⟨_, Yl_gtr_t rfl rfl ?q1, ?_⟩); (case q1 => omega)) | ((refine' ⟨_, Yl_gtr_f rfl rfl ?q1, ?_⟩); (case q1 => omega)) | (refine sp_gtr rfl rfl ?_ ?_ <;> intro hc)))
          | ((with_reducible refine is_b_geq ?_); (first | ((refine' ⟨_, Yl_geq_t rfl rfl ?q1, ?_⟩); (case q1 => omega)) | ((refine' ⟨_, Yl_geq_f rfl rfl ?q1, ?_⟩); (case q1 => omega)) | (refine sp_geq rfl rfl ?_ ?_ <;> intro hc)))
          | ((with_reducible refine is_b_eql ?_)
             (first
             | ((refine' ⟨_, Yl_eql_t rfl rfl ?q1, ?_⟩); (case q1 => omega))
             | ((refine' ⟨_, Yl_eql_f rfl rfl ?q1, ?_⟩); (case q1 => omega))
             | (refine sp_eql rfl rfl ?_ ?_ <;> intro hc)
             | ((refine' ⟨_, Yl_indexV rfl rfl ?q1 ?q2 ?q3 ?q4 ?q5, ?_⟩); (case q1 => exact und_of rfl); (case q2 => exact one_of rfl); (case q3 => exact siz_of rfl); (case q4 => omega); (case q5 => assumption))
             | ((refine' ⟨_, Yl_convI rfl ?q1 ?q2 ?q3, ?_⟩); (case q1 => exact und_of rfl); (case q2 => exact und_of rfl); (case q3 => ((refine' u64_in ?q1); (case q1 => omega))))
             | ((refine' ⟨_, Yl_shr8 rfl rfl ?q1, ?_⟩); (case q1 => omega))
             | ((refine' ⟨_, Yl_and1 rfl rfl ?q1 ?q2, ?_⟩); (case q1 => omega); (case q2 => omega))
             | refine ⟨_, Yl_eql_str rfl rfl, ?_⟩
             | ((refine' ⟨_, Yl_str_row rfl ?q1 ?q2 ?q3 ?q4 ?q5, ?_⟩); (case q1 => exact und_of rfl); (case q2 => exact und_of rfl); (case q3 => exact und_of rfl); (case q4 => omega); (case q5 => (repeat (first | exact .head _ | apply List.Mem.tail))))
             | ((refine' ⟨_, Yl_andNot8 rfl rfl ?q1 ?q2 ?q3 ?q4, ?_⟩); (case q1 => omega); (case q2 => omega); (case q3 => omega); (case q4 => omega))
             | ((refine' ⟨_, Yl_eql_bool rfl rfl ?q1, ?_⟩); (case q1 => exact und_of rfl))
             | ((refine' ⟨_, Yl_eql_strT rfl rfl ?q1, ?_⟩); (case q1 => first | assumption | rfl))
             | ((refine' ⟨_, Yl_eql_strF rfl rfl ?q1, ?_⟩); (case q1 => first | assumption | decide))
             | (refine sp_eqlS rfl rfl ?_ ?_ <;> intro hc)))
          | ((with_reducible refine is_b_neq ?_)
             (first
             | ((refine' ⟨_, Yl_neq_t rfl rfl ?q1, ?_⟩); (case q1 => omega))
             | ((refine' ⟨_, Yl_neq_f rfl rfl ?q1, ?_⟩); (case q1 => omega))
             | (refine sp_neq rfl rfl ?_ ?_ <;> intro hc)
             | ((refine' ⟨_, Yl_indexV rfl rfl ?q1 ?q2 ?q3 ?q4 ?q5, ?_⟩); (case q1 => exact und_of rfl); (case q2 => exact one_of rfl); (case q3 => exact siz_of rfl); (case q4 => omega); (case q5 => assumption))
             | ((refine' ⟨_, Yl_convI rfl ?q1 ?q2 ?q3, ?_⟩); (case q1 => exact und_of rfl); (case q2 => exact und_of rfl); (case q3 => ((refine' u64_in ?q1); (case q1 => omega))))
             | ((refine' ⟨_, Yl_shr8 rfl rfl ?q1, ?_⟩); (case q1 => omega))
             | ((refine' ⟨_, Yl_and1 rfl rfl ?q1 ?q2, ?_⟩); (case q1 => omega); (case q2 => omega))
             | refine ⟨_, Yl_eql_str rfl rfl, ?_⟩
             | ((refine' ⟨_, Yl_str_row rfl ?q1 ?q2 ?q3 ?q4 ?q5, ?_⟩); (case q1 => exact und_of rfl); (case q2 => exact und_of rfl); (case q3 => exact und_of rfl); (case q4 => omega); (case q5 => (repeat (first | exact .head _ | apply List.Mem.tail))))
             | ((refine' ⟨_, Yl_andNot8 rfl rfl ?q1 ?q2 ?q3 ?q4, ?_⟩); (case q1 => omega); (case q2 => omega); (case q3 => omega); (case q4 => omega))
             | ((refine' ⟨_, Yl_neq_bool rfl rfl ?q1, ?_⟩); (case q1 => exact und_of rfl))
             | ((refine' ⟨_, Yl_neq_strT rfl rfl ?q1, ?_⟩); (case q1 => first | assumption | decide))
             | ((refine' ⟨_, Yl_neq_strF rfl rfl ?q1, ?_⟩); (case q1 => first | assumption | rfl))
             | (refine sp_neqS rfl rfl ?_ ?_ <;> intro hc)))
          | ((with_reducible refine is_b_add ?_)
             (first
             | ((refine' ⟨_, Yl_add rfl rfl ?q1 ?q2, ?_⟩); (case q1 => omega); (case q2 => omega))
             | ((refine' ⟨_, Yl_add8 rfl rfl ?q1 ?q2, ?_⟩); (case q1 => omega); (case q2 => omega))
             | ((refine' ⟨_, Yl_indexV rfl rfl ?q1 ?q2 ?q3 ?q4 ?q5, ?_⟩); (case q1 => exact und_of rfl); (case q2 => exact one_of rfl); (case q3 => exact siz_of rfl); (case q4 => omega); (case q5 => assumption))
             | ((refine' ⟨_, Yl_convI rfl ?q1 ?q2 ?q3, ?_⟩); (case q1 => exact und_of rfl); (case q2 => exact und_of rfl); (case q3 => ((refine' u64_in ?q1); (case q1 => omega))))
             | ((refine' ⟨_, Yl_shr8 rfl rfl ?q1, ?_⟩); (case q1 => omega))
             | ((refine' ⟨_, Yl_and1 rfl rfl ?q1 ?q2, ?_⟩); (case q1 => omega); (case q2 => omega))
             | refine ⟨_, Yl_eql_str rfl rfl, ?_⟩
             | ((refine' ⟨_, Yl_str_row rfl ?q1 ?q2 ?q3 ?q4 ?q5, ?_⟩); (case q1 => exact und_of rfl); (case q2 => exact und_of rfl); (case q3 => exact und_of rfl); (case q4 => omega); (case q5 => (repeat (first | exact .head _ | apply List.Mem.tail))))
             | ((refine' ⟨_, Yl_andNot8 rfl rfl ?q1 ?q2 ?q3 ?q4, ?_⟩); (case q1 => omega); (case q2 => omega); (case q3 => omega); (case q4 => omega))))
          | ((with_reducible refine is_min ?_); refine ⟨_, Yl_min rfl rfl, ?_⟩)
          | ((with_reducible refine is_max ?_); refine ⟨_, Yl_max rfl rfl, ?_⟩)
          | ((with_reducible refine is_b_sub ?_)
             (first
             | ((refine' ⟨_, Yl_sub rfl rfl ?q1 ?q2, ?_⟩); (case q1 => omega); (case q2 => omega))
             | ((refine' ⟨_, Yl_indexV rfl rfl ?q1 ?q2 ?q3 ?q4 ?q5, ?_⟩); (case q1 => exact und_of rfl); (case q2 => exact one_of rfl); (case q3 => exact siz_of rfl); (case q4 => omega); (case q5 => assumption))
             | ((refine' ⟨_, Yl_convI rfl ?q1 ?q2 ?q3, ?_⟩); (case q1 => exact und_of rfl); (case q2 => exact und_of rfl); (case q3 => ((refine' u64_in ?q1); (case q1 => omega))))
             | ((refine' ⟨_, Yl_shr8 rfl rfl ?q1, ?_⟩); (case q1 => omega))
             | ((refine' ⟨_, Yl_and1 rfl rfl ?q1 ?q2, ?_⟩); (case q1 => omega); (case q2 => omega))
             | refine ⟨_, Yl_eql_str rfl rfl, ?_⟩
             | ((refine' ⟨_, Yl_str_row rfl ?q1 ?q2 ?q3 ?q4 ?q5, ?_⟩); (case q1 => exact und_of rfl); (case q2 => exact und_of rfl); (case q3 => exact und_of rfl); (case q4 => omega); (case q5 => (repeat (first | exact .head _ | apply List.Mem.tail))))
             | ((refine' ⟨_, Yl_andNot8 rfl rfl ?q1 ?q2 ?q3 ?q4, ?_⟩); (case q1 => omega); (case q2 => omega); (case q3 => omega); (case q4 => omega))))
          | ((with_reducible refine is_build ?_); (first | refine ⟨_, Yl_build rfl letters_b, ?_⟩))
          | (first
            | ((refine' ⟨_, Yl_indexV rfl rfl ?q1 ?q2 ?q3 ?q4 ?q5, ?_⟩); (case q1 => exact und_of rfl); (case q2 => exact one_of rfl); (case q3 => exact siz_of rfl); (case q4 => omega); (case q5 => assumption))
            | ((refine' ⟨_, Yl_convI rfl ?q1 ?q2 ?q3, ?_⟩); (case q1 => exact und_of rfl); (case q2 => exact und_of rfl); (case q3 => ((refine' u64_in ?q1); (case q1 => omega))))
            | ((refine' ⟨_, Yl_shr8 rfl rfl ?q1, ?_⟩); (case q1 => omega))
            | ((refine' ⟨_, Yl_and1 rfl rfl ?q1 ?q2, ?_⟩); (case q1 => omega); (case q2 => omega))
            | refine ⟨_, Yl_eql_str rfl rfl, ?_⟩
            | ((refine' ⟨_, Yl_str_row rfl ?q1 ?q2 ?q3 ?q4 ?q5, ?_⟩); (case q1 => exact und_of rfl); (case q2 => exact und_of rfl); (case q3 => exact und_of rfl); (case q4 => omega); (case q5 => (repeat (first | exact .head _ | apply List.Mem.tail))))
            | ((refine' ⟨_, Yl_andNot8 rfl rfl ?q1 ?q2 ?q3 ?q4, ?_⟩); (case q1 => omega); (case q2 => omega); (case q3 => omega); (case q4 => omega)))
          | ((with_reducible refine ie_box ?_)
             (first
             | (refine Ef_boxA rfl rfl ?_; (first | ((fail_if_success have := b1); intro b1) | ((fail_if_success have := b2); intro b2) | ((fail_if_success have := b3); intro b3) | ((fail_if_success have := b4); intro b4) | ((fail_if_success have := b5); intro b5) | ((fail_if_success have := b6); intro b6) | ((fail_if_success have := b7); intro b7) | ((fail_if_success have := b8); intro b8) | ((fail_if_success have := b9); intro b9)))
             | (refine Ef_box1 rfl rfl rfl ?_; (first | ((fail_if_success have := b1); intro b1) | ((fail_if_success have := b2); intro b2) | ((fail_if_success have := b3); intro b3) | ((fail_if_success have := b4); intro b4) | ((fail_if_success have := b5); intro b5) | ((fail_if_success have := b6); intro b6) | ((fail_if_success have := b7); intro b7) | ((fail_if_success have := b8); intro b8) | ((fail_if_success have := b9); intro b9)))))
          | ((with_reducible refine ie_alloc ?_); (first | fail | (((refine' Ef_alloc rfl ?q1 ?_); (case q1 => exact zer_of rfl)); (first | ((fail_if_success have := b1); intro b1) | ((fail_if_success have := b2); intro b2) | ((fail_if_success have := b3); intro b3) | ((fail_if_success have := b4); intro b4) | ((fail_if_success have := b5); intro b5) | ((fail_if_success have := b6); intro b6) | ((fail_if_success have := b7); intro b7) | ((fail_if_success have := b8); intro b8) | ((fail_if_success have := b9); intro b9)))))
          | ((with_reducible refine ie_store ?_)
             (first
             | fail
             | ((refine' Ef_store_rowA rfl rfl ?q1 ?q2 ?q3 ?q4 ?q5 ?q6 ?_); (case q1 => exact siz_of rfl); (case q2 => rfl); (case q3 => (first | assumption | (intro u hu; rcases hu with _ | ⟨_, _ | ⟨_, _ | ⟨_, _ | ⟨_, hu⟩⟩⟩⟩ <;> first | rfl | (cases hu; done)))); (case q4 => (first | exact at0 | exact at1 | exact at2 | exact at3 | exact at4 | exact at5 | exact at6)); (case q5 => omega); (case q6 => assumption))
             | ((refine' Ef_storeA' rfl rfl ?q1 ?q2 ?q3 ?q4 ?_); (case q1 => exact siz_of rfl); (case q2 => (first | assumption | (intro u hu; rcases hu with _ | ⟨_, _ | ⟨_, _ | ⟨_, _ | ⟨_, hu⟩⟩⟩⟩ <;> first | rfl | (cases hu; done)))); (case q3 => (first | exact at0 | exact at1 | exact at2 | exact at3 | exact at4 | exact at5 | exact at6)); (case q4 => rfl))
             | ((refine' Ef_storeC rfl rfl ?q1 ?q2 ?q3 ?q4 ?q5 ?_); (case q1 => rfl); (case q2 => exact siz_of rfl); (case q3 => (first | exact at0 | exact at1 | exact at2 | exact at3 | exact at4 | exact at5 | exact at6)); (case q4 => exact Nat.le_of_ble_eq_true rfl); (case q5 => rfl))))
          | ((with_reducible refine ie_callf ?_); (first | ((with_reducible refine g_call 22 ?_); (first | refine Ef_callP rfl rfl ent_22 (fun w _ => letters_c w) ?_)) | ((with_reducible refine g_call 11 ?_); (first | ((refine' Ef_callP rfl rfl ent_11 (fun w _ => text_c _ w ?q1 ?q2) ?_); (case q1 => omega); (case q2 => omega))))))
          | ((with_reducible refine ie_app ?_)
             (first
             | fail
             | (((refine' Ef_app0_rd rfl rfl rfl ?q1 ?q2 ?q3 ?q4 ?q5 ?q6 ?q7 ?_); (case q1 => exact app_of rfl); (case q2 => (first | exact at0 | exact at1 | exact at2 | exact at3 | exact at4 | exact at5 | exact at6)); (case q3 => assumption); (case q4 => (first | assumption | (intro u hu; rcases hu with _ | ⟨_, _ | ⟨_, _ | ⟨_, _ | ⟨_, hu⟩⟩⟩⟩ <;> first | rfl | (cases hu; done)))); (case q5 => omega); (case q6 => omega); (case q7 => exact List.not_mem_nil))
                (first | ((fail_if_success have := A1); intro A1 c1) | ((fail_if_success have := A2); intro A2 c2) | ((fail_if_success have := A3); intro A3 c3) | ((fail_if_success have := A4); intro A4 c4) | ((fail_if_success have := A5); intro A5 c5) | ((fail_if_success have := A6); intro A6 c6) | ((fail_if_success have := A7); intro A7 c7)))
             | (((refine' Ef_appG_row rfl rfl rfl ?q1 ?q2 ?q3 ?q4 ?q5 ?q6 ?_); (case q1 => exact app_of rfl); (case q2 => (first | exact at0 | exact at1 | exact at2 | exact at3 | exact at4 | exact at5 | exact at6)); (case q3 => (repeat (first | exact .head _ | apply List.Mem.tail))); (case q4 => (first | assumption | (intro u hu; rcases hu with _ | ⟨_, _ | ⟨_, _ | ⟨_, _ | ⟨_, hu⟩⟩⟩⟩ <;> first | rfl | (cases hu; done)))); (case q5 => omega); (case q6 => omega))
                (first | ((fail_if_success have := A1); intro A1 c1) | ((fail_if_success have := A2); intro A2 c2) | ((fail_if_success have := A3); intro A3 c3) | ((fail_if_success have := A4); intro A4 c4) | ((fail_if_success have := A5); intro A5 c5) | ((fail_if_success have := A6); intro A6 c6) | ((fail_if_success have := A7); intro A7 c7)))
             | (((refine' Ef_appG_rd rfl rfl rfl ?q1 ?q2 ?q3 ?q4 ?q5 ?q6 ?q7 ?_); (case q1 => exact app_of rfl); (case q2 => (first | exact at0 | exact at1 | exact at2 | exact at3 | exact at4 | exact at5 | exact at6)); (case q3 => assumption); (case q4 => (first | assumption | (intro u hu; rcases hu with _ | ⟨_, _ | ⟨_, _ | ⟨_, _ | ⟨_, hu⟩⟩⟩⟩ <;> first | rfl | (cases hu; done)))); (case q5 => omega); (case q6 => omega); (case q7 => exact List.not_mem_nil))
                (first | ((fail_if_success have := A1); intro A1 c1) | ((fail_if_success have := A2); intro A2 c2) | ((fail_if_success have := A3); intro A3 c3) | ((fail_if_success have := A4); intro A4 c4) | ((fail_if_success have := A5); intro A5 c5) | ((fail_if_success have := A6); intro A6 c6) | ((fail_if_success have := A7); intro A7 c7)))))
          | ((with_reducible refine ie_bsl ?_)
             (first
             | fail
             | (((refine' Ef_bsl0 rfl ?q1 ?_); (case q1 => exact app_of rfl)); (first | ((fail_if_success have := b1); intro b1) | ((fail_if_success have := b2); intro b2) | ((fail_if_success have := b3); intro b3) | ((fail_if_success have := b4); intro b4) | ((fail_if_success have := b5); intro b5) | ((fail_if_success have := b6); intro b6) | ((fail_if_success have := b7); intro b7) | ((fail_if_success have := b8); intro b8) | ((fail_if_success have := b9); intro b9)))
             | (((refine' Ef_bslA rfl rfl ?q1 ?q2 ?q3 ?_); (case q1 => exact app_of rfl); (case q2 => rfl); (case q3 => decide)); (first | ((fail_if_success have := b1); intro b1) | ((fail_if_success have := b2); intro b2) | ((fail_if_success have := b3); intro b3) | ((fail_if_success have := b4); intro b4) | ((fail_if_success have := b5); intro b5) | ((fail_if_success have := b6); intro b6) | ((fail_if_success have := b7); intro b7) | ((fail_if_success have := b8); intro b8) | ((fail_if_success have := b9); intro b9)))
             | (((refine' Ef_bsl1 rfl rfl rfl ?q1 ?_); (case q1 => exact app_of rfl)); (first | ((fail_if_success have := b1); intro b1) | ((fail_if_success have := b2); intro b2) | ((fail_if_success have := b3); intro b3) | ((fail_if_success have := b4); intro b4) | ((fail_if_success have := b5); intro b5) | ((fail_if_success have := b6); intro b6) | ((fail_if_success have := b7); intro b7) | ((fail_if_success have := b8); intro b8) | ((fail_if_success have := b9); intro b9)))))
          | (first | fail)
          | refine Ef_y rfl rfl ?_
          | ((with_reducible refine ie_conv ?_); refine Ef_y' rfl ?_)
          | ((with_reducible refine ie_bmin ?_); refine Ef_y' rfl ?_)
          | ((with_reducible refine ie_bmax ?_); refine Ef_y' rfl ?_))
  refine T.loop (α := Nat) (fun i => [(0, .string s), (5, .int .u8 (i : Int))]) (fun _ => []) (fun i => i ≤ 16 ∧ ∀ j : Nat, j < i → ¬ Rt.txt (j : Int) = s) (fun i => 16 - i) 0 ?_ ?_ ?_ ?_
  · (repeat (first | exact Sub.nil | refine Sub.cons rfl ?_))
  · (repeat (first | exact List.nil_sublist _ | refine List.Sublist.cons_cons _ ?_ | refine List.Sublist.cons _ ?_))
  · exact ⟨Nat.zero_le _, fun j hj => by omega⟩
  · rintro i ⟨hi, hno⟩
    by_cases hlt : i < 16
    · repeat' (first
              | with_reducible refine T.seq ?_
              | with_reducible refine T.block ?_
              | with_reducible refine T.region ?_
              | with_reducible refine T.skip ?_
              | with_reducible refine T.ret ?_
              | with_reducible refine T.exit ?_
              | with_reducible refine seqQ_n ?_
              | with_reducible refine seqQ_x ?_
              | with_reducible refine seqQ_r ?_
              | with_reducible refine blockQ_n ?_
              | with_reducible refine blockQ_r ?_
              | with_reducible refine blockQ_x ?_
              | ((with_reducible refine g_blkx ?_); refine blockQ_y rfl ?_)
              | with_reducible refine loopQ_x ?_
              | with_reducible refine loopQ_r ?_
              | with_reducible refine joinQ_r ?_
              | with_reducible refine joinQ_x ?_
              | ((with_reducible refine g_cond ?_); (first | refine T.cond_t rfl ?_ | refine T.cond_f rfl ?_ | (refine T.cond_s rfl ?_ ?_ <;> intro hc)))
              | with_reducible refine TL_nil ?_
              | with_reducible refine TS_nil ?_
              | ((with_reducible refine g_draw ?_); (first | fail))
              | ((with_reducible refine TL_y' ?hy ?hd ?_); (case hy => rfl); (case hd => rfl))
              | with_reducible refine TL_e ?_
              | ((with_reducible refine g_TL ?_); (first | refine TL_gy' rfl rfl rfl rfl ?_ | refine TL_gn rfl rfl rfl ?_ | refine TL_gu rfl rfl rfl ?_ | refine TL_ge rfl rfl ?_ | refine TL_gn0 rfl rfl ?_))
              | ((with_reducible refine g_TS ?_); (first | refine TS_y rfl rfl ?_ | refine TS_e rfl ?_ | refine TS_gy rfl rfl rfl rfl ?_ | refine TS_gn rfl rfl rfl rfl ?_ | refine TS_gu rfl rfl rfl rfl ?_ | refine TS_ge rfl rfl rfl ?_ | refine TS_gne rfl rfl rfl rfl ?_ | refine TS_gue rfl rfl rfl rfl ?_ | refine TS_gne0 rfl rfl rfl ?_))
              | ((with_reducible refine TSand ?hd ?_); (case hd => (repeat (first | exact List.nil_sublist _ | refine List.Sublist.cons_cons _ ?_ | refine List.Sublist.cons _ ?_))))
              | ((with_reducible refine TBand ?hd ?_); (case hd => (repeat (first | exact List.nil_sublist _ | refine List.Sublist.cons_cons _ ?_ | refine List.Sublist.cons _ ?_))))
              | ((with_reducible refine g_TB ?_); (first | with_reducible refine TB_run ?_ | refine TB_y rfl rfl ?_ | refine TB_b rfl rfl ?_ ?_ | refine TB_e rfl ?_))
              | ((with_reducible refine is_move ?_); refine ⟨_, Yl_move rfl, ?_⟩)
              | ((with_reducible refine is_assign ?_); refine ⟨_, Yl_assign rfl, ?_⟩)
              | ((with_reducible refine is_pick ?_); (first | refine ⟨_, Yl_pick_t rfl rfl, ?_⟩ | refine ⟨_, Yl_pick_f rfl rfl, ?_⟩))
              | ((with_reducible refine is_nil ?_); refine ⟨_, Yl_nilCheck rfl, ?_⟩)
              | ((with_reducible refine is_fld ?_); (first | ((refine' ⟨_, Yl_fld_ad rfl ?q1, ?_⟩); (case q1 => exact fld_of rfl rfl)) | ((refine' ⟨_, Yl_fld_blk0 rfl ?q1, ?_⟩); (case q1 => exact fld_of rfl rfl)) | ((refine' ⟨_, Yl_fld_blk rfl ?q1, ?_⟩); (case q1 => exact fld_of rfl rfl))))
              | ((with_reducible refine is_load ?_)
                 (first
                 | fail
                 | ((refine' ⟨_, Yl_load_blk rfl ?q1 ?q2 ?q3, ?_⟩); (case q1 => exact one_of rfl); (case q2 => (repeat (first | exact .head _ | apply List.Mem.tail))); (case q3 => rfl))
                 | ((refine' ⟨_, Yl_loadA_blk rfl ?q1 ?q2, ?_⟩); (case q1 => (repeat (first | exact .head _ | apply List.Mem.tail))); (case q2 => exact agg_of rfl))
                 | ((refine' ⟨_, Yl_load_blk rfl ?q1 ?q2 ?q3, ?_⟩); (case q1 => exact one_of rfl); (case q2 => (repeat (first | exact .head _ | apply List.Mem.tail))); (case q3 => assumption))
                 | ((refine' ⟨_, Yl_load_rd rfl ?q1 ?q2 List.not_mem_nil ?q3, ?_⟩); (case q1 => exact one_of rfl); (case q2 => assumption); (case q3 => assumption))
                 | ((refine' ⟨_, Yl_load_row rfl ?q1 ?q2 ?q3, ?_⟩); (case q1 => exact one_of rfl); (case q2 => (repeat (first | exact .head _ | apply List.Mem.tail))); (case q3 => assumption))
                 | ((refine' ⟨_, Yl_loadA_rd rfl ?qa ?qb List.not_mem_nil ?ql ?qc, ?_⟩); (case qa => exact agg_of rfl); (case qb => assumption); (case qc => assumption); (case ql => rfl))
                 | ((refine' ⟨_, Yl_loadA_row rfl ?qa ?qb ?ql ?qc, ?_⟩); (case qa => exact agg_of rfl); (case qb => (repeat (first | exact .head _ | apply List.Mem.tail))); (case qc => assumption); (case ql => rfl))))
              | ((with_reducible refine is_idx ?_)
                 (first
                 | fail
                 | ((refine' ⟨_, Yl_index rfl rfl ?q1 ?q2 ?q3 (Rd.some_ ?q4 ?q5), ?_⟩); (case q1 => exact und_of rfl); (case q2 => exact siz_of rfl); (case q3 => omega); (case q4 => assumption); (case q5 => omega))
                 | ((refine' ⟨_, Yl_index_row rfl rfl ?q1 ?q2 ?q3 ?q4, ?_⟩); (case q1 => exact und_of rfl); (case q2 => exact siz_of rfl); (case q3 => omega); (case q4 => (repeat (first | exact .head _ | apply List.Mem.tail))))
                 | ((refine' ⟨_, Yl_index rfl rfl ?q1 ?q2 ?q3 rfl, ?_⟩); (case q1 => exact und_of rfl); (case q2 => exact siz_of rfl); (case q3 => omega))
                 | ((refine' ⟨_, Yl_index (j := 0) rfl rfl ?q1 ?q2 ?q3 (Rd.some_ ?q4 ?q5), ?_⟩); (case q1 => exact und_of rfl); (case q2 => exact siz_of rfl); (case q3 => omega); (case q4 => assumption); (case q5 => omega))
                 | ((refine' ⟨_, Yl_index_row (j := 0) rfl rfl ?q1 ?q2 ?q3 ?q4, ?_⟩); (case q1 => exact und_of rfl); (case q2 => exact siz_of rfl); (case q3 => omega); (case q4 => (repeat (first | exact .head _ | apply List.Mem.tail))))))
              | ((with_reducible refine is_ext ?_); refine ⟨_, Yl_extract rfl rfl, ?_⟩)
              | ((with_reducible refine is_un ?_); refine ⟨_, Yl_not rfl, ?_⟩)
              | ((with_reducible refine is_len ?_); (first | ((refine' ⟨_, Yl_len_slice rfl ?q1, ?_⟩); (case q1 => exact und_of rfl)) | ((refine' ⟨_, Yl_len_string rfl ?q1, ?_⟩); (case q1 => exact und_of rfl))))
              | ((with_reducible refine is_b_lss ?_); (first | ((refine' ⟨_, Yl_lss_t rfl rfl ?q1, ?_⟩); (case q1 => omega)) | ((refine' ⟨_, Yl_lss_f rfl rfl ?q1, ?_⟩); (case q1 => omega)) | (refine sp_lss rfl rfl ?_ ?_ <;> intro hc)))
              | ((with_reducible refine is_b_leq ?_); (first | ((refine' ⟨_, Yl_leq_t rfl rfl ?q1, ?_⟩); (case q1 => omega)) | ((refine' ⟨_, Yl_leq_f rfl rfl ?q1, ?_⟩); (case q1 => omega)) | (refine sp_leq rfl rfl ?_ ?_ <;> intro hc)))
              | ((with_reducible refine is_b_gtr ?_); (first | ((refine' ⟨_, Yl_gtr_t rfl rfl ?q1, ?_⟩); (case q1 => omega)) | ((refine' ⟨_, Yl_gtr_f rfl rfl ?q1, ?_⟩); (case q1 => omega)) | (refine sp_gtr rfl rfl ?_ ?_ <;> intro hc)))
              | ((with_reducible refine is_b_geq ?_); (first | ((refine' ⟨_, Yl_geq_t rfl rfl ?q1, ?_⟩); (case q1 => omega)) | ((refine' ⟨_, Yl_geq_f rfl rfl ?q1, ?_⟩); (case q1 => omega)) | (refine sp_geq rfl rfl ?_ ?_ <;> intro hc)))
              | ((with_reducible refine is_b_eql ?_)
                 (first
                 | ((refine' ⟨_, Yl_eql_t rfl rfl ?q1, ?_⟩); (case q1 => omega))
                 | ((refine' ⟨_, Yl_eql_f rfl rfl ?q1, ?_⟩); (case q1 => omega))
                 | (refine sp_eql rfl rfl ?_ ?_ <;> intro hc)
                 | ((refine' ⟨_, Yl_indexV rfl rfl ?q1 ?q2 ?q3 ?q4 ?q5, ?_⟩); (case q1 => exact und_of rfl); (case q2 => exact one_of rfl); (case q3 => exact siz_of rfl); (case q4 => omega); (case q5 => assumption))
                 | ((refine' ⟨_, Yl_convI rfl ?q1 ?q2 ?q3, ?_⟩); (case q1 => exact und_of rfl); (case q2 => exact und_of rfl); (case q3 => ((refine' u64_in ?q1); (case q1 => omega))))
                 | ((refine' ⟨_, Yl_shr8 rfl rfl ?q1, ?_⟩); (case q1 => omega))
                 | ((refine' ⟨_, Yl_and1 rfl rfl ?q1 ?q2, ?_⟩); (case q1 => omega); (case q2 => omega))
                 | refine ⟨_, Yl_eql_str rfl rfl, ?_⟩
                 | ((refine' ⟨_, Yl_str_row rfl ?q1 ?q2 ?q3 ?q4 ?q5, ?_⟩); (case q1 => exact und_of rfl); (case q2 => exact und_of rfl); (case q3 => exact und_of rfl); (case q4 => omega); (case q5 => (repeat (first | exact .head _ | apply List.Mem.tail))))
                 | ((refine' ⟨_, Yl_andNot8 rfl rfl ?q1 ?q2 ?q3 ?q4, ?_⟩); (case q1 => omega); (case q2 => omega); (case q3 => omega); (case q4 => omega))
                 | ((refine' ⟨_, Yl_eql_bool rfl rfl ?q1, ?_⟩); (case q1 => exact und_of rfl))
                 | ((refine' ⟨_, Yl_eql_strT rfl rfl ?q1, ?_⟩); (case q1 => first | assumption | rfl))
                 | ((refine' ⟨_, Yl_eql_strF rfl rfl ?q1, ?_⟩); (case q1 => first | assumption | decide))
                 | (refine sp_eqlS rfl rfl ?_ ?_ <;> intro hc)))
              | ((with_reducible refine is_b_neq ?_)
                 (first
                 | ((refine' ⟨_, Yl_neq_t rfl rfl ?q1, ?_⟩); (case q1 => omega))
                 | ((refine' ⟨_, Yl_neq_f rfl rfl ?q1, ?_⟩); (case q1 => omega))
                 | (refine sp_neq rfl rfl ?_ ?_ <;> intro hc)
                 | ((refine' ⟨_, Yl_indexV rfl rfl ?q1 ?q2 ?q3 ?q4 ?q5, ?_⟩); (case q1 => exact und_of rfl); (case q2 => exact one_of rfl); (case q3 => exact siz_of rfl); (case q4 => omega); (case q5 => assumption))
                 | ((refine' ⟨_, Yl_convI rfl ?q1 ?q2 ?q3, ?_⟩); (case q1 => exact und_of rfl); (case q2 => exact und_of rfl); (case q3 => ((refine' u64_in ?q1); (case q1 => omega))))
                 | ((refine' ⟨_, Yl_shr8 rfl rfl ?q1, ?_⟩); (case q1 => omega))
                 | ((refine' ⟨_, Yl_and1 rfl rfl ?q1 ?q2, ?_⟩); (case q1 => omega); (case q2 => omega))
                 | refine ⟨_, Yl_eql_str rfl rfl, ?_⟩
                 | ((refine' ⟨_, Yl_str_row rfl ?q1 ?q2 ?q3 ?q4 ?q5, ?_⟩); (case q1 => exact und_of rfl); (case q2 => exact und_of rfl); (case q3 => exact und_of rfl); (case q4 => omega); (case q5 => (repeat (first | exact .head _ | apply List.Mem.tail))))
                 | ((refine' ⟨_, Yl_andNot8 rfl rfl ?q1 ?q2 ?q3 ?q4, ?_⟩); (case q1 => omega); (case q2 => omega); (case q3 => omega); (case q4 => omega))
                 | ((refine' ⟨_, Yl_neq_bool rfl rfl ?q1, ?_⟩); (case q1 => exact und_of rfl))
                 | ((refine' ⟨_, Yl_neq_strT rfl rfl ?q1, ?_⟩); (case q1 => first | assumption | decide))
                 | ((refine' ⟨_, Yl_neq_strF rfl rfl ?q1, ?_⟩); (case q1 => first | assumption | rfl))
                 | (refine sp_neqS rfl rfl ?_ ?_ <;> intro hc)))
              | ((with_reducible refine is_b_add ?_)
                 (first
                 | ((refine' ⟨_, Yl_add rfl rfl ?q1 ?q2, ?_⟩); (case q1 => omega); (case q2 => omega))
                 | ((refine' ⟨_, Yl_add8 rfl rfl ?q1 ?q2, ?_⟩); (case q1 => omega); (case q2 => omega))
                 | ((refine' ⟨_, Yl_indexV rfl rfl ?q1 ?q2 ?q3 ?q4 ?q5, ?_⟩); (case q1 => exact und_of rfl); (case q2 => exact one_of rfl); (case q3 => exact siz_of rfl); (case q4 => omega); (case q5 => assumption))
                 | ((refine' ⟨_, Yl_convI rfl ?q1 ?q2 ?q3, ?_⟩); (case q1 => exact und_of rfl); (case q2 => exact und_of rfl); (case q3 => ((refine' u64_in ?q1); (case q1 => omega))))
                 | ((refine' ⟨_, Yl_shr8 rfl rfl ?q1, ?_⟩); (case q1 => omega))
                 | ((refine' ⟨_, Yl_and1 rfl rfl ?q1 ?q2, ?_⟩); (case q1 => omega); (case q2 => omega))
                 | refine ⟨_, Yl_eql_str rfl rfl, ?_⟩
                 | ((refine' ⟨_, Yl_str_row rfl ?q1 ?q2 ?q3 ?q4 ?q5, ?_⟩); (case q1 => exact und_of rfl); (case q2 => exact und_of rfl); (case q3 => exact und_of rfl); (case q4 => omega); (case q5 => (repeat (first | exact .head _ | apply List.Mem.tail))))
                 | ((refine' ⟨_, Yl_andNot8 rfl rfl ?q1 ?q2 ?q3 ?q4, ?_⟩); (case q1 => omega); (case q2 => omega); (case q3 => omega); (case q4 => omega))))
              | ((with_reducible refine is_min ?_); refine ⟨_, Yl_min rfl rfl, ?_⟩)
              | ((with_reducible refine is_max ?_); refine ⟨_, Yl_max rfl rfl, ?_⟩)
              | ((with_reducible refine is_b_sub ?_)
                 (first
                 | ((refine' ⟨_, Yl_sub rfl rfl ?q1 ?q2, ?_⟩); (case q1 => omega); (case q2 => omega))
                 | ((refine' ⟨_, Yl_indexV rfl rfl ?q1 ?q2 ?q3 ?q4 ?q5, ?_⟩); (case q1 => exact und_of rfl); (case q2 => exact one_of rfl); (case q3 => exact siz_of rfl); (case q4 => omega); (case q5 => assumption))
                 | ((refine' ⟨_, Yl_convI rfl ?q1 ?q2 ?q3, ?_⟩); (case q1 => exact und_of rfl); (case q2 => exact und_of rfl); (case q3 => ((refine' u64_in ?q1); (case q1 => omega))))
                 | ((refine' ⟨_, Yl_shr8 rfl rfl ?q1, ?_⟩); (case q1 => omega))
                 | ((refine' ⟨_, Yl_and1 rfl rfl ?q1 ?q2, ?_⟩); (case q1 => omega); (case q2 => omega))
                 | refine ⟨_, Yl_eql_str rfl rfl, ?_⟩
                 | ((refine' ⟨_, Yl_str_row rfl ?q1 ?q2 ?q3 ?q4 ?q5, ?_⟩); (case q1 => exact und_of rfl); (case q2 => exact und_of rfl); (case q3 => exact und_of rfl); (case q4 => omega); (case q5 => (repeat (first | exact .head _ | apply List.Mem.tail))))
                 | ((refine' ⟨_, Yl_andNot8 rfl rfl ?q1 ?q2 ?q3 ?q4, ?_⟩); (case q1 => omega); (case q2 => omega); (case q3 => omega); (case q4 => omega))))
              | ((with_reducible refine is_build ?_); (first | refine ⟨_, Yl_build rfl letters_b, ?_⟩))
              | (first
                | ((refine' ⟨_, Yl_indexV rfl rfl ?q1 ?q2 ?q3 ?q4 ?q5, ?_⟩); (case q1 => exact und_of rfl); (case q2 => exact one_of rfl); (case q3 => exact siz_of rfl); (case q4 => omega); (case q5 => assumption))
                | ((refine' ⟨_, Yl_convI rfl ?q1 ?q2 ?q3, ?_⟩); (case q1 => exact und_of rfl); (case q2 => exact und_of rfl); (case q3 => ((refine' u64_in ?q1); (case q1 => omega))))
                | ((refine' ⟨_, Yl_shr8 rfl rfl ?q1, ?_⟩); (case q1 => omega))
                | ((refine' ⟨_, Yl_and1 rfl rfl ?q1 ?q2, ?_⟩); (case q1 => omega); (case q2 => omega))
                | refine ⟨_, Yl_eql_str rfl rfl, ?_⟩
                | ((refine' ⟨_, Yl_str_row rfl ?q1 ?q2 ?q3 ?q4 ?q5, ?_⟩); (case q1 => exact und_of rfl); (case q2 => exact und_of rfl); (case q3 => exact und_of rfl); (case q4 => omega); (case q5 => (repeat (first | exact .head _ | apply List.Mem.tail))))
                | ((refine' ⟨_, Yl_andNot8 rfl rfl ?q1 ?q2 ?q3 ?q4, ?_⟩); (case q1 => omega); (case q2 => omega); (case q3 => omega); (case q4 => omega)))
              | ((with_reducible refine ie_box ?_)
                 (first
                 | (refine Ef_boxA rfl rfl ?_; (first | ((fail_if_success have := b1); intro b1) | ((fail_if_success have := b2); intro b2) | ((fail_if_success have := b3); intro b3) | ((fail_if_success have := b4); intro b4) | ((fail_if_success have := b5); intro b5) | ((fail_if_success have := b6); intro b6) | ((fail_if_success have := b7); intro b7) | ((fail_if_success have := b8); intro b8) | ((fail_if_success have := b9); intro b9)))
                 | (refine Ef_box1 rfl rfl rfl ?_; (first | ((fail_if_success have := b1); intro b1) | ((fail_if_success have := b2); intro b2) | ((fail_if_success have := b3); intro b3) | ((fail_if_success have := b4); intro b4) | ((fail_if_success have := b5); intro b5) | ((fail_if_success have := b6); intro b6) | ((fail_if_success have := b7); intro b7) | ((fail_if_success have := b8); intro b8) | ((fail_if_success have := b9); intro b9)))))
              | ((with_reducible refine ie_alloc ?_); (first | fail | (((refine' Ef_alloc rfl ?q1 ?_); (case q1 => exact zer_of rfl)); (first | ((fail_if_success have := b1); intro b1) | ((fail_if_success have := b2); intro b2) | ((fail_if_success have := b3); intro b3) | ((fail_if_success have := b4); intro b4) | ((fail_if_success have := b5); intro b5) | ((fail_if_success have := b6); intro b6) | ((fail_if_success have := b7); intro b7) | ((fail_if_success have := b8); intro b8) | ((fail_if_success have := b9); intro b9)))))
              | ((with_reducible refine ie_store ?_)
                 (first
                 | fail
                 | ((refine' Ef_store_rowA rfl rfl ?q1 ?q2 ?q3 ?q4 ?q5 ?q6 ?_); (case q1 => exact siz_of rfl); (case q2 => rfl); (case q3 => (first | assumption | (intro u hu; rcases hu with _ | ⟨_, _ | ⟨_, _ | ⟨_, _ | ⟨_, hu⟩⟩⟩⟩ <;> first | rfl | (cases hu; done)))); (case q4 => (first | exact at0 | exact at1 | exact at2 | exact at3 | exact at4 | exact at5 | exact at6)); (case q5 => omega); (case q6 => assumption))
                 | ((refine' Ef_storeA' rfl rfl ?q1 ?q2 ?q3 ?q4 ?_); (case q1 => exact siz_of rfl); (case q2 => (first | assumption | (intro u hu; rcases hu with _ | ⟨_, _ | ⟨_, _ | ⟨_, _ | ⟨_, hu⟩⟩⟩⟩ <;> first | rfl | (cases hu; done)))); (case q3 => (first | exact at0 | exact at1 | exact at2 | exact at3 | exact at4 | exact at5 | exact at6)); (case q4 => rfl))
                 | ((refine' Ef_storeC rfl rfl ?q1 ?q2 ?q3 ?q4 ?q5 ?_); (case q1 => rfl); (case q2 => exact siz_of rfl); (case q3 => (first | exact at0 | exact at1 | exact at2 | exact at3 | exact at4 | exact at5 | exact at6)); (case q4 => exact Nat.le_of_ble_eq_true rfl); (case q5 => rfl))))
              | ((with_reducible refine ie_callf ?_); (first | ((with_reducible refine g_call 22 ?_); (first | refine Ef_callP rfl rfl ent_22 (fun w _ => letters_c w) ?_)) | ((with_reducible refine g_call 11 ?_); (first | ((refine' Ef_callP rfl rfl ent_11 (fun w _ => text_c _ w ?q1 ?q2) ?_); (case q1 => omega); (case q2 => omega))))))
              | ((with_reducible refine ie_app ?_)
                 (first
                 | fail
                 | (((refine' Ef_app0_rd rfl rfl rfl ?q1 ?q2 ?q3 ?q4 ?q5 ?q6 ?q7 ?_); (case q1 => exact app_of rfl); (case q2 => (first | exact at0 | exact at1 | exact at2 | exact at3 | exact at4 | exact at5 | exact at6)); (case q3 => assumption); (case q4 => (first | assumption | (intro u hu; rcases hu with _ | ⟨_, _ | ⟨_, _ | ⟨_, _ | ⟨_, hu⟩⟩⟩⟩ <;> first | rfl | (cases hu; done)))); (case q5 => omega); (case q6 => omega); (case q7 => exact List.not_mem_nil))
                    (first | ((fail_if_success have := A1); intro A1 c1) | ((fail_if_success have := A2); intro A2 c2) | ((fail_if_success have := A3); intro A3 c3) | ((fail_if_success have := A4); intro A4 c4) | ((fail_if_success have := A5); intro A5 c5) | ((fail_if_success have := A6); intro A6 c6) | ((fail_if_success have := A7); intro A7 c7)))
                 | (((refine' Ef_appG_row rfl rfl rfl ?q1 ?q2 ?q3 ?q4 ?q5 ?q6 ?_); (case q1 => exact app_of rfl); (case q2 => (first | exact at0 | exact at1 | exact at2 | exact at3 | exact at4 | exact at5 | exact at6)); (case q3 => (repeat (first | exact .head _ | apply List.Mem.tail))); (case q4 => (first | assumption | (intro u hu; rcases hu with _ | ⟨_, _ | ⟨_, _ | ⟨_, _ | ⟨_, hu⟩⟩⟩⟩ <;> first | rfl | (cases hu; done)))); (case q5 => omega); (case q6 => omega))
                    (first | ((fail_if_success have := A1); intro A1 c1) | ((fail_if_success have := A2); intro A2 c2) | ((fail_if_success have := A3); intro A3 c3) | ((fail_if_success have := A4); intro A4 c4) | ((fail_if_success have := A5); intro A5 c5) | ((fail_if_success have := A6); intro A6 c6) | ((fail_if_success have := A7); intro A7 c7)))
                 | (((refine' Ef_appG_rd rfl rfl rfl ?q1 ?q2 ?q3 ?q4 ?q5 ?q6 ?q7 ?_); (case q1 => exact app_of rfl); (case q2 => (first | exact at0 | exact at1 | exact at2 | exact at3 | exact at4 | exact at5 | exact at6)); (case q3 => assumption); (case q4 => (first | assumption | (intro u hu; rcases hu with _ | ⟨_, _ | ⟨_, _ | ⟨_, _ | ⟨_, hu⟩⟩⟩⟩ <;> first | rfl | (cases hu; done)))); (case q5 => omega); (case q6 => omega); (case q7 => exact List.not_mem_nil))
                    (first | ((fail_if_success have := A1); intro A1 c1) | ((fail_if_success have := A2); intro A2 c2) | ((fail_if_success have := A3); intro A3 c3) | ((fail_if_success have := A4); intro A4 c4) | ((fail_if_success have := A5); intro A5 c5) | ((fail_if_success have := A6); intro A6 c6) | ((fail_if_success have := A7); intro A7 c7)))))
              | ((with_reducible refine ie_bsl ?_)
                 (first
                 | fail
                 | (((refine' Ef_bsl0 rfl ?q1 ?_); (case q1 => exact app_of rfl)); (first | ((fail_if_success have := b1); intro b1) | ((fail_if_success have := b2); intro b2) | ((fail_if_success have := b3); intro b3) | ((fail_if_success have := b4); intro b4) | ((fail_if_success have := b5); intro b5) | ((fail_if_success have := b6); intro b6) | ((fail_if_success have := b7); intro b7) | ((fail_if_success have := b8); intro b8) | ((fail_if_success have := b9); intro b9)))
                 | (((refine' Ef_bslA rfl rfl ?q1 ?q2 ?q3 ?_); (case q1 => exact app_of rfl); (case q2 => rfl); (case q3 => decide)); (first | ((fail_if_success have := b1); intro b1) | ((fail_if_success have := b2); intro b2) | ((fail_if_success have := b3); intro b3) | ((fail_if_success have := b4); intro b4) | ((fail_if_success have := b5); intro b5) | ((fail_if_success have := b6); intro b6) | ((fail_if_success have := b7); intro b7) | ((fail_if_success have := b8); intro b8) | ((fail_if_success have := b9); intro b9)))
                 | (((refine' Ef_bsl1 rfl rfl rfl ?q1 ?_); (case q1 => exact app_of rfl)); (first | ((fail_if_success have := b1); intro b1) | ((fail_if_success have := b2); intro b2) | ((fail_if_success have := b3); intro b3) | ((fail_if_success have := b4); intro b4) | ((fail_if_success have := b5); intro b5) | ((fail_if_success have := b6); intro b6) | ((fail_if_success have := b7); intro b7) | ((fail_if_success have := b8); intro b8) | ((fail_if_success have := b9); intro b9)))))
              | (first | fail)
              | refine Ef_y rfl rfl ?_
              | ((with_reducible refine ie_conv ?_); refine Ef_y' rfl ?_)
              | ((with_reducible refine ie_bmin ?_); refine Ef_y' rfl ?_)
              | ((with_reducible refine ie_bmax ?_); refine Ef_y' rfl ?_))
      · have e := Rt.parse_some hlt (of_decide_eq_true (by assumption))
        rw [e]
        exact ret_n [] (res2 rfl rfl rfl) (List.nil_sublist _) ⟨rfl, rfl⟩
      · have hne : ¬ Rt.txt (i : Int) = s := of_decide_eq_false (by assumption)
        refine loopQ_n (i + 1) ?_ ?_ ⟨by (first | omega | (dsimp only; omega) | (simp; omega)), fun j hj => ?_⟩ (by (first | omega | (dsimp only; omega) | (simp; omega)))
        · (repeat (first | exact Sub.nil | refine Sub.cons rfl ?_))
        · (repeat (first | exact List.nil_sublist _ | refine List.Sublist.cons_cons _ ?_ | refine List.Sublist.cons _ ?_))
        · by_cases e : j = i
          · rw [e]; exact hne
          · exact hno j (by omega)
    · have e := Rt.parse_none (s := s) fun j hj => hno j (by omega)
      rw [e]
      repeat' (first
              | with_reducible refine T.seq ?_
              | with_reducible refine T.block ?_
              | with_reducible refine T.region ?_
              | with_reducible refine T.skip ?_
              | with_reducible refine T.ret ?_
              | with_reducible refine T.exit ?_
              | with_reducible refine seqQ_n ?_
              | with_reducible refine seqQ_x ?_
              | with_reducible refine seqQ_r ?_
              | with_reducible refine blockQ_n ?_
              | with_reducible refine blockQ_r ?_
              | with_reducible refine blockQ_x ?_
              | ((with_reducible refine g_blkx ?_); refine blockQ_y rfl ?_)
              | with_reducible refine loopQ_x ?_
              | with_reducible refine loopQ_r ?_
              | with_reducible refine joinQ_r ?_
              | with_reducible refine joinQ_x ?_
              | ((with_reducible refine g_cond ?_); (first | refine T.cond_t rfl ?_ | refine T.cond_f rfl ?_ | (refine T.cond_s rfl ?_ ?_ <;> intro hc)))
              | with_reducible refine TL_nil ?_
              | with_reducible refine TS_nil ?_
              | ((with_reducible refine g_draw ?_); (first | fail))
              | ((with_reducible refine TL_y' ?hy ?hd ?_); (case hy => rfl); (case hd => rfl))
              | with_reducible refine TL_e ?_
              | ((with_reducible refine g_TL ?_); (first | refine TL_gy' rfl rfl rfl rfl ?_ | refine TL_gn rfl rfl rfl ?_ | refine TL_gu rfl rfl rfl ?_ | refine TL_ge rfl rfl ?_ | refine TL_gn0 rfl rfl ?_))
              | ((with_reducible refine g_TS ?_); (first | refine TS_y rfl rfl ?_ | refine TS_e rfl ?_ | refine TS_gy rfl rfl rfl rfl ?_ | refine TS_gn rfl rfl rfl rfl ?_ | refine TS_gu rfl rfl rfl rfl ?_ | refine TS_ge rfl rfl rfl ?_ | refine TS_gne rfl rfl rfl rfl ?_ | refine TS_gue rfl rfl rfl rfl ?_ | refine TS_gne0 rfl rfl rfl ?_))
              | ((with_reducible refine TSand ?hd ?_); (case hd => (repeat (first | exact List.nil_sublist _ | refine List.Sublist.cons_cons _ ?_ | refine List.Sublist.cons _ ?_))))
              | ((with_reducible refine TBand ?hd ?_); (case hd => (repeat (first | exact List.nil_sublist _ | refine List.Sublist.cons_cons _ ?_ | refine List.Sublist.cons _ ?_))))
              | ((with_reducible refine g_TB ?_); (first | with_reducible refine TB_run ?_ | refine TB_y rfl rfl ?_ | refine TB_b rfl rfl ?_ ?_ | refine TB_e rfl ?_))
              | ((with_reducible refine is_move ?_); refine ⟨_, Yl_move rfl, ?_⟩)
              | ((with_reducible refine is_assign ?_); refine ⟨_, Yl_assign rfl, ?_⟩)
              | ((with_reducible refine is_pick ?_); (first | refine ⟨_, Yl_pick_t rfl rfl, ?_⟩ | refine ⟨_, Yl_pick_f rfl rfl, ?_⟩))
              | ((with_reducible refine is_nil ?_); refine ⟨_, Yl_nilCheck rfl, ?_⟩)
              | ((with_reducible refine is_fld ?_); (first | ((refine' ⟨_, Yl_fld_ad rfl ?q1, ?_⟩); (case q1 => exact fld_of rfl rfl)) | ((refine' ⟨_, Yl_fld_blk0 rfl ?q1, ?_⟩); (case q1 => exact fld_of rfl rfl)) | ((refine' ⟨_, Yl_fld_blk rfl ?q1, ?_⟩); (case q1 => exact fld_of rfl rfl))))
              | ((with_reducible refine is_load ?_)
                 (first
                 | fail
                 | ((refine' ⟨_, Yl_load_blk rfl ?q1 ?q2 ?q3, ?_⟩); (case q1 => exact one_of rfl); (case q2 => (repeat (first | exact .head _ | apply List.Mem.tail))); (case q3 => rfl))
                 | ((refine' ⟨_, Yl_loadA_blk rfl ?q1 ?q2, ?_⟩); (case q1 => (repeat (first | exact .head _ | apply List.Mem.tail))); (case q2 => exact agg_of rfl))
                 | ((refine' ⟨_, Yl_load_blk rfl ?q1 ?q2 ?q3, ?_⟩); (case q1 => exact one_of rfl); (case q2 => (repeat (first | exact .head _ | apply List.Mem.tail))); (case q3 => assumption))
                 | ((refine' ⟨_, Yl_load_rd rfl ?q1 ?q2 List.not_mem_nil ?q3, ?_⟩); (case q1 => exact one_of rfl); (case q2 => assumption); (case q3 => assumption))
                 | ((refine' ⟨_, Yl_load_row rfl ?q1 ?q2 ?q3, ?_⟩); (case q1 => exact one_of rfl); (case q2 => (repeat (first | exact .head _ | apply List.Mem.tail))); (case q3 => assumption))
                 | ((refine' ⟨_, Yl_loadA_rd rfl ?qa ?qb List.not_mem_nil ?ql ?qc, ?_⟩); (case qa => exact agg_of rfl); (case qb => assumption); (case qc => assumption); (case ql => rfl))
                 | ((refine' ⟨_, Yl_loadA_row rfl ?qa ?qb ?ql ?qc, ?_⟩); (case qa => exact agg_of rfl); (case qb => (repeat (first | exact .head _ | apply List.Mem.tail))); (case qc => assumption); (case ql => rfl))))
              | ((with_reducible refine is_idx ?_)
                 (first
                 | fail
                 | ((refine' ⟨_, Yl_index rfl rfl ?q1 ?q2 ?q3 (Rd.some_ ?q4 ?q5), ?_⟩); (case q1 => exact und_of rfl); (case q2 => exact siz_of rfl); (case q3 => omega); (case q4 => assumption); (case q5 => omega))
                 | ((refine' ⟨_, Yl_index_row rfl rfl ?q1 ?q2 ?q3 ?q4, ?_⟩); (case q1 => exact und_of rfl); (case q2 => exact siz_of rfl); (case q3 => omega); (case q4 => (repeat (first | exact .head _ | apply List.Mem.tail))))
                 | ((refine' ⟨_, Yl_index rfl rfl ?q1 ?q2 ?q3 rfl, ?_⟩); (case q1 => exact und_of rfl); (case q2 => exact siz_of rfl); (case q3 => omega))
                 | ((refine' ⟨_, Yl_index (j := 0) rfl rfl ?q1 ?q2 ?q3 (Rd.some_ ?q4 ?q5), ?_⟩); (case q1 => exact und_of rfl); (case q2 => exact siz_of rfl); (case q3 => omega); (case q4 => assumption); (case q5 => omega))
                 | ((refine' ⟨_, Yl_index_row (j := 0) rfl rfl ?q1 ?q2 ?q3 ?q4, ?_⟩); (case q1 => exact und_of rfl); (case q2 => exact siz_of rfl); (case q3 => omega); (case q4 => (repeat (first | exact .head _ | apply List.Mem.tail))))))
              | ((with_reducible refine is_ext ?_); refine ⟨_, Yl_extract rfl rfl, ?_⟩)
              | ((with_reducible refine is_un ?_); refine ⟨_, Yl_not rfl, ?_⟩)
              | ((with_reducible refine is_len ?_); (first | ((refine' ⟨_, Yl_len_slice rfl ?q1, ?_⟩); (case q1 => exact und_of rfl)) | ((refine' ⟨_, Yl_len_string rfl ?q1, ?_⟩); (case q1 => exact und_of rfl))))
              | ((with_reducible refine is_b_lss ?_); (first | ((refine' ⟨_, Yl_lss_t rfl rfl ?q1, ?_⟩); (case q1 => omega)) | ((refine' ⟨_, Yl_lss_f rfl rfl ?q1, ?_⟩); (case q1 => omega)) | (refine sp_lss rfl rfl ?_ ?_ <;> intro hc)))
              | ((with_reducible refine is_b_leq ?_); (first | ((refine' ⟨_, Yl_leq_t rfl rfl ?q1, ?_⟩); (case q1 => omega)) | ((refine' ⟨_, Yl_leq_f rfl rfl ?q1, ?_⟩); (case q1 => omega)) | (refine sp_leq rfl rfl ?_ ?_ <;> intro hc)))
              | ((with_reducible refine is_b_gtr ?_); (first | ((refine' ⟨_, Yl_gtr_t rfl rfl ?q1, ?_⟩); (case q1 => omega)) | ((refine' ⟨_, Yl_gtr_f rfl rfl ?q1, ?_⟩); (case q1 => omega)) | (refine sp_gtr rfl rfl ?_ ?_ <;> intro hc)))
              | ((with_reducible refine is_b_geq ?_); (first | ((refine' ⟨_, Yl_geq_t rfl rfl ?q1, ?_⟩); (case q1 => omega)) | ((refine' ⟨_, Yl_geq_f rfl rfl ?q1, ?_⟩); (case q1 => omega)) | (refine sp_geq rfl rfl ?_ ?_ <;> intro hc)))
              | ((with_reducible refine is_b_eql ?_)
                 (first
                 | ((refine' ⟨_, Yl_eql_t rfl rfl ?q1, ?_⟩); (case q1 => omega))
                 | ((refine' ⟨_, Yl_eql_f rfl rfl ?q1, ?_⟩); (case q1 => omega))
                 | (refine sp_eql rfl rfl ?_ ?_ <;> intro hc)
                 | ((refine' ⟨_, Yl_indexV rfl rfl ?q1 ?q2 ?q3 ?q4 ?q5, ?_⟩); (case q1 => exact und_of rfl); (case q2 => exact one_of rfl); (case q3 => exact siz_of rfl); (case q4 => omega); (case q5 => assumption))
                 | ((refine' ⟨_, Yl_convI rfl ?q1 ?q2 ?q3, ?_⟩); (case q1 => exact und_of rfl); (case q2 => exact und_of rfl); (case q3 => ((refine' u64_in ?q1); (case q1 => omega))))
                 | ((refine' ⟨_, Yl_shr8 rfl rfl ?q1, ?_⟩); (case q1 => omega))
                 | ((refine' ⟨_, Yl_and1 rfl rfl ?q1 ?q2, ?_⟩); (case q1 => omega); (case q2 => omega))
                 | refine ⟨_, Yl_eql_str rfl rfl, ?_⟩
                 | ((refine' ⟨_, Yl_str_row rfl ?q1 ?q2 ?q3 ?q4 ?q5, ?_⟩); (case q1 => exact und_of rfl); (case q2 => exact und_of rfl); (case q3 => exact und_of rfl); (case q4 => omega); (case q5 => (repeat (first | exact .head _ | apply List.Mem.tail))))
                 | ((refine' ⟨_, Yl_andNot8 rfl rfl ?q1 ?q2 ?q3 ?q4, ?_⟩); (case q1 => omega); (case q2 => omega); (case q3 => omega); (case q4 => omega))
                 | ((refine' ⟨_, Yl_eql_bool rfl rfl ?q1, ?_⟩); (case q1 => exact und_of rfl))
                 | ((refine' ⟨_, Yl_eql_strT rfl rfl ?q1, ?_⟩); (case q1 => first | assumption | rfl))
                 | ((refine' ⟨_, Yl_eql_strF rfl rfl ?q1, ?_⟩); (case q1 => first | assumption | decide))
                 | (refine sp_eqlS rfl rfl ?_ ?_ <;> intro hc)))
              | ((with_reducible refine is_b_neq ?_)
                 (first
                 | ((refine' ⟨_, Yl_neq_t rfl rfl ?q1, ?_⟩); (case q1 => omega))
                 | ((refine' ⟨_, Yl_neq_f rfl rfl ?q1, ?_⟩); (case q1 => omega))
                 | (refine sp_neq rfl rfl ?_ ?_ <;> intro hc)
                 | ((refine' ⟨_, Yl_indexV rfl rfl ?q1 ?q2 ?q3 ?q4 ?q5, ?_⟩); (case q1 => exact und_of rfl); (case q2 => exact one_of rfl); (case q3 => exact siz_of rfl); (case q4 => omega); (case q5 => assumption))
                 | ((refine' ⟨_, Yl_convI rfl ?q1 ?q2 ?q3, ?_⟩); (case q1 => exact und_of rfl); (case q2 => exact und_of rfl); (case q3 => ((refine' u64_in ?q1); (case q1 => omega))))
                 | ((refine' ⟨_, Yl_shr8 rfl rfl ?q1, ?_⟩); (case q1 => omega))
                 | ((refine' ⟨_, Yl_and1 rfl rfl ?q1 ?q2, ?_⟩); (case q1 => omega); (case q2 => omega))
                 | refine ⟨_, Yl_eql_str rfl rfl, ?_⟩
                 | ((refine' ⟨_, Yl_str_row rfl ?q1 ?q2 ?q3 ?q4 ?q5, ?_⟩); (case q1 => exact und_of rfl); (case q2 => exact und_of rfl); (case q3 => exact und_of rfl); (case q4 => omega); (case q5 => (repeat (first | exact .head _ | apply List.Mem.tail))))
                 | ((refine' ⟨_, Yl_andNot8 rfl rfl ?q1 ?q2 ?q3 ?q4, ?_⟩); (case q1 => omega); (case q2 => omega); (case q3 => omega); (case q4 => omega))
                 | ((refine' ⟨_, Yl_neq_bool rfl rfl ?q1, ?_⟩); (case q1 => exact und_of rfl))
                 | ((refine' ⟨_, Yl_neq_strT rfl rfl ?q1, ?_⟩); (case q1 => first | assumption | decide))
                 | ((refine' ⟨_, Yl_neq_strF rfl rfl ?q1, ?_⟩); (case q1 => first | assumption | rfl))
                 | (refine sp_neqS rfl rfl ?_ ?_ <;> intro hc)))
              | ((with_reducible refine is_b_add ?_)
                 (first
                 | ((refine' ⟨_, Yl_add rfl rfl ?q1 ?q2, ?_⟩); (case q1 => omega); (case q2 => omega))
                 | ((refine' ⟨_, Yl_add8 rfl rfl ?q1 ?q2, ?_⟩); (case q1 => omega); (case q2 => omega))
                 | ((refine' ⟨_, Yl_indexV rfl rfl ?q1 ?q2 ?q3 ?q4 ?q5, ?_⟩); (case q1 => exact und_of rfl); (case q2 => exact one_of rfl); (case q3 => exact siz_of rfl); (case q4 => omega); (case q5 => assumption))
                 | ((refine' ⟨_, Yl_convI rfl ?q1 ?q2 ?q3, ?_⟩); (case q1 => exact und_of rfl); (case q2 => exact und_of rfl); (case q3 => ((refine' u64_in ?q1); (case q1 => omega))))
                 | ((refine' ⟨_, Yl_shr8 rfl rfl ?q1, ?_⟩); (case q1 => omega))
                 | ((refine' ⟨_, Yl_and1 rfl rfl ?q1 ?q2, ?_⟩); (case q1 => omega); (case q2 => omega))
                 | refine ⟨_, Yl_eql_str rfl rfl, ?_⟩
                 | ((refine' ⟨_, Yl_str_row rfl ?q1 ?q2 ?q3 ?q4 ?q5, ?_⟩); (case q1 => exact und_of rfl); (case q2 => exact und_of rfl); (case q3 => exact und_of rfl); (case q4 => omega); (case q5 => (repeat (first | exact .head _ | apply List.Mem.tail))))
                 | ((refine' ⟨_, Yl_andNot8 rfl rfl ?q1 ?q2 ?q3 ?q4, ?_⟩); (case q1 => omega); (case q2 => omega); (case q3 => omega); (case q4 => omega))))
              | ((with_reducible refine is_min ?_); refine ⟨_, Yl_min rfl rfl, ?_⟩)
              | ((with_reducible refine is_max ?_); refine ⟨_, Yl_max rfl rfl, ?_⟩)
              | ((with_reducible refine is_b_sub ?_)
                 (first
                 | ((refine' ⟨_, Yl_sub rfl rfl ?q1 ?q2, ?_⟩); (case q1 => omega); (case q2 => omega))
                 | ((refine' ⟨_, Yl_indexV rfl rfl ?q1 ?q2 ?q3 ?q4 ?q5, ?_⟩); (case q1 => exact und_of rfl); (case q2 => exact one_of rfl); (case q3 => exact siz_of rfl); (case q4 => omega); (case q5 => assumption))
                 | ((refine' ⟨_, Yl_convI rfl ?q1 ?q2 ?q3, ?_⟩); (case q1 => exact und_of rfl); (case q2 => exact und_of rfl); (case q3 => ((refine' u64_in ?q1); (case q1 => omega))))
                 | ((refine' ⟨_, Yl_shr8 rfl rfl ?q1, ?_⟩); (case q1 => omega))
                 | ((refine' ⟨_, Yl_and1 rfl rfl ?q1 ?q2, ?_⟩); (case q1 => omega); (case q2 => omega))
                 | refine ⟨_, Yl_eql_str rfl rfl, ?_⟩
                 | ((refine' ⟨_, Yl_str_row rfl ?q1 ?q2 ?q3 ?q4 ?q5, ?_⟩); (case q1 => exact und_of rfl); (case q2 => exact und_of rfl); (case q3 => exact und_of rfl); (case q4 => omega); (case q5 => (repeat (first | exact .head _ | apply List.Mem.tail))))
                 | ((refine' ⟨_, Yl_andNot8 rfl rfl ?q1 ?q2 ?q3 ?q4, ?_⟩); (case q1 => omega); (case q2 => omega); (case q3 => omega); (case q4 => omega))))
              | ((with_reducible refine is_build ?_); (first | refine ⟨_, Yl_build rfl letters_b, ?_⟩))
              | (first
                | ((refine' ⟨_, Yl_indexV rfl rfl ?q1 ?q2 ?q3 ?q4 ?q5, ?_⟩); (case q1 => exact und_of rfl); (case q2 => exact one_of rfl); (case q3 => exact siz_of rfl); (case q4 => omega); (case q5 => assumption))
                | ((refine' ⟨_, Yl_convI rfl ?q1 ?q2 ?q3, ?_⟩); (case q1 => exact und_of rfl); (case q2 => exact und_of rfl); (case q3 => ((refine' u64_in ?q1); (case q1 => omega))))
                | ((refine' ⟨_, Yl_shr8 rfl rfl ?q1, ?_⟩); (case q1 => omega))
                | ((refine' ⟨_, Yl_and1 rfl rfl ?q1 ?q2, ?_⟩); (case q1 => omega); (case q2 => omega))
                | refine ⟨_, Yl_eql_str rfl rfl, ?_⟩
                | ((refine' ⟨_, Yl_str_row rfl ?q1 ?q2 ?q3 ?q4 ?q5, ?_⟩); (case q1 => exact und_of rfl); (case q2 => exact und_of rfl); (case q3 => exact und_of rfl); (case q4 => omega); (case q5 => (repeat (first | exact .head _ | apply List.Mem.tail))))
                | ((refine' ⟨_, Yl_andNot8 rfl rfl ?q1 ?q2 ?q3 ?q4, ?_⟩); (case q1 => omega); (case q2 => omega); (case q3 => omega); (case q4 => omega)))
              | ((with_reducible refine ie_box ?_)
                 (first
                 | (refine Ef_boxA rfl rfl ?_; (first | ((fail_if_success have := b1); intro b1) | ((fail_if_success have := b2); intro b2) | ((fail_if_success have := b3); intro b3) | ((fail_if_success have := b4); intro b4) | ((fail_if_success have := b5); intro b5) | ((fail_if_success have := b6); intro b6) | ((fail_if_success have := b7); intro b7) | ((fail_if_success have := b8); intro b8) | ((fail_if_success have := b9); intro b9)))
                 | (refine Ef_box1 rfl rfl rfl ?_; (first | ((fail_if_success have := b1); intro b1) | ((fail_if_success have := b2); intro b2) | ((fail_if_success have := b3); intro b3) | ((fail_if_success have := b4); intro b4) | ((fail_if_success have := b5); intro b5) | ((fail_if_success have := b6); intro b6) | ((fail_if_success have := b7); intro b7) | ((fail_if_success have := b8); intro b8) | ((fail_if_success have := b9); intro b9)))))
              | ((with_reducible refine ie_alloc ?_); (first | fail | (((refine' Ef_alloc rfl ?q1 ?_); (case q1 => exact zer_of rfl)); (first | ((fail_if_success have := b1); intro b1) | ((fail_if_success have := b2); intro b2) | ((fail_if_success have := b3); intro b3) | ((fail_if_success have := b4); intro b4) | ((fail_if_success have := b5); intro b5) | ((fail_if_success have := b6); intro b6) | ((fail_if_success have := b7); intro b7) | ((fail_if_success have := b8); intro b8) | ((fail_if_success have := b9); intro b9)))))
              | ((with_reducible refine ie_store ?_)
                 (first
                 | fail
                 | ((refine' Ef_store_rowA rfl rfl ?q1 ?q2 ?q3 ?q4 ?q5 ?q6 ?_); (case q1 => exact siz_of rfl); (case q2 => rfl); (case q3 => (first | assumption | (intro u hu; rcases hu with _ | ⟨_, _ | ⟨_, _ | ⟨_, _ | ⟨_, hu⟩⟩⟩⟩ <;> first | rfl | (cases hu; done)))); (case q4 => (first | exact at0 | exact at1 | exact at2 | exact at3 | exact at4 | exact at5 | exact at6)); (case q5 => omega); (case q6 => assumption))
                 | ((refine' Ef_storeA' rfl rfl ?q1 ?q2 ?q3 ?q4 ?_); (case q1 => exact siz_of rfl); (case q2 => (first | assumption | (intro u hu; rcases hu with _ | ⟨_, _ | ⟨_, _ | ⟨_, _ | ⟨_, hu⟩⟩⟩⟩ <;> first | rfl | (cases hu; done)))); (case q3 => (first | exact at0 | exact at1 | exact at2 | exact at3 | exact at4 | exact at5 | exact at6)); (case q4 => rfl))
                 | ((refine' Ef_storeC rfl rfl ?q1 ?q2 ?q3 ?q4 ?q5 ?_); (case q1 => rfl); (case q2 => exact siz_of rfl); (case q3 => (first | exact at0 | exact at1 | exact at2 | exact at3 | exact at4 | exact at5 | exact at6)); (case q4 => exact Nat.le_of_ble_eq_true rfl); (case q5 => rfl))))
              | ((with_reducible refine ie_callf ?_); (first | ((with_reducible refine g_call 22 ?_); (first | refine Ef_callP rfl rfl ent_22 (fun w _ => letters_c w) ?_)) | ((with_reducible refine g_call 11 ?_); (first | ((refine' Ef_callP rfl rfl ent_11 (fun w _ => text_c _ w ?q1 ?q2) ?_); (case q1 => omega); (case q2 => omega))))))
              | ((with_reducible refine ie_app ?_)
                 (first
                 | fail
                 | (((refine' Ef_app0_rd rfl rfl rfl ?q1 ?q2 ?q3 ?q4 ?q5 ?q6 ?q7 ?_); (case q1 => exact app_of rfl); (case q2 => (first | exact at0 | exact at1 | exact at2 | exact at3 | exact at4 | exact at5 | exact at6)); (case q3 => assumption); (case q4 => (first | assumption | (intro u hu; rcases hu with _ | ⟨_, _ | ⟨_, _ | ⟨_, _ | ⟨_, hu⟩⟩⟩⟩ <;> first | rfl | (cases hu; done)))); (case q5 => omega); (case q6 => omega); (case q7 => exact List.not_mem_nil))
                    (first | ((fail_if_success have := A1); intro A1 c1) | ((fail_if_success have := A2); intro A2 c2) | ((fail_if_success have := A3); intro A3 c3) | ((fail_if_success have := A4); intro A4 c4) | ((fail_if_success have := A5); intro A5 c5) | ((fail_if_success have := A6); intro A6 c6) | ((fail_if_success have := A7); intro A7 c7)))
                 | (((refine' Ef_appG_row rfl rfl rfl ?q1 ?q2 ?q3 ?q4 ?q5 ?q6 ?_); (case q1 => exact app_of rfl); (case q2 => (first | exact at0 | exact at1 | exact at2 | exact at3 | exact at4 | exact at5 | exact at6)); (case q3 => (repeat (first | exact .head _ | apply List.Mem.tail))); (case q4 => (first | assumption | (intro u hu; rcases hu with _ | ⟨_, _ | ⟨_, _ | ⟨_, _ | ⟨_, hu⟩⟩⟩⟩ <;> first | rfl | (cases hu; done)))); (case q5 => omega); (case q6 => omega))
                    (first | ((fail_if_success have := A1); intro A1 c1) | ((fail_if_success have := A2); intro A2 c2) | ((fail_if_success have := A3); intro A3 c3) | ((fail_if_success have := A4); intro A4 c4) | ((fail_if_success have := A5); intro A5 c5) | ((fail_if_success have := A6); intro A6 c6) | ((fail_if_success have := A7); intro A7 c7)))
                 | (((refine' Ef_appG_rd rfl rfl rfl ?q1 ?q2 ?q3 ?q4 ?q5 ?q6 ?q7 ?_); (case q1 => exact app_of rfl); (case q2 => (first | exact at0 | exact at1 | exact at2 | exact at3 | exact at4 | exact at5 | exact at6)); (case q3 => assumption); (case q4 => (first | assumption | (intro u hu; rcases hu with _ | ⟨_, _ | ⟨_, _ | ⟨_, _ | ⟨_, hu⟩⟩⟩⟩ <;> first | rfl | (cases hu; done)))); (case q5 => omega); (case q6 => omega); (case q7 => exact List.not_mem_nil))
                    (first | ((fail_if_success have := A1); intro A1 c1) | ((fail_if_success have := A2); intro A2 c2) | ((fail_if_success have := A3); intro A3 c3) | ((fail_if_success have := A4); intro A4 c4) | ((fail_if_success have := A5); intro A5 c5) | ((fail_if_success have := A6); intro A6 c6) | ((fail_if_success have := A7); intro A7 c7)))))
              | ((with_reducible refine ie_bsl ?_)
                 (first
                 | fail
                 | (((refine' Ef_bsl0 rfl ?q1 ?_); (case q1 => exact app_of rfl)); (first | ((fail_if_success have := b1); intro b1) | ((fail_if_success have := b2); intro b2) | ((fail_if_success have := b3); intro b3) | ((fail_if_success have := b4); intro b4) | ((fail_if_success have := b5); intro b5) | ((fail_if_success have := b6); intro b6) | ((fail_if_success have := b7); intro b7) | ((fail_if_success have := b8); intro b8) | ((fail_if_success have := b9); intro b9)))
                 | (((refine' Ef_bslA rfl rfl ?q1 ?q2 ?q3 ?_); (case q1 => exact app_of rfl); (case q2 => rfl); (case q3 => decide)); (first | ((fail_if_success have := b1); intro b1) | ((fail_if_success have := b2); intro b2) | ((fail_if_success have := b3); intro b3) | ((fail_if_success have := b4); intro b4) | ((fail_if_success have := b5); intro b5) | ((fail_if_success have := b6); intro b6) | ((fail_if_success have := b7); intro b7) | ((fail_if_success have := b8); intro b8) | ((fail_if_success have := b9); intro b9)))
                 | (((refine' Ef_bsl1 rfl rfl rfl ?q1 ?_); (case q1 => exact app_of rfl)); (first | ((fail_if_success have := b1); intro b1) | ((fail_if_success have := b2); intro b2) | ((fail_if_success have := b3); intro b3) | ((fail_if_success have := b4); intro b4) | ((fail_if_success have := b5); intro b5) | ((fail_if_success have := b6); intro b6) | ((fail_if_success have := b7); intro b7) | ((fail_if_success have := b8); intro b8) | ((fail_if_success have := b9); intro b9)))))
              | (first | fail)
              | refine Ef_y rfl rfl ?_
              | ((with_reducible refine ie_conv ?_); refine Ef_y' rfl ?_)
              | ((with_reducible refine ie_bmin ?_); refine Ef_y' rfl ?_)
              | ((with_reducible refine ie_bmax ?_); refine Ef_y' rfl ?_))
      exact ret_n [] (res2 rfl rfl rfl) (List.nil_sublist _) ⟨rfl, rfl⟩

theorem has_c (r need : Int) (w : World) (h1 : 0 ≤ r) (h2 : r ≤ 255) (h3 : 0 ≤ need) (h4 : need ≤ 255) : Sp Try.prog 16 [.int .u8 r, .int .u8 need] w [] fun v N => v = .bool (Rt.has r need) ∧ N = [] := by
  refine Sp.enter (n := 9) Try.func16 rfl rfl rfl (Hp.refl w) ?_
  repeat' (first
          | with_reducible refine T.seq ?_
          | with_reducible refine T.block ?_
          | with_reducible refine T.region ?_
          | with_reducible refine T.skip ?_
          | with_reducible refine T.ret ?_
          | with_reducible refine T.exit ?_
          | with_reducible refine seqQ_n ?_
          | with_reducible refine seqQ_x ?_
          | with_reducible refine seqQ_r ?_
          | with_reducible refine blockQ_n ?_
          | with_reducible refine blockQ_r ?_
          | with_reducible refine blockQ_x ?_
          | ((with_reducible refine g_blkx ?_); refine blockQ_y rfl ?_)
          | with_reducible refine loopQ_x ?_
          | with_reducible refine loopQ_r ?_
          | with_reducible refine joinQ_r ?_
          | with_reducible refine joinQ_x ?_
          | ((with_reducible refine g_cond ?_); (first | refine T.cond_t rfl ?_ | refine T.cond_f rfl ?_ | (refine T.cond_s rfl ?_ ?_ <;> intro hc)))
          | with_reducible refine TL_nil ?_
          | with_reducible refine TS_nil ?_
          | ((with_reducible refine g_draw ?_); (first | fail))
          | ((with_reducible refine TL_y' ?hy ?hd ?_); (case hy => rfl); (case hd => rfl))
          | with_reducible refine TL_e ?_
          | ((with_reducible refine g_TL ?_); (first | refine TL_gy' rfl rfl rfl rfl ?_ | refine TL_gn rfl rfl rfl ?_ | refine TL_gu rfl rfl rfl ?_ | refine TL_ge rfl rfl ?_ | refine TL_gn0 rfl rfl ?_))
          | ((with_reducible refine g_TS ?_); (first | refine TS_y rfl rfl ?_ | refine TS_e rfl ?_ | refine TS_gy rfl rfl rfl rfl ?_ | refine TS_gn rfl rfl rfl rfl ?_ | refine TS_gu rfl rfl rfl rfl ?_ | refine TS_ge rfl rfl rfl ?_ | refine TS_gne rfl rfl rfl rfl ?_ | refine TS_gue rfl rfl rfl rfl ?_ | refine TS_gne0 rfl rfl rfl ?_))
          | ((with_reducible refine TSand ?hd ?_); (case hd => (repeat (first | exact List.nil_sublist _ | refine List.Sublist.cons_cons _ ?_ | refine List.Sublist.cons _ ?_))))
          | ((with_reducible refine TBand ?hd ?_); (case hd => (repeat (first | exact List.nil_sublist _ | refine List.Sublist.cons_cons _ ?_ | refine List.Sublist.cons _ ?_))))
          | ((with_reducible refine g_TB ?_); (first | with_reducible refine TB_run ?_ | refine TB_y rfl rfl ?_ | refine TB_b rfl rfl ?_ ?_ | refine TB_e rfl ?_))
          | ((with_reducible refine is_move ?_); refine ⟨_, Yl_move rfl, ?_⟩)
          | ((with_reducible refine is_assign ?_); refine ⟨_, Yl_assign rfl, ?_⟩)
          | ((with_reducible refine is_pick ?_); (first | refine ⟨_, Yl_pick_t rfl rfl, ?_⟩ | refine ⟨_, Yl_pick_f rfl rfl, ?_⟩))
          | ((with_reducible refine is_nil ?_); refine ⟨_, Yl_nilCheck rfl, ?_⟩)
          | ((with_reducible refine is_fld ?_); (first | ((refine' ⟨_, Yl_fld_ad rfl ?q1, ?_⟩); (case q1 => exact fld_of rfl rfl)) | ((refine' ⟨_, Yl_fld_blk0 rfl ?q1, ?_⟩); (case q1 => exact fld_of rfl rfl)) | ((refine' ⟨_, Yl_fld_blk rfl ?q1, ?_⟩); (case q1 => exact fld_of rfl rfl))))
          | ((with_reducible refine is_load ?_)
             (first
             | fail
             | ((refine' ⟨_, Yl_load_blk rfl ?q1 ?q2 ?q3, ?_⟩); (case q1 => exact one_of rfl); (case q2 => (repeat (first | exact .head _ | apply List.Mem.tail))); (case q3 => rfl))
             | ((refine' ⟨_, Yl_loadA_blk rfl ?q1 ?q2, ?_⟩); (case q1 => (repeat (first | exact .head _ | apply List.Mem.tail))); (case q2 => exact agg_of rfl))
             | ((refine' ⟨_, Yl_load_blk rfl ?q1 ?q2 ?q3, ?_⟩); (case q1 => exact one_of rfl); (case q2 => (repeat (first | exact .head _ | apply List.Mem.tail))); (case q3 => assumption))
             | ((refine' ⟨_, Yl_load_rd rfl ?q1 ?q2 List.not_mem_nil ?q3, ?_⟩); (case q1 => exact one_of rfl); (case q2 => assumption); (case q3 => assumption))
             | ((refine' ⟨_, Yl_load_row rfl ?q1 ?q2 ?q3, ?_⟩); (case q1 => exact one_of rfl); (case q2 => (repeat (first | exact .head _ | apply List.Mem.tail))); (case q3 => assumption))
             | ((refine' ⟨_, Yl_loadA_rd rfl ?qa ?qb List.not_mem_nil ?ql ?qc, ?_⟩); (case qa => exact agg_of rfl); (case qb => assumption); (case qc => assumption); (case ql => rfl))
             | ((refine' ⟨_, Yl_loadA_row rfl ?qa ?qb ?ql ?qc, ?_⟩); (case qa => exact agg_of rfl); (case qb => (repeat (first | exact .head _ | apply List.Mem.tail))); (case qc => assumption); (case ql => rfl))))
          | ((with_reducible refine is_idx ?_)
             (first
             | fail
             | ((refine' ⟨_, Yl_index rfl rfl ?q1 ?q2 ?q3 (Rd.some_ ?q4 ?q5), ?_⟩); (case q1 => exact und_of rfl); (case q2 => exact siz_of rfl); (case q3 => omega); (case q4 => assumption); (case q5 => omega))
             | ((refine' ⟨_, Yl_index_row rfl rfl ?q1 ?q2 ?q3 ?q4, ?_⟩); (case q1 => exact und_of rfl); (case q2 => exact siz_of rfl); (case q3 => omega); (case q4 => (repeat (first | exact .head _ | apply List.Mem.tail))))
             | ((refine' ⟨_, Yl_index rfl rfl ?q1 ?q2 ?q3 rfl, ?_⟩); (case q1 => exact und_of rfl); (case q2 => exact siz_of rfl); (case q3 => omega))
             | ((refine' ⟨_, Yl_index (j := 0) rfl rfl ?q1 ?q2 ?q3 (Rd.some_ ?q4 ?q5), ?_⟩); (case q1 => exact und_of rfl); (case q2 => exact siz_of rfl); (case q3 => omega); (case q4 => assumption); (case q5 => omega))
             | ((refine' ⟨_, Yl_index_row (j := 0) rfl rfl ?q1 ?q2 ?q3 ?q4, ?_⟩); (case q1 => exact und_of rfl); (case q2 => exact siz_of rfl); (case q3 => omega); (case q4 => (repeat (first | exact .head _ | apply List.Mem.tail))))))
          | ((with_reducible refine is_ext ?_); refine ⟨_, Yl_extract rfl rfl, ?_⟩)
          | ((with_reducible refine is_un ?_); refine ⟨_, Yl_not rfl, ?_⟩)
          | ((with_reducible refine is_len ?_); (first | ((refine' ⟨_, Yl_len_slice rfl ?q1, ?_⟩); (case q1 => exact und_of rfl)) | ((refine' ⟨_, Yl_len_string rfl ?q1, ?_⟩); (case q1 => exact und_of rfl))))
          | ((with_reducible refine is_b_lss ?_); (first | ((refine' ⟨_, Yl_lss_t rfl rfl ?q1, ?_⟩); (case q1 => omega)) | ((refine' ⟨_, Yl_lss_f rfl rfl ?q1, ?_⟩); (case q1 => omega)) | (refine sp_lss rfl rfl ?_ ?_ <;> intro hc)))
          | ((with_reducible refine is_b_leq ?_); (first | ((refine' ⟨_, Yl_leq_t rfl rfl ?q1, ?_⟩); (case q1 => omega)) | ((refine' ⟨_, Yl_leq_f rfl rfl ?q1, ?_⟩); (case q1 => omega)) | (refine sp_leq rfl rfl ?_ ?_ <;> intro hc)))
          | ((with_reducible refine is_b_gtr ?_); (first | ((refine' ⟨_, Yl_gtr_t rfl rfl ?q1, ?_⟩); (case q1 => omega)) | ((refine' ⟨_, Yl_gtr_f rfl rfl ?q1, ?_⟩); (case q1 => omega)) | (refine sp_gtr rfl rfl ?_ ?_ <;> intro hc)))
          | ((with_reducible refine is_b_geq ?_); (first | ((refine' ⟨_, Yl_geq_t rfl rfl ?q1, ?_⟩); (case q1 => omega)) | ((refine' ⟨_, Yl_geq_f rfl rfl ?q1, ?_⟩); (case q1 => omega)) | (refine sp_geq rfl rfl ?_ ?_ <;> intro hc)))
          | ((with_reducible refine is_b_eql ?_)
             (first
             | ((refine' ⟨_, Yl_eql_t rfl rfl ?q1, ?_⟩); (case q1 => omega))
             | ((refine' ⟨_, Yl_eql_f rfl rfl ?q1, ?_⟩); (case q1 => omega))
             | (refine sp_eql rfl rfl ?_ ?_ <;> intro hc)
             | ((refine' ⟨_, Yl_indexV rfl rfl ?q1 ?q2 ?q3 ?q4 ?q5, ?_⟩); (case q1 => exact und_of rfl); (case q2 => exact one_of rfl); (case q3 => exact siz_of rfl); (case q4 => omega); (case q5 => assumption))
             | ((refine' ⟨_, Yl_convI rfl ?q1 ?q2 ?q3, ?_⟩); (case q1 => exact und_of rfl); (case q2 => exact und_of rfl); (case q3 => ((refine' u64_in ?q1); (case q1 => omega))))
             | ((refine' ⟨_, Yl_shr8 rfl rfl ?q1, ?_⟩); (case q1 => omega))
             | ((refine' ⟨_, Yl_and1 rfl rfl ?q1 ?q2, ?_⟩); (case q1 => omega); (case q2 => omega))
             | refine ⟨_, Yl_eql_str rfl rfl, ?_⟩
             | ((refine' ⟨_, Yl_str_row rfl ?q1 ?q2 ?q3 ?q4 ?q5, ?_⟩); (case q1 => exact und_of rfl); (case q2 => exact und_of rfl); (case q3 => exact und_of rfl); (case q4 => omega); (case q5 => (repeat (first | exact .head _ | apply List.Mem.tail))))
             | ((refine' ⟨_, Yl_andNot8 rfl rfl ?q1 ?q2 ?q3 ?q4, ?_⟩); (case q1 => omega); (case q2 => omega); (case q3 => omega); (case q4 => omega))
             | ((refine' ⟨_, Yl_eql_bool rfl rfl ?q1, ?_⟩); (case q1 => exact und_of rfl))
             | ((refine' ⟨_, Yl_eql_strT rfl rfl ?q1, ?_⟩); (case q1 => first | assumption | rfl))
             | ((refine' ⟨_, Yl_eql_strF rfl rfl ?q1, ?_⟩); (case q1 => first | assumption | decide))
             | (refine sp_eqlS rfl rfl ?_ ?_ <;> intro hc)))
          | ((with_reducible refine is_b_neq ?_)
             (first
             | ((refine' ⟨_, Yl_neq_t rfl rfl ?q1, ?_⟩); (case q1 => omega))
             | ((refine' ⟨_, Yl_neq_f rfl rfl ?q1, ?_⟩); (case q1 => omega))
             | (refine sp_neq rfl rfl ?_ ?_ <;> intro hc)
             | ((refine' ⟨_, Yl_indexV rfl rfl ?q1 ?q2 ?q3 ?q4 ?q5, ?_⟩); (case q1 => exact und_of rfl); (case q2 => exact one_of rfl); (case q3 => exact siz_of rfl); (case q4 => omega); (case q5 => assumption))
             | ((refine' ⟨_, Yl_convI rfl ?q1 ?q2 ?q3, ?_⟩); (case q1 => exact und_of rfl); (case q2 => exact und_of rfl); (case q3 => ((refine' u64_in ?q1); (case q1 => omega))))
             | ((refine' ⟨_, Yl_shr8 rfl rfl ?q1, ?_⟩); (case q1 => omega))
             | ((refine' ⟨_, Yl_and1 rfl rfl ?q1 ?q2, ?_⟩); (case q1 => omega); (case q2 => omega))
             | refine ⟨_, Yl_eql_str rfl rfl, ?_⟩
             | ((refine' ⟨_, Yl_str_row rfl ?q1 ?q2 ?q3 ?q4 ?q5, ?_⟩); (case q1 => exact und_of rfl); (case q2 => exact und_of rfl); (case q3 => exact und_of rfl); (case q4 => omega); (case q5 => (repeat (first | exact .head _ | apply List.Mem.tail))))
             | ((refine' ⟨_, Yl_andNot8 rfl rfl ?q1 ?q2 ?q3 ?q4, ?_⟩); (case q1 => omega); (case q2 => omega); (case q3 => omega); (case q4 => omega))
             | ((refine' ⟨_, Yl_neq_bool rfl rfl ?q1, ?_⟩); (case q1 => exact und_of rfl))
             | ((refine' ⟨_, Yl_neq_strT rfl rfl ?q1, ?_⟩); (case q1 => first | assumption | decide))
             | ((refine' ⟨_, Yl_neq_strF rfl rfl ?q1, ?_⟩); (case q1 => first | assumption | rfl))
             | (refine sp_neqS rfl rfl ?_ ?_ <;> intro hc)))
          | ((with_reducible refine is_b_add ?_)
             (first
             | ((refine' ⟨_, Yl_add rfl rfl ?q1 ?q2, ?_⟩); (case q1 => omega); (case q2 => omega))
             | ((refine' ⟨_, Yl_add8 rfl rfl ?q1 ?q2, ?_⟩); (case q1 => omega); (case q2 => omega))
             | ((refine' ⟨_, Yl_indexV rfl rfl ?q1 ?q2 ?q3 ?q4 ?q5, ?_⟩); (case q1 => exact und_of rfl); (case q2 => exact one_of rfl); (case q3 => exact siz_of rfl); (case q4 => omega); (case q5 => assumption))
             | ((refine' ⟨_, Yl_convI rfl ?q1 ?q2 ?q3, ?_⟩); (case q1 => exact und_of rfl); (case q2 => exact und_of rfl); (case q3 => ((refine' u64_in ?q1); (case q1 => omega))))
             | ((refine' ⟨_, Yl_shr8 rfl rfl ?q1, ?_⟩); (case q1 => omega))
             | ((refine' ⟨_, Yl_and1 rfl rfl ?q1 ?q2, ?_⟩); (case q1 => omega); (case q2 => omega))
             | refine ⟨_, Yl_eql_str rfl rfl, ?_⟩
             | ((refine' ⟨_, Yl_str_row rfl ?q1 ?q2 ?q3 ?q4 ?q5, ?_⟩); (case q1 => exact und_of rfl); (case q2 => exact und_of rfl); (case q3 => exact und_of rfl); (case q4 => omega); (case q5 => (repeat (first | exact .head _ | apply List.Mem.tail))))
             | ((refine' ⟨_, Yl_andNot8 rfl rfl ?q1 ?q2 ?q3 ?q4, ?_⟩); (case q1 => omega); (case q2 => omega); (case q3 => omega); (case q4 => omega))))
          | ((with_reducible refine is_min ?_); refine ⟨_, Yl_min rfl rfl, ?_⟩)
          | ((with_reducible refine is_max ?_); refine ⟨_, Yl_max rfl rfl, ?_⟩)
          | ((with_reducible refine is_b_sub ?_)
             (first
             | ((refine' ⟨_, Yl_sub rfl rfl ?q1 ?q2, ?_⟩); (case q1 => omega); (case q2 => omega))
             | ((refine' ⟨_, Yl_indexV rfl rfl ?q1 ?q2 ?q3 ?q4 ?q5, ?_⟩); (case q1 => exact und_of rfl); (case q2 => exact one_of rfl); (case q3 => exact siz_of rfl); (case q4 => omega); (case q5 => assumption))
             | ((refine' ⟨_, Yl_convI rfl ?q1 ?q2 ?q3, ?_⟩); (case q1 => exact und_of rfl); (case q2 => exact und_of rfl); (case q3 => ((refine' u64_in ?q1); (case q1 => omega))))
             | ((refine' ⟨_, Yl_shr8 rfl rfl ?q1, ?_⟩); (case q1 => omega))
             | ((refine' ⟨_, Yl_and1 rfl rfl ?q1 ?q2, ?_⟩); (case q1 => omega); (case q2 => omega))
             | refine ⟨_, Yl_eql_str rfl rfl, ?_⟩
             | ((refine' ⟨_, Yl_str_row rfl ?q1 ?q2 ?q3 ?q4 ?q5, ?_⟩); (case q1 => exact und_of rfl); (case q2 => exact und_of rfl); (case q3 => exact und_of rfl); (case q4 => omega); (case q5 => (repeat (first | exact .head _ | apply List.Mem.tail))))
             | ((refine' ⟨_, Yl_andNot8 rfl rfl ?q1 ?q2 ?q3 ?q4, ?_⟩); (case q1 => omega); (case q2 => omega); (case q3 => omega); (case q4 => omega))))
          | ((with_reducible refine is_build ?_); (first | refine ⟨_, Yl_build rfl letters_b, ?_⟩))
          | (first
            | ((refine' ⟨_, Yl_indexV rfl rfl ?q1 ?q2 ?q3 ?q4 ?q5, ?_⟩); (case q1 => exact und_of rfl); (case q2 => exact one_of rfl); (case q3 => exact siz_of rfl); (case q4 => omega); (case q5 => assumption))
            | ((refine' ⟨_, Yl_convI rfl ?q1 ?q2 ?q3, ?_⟩); (case q1 => exact und_of rfl); (case q2 => exact und_of rfl); (case q3 => ((refine' u64_in ?q1); (case q1 => omega))))
            | ((refine' ⟨_, Yl_shr8 rfl rfl ?q1, ?_⟩); (case q1 => omega))
            | ((refine' ⟨_, Yl_and1 rfl rfl ?q1 ?q2, ?_⟩); (case q1 => omega); (case q2 => omega))
            | refine ⟨_, Yl_eql_str rfl rfl, ?_⟩
            | ((refine' ⟨_, Yl_str_row rfl ?q1 ?q2 ?q3 ?q4 ?q5, ?_⟩); (case q1 => exact und_of rfl); (case q2 => exact und_of rfl); (case q3 => exact und_of rfl); (case q4 => omega); (case q5 => (repeat (first | exact .head _ | apply List.Mem.tail))))
            | ((refine' ⟨_, Yl_andNot8 rfl rfl ?q1 ?q2 ?q3 ?q4, ?_⟩); (case q1 => omega); (case q2 => omega); (case q3 => omega); (case q4 => omega)))
          | ((with_reducible refine ie_box ?_)
             (first
             | (refine Ef_boxA rfl rfl ?_; (first | ((fail_if_success have := b1); intro b1) | ((fail_if_success have := b2); intro b2) | ((fail_if_success have := b3); intro b3) | ((fail_if_success have := b4); intro b4) | ((fail_if_success have := b5); intro b5) | ((fail_if_success have := b6); intro b6) | ((fail_if_success have := b7); intro b7) | ((fail_if_success have := b8); intro b8) | ((fail_if_success have := b9); intro b9)))
             | (refine Ef_box1 rfl rfl rfl ?_; (first | ((fail_if_success have := b1); intro b1) | ((fail_if_success have := b2); intro b2) | ((fail_if_success have := b3); intro b3) | ((fail_if_success have := b4); intro b4) | ((fail_if_success have := b5); intro b5) | ((fail_if_success have := b6); intro b6) | ((fail_if_success have := b7); intro b7) | ((fail_if_success have := b8); intro b8) | ((fail_if_success have := b9); intro b9)))))
          | ((with_reducible refine ie_alloc ?_); (first | fail | (((refine' Ef_alloc rfl ?q1 ?_); (case q1 => exact zer_of rfl)); (first | ((fail_if_success have := b1); intro b1) | ((fail_if_success have := b2); intro b2) | ((fail_if_success have := b3); intro b3) | ((fail_if_success have := b4); intro b4) | ((fail_if_success have := b5); intro b5) | ((fail_if_success have := b6); intro b6) | ((fail_if_success have := b7); intro b7) | ((fail_if_success have := b8); intro b8) | ((fail_if_success have := b9); intro b9)))))
          | ((with_reducible refine ie_store ?_)
             (first
             | fail
             | ((refine' Ef_store_rowA rfl rfl ?q1 ?q2 ?q3 ?q4 ?q5 ?q6 ?_); (case q1 => exact siz_of rfl); (case q2 => rfl); (case q3 => (first | assumption | (intro u hu; rcases hu with _ | ⟨_, _ | ⟨_, _ | ⟨_, _ | ⟨_, hu⟩⟩⟩⟩ <;> first | rfl | (cases hu; done)))); (case q4 => (first | exact at0 | exact at1 | exact at2 | exact at3 | exact at4 | exact at5 | exact at6)); (case q5 => omega); (case q6 => assumption))
             | ((refine' Ef_storeA' rfl rfl ?q1 ?q2 ?q3 ?q4 ?_); (case q1 => exact siz_of rfl); (case q2 => (first | assumption | (intro u hu; rcases hu with _ | ⟨_, _ | ⟨_, _ | ⟨_, _ | ⟨_, hu⟩⟩⟩⟩ <;> first | rfl | (cases hu; done)))); (case q3 => (first | exact at0 | exact at1 | exact at2 | exact at3 | exact at4 | exact at5 | exact at6)); (case q4 => rfl))
             | ((refine' Ef_storeC rfl rfl ?q1 ?q2 ?q3 ?q4 ?q5 ?_); (case q1 => rfl); (case q2 => exact siz_of rfl); (case q3 => (first | exact at0 | exact at1 | exact at2 | exact at3 | exact at4 | exact at5 | exact at6)); (case q4 => exact Nat.le_of_ble_eq_true rfl); (case q5 => rfl))))
          | ((with_reducible refine ie_callf ?_); (first | ((with_reducible refine g_call 22 ?_); (first | refine Ef_callP rfl rfl ent_22 (fun w _ => letters_c w) ?_)) | ((with_reducible refine g_call 11 ?_); (first | ((refine' Ef_callP rfl rfl ent_11 (fun w _ => text_c _ w ?q1 ?q2) ?_); (case q1 => omega); (case q2 => omega))))))
          | ((with_reducible refine ie_app ?_)
             (first
             | fail
             | (((refine' Ef_app0_rd rfl rfl rfl ?q1 ?q2 ?q3 ?q4 ?q5 ?q6 ?q7 ?_); (case q1 => exact app_of rfl); (case q2 => (first | exact at0 | exact at1 | exact at2 | exact at3 | exact at4 | exact at5 | exact at6)); (case q3 => assumption); (case q4 => (first | assumption | (intro u hu; rcases hu with _ | ⟨_, _ | ⟨_, _ | ⟨_, _ | ⟨_, hu⟩⟩⟩⟩ <;> first | rfl | (cases hu; done)))); (case q5 => omega); (case q6 => omega); (case q7 => exact List.not_mem_nil))
                (first | ((fail_if_success have := A1); intro A1 c1) | ((fail_if_success have := A2); intro A2 c2) | ((fail_if_success have := A3); intro A3 c3) | ((fail_if_success have := A4); intro A4 c4) | ((fail_if_success have := A5); intro A5 c5) | ((fail_if_success have := A6); intro A6 c6) | ((fail_if_success have := A7); intro A7 c7)))
             | (((refine' Ef_appG_row rfl rfl rfl ?q1 ?q2 ?q3 ?q4 ?q5 ?q6 ?_); (case q1 => exact app_of rfl); (case q2 => (first | exact at0 | exact at1 | exact at2 | exact at3 | exact at4 | exact at5 | exact at6)); (case q3 => (repeat (first | exact .head _ | apply List.Mem.tail))); (case q4 => (first | assumption | (intro u hu; rcases hu with _ | ⟨_, _ | ⟨_, _ | ⟨_, _ | ⟨_, hu⟩⟩⟩⟩ <;> first | rfl | (cases hu; done)))); (case q5 => omega); (case q6 => omega))
                (first | ((fail_if_success have := A1); intro A1 c1) | ((fail_if_success have := A2); intro A2 c2) | ((fail_if_success have := A3); intro A3 c3) | ((fail_if_success have := A4); intro A4 c4) | ((fail_if_success have := A5); intro A5 c5) | ((fail_if_success have := A6); intro A6 c6) | ((fail_if_success have := A7); intro A7 c7)))
             | (((refine' Ef_appG_rd rfl rfl rfl ?q1 ?q2 ?q3 ?q4 ?q5 ?q6 ?q7 ?_); (case q1 => exact app_of rfl); (case q2 => (first | exact at0 | exact at1 | exact at2 | exact at3 | exact at4 | exact at5 | exact at6)); (case q3 => assumption); (case q4 => (first | assumption | (intro u hu; rcases hu with _ | ⟨_, _ | ⟨_, _ | ⟨_, _ | ⟨_, hu⟩⟩⟩⟩ <;> first | rfl | (cases hu; done)))); (case q5 => omega); (case q6 => omega); (case q7 => exact List.not_mem_nil))
                (first | ((fail_if_success have := A1); intro A1 c1) | ((fail_if_success have := A2); intro A2 c2) | ((fail_if_success have := A3); intro A3 c3) | ((fail_if_success have := A4); intro A4 c4) | ((fail_if_success have := A5); intro A5 c5) | ((fail_if_success have := A6); intro A6 c6) | ((fail_if_success have := A7); intro A7 c7)))))
          | ((with_reducible refine ie_bsl ?_)
             (first
             | fail
             | (((refine' Ef_bsl0 rfl ?q1 ?_); (case q1 => exact app_of rfl)); (first | ((fail_if_success have := b1); intro b1) | ((fail_if_success have := b2); intro b2) | ((fail_if_success have := b3); intro b3) | ((fail_if_success have := b4); intro b4) | ((fail_if_success have := b5); intro b5) | ((fail_if_success have := b6); intro b6) | ((fail_if_success have := b7); intro b7) | ((fail_if_success have := b8); intro b8) | ((fail_if_success have := b9); intro b9)))
             | (((refine' Ef_bslA rfl rfl ?q1 ?q2 ?q3 ?_); (case q1 => exact app_of rfl); (case q2 => rfl); (case q3 => decide)); (first | ((fail_if_success have := b1); intro b1) | ((fail_if_success have := b2); intro b2) | ((fail_if_success have := b3); intro b3) | ((fail_if_success have := b4); intro b4) | ((fail_if_success have := b5); intro b5) | ((fail_if_success have := b6); intro b6) | ((fail_if_success have := b7); intro b7) | ((fail_if_success have := b8); intro b8) | ((fail_if_success have := b9); intro b9)))
             | (((refine' Ef_bsl1 rfl rfl rfl ?q1 ?_); (case q1 => exact app_of rfl)); (first | ((fail_if_success have := b1); intro b1) | ((fail_if_success have := b2); intro b2) | ((fail_if_success have := b3); intro b3) | ((fail_if_success have := b4); intro b4) | ((fail_if_success have := b5); intro b5) | ((fail_if_success have := b6); intro b6) | ((fail_if_success have := b7); intro b7) | ((fail_if_success have := b8); intro b8) | ((fail_if_success have := b9); intro b9)))))
          | (first | fail)
          | refine Ef_y rfl rfl ?_
          | ((with_reducible refine ie_conv ?_); refine Ef_y' rfl ?_)
          | ((with_reducible refine ie_bmin ?_); refine Ef_y' rfl ?_)
          | ((with_reducible refine ie_bmax ?_); refine Ef_y' rfl ?_))
  · have e : Rt.has r need = true := decide_eq_true (by assumption)
    exact ret_n [] (res1 rfl rfl) (List.nil_sublist _) ⟨by rw [e], rfl⟩
  · have e : Rt.has r need = false := decide_eq_false (by assumption)
    exact ret_n [] (res1 rfl rfl) (List.nil_sublist _) ⟨by rw [e], rfl⟩
end Go.Proofs.Ytiekpkkmiciakaa
