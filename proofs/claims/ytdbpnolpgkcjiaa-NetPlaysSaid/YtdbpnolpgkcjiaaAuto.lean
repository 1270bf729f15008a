/- One step of a walk, as a law: the new goal is found by the step's tactic. -/
import Derived.Test.YtdbpnolpgkcjiaaBag
namespace Go.Proofs.Ytdbpnolpgkcjiaa
open Go.RowKit
set_option maxRecDepth 20000

section
variable {P : Program} {n : Nat} {w0 : World} {R : List Nat} {L : List (Nat × Value)} {M : List Asrt} {ops : Array Oper} {K : List (Nat × Value) → List Asrt → Prop}
theorem TL_app {o : Oper} {a b : List Oper} (h : TL P n w0 R ops K (o :: List.append a b) L M) : TL P n w0 R ops K (List.append (o :: a) b) L M := h
theorem TL_app0 {b : List Oper} (h : TL P n w0 R ops K b L M) : TL P n w0 R ops K (List.append [] b) L M := h
theorem g_T {c : Code} {Q : Exit → List (Nat × Value) → List Asrt → Prop} (h : T P n w0 R c Q L M) : T P n w0 R c Q L M := h
theorem g_ex {op : Op} {ty : TypeId} {V : Value → Prop} (h : ∃ v, Yl P n w0 R op ty L M v ∧ V v) : ∃ v, Yl P n w0 R op ty L M v ∧ V v := h
theorem g_Ef {d : Option Nat} {op : Op} {ty : TypeId} (h : Ef P n w0 R d op ty L M K) : Ef P n w0 R d op ty L M K := h
end

/-- What is left to show. -/
structure Left (G : Prop) : Prop where
  out : G

theorem w1 {G H : Prop} (h : H) (s : Left H → G := by
 first | (intro left; (first
     | ((with_reducible refine TL_y' ?hy ?hd ?_); (case hy => rfl); (case hd => rfl))
     | ((with_reducible refine g_ex ?_); (first
     | ((with_reducible refine is_move ?_); refine ⟨_, Yl_move rfl, ?_⟩)
     | ((with_reducible refine is_assign ?_); refine ⟨_, Yl_assign rfl, ?_⟩)
     | ((with_reducible refine is_pick ?_); (first | refine ⟨_, Yl_pick_t rfl rfl, ?_⟩ | refine ⟨_, Yl_pick_f rfl rfl, ?_⟩))
     | ((with_reducible refine is_nil ?_); refine ⟨_, Yl_nilCheck rfl, ?_⟩)
     | ((with_reducible refine is_fld ?_); (first | ((refine' ⟨_, Yl_fld_ad rfl ?q1, ?_⟩); (case q1 => exact fld_of rfl rfl)) | ((refine' ⟨_, Yl_fld_blk0 rfl ?q1, ?_⟩); (case q1 => exact fld_of rfl rfl)) | ((refine' ⟨_, Yl_fld_blk rfl ?q1, ?_⟩); (case q1 => exact fld_of rfl rfl))))
     | ((with_reducible refine is_load ?_); (first
     | ((refine' ⟨_, Yl_load_blk rfl ?q1 ?q2 ?q3, ?_⟩); (case q1 => exact one_of rfl); (case q2 => (repeat (first | exact .head _ | apply List.Mem.tail))); (case q3 => rfl))
     | ((refine' ⟨_, Yl_loadA_blk rfl ?q1 ?q2, ?_⟩); (case q1 => (repeat (first | exact .head _ | apply List.Mem.tail))); (case q2 => exact agg_of rfl))
     | ((refine' ⟨_, Yl_load_blk rfl ?q1 ?q2 ?q3, ?_⟩); (case q1 => exact one_of rfl); (case q2 => (repeat (first | exact .head _ | apply List.Mem.tail))); (case q3 => assumption))
     | ((refine' ⟨_, Yl_load_rd rfl ?q1 ?q2 List.not_mem_nil ?q3, ?_⟩); (case q1 => exact one_of rfl); (case q2 => assumption); (case q3 => assumption))
     | ((refine' ⟨_, Yl_load_row rfl ?q1 ?q2 ?q3, ?_⟩); (case q1 => exact one_of rfl); (case q2 => (repeat (first | exact .head _ | apply List.Mem.tail))); (case q3 => assumption))
     | ((refine' ⟨_, Yl_loadA_rd rfl ?qa ?qb List.not_mem_nil ?ql ?qc, ?_⟩); (case qa => exact agg_of rfl); (case qb => assumption); (case qc => assumption); (case ql => rfl))
     | ((refine' ⟨_, Yl_loadA_row rfl ?qa ?qb ?ql ?qc, ?_⟩); (case qa => exact agg_of rfl); (case qb => (repeat (first | exact .head _ | apply List.Mem.tail))); (case qc => assumption); (case ql => rfl))))
     | ((with_reducible refine is_idx ?_); (first
     | ((refine' ⟨_, Yl_index rfl rfl ?q1 ?q2 ?q3 (Rd.some_ ?q4 ?q5), ?_⟩); (case q1 => exact und_of rfl); (case q2 => exact siz_of rfl); (case q3 => omega); (case q4 => assumption); (case q5 => omega))
     | ((refine' ⟨_, Yl_index_row rfl rfl ?q1 ?q2 ?q3 ?q4, ?_⟩); (case q1 => exact und_of rfl); (case q2 => exact siz_of rfl); (case q3 => omega); (case q4 => (repeat (first | exact .head _ | apply List.Mem.tail))))
     | ((refine' ⟨_, Yl_index rfl rfl ?q1 ?q2 ?q3 rfl, ?_⟩); (case q1 => exact und_of rfl); (case q2 => exact siz_of rfl); (case q3 => omega))
     | ((refine' ⟨_, Yl_index (j := 0) rfl rfl ?q1 ?q2 ?q3 (Rd.some_ ?q4 ?q5), ?_⟩); (case q1 => exact und_of rfl); (case q2 => exact siz_of rfl); (case q3 => omega); (case q4 => assumption); (case q5 => omega))
     | ((refine' ⟨_, Yl_index_row (j := 0) rfl rfl ?q1 ?q2 ?q3 ?q4, ?_⟩); (case q1 => exact und_of rfl); (case q2 => exact siz_of rfl); (case q3 => omega); (case q4 => (repeat (first | exact .head _ | apply List.Mem.tail))))
     | ((refine' ⟨_, Yl_indexI rfl rfl ?q1 ?q2 ?q3 ?q4 (Rd.some_ ?q5 ?q6), ?_⟩); (case q1 => exact und_of rfl); (case q2 => exact siz_of rfl); (case q3 => omega); (case q4 => omega); (case q5 => assumption); (case q6 => omega))))
     | ((with_reducible refine is_ext ?_); refine ⟨_, Yl_extract rfl rfl, ?_⟩)
     | ((with_reducible refine is_un ?_); refine ⟨_, Yl_not rfl, ?_⟩)
     | ((with_reducible refine is_len ?_); (first | ((refine' ⟨_, Yl_len_slice rfl ?q1, ?_⟩); (case q1 => exact und_of rfl)) | ((refine' ⟨_, Yl_len_string rfl ?q1, ?_⟩); (case q1 => exact und_of rfl))))
     | ((with_reducible refine is_b_lss ?_); (first | ((refine' ⟨_, Yl_lss_strT rfl rfl ?q1, ?_⟩); (case q1 => assumption)) | ((refine' ⟨_, Yl_lss_strF rfl rfl ?q1, ?_⟩); (case q1 => assumption)) | ((refine' ⟨_, Yl_lss_t rfl rfl ?q1, ?_⟩); (case q1 => omega)) | ((refine' ⟨_, Yl_lss_f rfl rfl ?q1, ?_⟩); (case q1 => omega))))
     | ((with_reducible refine is_b_leq ?_); (first | ((refine' ⟨_, Yl_leq_strT rfl rfl ?q1, ?_⟩); (case q1 => assumption)) | ((refine' ⟨_, Yl_leq_strF rfl rfl ?q1, ?_⟩); (case q1 => assumption)) | ((refine' ⟨_, Yl_leq_t rfl rfl ?q1, ?_⟩); (case q1 => omega)) | ((refine' ⟨_, Yl_leq_f rfl rfl ?q1, ?_⟩); (case q1 => omega))))
     | ((with_reducible refine is_b_gtr ?_); (first | ((refine' ⟨_, Yl_gtr_strT rfl rfl ?q1, ?_⟩); (case q1 => assumption)) | ((refine' ⟨_, Yl_gtr_strF rfl rfl ?q1, ?_⟩); (case q1 => assumption)) | ((refine' ⟨_, Yl_gtr_t rfl rfl ?q1, ?_⟩); (case q1 => omega)) | ((refine' ⟨_, Yl_gtr_f rfl rfl ?q1, ?_⟩); (case q1 => omega))))
     | ((with_reducible refine is_b_geq ?_); (first | ((refine' ⟨_, Yl_geq_strT rfl rfl ?q1, ?_⟩); (case q1 => assumption)) | ((refine' ⟨_, Yl_geq_strF rfl rfl ?q1, ?_⟩); (case q1 => assumption)) | ((refine' ⟨_, Yl_geq_t rfl rfl ?q1, ?_⟩); (case q1 => omega)) | ((refine' ⟨_, Yl_geq_f rfl rfl ?q1, ?_⟩); (case q1 => omega))))
     | ((with_reducible refine is_b_eql ?_); (first | ((refine' ⟨_, Yl_eql_t rfl rfl ?q1, ?_⟩); (case q1 => omega)) | ((refine' ⟨_, Yl_eql_f rfl rfl ?q1, ?_⟩); (case q1 => omega)) | ((refine' ⟨_, Yl_eql_bool rfl rfl ?q1, ?_⟩); (case q1 => exact und_of rfl)) | ((refine' ⟨_, Yl_eql_strT rfl rfl ?q1, ?_⟩); (case q1 => first | assumption | rfl)) | ((refine' ⟨_, Yl_eql_strF rfl rfl ?q1, ?_⟩); (case q1 => first | assumption | decide))))
     | ((with_reducible refine is_b_neq ?_); (first | ((refine' ⟨_, Yl_neq_t rfl rfl ?q1, ?_⟩); (case q1 => omega)) | ((refine' ⟨_, Yl_neq_f rfl rfl ?q1, ?_⟩); (case q1 => omega)) | ((refine' ⟨_, Yl_neq_bool rfl rfl ?q1, ?_⟩); (case q1 => exact und_of rfl)) | ((refine' ⟨_, Yl_neq_strT rfl rfl ?q1, ?_⟩); (case q1 => first | assumption | decide)) | ((refine' ⟨_, Yl_neq_strF rfl rfl ?q1, ?_⟩); (case q1 => first | assumption | rfl))))
     | ((with_reducible refine is_b_add ?_); (first | ((refine' ⟨_, Yl_add rfl rfl ?q1 ?q2, ?_⟩); (case q1 => omega); (case q2 => omega)) | ((refine' ⟨_, Yl_add8 rfl rfl ?q1 ?q2, ?_⟩); (case q1 => omega); (case q2 => omega))))
     | ((with_reducible refine is_slice ?_); (first | ((refine' ⟨_, Yl_sl_l rfl rfl ?q1 ?q2 ?q3, ?_⟩); (case q1 => exact und_of rfl); (case q2 => exact siz_of rfl); (case q3 => omega)) | ((refine' ⟨_, Yl_sl_h rfl rfl ?q1 ?q2 ?q3, ?_⟩); (case q1 => exact und_of rfl); (case q2 => exact siz_of rfl); (case q3 => omega)) | ((refine' ⟨_, Yl_sl_lh rfl rfl rfl ?q1 ?q2 ?q3 ?q4, ?_⟩); (case q1 => exact und_of rfl); (case q2 => exact siz_of rfl); (case q3 => omega); (case q4 => omega)) | ((refine' ⟨_, Yl_sl_hm rfl rfl rfl ?q1 ?q2 ?q3 ?q4, ?_⟩); (case q1 => exact und_of rfl); (case q2 => exact siz_of rfl); (case q3 => omega); (case q4 => omega))))
     | ((with_reducible refine is_mkf ?_); refine ⟨_, Yl_mkf rfl, ?_⟩)
     | ((with_reducible refine is_min ?_); refine ⟨_, Yl_min rfl rfl, ?_⟩)
     | ((with_reducible refine is_max ?_); refine ⟨_, Yl_max rfl rfl, ?_⟩)
     | ((with_reducible refine is_b_sub ?_); ((refine' ⟨_, Yl_sub rfl rfl ?q1 ?q2, ?_⟩); (case q1 => omega); (case q2 => omega)))))
     | with_reducible refine TL_e ?_
     | ((with_reducible refine g_TL ?_); (first | with_reducible refine TL_nil ?_ | refine TL_gy' rfl rfl rfl rfl ?_ | refine TL_gn rfl rfl rfl ?_ | refine TL_gu rfl rfl rfl ?_ | refine TL_ge rfl rfl ?_ | refine TL_gn0 rfl rfl ?_ | with_reducible refine TL_app ?_ | with_reducible refine TL_app0 ?_))
     | ((with_reducible refine g_Ef ?_); (first
     | ((with_reducible refine ie_store ?_); (first
     | ((refine' Ef_store_row1 rfl rfl ?q1 ?q2 ?q3 ?q4 ?q5 ?_); (case q1 => rfl); (case q2 => exact siz_of rfl); (case q3 => (first | exact at0 | exact at1 | exact at2 | exact at3 | exact at4 | exact at5 | exact at6)); (case q4 => omega); (case q5 => assumption))
     | ((refine' Ef_store_rowA rfl rfl ?q1 ?q2 ?q3 ?q4 ?q5 ?q6 ?_); (case q1 => exact siz_of rfl); (case q2 => rfl); (case q3 => (first | assumption | (intro u hu; rcases hu with _ | ⟨_, _ | ⟨_, _ | ⟨_, _ | ⟨_, hu⟩⟩⟩⟩ <;> first | rfl | (cases hu; done)))); (case q4 => (first | exact at0 | exact at1 | exact at2 | exact at3 | exact at4 | exact at5 | exact at6)); (case q5 => omega); (case q6 => assumption))
     | ((refine' Ef_storeA' rfl rfl ?q1 ?q2 ?q3 ?q4 ?_); (case q1 => exact siz_of rfl); (case q2 => (first | assumption | (intro u hu; rcases hu with _ | ⟨_, _ | ⟨_, _ | ⟨_, _ | ⟨_, hu⟩⟩⟩⟩ <;> first | rfl | (cases hu; done)))); (case q3 => (first | exact at0 | exact at1 | exact at2 | exact at3 | exact at4 | exact at5 | exact at6)); (case q4 => rfl))
     | ((refine' Ef_storeC rfl rfl ?q1 ?q2 ?q3 ?q4 ?q5 ?_); (case q1 => rfl); (case q2 => exact siz_of rfl); (case q3 => (first | exact at0 | exact at1 | exact at2 | exact at3 | exact at4 | exact at5 | exact at6)); (case q4 => exact Nat.le_of_ble_eq_true rfl); (case q5 => rfl))))
     | refine Ef_y rfl rfl ?_
     | ((with_reducible refine ie_conv ?_); refine Ef_y' rfl ?_)
     | ((with_reducible refine ie_bmin ?_); refine Ef_y' rfl ?_)
     | ((with_reducible refine ie_bmax ?_); refine Ef_y' rfl ?_)))
     | ((with_reducible refine g_T ?_); (first | with_reducible refine T.seq ?_ | with_reducible refine T.block ?_ | with_reducible refine T.region ?_ | with_reducible refine T.skip ?_ | with_reducible refine T.ret ?_ | with_reducible refine T.exit ?_ | ((with_reducible refine g_cond ?_); (first | refine T.cond_t rfl ?_ | refine T.cond_f rfl ?_)) | with_reducible refine T.scope ?_ | with_reducible refine T.label ?_))
     | ((with_reducible refine g_TS ?_); (first | with_reducible refine TS_nil ?_ | refine TS_y rfl rfl ?_ | refine TS_e rfl ?_ | refine TS_gy rfl rfl rfl rfl ?_ | refine TS_gn rfl rfl rfl rfl ?_ | refine TS_gu rfl rfl rfl rfl ?_ | refine TS_ge rfl rfl rfl ?_ | refine TS_gne rfl rfl rfl rfl ?_ | refine TS_gue rfl rfl rfl rfl ?_ | refine TS_gne0 rfl rfl rfl ?_))
     | ((with_reducible refine TSand ?hd ?_); (case hd => (repeat (first | exact List.nil_sublist _ | refine List.Sublist.cons_cons _ ?_ | refine List.Sublist.cons _ ?_))))
     | ((with_reducible refine TBand ?hd ?_); (case hd => (repeat (first | exact List.nil_sublist _ | refine List.Sublist.cons_cons _ ?_ | refine List.Sublist.cons _ ?_))))
     | ((with_reducible refine g_TB ?_); (first | with_reducible refine TB_run ?_ | refine TB_y rfl rfl ?_ | refine TB_e rfl ?_))
     | with_reducible refine seqQ_n ?_
     | with_reducible refine seqQ_x ?_
     | with_reducible refine seqQ_r ?_
     | with_reducible refine blockQ_n ?_
     | with_reducible refine blockQ_r ?_
     | with_reducible refine blockQ_x ?_
     | ((with_reducible refine g_blkx ?_); refine blockQ_y rfl ?_)
     | with_reducible refine loopQ_x ?_
     | with_reducible refine loopQ_r ?_
     | with_reducible refine loopH_x ?_
     | with_reducible refine loopH_r ?_
     | with_reducible refine joinQ_r ?_
     | with_reducible refine joinQ_x ?_
     | with_reducible refine scopeQ_n ?_
     | with_reducible refine scopeQ_r ?_
     | with_reducible refine scopeQ_x ?_); exact left.out) | fail_if_success skip) : G := s ⟨h⟩
theorem w2 {G H1 H2 : Prop} (h1 : H1) (h2 : H2) (s : Left H1 → Left H2 → G := by
 first | (intro left1 left2; (first | ((with_reducible refine g_cond ?_); refine T.cond_s rfl ?_ ?_) | ((with_reducible refine is_b_lss ?_); refine sp_lss rfl rfl ?_ ?_) | ((with_reducible refine is_b_leq ?_); refine sp_leq rfl rfl ?_ ?_) | ((with_reducible refine is_b_gtr ?_); refine sp_gtr rfl rfl ?_ ?_) | ((with_reducible refine is_b_geq ?_); refine sp_geq rfl rfl ?_ ?_) | ((with_reducible refine is_b_eql ?_); (first | refine sp_eql rfl rfl ?_ ?_ | refine sp_eqlS rfl rfl ?_ ?_)) | ((with_reducible refine is_b_neq ?_); (first | refine sp_neq rfl rfl ?_ ?_ | refine sp_neqS rfl rfl ?_ ?_))); (exact left1.out); (exact left2.out)) | fail_if_success skip) : G := s ⟨h1⟩ ⟨h2⟩
theorem w3 {G H1 H2 : Prop} (h1 : H1) (h2 : H2) (s : Left H1 → Left H2 → G := by
 first | (intro left1 left2; (refine TB_b rfl rfl ?_ ?_); (exact left1.out); (exact left2.out)) | fail_if_success skip) : G := s ⟨h1⟩ ⟨h2⟩
theorem w4 {G H : Prop} (h : H) (s : Left H → G := by
 first | (intro left; (first | ((with_reducible refine ie_box ?_); (first | refine Ef_boxA rfl rfl ?_ | refine Ef_box1 rfl rfl rfl ?_)) | ((with_reducible refine ie_alloc ?_); (((refine' Ef_alloc rfl ?q1 ?_); (case q1 => exact zer_of rfl)))) | ((with_reducible refine ie_bsl ?_); (first | ((refine' Ef_bsl0 rfl ?q1 ?_); (case q1 => exact app_of rfl)) | ((refine' Ef_bslA rfl rfl ?q1 ?q2 ?q3 ?_); (case q1 => exact app_of rfl); (case q2 => rfl); (case q3 => decide)) | ((refine' Ef_bsl1 rfl rfl rfl ?q1 ?_); (case q1 => exact app_of rfl))))); exact left.out) | fail_if_success skip) : G := s ⟨h⟩
theorem w5 {G H : Prop} (h : H) (s : Left H → G := by
 first | (intro left; (((with_reducible refine ie_app ?_); (first
     | ((refine' Ef_app0_rd rfl rfl rfl ?q1 ?q2 ?q3 ?q4 ?q5 ?q6 ?q7 ?_); (case q1 => exact app_of rfl); (case q2 => (first | exact at0 | exact at1 | exact at2 | exact at3 | exact at4 | exact at5 | exact at6)); (case q3 => assumption); (case q4 => (first | assumption | (intro u hu; rcases hu with _ | ⟨_, _ | ⟨_, _ | ⟨_, _ | ⟨_, hu⟩⟩⟩⟩ <;> first | rfl | (cases hu; done)))); (case q5 => omega); (case q6 => omega); (case q7 => exact List.not_mem_nil))
     | ((refine' Ef_appG_row rfl rfl rfl ?q1 ?q2 ?q3 ?q4 ?q5 ?q6 ?_); (case q1 => exact app_of rfl); (case q2 => (first | exact at0 | exact at1 | exact at2 | exact at3 | exact at4 | exact at5 | exact at6)); (case q3 => (repeat (first | exact .head _ | apply List.Mem.tail))); (case q4 => (first | assumption | (intro u hu; rcases hu with _ | ⟨_, _ | ⟨_, _ | ⟨_, _ | ⟨_, hu⟩⟩⟩⟩ <;> first | rfl | (cases hu; done)))); (case q5 => omega); (case q6 => omega))
     | ((refine' Ef_appG_rd rfl rfl rfl ?q1 ?q2 ?q3 ?q4 ?q5 ?q6 ?q7 ?_); (case q1 => exact app_of rfl); (case q2 => (first | exact at0 | exact at1 | exact at2 | exact at3 | exact at4 | exact at5 | exact at6)); (case q3 => assumption); (case q4 => (first | assumption | (intro u hu; rcases hu with _ | ⟨_, _ | ⟨_, _ | ⟨_, _ | ⟨_, hu⟩⟩⟩⟩ <;> first | rfl | (cases hu; done)))); (case q5 => omega); (case q6 => omega); (case q7 => exact List.not_mem_nil))))); exact left.out) | fail_if_success skip) : G := s ⟨h⟩
end Go.Proofs.Ytdbpnolpgkcjiaa
