/- The window's functions: what a call of each comes to: for every window that the program may come to and every number of 64 bits. -/
import Derived.Test.YtbmegafjphcdnaaT2
namespace Go.Proofs.Ytbmegafjphcdnaa
open Go.RowKit

def wB (b : Nat) (s : Win.St) : Asrt := .blk b (.cells (winA s.boot s.top s.came) 38)

theorem top_c (b : Nat) (s : Win.St) (w : World) (hb : w.heap[b]? = some (.cells (winA s.boot s.top s.came) 38)) :
    Sp Try.prog 12 [.pointer (some ⟨b, 0, none⟩)] w [] fun v N => v = .int .i64 s.top ∧ N = [] := by
  refine Sp.enter (n := 9) Try.func12 rfl rfl rfl (Hp.refl w) ?_
  repeat' (first
          | with_reducible refine T.seq ?_
          | with_reducible refine T.block ?_
          | with_reducible refine T.region ?_
          | with_reducible refine T.skip ?_
          | with_reducible refine T.ret ?_
          | with_reducible refine T.exit ?_
          | with_reducible refine seqQ_n ?_
          | with_reducible refine seqQ_x ?_
          | with_reducible refine seqQ_r ?_
          | with_reducible refine blockQ_n ?_
          | with_reducible refine blockQ_r ?_
          | with_reducible refine blockQ_x ?_
          | ((with_reducible refine g_blkx ?_); refine blockQ_y rfl ?_)
          | with_reducible refine loopQ_x ?_
          | with_reducible refine loopQ_r ?_
          | ((with_reducible refine g_cond ?_)
             (first
             | refine T.cond_t rfl ?_
             | refine T.cond_f rfl ?_
             | (refine T.cond_s rfl ?_ ?_ <;> intro hc)))
          | with_reducible refine TL_nil ?_
          | with_reducible refine TS_nil ?_
          | ((with_reducible refine g_draw ?_)
             (first
             | (((with_reducible refine' T.drawM (id := 6) [(0, true), (1, true), (2, true), (3, true), (4, true)] mixd ?q1 ?_)
                 (case q1 => kernel_rfl)))
             | (((with_reducible refine' T.drawM (id := 1) [(0, true), (1, false), (2, true), (3, true), (4, true), (5, true), (6, true), (7, true), (8, true), (9, true), (10, true), (11, true), (12, true), (14, true), (15, true), (16, true), (13, false), (17, true), (18, true), (19, true)] mixd ?q1 ?_)
                 (case q1 => kernel_rfl)))))
          | ((with_reducible refine TL_y' ?hy ?hd ?_); (case hy => rfl); (case hd => rfl))
          | with_reducible refine TL_e ?_
          | ((with_reducible refine g_TL ?_)
             (first
             | refine TL_gy' rfl rfl rfl rfl ?_
             | refine TL_gn rfl rfl rfl ?_
             | refine TL_gu rfl rfl rfl ?_
             | refine TL_ge rfl rfl ?_
             | refine TL_gn0 rfl rfl ?_))
          | ((with_reducible refine g_TS ?_)
             (first
             | refine TS_y rfl rfl ?_
             | refine TS_e rfl ?_
             | refine TS_gy rfl rfl rfl rfl ?_
             | refine TS_gn rfl rfl rfl rfl ?_
             | refine TS_gu rfl rfl rfl rfl ?_
             | refine TS_ge rfl rfl rfl ?_
             | refine TS_gne rfl rfl rfl rfl ?_
             | refine TS_gue rfl rfl rfl rfl ?_
             | refine TS_gne0 rfl rfl rfl ?_))
          | ((with_reducible refine TSand ?hd ?_)
             (case hd =>
                (repeat (first | exact List.nil_sublist _ | refine List.Sublist.cons_cons _ ?_ | refine List.Sublist.cons _ ?_))))
          | ((with_reducible refine is_move ?_); refine ⟨_, Yl_move rfl, ?_⟩)
          | ((with_reducible refine is_assign ?_); refine ⟨_, Yl_assign rfl, ?_⟩)
          | ((with_reducible refine is_pick ?_)
             (first | refine ⟨_, Yl_pick_t rfl rfl, ?_⟩ | refine ⟨_, Yl_pick_f rfl rfl, ?_⟩))
          | ((with_reducible refine is_nil ?_); refine ⟨_, Yl_nilCheck rfl, ?_⟩)
          | ((with_reducible refine is_fld ?_)
             (first
             | ((refine' ⟨_, Yl_fld_blk0 rfl ?q1, ?_⟩)
                (case q1 =>
                   (first
                   | with_reducible exact fld_29_0
                   | with_reducible exact fld_29_1
                   | with_reducible exact fld_38_0
                   | with_reducible exact fld_38_1
                   | with_reducible exact fld_38_2
                   | with_reducible exact fld_38_3
                   | with_reducible exact fld_45_0
                   | with_reducible exact fld_45_1)))
             | ((refine' ⟨_, Yl_fld_blk rfl ?q1, ?_⟩)
                (case q1 =>
                   (first
                   | with_reducible exact fld_29_0
                   | with_reducible exact fld_29_1
                   | with_reducible exact fld_38_0
                   | with_reducible exact fld_38_1
                   | with_reducible exact fld_38_2
                   | with_reducible exact fld_38_3
                   | with_reducible exact fld_45_0
                   | with_reducible exact fld_45_1)))
             | ((refine' ⟨_, Yl_fld_ad rfl ?q1, ?_⟩)
                (case q1 =>
                   (first
                   | with_reducible exact fld_29_0
                   | with_reducible exact fld_29_1
                   | with_reducible exact fld_38_0
                   | with_reducible exact fld_38_1
                   | with_reducible exact fld_38_2
                   | with_reducible exact fld_38_3
                   | with_reducible exact fld_45_0
                   | with_reducible exact fld_45_1)))))
          | ((with_reducible refine is_load ?_)
             (first
             | ((refine' ⟨_, Yl_loadA_old rfl hb List.not_mem_nil ?q1, ?_⟩)
                (case q1 =>
                   with_reducible exact agg_38.trans (congrArg some (winA_size _ _ _ hi.len).symm)))
             | ((refine' ⟨_, Yl_loadA_blk rfl ?q1 ?q2, ?_⟩)
                (case q1 =>
                   (first
                   | exact .head _
                   | exact .tail _ (.head _)
                   | exact .tail _ (.tail _ (.head _))
                   | exact .tail _ (.tail _ (.tail _ (.head _)))
                   | exact .tail _ (.tail _ (.tail _ (.tail _ (.head _))))
                   | exact .tail _ (.tail _ (.tail _ (.tail _ (.tail _ (.head _)))))
                   | exact .tail _ (.tail _ (.tail _ (.tail _ (.tail _ (.tail _ (.head _))))))
                   | exact .tail _ (.tail _ (.tail _ (.tail _ (.tail _ (.tail _ (.tail _ (.head _)))))))))
                (case q2 =>
                   with_reducible exact agg_38.trans (congrArg some (winA_size _ _ _ hi.len).symm)))
             | ((refine' ⟨_, Yl_loadA_blk rfl ?q1 ?q2, ?_⟩)
                (case q1 =>
                   (first
                   | exact .head _
                   | exact .tail _ (.head _)
                   | exact .tail _ (.tail _ (.head _))
                   | exact .tail _ (.tail _ (.tail _ (.head _)))
                   | exact .tail _ (.tail _ (.tail _ (.tail _ (.head _))))
                   | exact .tail _ (.tail _ (.tail _ (.tail _ (.tail _ (.head _)))))
                   | exact .tail _ (.tail _ (.tail _ (.tail _ (.tail _ (.tail _ (.head _))))))
                   | exact .tail _ (.tail _ (.tail _ (.tail _ (.tail _ (.tail _ (.tail _ (.head _)))))))))
                (case q2 =>
                   with_reducible exact agg_38.trans (congrArg some (winA_size _ _ _ (Win.after_inv _ _ _ hi hb2 hn2).len).symm)))
             | ((refine' ⟨_, Yl_load_old rfl ?q1 hb List.not_mem_nil ?q2, ?_⟩)
                (case q1 =>
                   (first
                   | with_reducible exact one_1
                   | with_reducible exact one_2
                   | with_reducible exact one_3
                   | with_reducible exact one_4
                   | with_reducible exact one_5
                   | with_reducible exact one_6
                   | with_reducible exact one_9
                   | with_reducible exact one_10
                   | with_reducible exact one_11
                   | with_reducible exact one_12
                   | with_reducible exact one_15
                   | with_reducible exact one_16
                   | with_reducible exact one_17
                   | with_reducible exact one_20
                   | with_reducible exact one_21
                   | with_reducible exact one_22
                   | with_reducible exact one_23
                   | with_reducible exact one_24
                   | with_reducible exact one_25
                   | with_reducible exact one_26
                   | with_reducible exact one_27
                   | with_reducible exact one_30
                   | with_reducible exact one_31
                   | with_reducible exact one_32
                   | with_reducible exact one_33
                   | with_reducible exact one_35
                   | with_reducible exact one_36
                   | with_reducible exact one_39
                   | with_reducible exact one_40
                   | with_reducible exact one_41
                   | with_reducible exact one_42
                   | with_reducible exact one_43
                   | with_reducible exact one_46
                   | with_reducible exact one_47
                   | with_reducible exact one_48
                   | with_reducible exact one_54
                   | with_reducible exact one_55
                   | with_reducible exact one_56
                   | with_reducible exact one_57
                   | with_reducible exact one_58
                   | with_reducible exact one_59
                   | with_reducible exact one_60
                   | with_reducible exact one_63))
                (case q2 =>
                   first
                   | with_reducible exact winA_0 _ _ _
                   | with_reducible exact winA_1 _ _ _
                   | with_reducible exact winA_2 _ _ _
                   | with_reducible assumption))
             | ((refine' ⟨_, Yl_load_blk rfl ?q1 ?q2 ?q3, ?_⟩)
                (case q1 =>
                   (first
                   | with_reducible exact one_1
                   | with_reducible exact one_2
                   | with_reducible exact one_3
                   | with_reducible exact one_4
                   | with_reducible exact one_5
                   | with_reducible exact one_6
                   | with_reducible exact one_9
                   | with_reducible exact one_10
                   | with_reducible exact one_11
                   | with_reducible exact one_12
                   | with_reducible exact one_15
                   | with_reducible exact one_16
                   | with_reducible exact one_17
                   | with_reducible exact one_20
                   | with_reducible exact one_21
                   | with_reducible exact one_22
                   | with_reducible exact one_23
                   | with_reducible exact one_24
                   | with_reducible exact one_25
                   | with_reducible exact one_26
                   | with_reducible exact one_27
                   | with_reducible exact one_30
                   | with_reducible exact one_31
                   | with_reducible exact one_32
                   | with_reducible exact one_33
                   | with_reducible exact one_35
                   | with_reducible exact one_36
                   | with_reducible exact one_39
                   | with_reducible exact one_40
                   | with_reducible exact one_41
                   | with_reducible exact one_42
                   | with_reducible exact one_43
                   | with_reducible exact one_46
                   | with_reducible exact one_47
                   | with_reducible exact one_48
                   | with_reducible exact one_54
                   | with_reducible exact one_55
                   | with_reducible exact one_56
                   | with_reducible exact one_57
                   | with_reducible exact one_58
                   | with_reducible exact one_59
                   | with_reducible exact one_60
                   | with_reducible exact one_63))
                (case q2 =>
                   (first
                   | exact .head _
                   | exact .tail _ (.head _)
                   | exact .tail _ (.tail _ (.head _))
                   | exact .tail _ (.tail _ (.tail _ (.head _)))
                   | exact .tail _ (.tail _ (.tail _ (.tail _ (.head _))))
                   | exact .tail _ (.tail _ (.tail _ (.tail _ (.tail _ (.head _)))))
                   | exact .tail _ (.tail _ (.tail _ (.tail _ (.tail _ (.tail _ (.head _))))))
                   | exact .tail _ (.tail _ (.tail _ (.tail _ (.tail _ (.tail _ (.tail _ (.head _)))))))))
                (case q3 => with_reducible exact winA_0 _ _ _))
             | ((refine' ⟨_, Yl_load_blk rfl ?q1 ?q2 ?q3, ?_⟩)
                (case q1 =>
                   (first
                   | with_reducible exact one_1
                   | with_reducible exact one_2
                   | with_reducible exact one_3
                   | with_reducible exact one_4
                   | with_reducible exact one_5
                   | with_reducible exact one_6
                   | with_reducible exact one_9
                   | with_reducible exact one_10
                   | with_reducible exact one_11
                   | with_reducible exact one_12
                   | with_reducible exact one_15
                   | with_reducible exact one_16
                   | with_reducible exact one_17
                   | with_reducible exact one_20
                   | with_reducible exact one_21
                   | with_reducible exact one_22
                   | with_reducible exact one_23
                   | with_reducible exact one_24
                   | with_reducible exact one_25
                   | with_reducible exact one_26
                   | with_reducible exact one_27
                   | with_reducible exact one_30
                   | with_reducible exact one_31
                   | with_reducible exact one_32
                   | with_reducible exact one_33
                   | with_reducible exact one_35
                   | with_reducible exact one_36
                   | with_reducible exact one_39
                   | with_reducible exact one_40
                   | with_reducible exact one_41
                   | with_reducible exact one_42
                   | with_reducible exact one_43
                   | with_reducible exact one_46
                   | with_reducible exact one_47
                   | with_reducible exact one_48
                   | with_reducible exact one_54
                   | with_reducible exact one_55
                   | with_reducible exact one_56
                   | with_reducible exact one_57
                   | with_reducible exact one_58
                   | with_reducible exact one_59
                   | with_reducible exact one_60
                   | with_reducible exact one_63))
                (case q2 =>
                   (first
                   | exact .head _
                   | exact .tail _ (.head _)
                   | exact .tail _ (.tail _ (.head _))
                   | exact .tail _ (.tail _ (.tail _ (.head _)))
                   | exact .tail _ (.tail _ (.tail _ (.tail _ (.head _))))
                   | exact .tail _ (.tail _ (.tail _ (.tail _ (.tail _ (.head _)))))
                   | exact .tail _ (.tail _ (.tail _ (.tail _ (.tail _ (.tail _ (.head _))))))
                   | exact .tail _ (.tail _ (.tail _ (.tail _ (.tail _ (.tail _ (.tail _ (.head _)))))))))
                (case q3 => rfl))
             | ((refine' ⟨_, Yl_loadA_blk rfl ?q1 ?q2, ?_⟩)
                (case q1 =>
                   (first
                   | exact .head _
                   | exact .tail _ (.head _)
                   | exact .tail _ (.tail _ (.head _))
                   | exact .tail _ (.tail _ (.tail _ (.head _)))
                   | exact .tail _ (.tail _ (.tail _ (.tail _ (.head _))))
                   | exact .tail _ (.tail _ (.tail _ (.tail _ (.tail _ (.head _)))))
                   | exact .tail _ (.tail _ (.tail _ (.tail _ (.tail _ (.tail _ (.head _))))))
                   | exact .tail _ (.tail _ (.tail _ (.tail _ (.tail _ (.tail _ (.tail _ (.head _)))))))))
                (case q2 =>
                   (first
                   | with_reducible exact agg_7
                   | with_reducible exact agg_8
                   | with_reducible exact agg_13
                   | with_reducible exact agg_14
                   | with_reducible exact agg_18
                   | with_reducible exact agg_19
                   | with_reducible exact agg_28
                   | with_reducible exact agg_29
                   | with_reducible exact agg_34
                   | with_reducible exact agg_37
                   | with_reducible exact agg_38
                   | with_reducible exact agg_44
                   | with_reducible exact agg_45
                   | with_reducible exact agg_49
                   | with_reducible exact agg_50
                   | with_reducible exact agg_51
                   | with_reducible exact agg_52
                   | with_reducible exact agg_53
                   | with_reducible exact agg_61
                   | with_reducible exact agg_62)))))
          | ((with_reducible refine is_idx ?_); (first | fail))
          | ((with_reducible refine is_ext ?_); refine ⟨_, Yl_extract rfl rfl, ?_⟩)
          | ((with_reducible refine is_un ?_); refine ⟨_, Yl_not rfl, ?_⟩)
          | ((with_reducible refine is_len ?_)
             (first
             | ((refine' ⟨_, Yl_len_slice rfl ?q1, ?_⟩)
                (case q1 =>
                   (first
                   | with_reducible exact Try.underlying4
                   | with_reducible exact Try.underlying7
                   | with_reducible exact Try.underlying8
                   | with_reducible exact Try.underlying9
                   | with_reducible exact Try.underlying10
                   | with_reducible exact Try.underlying11
                   | with_reducible exact Try.underlying13
                   | with_reducible exact Try.underlying14
                   | with_reducible exact Try.underlying15
                   | with_reducible exact Try.underlying16
                   | with_reducible exact Try.underlying17
                   | with_reducible exact Try.underlying18
                   | with_reducible exact Try.underlying19
                   | with_reducible exact Try.underlying22
                   | with_reducible exact Try.underlying24
                   | with_reducible exact Try.underlying28
                   | with_reducible exact Try.underlying29
                   | with_reducible exact Try.underlying31
                   | with_reducible exact Try.underlying34
                   | with_reducible exact Try.underlying37
                   | with_reducible exact Try.underlying38
                   | with_reducible exact Try.underlying39
                   | with_reducible exact Try.underlying42
                   | with_reducible exact Try.underlying44
                   | with_reducible exact Try.underlying45
                   | with_reducible exact Try.underlying49
                   | with_reducible exact Try.underlying50
                   | with_reducible exact Try.underlying51
                   | with_reducible exact Try.underlying52
                   | with_reducible exact Try.underlying53
                   | with_reducible exact Try.underlying58
                   | with_reducible exact Try.underlying61
                   | with_reducible exact Try.underlying62)))
             | ((refine' ⟨_, Yl_len_string rfl ?q1, ?_⟩)
                (case q1 =>
                   (first
                   | with_reducible exact Try.underlying4
                   | with_reducible exact Try.underlying7
                   | with_reducible exact Try.underlying8
                   | with_reducible exact Try.underlying9
                   | with_reducible exact Try.underlying10
                   | with_reducible exact Try.underlying11
                   | with_reducible exact Try.underlying13
                   | with_reducible exact Try.underlying14
                   | with_reducible exact Try.underlying15
                   | with_reducible exact Try.underlying16
                   | with_reducible exact Try.underlying17
                   | with_reducible exact Try.underlying18
                   | with_reducible exact Try.underlying19
                   | with_reducible exact Try.underlying22
                   | with_reducible exact Try.underlying24
                   | with_reducible exact Try.underlying28
                   | with_reducible exact Try.underlying29
                   | with_reducible exact Try.underlying31
                   | with_reducible exact Try.underlying34
                   | with_reducible exact Try.underlying37
                   | with_reducible exact Try.underlying38
                   | with_reducible exact Try.underlying39
                   | with_reducible exact Try.underlying42
                   | with_reducible exact Try.underlying44
                   | with_reducible exact Try.underlying45
                   | with_reducible exact Try.underlying49
                   | with_reducible exact Try.underlying50
                   | with_reducible exact Try.underlying51
                   | with_reducible exact Try.underlying52
                   | with_reducible exact Try.underlying53
                   | with_reducible exact Try.underlying58
                   | with_reducible exact Try.underlying61
                   | with_reducible exact Try.underlying62)))))
          | ((with_reducible refine is_b_lss ?_)
             (first
             | ((refine' ⟨_, Yl_lss_t rfl rfl ?q1, ?_⟩); (case q1 => omega))
             | ((refine' ⟨_, Yl_lss_f rfl rfl ?q1, ?_⟩); (case q1 => omega))
             | (refine sp_lss rfl rfl ?_ ?_ <;> intro hc)))
          | ((with_reducible refine is_b_leq ?_)
             (first
             | ((refine' ⟨_, Yl_leq_t rfl rfl ?q1, ?_⟩); (case q1 => omega))
             | ((refine' ⟨_, Yl_leq_f rfl rfl ?q1, ?_⟩); (case q1 => omega))
             | (refine sp_leq rfl rfl ?_ ?_ <;> intro hc)))
          | ((with_reducible refine is_b_gtr ?_)
             (first
             | ((refine' ⟨_, Yl_gtr_t rfl rfl ?q1, ?_⟩); (case q1 => omega))
             | ((refine' ⟨_, Yl_gtr_f rfl rfl ?q1, ?_⟩); (case q1 => omega))
             | (refine sp_gtr rfl rfl ?_ ?_ <;> intro hc)))
          | ((with_reducible refine is_b_geq ?_)
             (first
             | ((refine' ⟨_, Yl_geq_t rfl rfl ?q1, ?_⟩); (case q1 => omega))
             | ((refine' ⟨_, Yl_geq_f rfl rfl ?q1, ?_⟩); (case q1 => omega))
             | (refine sp_geq rfl rfl ?_ ?_ <;> intro hc)))
          | ((with_reducible refine is_b_eql ?_)
             (first
             | ((refine' ⟨_, Yl_eql_t rfl rfl ?q1, ?_⟩); (case q1 => omega))
             | ((refine' ⟨_, Yl_eql_f rfl rfl ?q1, ?_⟩); (case q1 => omega))
             | (refine sp_eql rfl rfl ?_ ?_ <;> intro hc)
             | ((refine' ⟨_, Yl_eql_ptr rfl rfl ?q1, ?_⟩)
                (case q1 =>
                   (first
                   | with_reducible exact ptr_15
                   | with_reducible exact ptr_16
                   | with_reducible exact ptr_17
                   | with_reducible exact ptr_24
                   | with_reducible exact ptr_42
                   | with_reducible exact ptr_58)))
             | ((refine' ⟨_, Yl_eqlA rfl rfl eqg_38 (eqSt _ _ ?q1 ?q2).run, ?_⟩)
                (case q1 => first | assumption | exact hi.len | exact (Win.after_inv _ _ _ hi hb2 hn2).len)
                (case q2 => first | assumption | exact hi.len | exact (Win.after_inv _ _ _ hi hb2 hn2).len))
             | ((refine' ⟨_, Yl_neqA rfl rfl eqg_38 (eqSt _ _ ?q1 ?q2).run, ?_⟩)
                (case q1 => first | assumption | exact hi.len | exact (Win.after_inv _ _ _ hi hb2 hn2).len)
                (case q2 => first | assumption | exact hi.len | exact (Win.after_inv _ _ _ hi hb2 hn2).len))))
          | ((with_reducible refine is_b_neq ?_)
             (first
             | ((refine' ⟨_, Yl_neq_t rfl rfl ?q1, ?_⟩); (case q1 => omega))
             | ((refine' ⟨_, Yl_neq_f rfl rfl ?q1, ?_⟩); (case q1 => omega))
             | (refine sp_neq rfl rfl ?_ ?_ <;> intro hc)
             | ((refine' ⟨_, Yl_eql_ptr rfl rfl ?q1, ?_⟩)
                (case q1 =>
                   (first
                   | with_reducible exact ptr_15
                   | with_reducible exact ptr_16
                   | with_reducible exact ptr_17
                   | with_reducible exact ptr_24
                   | with_reducible exact ptr_42
                   | with_reducible exact ptr_58)))
             | ((refine' ⟨_, Yl_eqlA rfl rfl eqg_38 (eqSt _ _ ?q1 ?q2).run, ?_⟩)
                (case q1 => first | assumption | exact hi.len | exact (Win.after_inv _ _ _ hi hb2 hn2).len)
                (case q2 => first | assumption | exact hi.len | exact (Win.after_inv _ _ _ hi hb2 hn2).len))
             | ((refine' ⟨_, Yl_neqA rfl rfl eqg_38 (eqSt _ _ ?q1 ?q2).run, ?_⟩)
                (case q1 => first | assumption | exact hi.len | exact (Win.after_inv _ _ _ hi hb2 hn2).len)
                (case q2 => first | assumption | exact hi.len | exact (Win.after_inv _ _ _ hi hb2 hn2).len))))
          | ((with_reducible refine is_b_add ?_)
             (first
             | ((refine' ⟨_, Yl_add rfl rfl ?q1 ?q2, ?_⟩); (case q1 => omega); (case q2 => omega))
             | ((refine' ⟨_, Yl_eql_ptr rfl rfl ?q1, ?_⟩)
                (case q1 =>
                   (first
                   | with_reducible exact ptr_15
                   | with_reducible exact ptr_16
                   | with_reducible exact ptr_17
                   | with_reducible exact ptr_24
                   | with_reducible exact ptr_42
                   | with_reducible exact ptr_58)))
             | ((refine' ⟨_, Yl_eqlA rfl rfl eqg_38 (eqSt _ _ ?q1 ?q2).run, ?_⟩)
                (case q1 => first | assumption | exact hi.len | exact (Win.after_inv _ _ _ hi hb2 hn2).len)
                (case q2 => first | assumption | exact hi.len | exact (Win.after_inv _ _ _ hi hb2 hn2).len))
             | ((refine' ⟨_, Yl_neqA rfl rfl eqg_38 (eqSt _ _ ?q1 ?q2).run, ?_⟩)
                (case q1 => first | assumption | exact hi.len | exact (Win.after_inv _ _ _ hi hb2 hn2).len)
                (case q2 => first | assumption | exact hi.len | exact (Win.after_inv _ _ _ hi hb2 hn2).len))))
          | ((with_reducible refine is_b_sub ?_)
             (first
             | ((refine' ⟨_, Yl_sub rfl rfl ?q1 ?q2, ?_⟩); (case q1 => omega); (case q2 => omega))
             | ((refine' ⟨_, Yl_eql_ptr rfl rfl ?q1, ?_⟩)
                (case q1 =>
                   (first
                   | with_reducible exact ptr_15
                   | with_reducible exact ptr_16
                   | with_reducible exact ptr_17
                   | with_reducible exact ptr_24
                   | with_reducible exact ptr_42
                   | with_reducible exact ptr_58)))
             | ((refine' ⟨_, Yl_eqlA rfl rfl eqg_38 (eqSt _ _ ?q1 ?q2).run, ?_⟩)
                (case q1 => first | assumption | exact hi.len | exact (Win.after_inv _ _ _ hi hb2 hn2).len)
                (case q2 => first | assumption | exact hi.len | exact (Win.after_inv _ _ _ hi hb2 hn2).len))
             | ((refine' ⟨_, Yl_neqA rfl rfl eqg_38 (eqSt _ _ ?q1 ?q2).run, ?_⟩)
                (case q1 => first | assumption | exact hi.len | exact (Win.after_inv _ _ _ hi hb2 hn2).len)
                (case q2 => first | assumption | exact hi.len | exact (Win.after_inv _ _ _ hi hb2 hn2).len))))
          | ((with_reducible refine is_build ?_)
             (first
             | ((refine' ⟨_, Yl_build rfl ?q1, ?_⟩); (case q1 => with_reducible exact winA_new _))))
          | (first
            | ((refine' ⟨_, Yl_eql_ptr rfl rfl ?q1, ?_⟩)
               (case q1 =>
                  (first
                  | with_reducible exact ptr_15
                  | with_reducible exact ptr_16
                  | with_reducible exact ptr_17
                  | with_reducible exact ptr_24
                  | with_reducible exact ptr_42
                  | with_reducible exact ptr_58)))
            | ((refine' ⟨_, Yl_eqlA rfl rfl eqg_38 (eqSt _ _ ?q1 ?q2).run, ?_⟩)
               (case q1 => first | assumption | exact hi.len | exact (Win.after_inv _ _ _ hi hb2 hn2).len)
               (case q2 => first | assumption | exact hi.len | exact (Win.after_inv _ _ _ hi hb2 hn2).len))
            | ((refine' ⟨_, Yl_neqA rfl rfl eqg_38 (eqSt _ _ ?q1 ?q2).run, ?_⟩)
               (case q1 => first | assumption | exact hi.len | exact (Win.after_inv _ _ _ hi hb2 hn2).len)
               (case q2 => first | assumption | exact hi.len | exact (Win.after_inv _ _ _ hi hb2 hn2).len)))
          | ((with_reducible refine ie_box ?_)
             (first
             | (refine Ef_boxA rfl rfl ?_
                (first
                | ((fail_if_success have := b1); intro b1)
                | ((fail_if_success have := b2); intro b2)
                | ((fail_if_success have := b3); intro b3)
                | ((fail_if_success have := b4); intro b4)
                | ((fail_if_success have := b5); intro b5)
                | ((fail_if_success have := b6); intro b6)
                | ((fail_if_success have := b7); intro b7)
                | ((fail_if_success have := b8); intro b8)
                | ((fail_if_success have := b9); intro b9)))
             | (refine Ef_box1 rfl rfl rfl ?_
                (first
                | ((fail_if_success have := b1); intro b1)
                | ((fail_if_success have := b2); intro b2)
                | ((fail_if_success have := b3); intro b3)
                | ((fail_if_success have := b4); intro b4)
                | ((fail_if_success have := b5); intro b5)
                | ((fail_if_success have := b6); intro b6)
                | ((fail_if_success have := b7); intro b7)
                | ((fail_if_success have := b8); intro b8)
                | ((fail_if_success have := b9); intro b9)))))
          | ((with_reducible refine ie_alloc ?_)
             (first
             | (refine Ef_alloc rfl Zw ?_
                (first
                | ((fail_if_success have := b1); intro b1)
                | ((fail_if_success have := b2); intro b2)
                | ((fail_if_success have := b3); intro b3)
                | ((fail_if_success have := b4); intro b4)
                | ((fail_if_success have := b5); intro b5)
                | ((fail_if_success have := b6); intro b6)
                | ((fail_if_success have := b7); intro b7)
                | ((fail_if_success have := b8); intro b8)
                | ((fail_if_success have := b9); intro b9)))
             | (((refine' Ef_alloc rfl ?q1 ?_)
                 (case q1 =>
                    (first
                    | with_reducible exact zer_1
                    | with_reducible exact zer_2
                    | with_reducible exact zer_3
                    | with_reducible exact zer_4
                    | with_reducible exact zer_5
                    | with_reducible exact zer_6
                    | with_reducible exact zer_9
                    | with_reducible exact zer_10
                    | with_reducible exact zer_11
                    | with_reducible exact zer_12
                    | with_reducible exact zer_15
                    | with_reducible exact zer_16
                    | with_reducible exact zer_17
                    | with_reducible exact zer_20
                    | with_reducible exact zer_21
                    | with_reducible exact zer_22
                    | with_reducible exact zer_23
                    | with_reducible exact zer_24
                    | with_reducible exact zer_25
                    | with_reducible exact zer_26
                    | with_reducible exact zer_27
                    | with_reducible exact zer_29
                    | with_reducible exact zer_30
                    | with_reducible exact zer_31
                    | with_reducible exact zer_32
                    | with_reducible exact zer_33
                    | with_reducible exact zer_34
                    | with_reducible exact zer_35
                    | with_reducible exact zer_36
                    | with_reducible exact zer_38
                    | with_reducible exact zer_39
                    | with_reducible exact zer_40
                    | with_reducible exact zer_41
                    | with_reducible exact zer_42
                    | with_reducible exact zer_43
                    | with_reducible exact zer_45
                    | with_reducible exact zer_46
                    | with_reducible exact zer_47
                    | with_reducible exact zer_48
                    | with_reducible exact zer_51
                    | with_reducible exact zer_54
                    | with_reducible exact zer_55
                    | with_reducible exact zer_56
                    | with_reducible exact zer_57
                    | with_reducible exact zer_58
                    | with_reducible exact zer_59
                    | with_reducible exact zer_60
                    | with_reducible exact zer_63)))
                (first
                | ((fail_if_success have := b1); intro b1)
                | ((fail_if_success have := b2); intro b2)
                | ((fail_if_success have := b3); intro b3)
                | ((fail_if_success have := b4); intro b4)
                | ((fail_if_success have := b5); intro b5)
                | ((fail_if_success have := b6); intro b6)
                | ((fail_if_success have := b7); intro b7)
                | ((fail_if_success have := b8); intro b8)
                | ((fail_if_success have := b9); intro b9)))))
          | ((with_reducible refine ie_store ?_)
             (first
             | ((refine' Ef_storeA (i := 0) rfl rfl ?q1 ?q2 rfl ?q3 ?_)
                (case q1 =>
                   with_reducible exact siz_38.trans (congrArg some (winA_size _ _ _ (Win.after_inv _ _ _ hi hb2 hn2).len).symm))
                (case q2 => with_reducible exact winA_all _ _ _)
                (case q3 =>
                   with_reducible exact zw_size.trans (winA_size _ _ _ (Win.after_inv _ _ _ hi hb2 hn2).len).symm))
             | ((refine' Ef_storeA (i := 1) rfl rfl ?q1 ?q2 rfl ?q3 ?_)
                (case q1 =>
                   with_reducible exact siz_38.trans (congrArg some (winA_size _ _ _ (Win.after_inv _ _ _ hi hb2 hn2).len).symm))
                (case q2 => with_reducible exact winA_all _ _ _)
                (case q3 =>
                   with_reducible exact (winA_size _ _ _ hi.len).trans (winA_size _ _ _ (Win.after_inv _ _ _ hi hb2 hn2).len).symm))))
          | ((with_reducible refine ie_callf ?_)
             (first
             | (((refine' Ef_callP rfl rfl ent_18 (fun w hp => none_made b _ _ true w ?q1 (winA_0 _ _ _)) ?_)
                 (case q1 =>
                    first
                    | ((refine' hp.own _ ?q1)
                       (case q1 =>
                          (first
                          | exact .head _
                          | exact .tail _ (.head _)
                          | exact .tail _ (.tail _ (.head _))
                          | exact .tail _ (.tail _ (.tail _ (.head _)))
                          | exact .tail _ (.tail _ (.tail _ (.tail _ (.head _))))
                          | exact .tail _ (.tail _ (.tail _ (.tail _ (.tail _ (.head _)))))
                          | exact .tail _ (.tail _ (.tail _ (.tail _ (.tail _ (.tail _ (.head _))))))
                          | exact .tail _ (.tail _ (.tail _ (.tail _ (.tail _ (.tail _ (.tail _ (.head _))))))))))
                    | ((refine' hp.blk_old hb ?q1)
                       (case q1 => first | exact List.not_mem_nil | with_reducible assumption)))))
             | (refine Ef_callP rfl rfl ent_19 (fun w _ => after_any s boot n w hi.len hi.topLo hi.topHi hn2) ?_)))
          | (first
            | (refine Ef_alloc rfl Zw ?_
               (first
               | ((fail_if_success have := b1); intro b1)
               | ((fail_if_success have := b2); intro b2)
               | ((fail_if_success have := b3); intro b3)
               | ((fail_if_success have := b4); intro b4)
               | ((fail_if_success have := b5); intro b5)
               | ((fail_if_success have := b6); intro b6)
               | ((fail_if_success have := b7); intro b7)
               | ((fail_if_success have := b8); intro b8)
               | ((fail_if_success have := b9); intro b9))))
          | refine Ef_y rfl rfl ?_)
  exact ret_n [] (res1 rfl rfl) (List.nil_sublist _) ⟨rfl, rfl⟩
theorem boot_c (b : Nat) (s : Win.St) (w : World) (hb : w.heap[b]? = some (.cells (winA s.boot s.top s.came) 38)) :
    Sp Try.prog 13 [.pointer (some ⟨b, 0, none⟩)] w [] fun v N => v = .int .i64 s.boot ∧ N = [] := by
  refine Sp.enter (n := 9) Try.func13 rfl rfl rfl (Hp.refl w) ?_
  repeat' (first
          | with_reducible refine T.seq ?_
          | with_reducible refine T.block ?_
          | with_reducible refine T.region ?_
          | with_reducible refine T.skip ?_
          | with_reducible refine T.ret ?_
          | with_reducible refine T.exit ?_
          | with_reducible refine seqQ_n ?_
          | with_reducible refine seqQ_x ?_
          | with_reducible refine seqQ_r ?_
          | with_reducible refine blockQ_n ?_
          | with_reducible refine blockQ_r ?_
          | with_reducible refine blockQ_x ?_
          | ((with_reducible refine g_blkx ?_); refine blockQ_y rfl ?_)
          | with_reducible refine loopQ_x ?_
          | with_reducible refine loopQ_r ?_
          | ((with_reducible refine g_cond ?_)
             (first
             | refine T.cond_t rfl ?_
             | refine T.cond_f rfl ?_
             | (refine T.cond_s rfl ?_ ?_ <;> intro hc)))
          | with_reducible refine TL_nil ?_
          | with_reducible refine TS_nil ?_
          | ((with_reducible refine g_draw ?_)
             (first
             | (((with_reducible refine' T.drawM (id := 6) [(0, true), (1, true), (2, true), (3, true), (4, true)] mixd ?q1 ?_)
                 (case q1 => kernel_rfl)))
             | (((with_reducible refine' T.drawM (id := 1) [(0, true), (1, false), (2, true), (3, true), (4, true), (5, true), (6, true), (7, true), (8, true), (9, true), (10, true), (11, true), (12, true), (14, true), (15, true), (16, true), (13, false), (17, true), (18, true), (19, true)] mixd ?q1 ?_)
                 (case q1 => kernel_rfl)))))
          | ((with_reducible refine TL_y' ?hy ?hd ?_); (case hy => rfl); (case hd => rfl))
          | with_reducible refine TL_e ?_
          | ((with_reducible refine g_TL ?_)
             (first
             | refine TL_gy' rfl rfl rfl rfl ?_
             | refine TL_gn rfl rfl rfl ?_
             | refine TL_gu rfl rfl rfl ?_
             | refine TL_ge rfl rfl ?_
             | refine TL_gn0 rfl rfl ?_))
          | ((with_reducible refine g_TS ?_)
             (first
             | refine TS_y rfl rfl ?_
             | refine TS_e rfl ?_
             | refine TS_gy rfl rfl rfl rfl ?_
             | refine TS_gn rfl rfl rfl rfl ?_
             | refine TS_gu rfl rfl rfl rfl ?_
             | refine TS_ge rfl rfl rfl ?_
             | refine TS_gne rfl rfl rfl rfl ?_
             | refine TS_gue rfl rfl rfl rfl ?_
             | refine TS_gne0 rfl rfl rfl ?_))
          | ((with_reducible refine TSand ?hd ?_)
             (case hd =>
                (repeat (first | exact List.nil_sublist _ | refine List.Sublist.cons_cons _ ?_ | refine List.Sublist.cons _ ?_))))
          | ((with_reducible refine is_move ?_); refine ⟨_, Yl_move rfl, ?_⟩)
          | ((with_reducible refine is_assign ?_); refine ⟨_, Yl_assign rfl, ?_⟩)
          | ((with_reducible refine is_pick ?_)
             (first | refine ⟨_, Yl_pick_t rfl rfl, ?_⟩ | refine ⟨_, Yl_pick_f rfl rfl, ?_⟩))
          | ((with_reducible refine is_nil ?_); refine ⟨_, Yl_nilCheck rfl, ?_⟩)
          | ((with_reducible refine is_fld ?_)
             (first
             | ((refine' ⟨_, Yl_fld_blk0 rfl ?q1, ?_⟩)
                (case q1 =>
                   (first
                   | with_reducible exact fld_29_0
                   | with_reducible exact fld_29_1
                   | with_reducible exact fld_38_0
                   | with_reducible exact fld_38_1
                   | with_reducible exact fld_38_2
                   | with_reducible exact fld_38_3
                   | with_reducible exact fld_45_0
                   | with_reducible exact fld_45_1)))
             | ((refine' ⟨_, Yl_fld_blk rfl ?q1, ?_⟩)
                (case q1 =>
                   (first
                   | with_reducible exact fld_29_0
                   | with_reducible exact fld_29_1
                   | with_reducible exact fld_38_0
                   | with_reducible exact fld_38_1
                   | with_reducible exact fld_38_2
                   | with_reducible exact fld_38_3
                   | with_reducible exact fld_45_0
                   | with_reducible exact fld_45_1)))
             | ((refine' ⟨_, Yl_fld_ad rfl ?q1, ?_⟩)
                (case q1 =>
                   (first
                   | with_reducible exact fld_29_0
                   | with_reducible exact fld_29_1
                   | with_reducible exact fld_38_0
                   | with_reducible exact fld_38_1
                   | with_reducible exact fld_38_2
                   | with_reducible exact fld_38_3
                   | with_reducible exact fld_45_0
                   | with_reducible exact fld_45_1)))))
          | ((with_reducible refine is_load ?_)
             (first
             | ((refine' ⟨_, Yl_loadA_old rfl hb List.not_mem_nil ?q1, ?_⟩)
                (case q1 =>
                   with_reducible exact agg_38.trans (congrArg some (winA_size _ _ _ hi.len).symm)))
             | ((refine' ⟨_, Yl_loadA_blk rfl ?q1 ?q2, ?_⟩)
                (case q1 =>
                   (first
                   | exact .head _
                   | exact .tail _ (.head _)
                   | exact .tail _ (.tail _ (.head _))
                   | exact .tail _ (.tail _ (.tail _ (.head _)))
                   | exact .tail _ (.tail _ (.tail _ (.tail _ (.head _))))
                   | exact .tail _ (.tail _ (.tail _ (.tail _ (.tail _ (.head _)))))
                   | exact .tail _ (.tail _ (.tail _ (.tail _ (.tail _ (.tail _ (.head _))))))
                   | exact .tail _ (.tail _ (.tail _ (.tail _ (.tail _ (.tail _ (.tail _ (.head _)))))))))
                (case q2 =>
                   with_reducible exact agg_38.trans (congrArg some (winA_size _ _ _ hi.len).symm)))
             | ((refine' ⟨_, Yl_loadA_blk rfl ?q1 ?q2, ?_⟩)
                (case q1 =>
                   (first
                   | exact .head _
                   | exact .tail _ (.head _)
                   | exact .tail _ (.tail _ (.head _))
                   | exact .tail _ (.tail _ (.tail _ (.head _)))
                   | exact .tail _ (.tail _ (.tail _ (.tail _ (.head _))))
                   | exact .tail _ (.tail _ (.tail _ (.tail _ (.tail _ (.head _)))))
                   | exact .tail _ (.tail _ (.tail _ (.tail _ (.tail _ (.tail _ (.head _))))))
                   | exact .tail _ (.tail _ (.tail _ (.tail _ (.tail _ (.tail _ (.tail _ (.head _)))))))))
                (case q2 =>
                   with_reducible exact agg_38.trans (congrArg some (winA_size _ _ _ (Win.after_inv _ _ _ hi hb2 hn2).len).symm)))
             | ((refine' ⟨_, Yl_load_old rfl ?q1 hb List.not_mem_nil ?q2, ?_⟩)
                (case q1 =>
                   (first
                   | with_reducible exact one_1
                   | with_reducible exact one_2
                   | with_reducible exact one_3
                   | with_reducible exact one_4
                   | with_reducible exact one_5
                   | with_reducible exact one_6
                   | with_reducible exact one_9
                   | with_reducible exact one_10
                   | with_reducible exact one_11
                   | with_reducible exact one_12
                   | with_reducible exact one_15
                   | with_reducible exact one_16
                   | with_reducible exact one_17
                   | with_reducible exact one_20
                   | with_reducible exact one_21
                   | with_reducible exact one_22
                   | with_reducible exact one_23
                   | with_reducible exact one_24
                   | with_reducible exact one_25
                   | with_reducible exact one_26
                   | with_reducible exact one_27
                   | with_reducible exact one_30
                   | with_reducible exact one_31
                   | with_reducible exact one_32
                   | with_reducible exact one_33
                   | with_reducible exact one_35
                   | with_reducible exact one_36
                   | with_reducible exact one_39
                   | with_reducible exact one_40
                   | with_reducible exact one_41
                   | with_reducible exact one_42
                   | with_reducible exact one_43
                   | with_reducible exact one_46
                   | with_reducible exact one_47
                   | with_reducible exact one_48
                   | with_reducible exact one_54
                   | with_reducible exact one_55
                   | with_reducible exact one_56
                   | with_reducible exact one_57
                   | with_reducible exact one_58
                   | with_reducible exact one_59
                   | with_reducible exact one_60
                   | with_reducible exact one_63))
                (case q2 =>
                   first
                   | with_reducible exact winA_0 _ _ _
                   | with_reducible exact winA_1 _ _ _
                   | with_reducible exact winA_2 _ _ _
                   | with_reducible assumption))
             | ((refine' ⟨_, Yl_load_blk rfl ?q1 ?q2 ?q3, ?_⟩)
                (case q1 =>
                   (first
                   | with_reducible exact one_1
                   | with_reducible exact one_2
                   | with_reducible exact one_3
                   | with_reducible exact one_4
                   | with_reducible exact one_5
                   | with_reducible exact one_6
                   | with_reducible exact one_9
                   | with_reducible exact one_10
                   | with_reducible exact one_11
                   | with_reducible exact one_12
                   | with_reducible exact one_15
                   | with_reducible exact one_16
                   | with_reducible exact one_17
                   | with_reducible exact one_20
                   | with_reducible exact one_21
                   | with_reducible exact one_22
                   | with_reducible exact one_23
                   | with_reducible exact one_24
                   | with_reducible exact one_25
                   | with_reducible exact one_26
                   | with_reducible exact one_27
                   | with_reducible exact one_30
                   | with_reducible exact one_31
                   | with_reducible exact one_32
                   | with_reducible exact one_33
                   | with_reducible exact one_35
                   | with_reducible exact one_36
                   | with_reducible exact one_39
                   | with_reducible exact one_40
                   | with_reducible exact one_41
                   | with_reducible exact one_42
                   | with_reducible exact one_43
                   | with_reducible exact one_46
                   | with_reducible exact one_47
                   | with_reducible exact one_48
                   | with_reducible exact one_54
                   | with_reducible exact one_55
                   | with_reducible exact one_56
                   | with_reducible exact one_57
                   | with_reducible exact one_58
                   | with_reducible exact one_59
                   | with_reducible exact one_60
                   | with_reducible exact one_63))
                (case q2 =>
                   (first
                   | exact .head _
                   | exact .tail _ (.head _)
                   | exact .tail _ (.tail _ (.head _))
                   | exact .tail _ (.tail _ (.tail _ (.head _)))
                   | exact .tail _ (.tail _ (.tail _ (.tail _ (.head _))))
                   | exact .tail _ (.tail _ (.tail _ (.tail _ (.tail _ (.head _)))))
                   | exact .tail _ (.tail _ (.tail _ (.tail _ (.tail _ (.tail _ (.head _))))))
                   | exact .tail _ (.tail _ (.tail _ (.tail _ (.tail _ (.tail _ (.tail _ (.head _)))))))))
                (case q3 => with_reducible exact winA_0 _ _ _))
             | ((refine' ⟨_, Yl_load_blk rfl ?q1 ?q2 ?q3, ?_⟩)
                (case q1 =>
                   (first
                   | with_reducible exact one_1
                   | with_reducible exact one_2
                   | with_reducible exact one_3
                   | with_reducible exact one_4
                   | with_reducible exact one_5
                   | with_reducible exact one_6
                   | with_reducible exact one_9
                   | with_reducible exact one_10
                   | with_reducible exact one_11
                   | with_reducible exact one_12
                   | with_reducible exact one_15
                   | with_reducible exact one_16
                   | with_reducible exact one_17
                   | with_reducible exact one_20
                   | with_reducible exact one_21
                   | with_reducible exact one_22
                   | with_reducible exact one_23
                   | with_reducible exact one_24
                   | with_reducible exact one_25
                   | with_reducible exact one_26
                   | with_reducible exact one_27
                   | with_reducible exact one_30
                   | with_reducible exact one_31
                   | with_reducible exact one_32
                   | with_reducible exact one_33
                   | with_reducible exact one_35
                   | with_reducible exact one_36
                   | with_reducible exact one_39
                   | with_reducible exact one_40
                   | with_reducible exact one_41
                   | with_reducible exact one_42
                   | with_reducible exact one_43
                   | with_reducible exact one_46
                   | with_reducible exact one_47
                   | with_reducible exact one_48
                   | with_reducible exact one_54
                   | with_reducible exact one_55
                   | with_reducible exact one_56
                   | with_reducible exact one_57
                   | with_reducible exact one_58
                   | with_reducible exact one_59
                   | with_reducible exact one_60
                   | with_reducible exact one_63))
                (case q2 =>
                   (first
                   | exact .head _
                   | exact .tail _ (.head _)
                   | exact .tail _ (.tail _ (.head _))
                   | exact .tail _ (.tail _ (.tail _ (.head _)))
                   | exact .tail _ (.tail _ (.tail _ (.tail _ (.head _))))
                   | exact .tail _ (.tail _ (.tail _ (.tail _ (.tail _ (.head _)))))
                   | exact .tail _ (.tail _ (.tail _ (.tail _ (.tail _ (.tail _ (.head _))))))
                   | exact .tail _ (.tail _ (.tail _ (.tail _ (.tail _ (.tail _ (.tail _ (.head _)))))))))
                (case q3 => rfl))
             | ((refine' ⟨_, Yl_loadA_blk rfl ?q1 ?q2, ?_⟩)
                (case q1 =>
                   (first
                   | exact .head _
                   | exact .tail _ (.head _)
                   | exact .tail _ (.tail _ (.head _))
                   | exact .tail _ (.tail _ (.tail _ (.head _)))
                   | exact .tail _ (.tail _ (.tail _ (.tail _ (.head _))))
                   | exact .tail _ (.tail _ (.tail _ (.tail _ (.tail _ (.head _)))))
                   | exact .tail _ (.tail _ (.tail _ (.tail _ (.tail _ (.tail _ (.head _))))))
                   | exact .tail _ (.tail _ (.tail _ (.tail _ (.tail _ (.tail _ (.tail _ (.head _)))))))))
                (case q2 =>
                   (first
                   | with_reducible exact agg_7
                   | with_reducible exact agg_8
                   | with_reducible exact agg_13
                   | with_reducible exact agg_14
                   | with_reducible exact agg_18
                   | with_reducible exact agg_19
                   | with_reducible exact agg_28
                   | with_reducible exact agg_29
                   | with_reducible exact agg_34
                   | with_reducible exact agg_37
                   | with_reducible exact agg_38
                   | with_reducible exact agg_44
                   | with_reducible exact agg_45
                   | with_reducible exact agg_49
                   | with_reducible exact agg_50
                   | with_reducible exact agg_51
                   | with_reducible exact agg_52
                   | with_reducible exact agg_53
                   | with_reducible exact agg_61
                   | with_reducible exact agg_62)))))
          | ((with_reducible refine is_idx ?_); (first | fail))
          | ((with_reducible refine is_ext ?_); refine ⟨_, Yl_extract rfl rfl, ?_⟩)
          | ((with_reducible refine is_un ?_); refine ⟨_, Yl_not rfl, ?_⟩)
          | ((with_reducible refine is_len ?_)
             (first
             | ((refine' ⟨_, Yl_len_slice rfl ?q1, ?_⟩)
                (case q1 =>
                   (first
                   | with_reducible exact Try.underlying4
                   | with_reducible exact Try.underlying7
                   | with_reducible exact Try.underlying8
                   | with_reducible exact Try.underlying9
                   | with_reducible exact Try.underlying10
                   | with_reducible exact Try.underlying11
                   | with_reducible exact Try.underlying13
                   | with_reducible exact Try.underlying14
                   | with_reducible exact Try.underlying15
                   | with_reducible exact Try.underlying16
                   | with_reducible exact Try.underlying17
                   | with_reducible exact Try.underlying18
                   | with_reducible exact Try.underlying19
                   | with_reducible exact Try.underlying22
                   | with_reducible exact Try.underlying24
                   | with_reducible exact Try.underlying28
                   | with_reducible exact Try.underlying29
                   | with_reducible exact Try.underlying31
                   | with_reducible exact Try.underlying34
                   | with_reducible exact Try.underlying37
                   | with_reducible exact Try.underlying38
                   | with_reducible exact Try.underlying39
                   | with_reducible exact Try.underlying42
                   | with_reducible exact Try.underlying44
                   | with_reducible exact Try.underlying45
                   | with_reducible exact Try.underlying49
                   | with_reducible exact Try.underlying50
                   | with_reducible exact Try.underlying51
                   | with_reducible exact Try.underlying52
                   | with_reducible exact Try.underlying53
                   | with_reducible exact Try.underlying58
                   | with_reducible exact Try.underlying61
                   | with_reducible exact Try.underlying62)))
             | ((refine' ⟨_, Yl_len_string rfl ?q1, ?_⟩)
                (case q1 =>
                   (first
                   | with_reducible exact Try.underlying4
                   | with_reducible exact Try.underlying7
                   | with_reducible exact Try.underlying8
                   | with_reducible exact Try.underlying9
                   | with_reducible exact Try.underlying10
                   | with_reducible exact Try.underlying11
                   | with_reducible exact Try.underlying13
                   | with_reducible exact Try.underlying14
                   | with_reducible exact Try.underlying15
                   | with_reducible exact Try.underlying16
                   | with_reducible exact Try.underlying17
                   | with_reducible exact Try.underlying18
                   | with_reducible exact Try.underlying19
                   | with_reducible exact Try.underlying22
                   | with_reducible exact Try.underlying24
                   | with_reducible exact Try.underlying28
                   | with_reducible exact Try.underlying29
                   | with_reducible exact Try.underlying31
                   | with_reducible exact Try.underlying34
                   | with_reducible exact Try.underlying37
                   | with_reducible exact Try.underlying38
                   | with_reducible exact Try.underlying39
                   | with_reducible exact Try.underlying42
                   | with_reducible exact Try.underlying44
                   | with_reducible exact Try.underlying45
                   | with_reducible exact Try.underlying49
                   | with_reducible exact Try.underlying50
                   | with_reducible exact Try.underlying51
                   | with_reducible exact Try.underlying52
                   | with_reducible exact Try.underlying53
                   | with_reducible exact Try.underlying58
                   | with_reducible exact Try.underlying61
                   | with_reducible exact Try.underlying62)))))
          | ((with_reducible refine is_b_lss ?_)
             (first
             | ((refine' ⟨_, Yl_lss_t rfl rfl ?q1, ?_⟩); (case q1 => omega))
             | ((refine' ⟨_, Yl_lss_f rfl rfl ?q1, ?_⟩); (case q1 => omega))
             | (refine sp_lss rfl rfl ?_ ?_ <;> intro hc)))
          | ((with_reducible refine is_b_leq ?_)
             (first
             | ((refine' ⟨_, Yl_leq_t rfl rfl ?q1, ?_⟩); (case q1 => omega))
             | ((refine' ⟨_, Yl_leq_f rfl rfl ?q1, ?_⟩); (case q1 => omega))
             | (refine sp_leq rfl rfl ?_ ?_ <;> intro hc)))
          | ((with_reducible refine is_b_gtr ?_)
             (first
             | ((refine' ⟨_, Yl_gtr_t rfl rfl ?q1, ?_⟩); (case q1 => omega))
             | ((refine' ⟨_, Yl_gtr_f rfl rfl ?q1, ?_⟩); (case q1 => omega))
             | (refine sp_gtr rfl rfl ?_ ?_ <;> intro hc)))
          | ((with_reducible refine is_b_geq ?_)
             (first
             | ((refine' ⟨_, Yl_geq_t rfl rfl ?q1, ?_⟩); (case q1 => omega))
             | ((refine' ⟨_, Yl_geq_f rfl rfl ?q1, ?_⟩); (case q1 => omega))
             | (refine sp_geq rfl rfl ?_ ?_ <;> intro hc)))
          | ((with_reducible refine is_b_eql ?_)
             (first
             | ((refine' ⟨_, Yl_eql_t rfl rfl ?q1, ?_⟩); (case q1 => omega))
             | ((refine' ⟨_, Yl_eql_f rfl rfl ?q1, ?_⟩); (case q1 => omega))
             | (refine sp_eql rfl rfl ?_ ?_ <;> intro hc)
             | ((refine' ⟨_, Yl_eql_ptr rfl rfl ?q1, ?_⟩)
                (case q1 =>
                   (first
                   | with_reducible exact ptr_15
                   | with_reducible exact ptr_16
                   | with_reducible exact ptr_17
                   | with_reducible exact ptr_24
                   | with_reducible exact ptr_42
                   | with_reducible exact ptr_58)))
             | ((refine' ⟨_, Yl_eqlA rfl rfl eqg_38 (eqSt _ _ ?q1 ?q2).run, ?_⟩)
                (case q1 => first | assumption | exact hi.len | exact (Win.after_inv _ _ _ hi hb2 hn2).len)
                (case q2 => first | assumption | exact hi.len | exact (Win.after_inv _ _ _ hi hb2 hn2).len))
             | ((refine' ⟨_, Yl_neqA rfl rfl eqg_38 (eqSt _ _ ?q1 ?q2).run, ?_⟩)
                (case q1 => first | assumption | exact hi.len | exact (Win.after_inv _ _ _ hi hb2 hn2).len)
                (case q2 => first | assumption | exact hi.len | exact (Win.after_inv _ _ _ hi hb2 hn2).len))))
          | ((with_reducible refine is_b_neq ?_)
             (first
             | ((refine' ⟨_, Yl_neq_t rfl rfl ?q1, ?_⟩); (case q1 => omega))
             | ((refine' ⟨_, Yl_neq_f rfl rfl ?q1, ?_⟩); (case q1 => omega))
             | (refine sp_neq rfl rfl ?_ ?_ <;> intro hc)
             | ((refine' ⟨_, Yl_eql_ptr rfl rfl ?q1, ?_⟩)
                (case q1 =>
                   (first
                   | with_reducible exact ptr_15
                   | with_reducible exact ptr_16
                   | with_reducible exact ptr_17
                   | with_reducible exact ptr_24
                   | with_reducible exact ptr_42
                   | with_reducible exact ptr_58)))
             | ((refine' ⟨_, Yl_eqlA rfl rfl eqg_38 (eqSt _ _ ?q1 ?q2).run, ?_⟩)
                (case q1 => first | assumption | exact hi.len | exact (Win.after_inv _ _ _ hi hb2 hn2).len)
                (case q2 => first | assumption | exact hi.len | exact (Win.after_inv _ _ _ hi hb2 hn2).len))
             | ((refine' ⟨_, Yl_neqA rfl rfl eqg_38 (eqSt _ _ ?q1 ?q2).run, ?_⟩)
                (case q1 => first | assumption | exact hi.len | exact (Win.after_inv _ _ _ hi hb2 hn2).len)
                (case q2 => first | assumption | exact hi.len | exact (Win.after_inv _ _ _ hi hb2 hn2).len))))
          | ((with_reducible refine is_b_add ?_)
             (first
             | ((refine' ⟨_, Yl_add rfl rfl ?q1 ?q2, ?_⟩); (case q1 => omega); (case q2 => omega))
             | ((refine' ⟨_, Yl_eql_ptr rfl rfl ?q1, ?_⟩)
                (case q1 =>
                   (first
                   | with_reducible exact ptr_15
                   | with_reducible exact ptr_16
                   | with_reducible exact ptr_17
                   | with_reducible exact ptr_24
                   | with_reducible exact ptr_42
                   | with_reducible exact ptr_58)))
             | ((refine' ⟨_, Yl_eqlA rfl rfl eqg_38 (eqSt _ _ ?q1 ?q2).run, ?_⟩)
                (case q1 => first | assumption | exact hi.len | exact (Win.after_inv _ _ _ hi hb2 hn2).len)
                (case q2 => first | assumption | exact hi.len | exact (Win.after_inv _ _ _ hi hb2 hn2).len))
             | ((refine' ⟨_, Yl_neqA rfl rfl eqg_38 (eqSt _ _ ?q1 ?q2).run, ?_⟩)
                (case q1 => first | assumption | exact hi.len | exact (Win.after_inv _ _ _ hi hb2 hn2).len)
                (case q2 => first | assumption | exact hi.len | exact (Win.after_inv _ _ _ hi hb2 hn2).len))))
          | ((with_reducible refine is_b_sub ?_)
             (first
             | ((refine' ⟨_, Yl_sub rfl rfl ?q1 ?q2, ?_⟩); (case q1 => omega); (case q2 => omega))
             | ((refine' ⟨_, Yl_eql_ptr rfl rfl ?q1, ?_⟩)
                (case q1 =>
                   (first
                   | with_reducible exact ptr_15
                   | with_reducible exact ptr_16
                   | with_reducible exact ptr_17
                   | with_reducible exact ptr_24
                   | with_reducible exact ptr_42
                   | with_reducible exact ptr_58)))
             | ((refine' ⟨_, Yl_eqlA rfl rfl eqg_38 (eqSt _ _ ?q1 ?q2).run, ?_⟩)
                (case q1 => first | assumption | exact hi.len | exact (Win.after_inv _ _ _ hi hb2 hn2).len)
                (case q2 => first | assumption | exact hi.len | exact (Win.after_inv _ _ _ hi hb2 hn2).len))
             | ((refine' ⟨_, Yl_neqA rfl rfl eqg_38 (eqSt _ _ ?q1 ?q2).run, ?_⟩)
                (case q1 => first | assumption | exact hi.len | exact (Win.after_inv _ _ _ hi hb2 hn2).len)
                (case q2 => first | assumption | exact hi.len | exact (Win.after_inv _ _ _ hi hb2 hn2).len))))
          | ((with_reducible refine is_build ?_)
             (first
             | ((refine' ⟨_, Yl_build rfl ?q1, ?_⟩); (case q1 => with_reducible exact winA_new _))))
          | (first
            | ((refine' ⟨_, Yl_eql_ptr rfl rfl ?q1, ?_⟩)
               (case q1 =>
                  (first
                  | with_reducible exact ptr_15
                  | with_reducible exact ptr_16
                  | with_reducible exact ptr_17
                  | with_reducible exact ptr_24
                  | with_reducible exact ptr_42
                  | with_reducible exact ptr_58)))
            | ((refine' ⟨_, Yl_eqlA rfl rfl eqg_38 (eqSt _ _ ?q1 ?q2).run, ?_⟩)
               (case q1 => first | assumption | exact hi.len | exact (Win.after_inv _ _ _ hi hb2 hn2).len)
               (case q2 => first | assumption | exact hi.len | exact (Win.after_inv _ _ _ hi hb2 hn2).len))
            | ((refine' ⟨_, Yl_neqA rfl rfl eqg_38 (eqSt _ _ ?q1 ?q2).run, ?_⟩)
               (case q1 => first | assumption | exact hi.len | exact (Win.after_inv _ _ _ hi hb2 hn2).len)
               (case q2 => first | assumption | exact hi.len | exact (Win.after_inv _ _ _ hi hb2 hn2).len)))
          | ((with_reducible refine ie_box ?_)
             (first
             | (refine Ef_boxA rfl rfl ?_
                (first
                | ((fail_if_success have := b1); intro b1)
                | ((fail_if_success have := b2); intro b2)
                | ((fail_if_success have := b3); intro b3)
                | ((fail_if_success have := b4); intro b4)
                | ((fail_if_success have := b5); intro b5)
                | ((fail_if_success have := b6); intro b6)
                | ((fail_if_success have := b7); intro b7)
                | ((fail_if_success have := b8); intro b8)
                | ((fail_if_success have := b9); intro b9)))
             | (refine Ef_box1 rfl rfl rfl ?_
                (first
                | ((fail_if_success have := b1); intro b1)
                | ((fail_if_success have := b2); intro b2)
                | ((fail_if_success have := b3); intro b3)
                | ((fail_if_success have := b4); intro b4)
                | ((fail_if_success have := b5); intro b5)
                | ((fail_if_success have := b6); intro b6)
                | ((fail_if_success have := b7); intro b7)
                | ((fail_if_success have := b8); intro b8)
                | ((fail_if_success have := b9); intro b9)))))
          | ((with_reducible refine ie_alloc ?_)
             (first
             | (refine Ef_alloc rfl Zw ?_
                (first
                | ((fail_if_success have := b1); intro b1)
                | ((fail_if_success have := b2); intro b2)
                | ((fail_if_success have := b3); intro b3)
                | ((fail_if_success have := b4); intro b4)
                | ((fail_if_success have := b5); intro b5)
                | ((fail_if_success have := b6); intro b6)
                | ((fail_if_success have := b7); intro b7)
                | ((fail_if_success have := b8); intro b8)
                | ((fail_if_success have := b9); intro b9)))
             | (((refine' Ef_alloc rfl ?q1 ?_)
                 (case q1 =>
                    (first
                    | with_reducible exact zer_1
                    | with_reducible exact zer_2
                    | with_reducible exact zer_3
                    | with_reducible exact zer_4
                    | with_reducible exact zer_5
                    | with_reducible exact zer_6
                    | with_reducible exact zer_9
                    | with_reducible exact zer_10
                    | with_reducible exact zer_11
                    | with_reducible exact zer_12
                    | with_reducible exact zer_15
                    | with_reducible exact zer_16
                    | with_reducible exact zer_17
                    | with_reducible exact zer_20
                    | with_reducible exact zer_21
                    | with_reducible exact zer_22
                    | with_reducible exact zer_23
                    | with_reducible exact zer_24
                    | with_reducible exact zer_25
                    | with_reducible exact zer_26
                    | with_reducible exact zer_27
                    | with_reducible exact zer_29
                    | with_reducible exact zer_30
                    | with_reducible exact zer_31
                    | with_reducible exact zer_32
                    | with_reducible exact zer_33
                    | with_reducible exact zer_34
                    | with_reducible exact zer_35
                    | with_reducible exact zer_36
                    | with_reducible exact zer_38
                    | with_reducible exact zer_39
                    | with_reducible exact zer_40
                    | with_reducible exact zer_41
                    | with_reducible exact zer_42
                    | with_reducible exact zer_43
                    | with_reducible exact zer_45
                    | with_reducible exact zer_46
                    | with_reducible exact zer_47
                    | with_reducible exact zer_48
                    | with_reducible exact zer_51
                    | with_reducible exact zer_54
                    | with_reducible exact zer_55
                    | with_reducible exact zer_56
                    | with_reducible exact zer_57
                    | with_reducible exact zer_58
                    | with_reducible exact zer_59
                    | with_reducible exact zer_60
                    | with_reducible exact zer_63)))
                (first
                | ((fail_if_success have := b1); intro b1)
                | ((fail_if_success have := b2); intro b2)
                | ((fail_if_success have := b3); intro b3)
                | ((fail_if_success have := b4); intro b4)
                | ((fail_if_success have := b5); intro b5)
                | ((fail_if_success have := b6); intro b6)
                | ((fail_if_success have := b7); intro b7)
                | ((fail_if_success have := b8); intro b8)
                | ((fail_if_success have := b9); intro b9)))))
          | ((with_reducible refine ie_store ?_)
             (first
             | ((refine' Ef_storeA (i := 0) rfl rfl ?q1 ?q2 rfl ?q3 ?_)
                (case q1 =>
                   with_reducible exact siz_38.trans (congrArg some (winA_size _ _ _ (Win.after_inv _ _ _ hi hb2 hn2).len).symm))
                (case q2 => with_reducible exact winA_all _ _ _)
                (case q3 =>
                   with_reducible exact zw_size.trans (winA_size _ _ _ (Win.after_inv _ _ _ hi hb2 hn2).len).symm))
             | ((refine' Ef_storeA (i := 1) rfl rfl ?q1 ?q2 rfl ?q3 ?_)
                (case q1 =>
                   with_reducible exact siz_38.trans (congrArg some (winA_size _ _ _ (Win.after_inv _ _ _ hi hb2 hn2).len).symm))
                (case q2 => with_reducible exact winA_all _ _ _)
                (case q3 =>
                   with_reducible exact (winA_size _ _ _ hi.len).trans (winA_size _ _ _ (Win.after_inv _ _ _ hi hb2 hn2).len).symm))))
          | ((with_reducible refine ie_callf ?_)
             (first
             | (((refine' Ef_callP rfl rfl ent_18 (fun w hp => none_made b _ _ true w ?q1 (winA_0 _ _ _)) ?_)
                 (case q1 =>
                    first
                    | ((refine' hp.own _ ?q1)
                       (case q1 =>
                          (first
                          | exact .head _
                          | exact .tail _ (.head _)
                          | exact .tail _ (.tail _ (.head _))
                          | exact .tail _ (.tail _ (.tail _ (.head _)))
                          | exact .tail _ (.tail _ (.tail _ (.tail _ (.head _))))
                          | exact .tail _ (.tail _ (.tail _ (.tail _ (.tail _ (.head _)))))
                          | exact .tail _ (.tail _ (.tail _ (.tail _ (.tail _ (.tail _ (.head _))))))
                          | exact .tail _ (.tail _ (.tail _ (.tail _ (.tail _ (.tail _ (.tail _ (.head _))))))))))
                    | ((refine' hp.blk_old hb ?q1)
                       (case q1 => first | exact List.not_mem_nil | with_reducible assumption)))))
             | (refine Ef_callP rfl rfl ent_19 (fun w _ => after_any s boot n w hi.len hi.topLo hi.topHi hn2) ?_)))
          | (first
            | (refine Ef_alloc rfl Zw ?_
               (first
               | ((fail_if_success have := b1); intro b1)
               | ((fail_if_success have := b2); intro b2)
               | ((fail_if_success have := b3); intro b3)
               | ((fail_if_success have := b4); intro b4)
               | ((fail_if_success have := b5); intro b5)
               | ((fail_if_success have := b6); intro b6)
               | ((fail_if_success have := b7); intro b7)
               | ((fail_if_success have := b8); intro b8)
               | ((fail_if_success have := b9); intro b9))))
          | refine Ef_y rfl rfl ?_)
  exact ret_n [] (res1 rfl rfl) (List.nil_sublist _) ⟨rfl, rfl⟩
theorem new_c (w : World) : Sp Try.prog 10 [] w [] fun v N => ∃ b : Nat, v = .pointer (some ⟨b, 0, none⟩) ∧ N = [wB b Win.new] := by
  refine Sp.enter (n := 3) Try.func10 rfl rfl rfl (Hp.refl w) ?_
  repeat' (first
          | with_reducible refine T.seq ?_
          | with_reducible refine T.block ?_
          | with_reducible refine T.region ?_
          | with_reducible refine T.skip ?_
          | with_reducible refine T.ret ?_
          | with_reducible refine T.exit ?_
          | with_reducible refine seqQ_n ?_
          | with_reducible refine seqQ_x ?_
          | with_reducible refine seqQ_r ?_
          | with_reducible refine blockQ_n ?_
          | with_reducible refine blockQ_r ?_
          | with_reducible refine blockQ_x ?_
          | ((with_reducible refine g_blkx ?_); refine blockQ_y rfl ?_)
          | with_reducible refine loopQ_x ?_
          | with_reducible refine loopQ_r ?_
          | ((with_reducible refine g_cond ?_)
             (first
             | refine T.cond_t rfl ?_
             | refine T.cond_f rfl ?_
             | (refine T.cond_s rfl ?_ ?_ <;> intro hc)))
          | with_reducible refine TL_nil ?_
          | with_reducible refine TS_nil ?_
          | ((with_reducible refine g_draw ?_)
             (first
             | (((with_reducible refine' T.drawM (id := 6) [(0, true), (1, true), (2, true), (3, true), (4, true)] mixd ?q1 ?_)
                 (case q1 => kernel_rfl)))
             | (((with_reducible refine' T.drawM (id := 1) [(0, true), (1, false), (2, true), (3, true), (4, true), (5, true), (6, true), (7, true), (8, true), (9, true), (10, true), (11, true), (12, true), (14, true), (15, true), (16, true), (13, false), (17, true), (18, true), (19, true)] mixd ?q1 ?_)
                 (case q1 => kernel_rfl)))))
          | ((with_reducible refine TL_y' ?hy ?hd ?_); (case hy => rfl); (case hd => rfl))
          | with_reducible refine TL_e ?_
          | ((with_reducible refine g_TL ?_)
             (first
             | refine TL_gy' rfl rfl rfl rfl ?_
             | refine TL_gn rfl rfl rfl ?_
             | refine TL_gu rfl rfl rfl ?_
             | refine TL_ge rfl rfl ?_
             | refine TL_gn0 rfl rfl ?_))
          | ((with_reducible refine g_TS ?_)
             (first
             | refine TS_y rfl rfl ?_
             | refine TS_e rfl ?_
             | refine TS_gy rfl rfl rfl rfl ?_
             | refine TS_gn rfl rfl rfl rfl ?_
             | refine TS_gu rfl rfl rfl rfl ?_
             | refine TS_ge rfl rfl rfl ?_
             | refine TS_gne rfl rfl rfl rfl ?_
             | refine TS_gue rfl rfl rfl rfl ?_
             | refine TS_gne0 rfl rfl rfl ?_))
          | ((with_reducible refine TSand ?hd ?_)
             (case hd =>
                (repeat (first | exact List.nil_sublist _ | refine List.Sublist.cons_cons _ ?_ | refine List.Sublist.cons _ ?_))))
          | ((with_reducible refine is_move ?_); refine ⟨_, Yl_move rfl, ?_⟩)
          | ((with_reducible refine is_assign ?_); refine ⟨_, Yl_assign rfl, ?_⟩)
          | ((with_reducible refine is_pick ?_)
             (first | refine ⟨_, Yl_pick_t rfl rfl, ?_⟩ | refine ⟨_, Yl_pick_f rfl rfl, ?_⟩))
          | ((with_reducible refine is_nil ?_); refine ⟨_, Yl_nilCheck rfl, ?_⟩)
          | ((with_reducible refine is_fld ?_)
             (first
             | ((refine' ⟨_, Yl_fld_blk0 rfl ?q1, ?_⟩)
                (case q1 =>
                   (first
                   | with_reducible exact fld_29_0
                   | with_reducible exact fld_29_1
                   | with_reducible exact fld_38_0
                   | with_reducible exact fld_38_1
                   | with_reducible exact fld_38_2
                   | with_reducible exact fld_38_3
                   | with_reducible exact fld_45_0
                   | with_reducible exact fld_45_1)))
             | ((refine' ⟨_, Yl_fld_blk rfl ?q1, ?_⟩)
                (case q1 =>
                   (first
                   | with_reducible exact fld_29_0
                   | with_reducible exact fld_29_1
                   | with_reducible exact fld_38_0
                   | with_reducible exact fld_38_1
                   | with_reducible exact fld_38_2
                   | with_reducible exact fld_38_3
                   | with_reducible exact fld_45_0
                   | with_reducible exact fld_45_1)))
             | ((refine' ⟨_, Yl_fld_ad rfl ?q1, ?_⟩)
                (case q1 =>
                   (first
                   | with_reducible exact fld_29_0
                   | with_reducible exact fld_29_1
                   | with_reducible exact fld_38_0
                   | with_reducible exact fld_38_1
                   | with_reducible exact fld_38_2
                   | with_reducible exact fld_38_3
                   | with_reducible exact fld_45_0
                   | with_reducible exact fld_45_1)))))
          | ((with_reducible refine is_load ?_)
             (first
             | ((refine' ⟨_, Yl_loadA_old rfl hb List.not_mem_nil ?q1, ?_⟩)
                (case q1 =>
                   with_reducible exact agg_38.trans (congrArg some (winA_size _ _ _ hi.len).symm)))
             | ((refine' ⟨_, Yl_loadA_blk rfl ?q1 ?q2, ?_⟩)
                (case q1 =>
                   (first
                   | exact .head _
                   | exact .tail _ (.head _)
                   | exact .tail _ (.tail _ (.head _))
                   | exact .tail _ (.tail _ (.tail _ (.head _)))
                   | exact .tail _ (.tail _ (.tail _ (.tail _ (.head _))))
                   | exact .tail _ (.tail _ (.tail _ (.tail _ (.tail _ (.head _)))))
                   | exact .tail _ (.tail _ (.tail _ (.tail _ (.tail _ (.tail _ (.head _))))))
                   | exact .tail _ (.tail _ (.tail _ (.tail _ (.tail _ (.tail _ (.tail _ (.head _)))))))))
                (case q2 =>
                   with_reducible exact agg_38.trans (congrArg some (winA_size _ _ _ hi.len).symm)))
             | ((refine' ⟨_, Yl_loadA_blk rfl ?q1 ?q2, ?_⟩)
                (case q1 =>
                   (first
                   | exact .head _
                   | exact .tail _ (.head _)
                   | exact .tail _ (.tail _ (.head _))
                   | exact .tail _ (.tail _ (.tail _ (.head _)))
                   | exact .tail _ (.tail _ (.tail _ (.tail _ (.head _))))
                   | exact .tail _ (.tail _ (.tail _ (.tail _ (.tail _ (.head _)))))
                   | exact .tail _ (.tail _ (.tail _ (.tail _ (.tail _ (.tail _ (.head _))))))
                   | exact .tail _ (.tail _ (.tail _ (.tail _ (.tail _ (.tail _ (.tail _ (.head _)))))))))
                (case q2 =>
                   with_reducible exact agg_38.trans (congrArg some (winA_size _ _ _ (Win.after_inv _ _ _ hi hb2 hn2).len).symm)))
             | ((refine' ⟨_, Yl_load_old rfl ?q1 hb List.not_mem_nil ?q2, ?_⟩)
                (case q1 =>
                   (first
                   | with_reducible exact one_1
                   | with_reducible exact one_2
                   | with_reducible exact one_3
                   | with_reducible exact one_4
                   | with_reducible exact one_5
                   | with_reducible exact one_6
                   | with_reducible exact one_9
                   | with_reducible exact one_10
                   | with_reducible exact one_11
                   | with_reducible exact one_12
                   | with_reducible exact one_15
                   | with_reducible exact one_16
                   | with_reducible exact one_17
                   | with_reducible exact one_20
                   | with_reducible exact one_21
                   | with_reducible exact one_22
                   | with_reducible exact one_23
                   | with_reducible exact one_24
                   | with_reducible exact one_25
                   | with_reducible exact one_26
                   | with_reducible exact one_27
                   | with_reducible exact one_30
                   | with_reducible exact one_31
                   | with_reducible exact one_32
                   | with_reducible exact one_33
                   | with_reducible exact one_35
                   | with_reducible exact one_36
                   | with_reducible exact one_39
                   | with_reducible exact one_40
                   | with_reducible exact one_41
                   | with_reducible exact one_42
                   | with_reducible exact one_43
                   | with_reducible exact one_46
                   | with_reducible exact one_47
                   | with_reducible exact one_48
                   | with_reducible exact one_54
                   | with_reducible exact one_55
                   | with_reducible exact one_56
                   | with_reducible exact one_57
                   | with_reducible exact one_58
                   | with_reducible exact one_59
                   | with_reducible exact one_60
                   | with_reducible exact one_63))
                (case q2 =>
                   first
                   | with_reducible exact winA_0 _ _ _
                   | with_reducible exact winA_1 _ _ _
                   | with_reducible exact winA_2 _ _ _
                   | with_reducible assumption))
             | ((refine' ⟨_, Yl_load_blk rfl ?q1 ?q2 ?q3, ?_⟩)
                (case q1 =>
                   (first
                   | with_reducible exact one_1
                   | with_reducible exact one_2
                   | with_reducible exact one_3
                   | with_reducible exact one_4
                   | with_reducible exact one_5
                   | with_reducible exact one_6
                   | with_reducible exact one_9
                   | with_reducible exact one_10
                   | with_reducible exact one_11
                   | with_reducible exact one_12
                   | with_reducible exact one_15
                   | with_reducible exact one_16
                   | with_reducible exact one_17
                   | with_reducible exact one_20
                   | with_reducible exact one_21
                   | with_reducible exact one_22
                   | with_reducible exact one_23
                   | with_reducible exact one_24
                   | with_reducible exact one_25
                   | with_reducible exact one_26
                   | with_reducible exact one_27
                   | with_reducible exact one_30
                   | with_reducible exact one_31
                   | with_reducible exact one_32
                   | with_reducible exact one_33
                   | with_reducible exact one_35
                   | with_reducible exact one_36
                   | with_reducible exact one_39
                   | with_reducible exact one_40
                   | with_reducible exact one_41
                   | with_reducible exact one_42
                   | with_reducible exact one_43
                   | with_reducible exact one_46
                   | with_reducible exact one_47
                   | with_reducible exact one_48
                   | with_reducible exact one_54
                   | with_reducible exact one_55
                   | with_reducible exact one_56
                   | with_reducible exact one_57
                   | with_reducible exact one_58
                   | with_reducible exact one_59
                   | with_reducible exact one_60
                   | with_reducible exact one_63))
                (case q2 =>
                   (first
                   | exact .head _
                   | exact .tail _ (.head _)
                   | exact .tail _ (.tail _ (.head _))
                   | exact .tail _ (.tail _ (.tail _ (.head _)))
                   | exact .tail _ (.tail _ (.tail _ (.tail _ (.head _))))
                   | exact .tail _ (.tail _ (.tail _ (.tail _ (.tail _ (.head _)))))
                   | exact .tail _ (.tail _ (.tail _ (.tail _ (.tail _ (.tail _ (.head _))))))
                   | exact .tail _ (.tail _ (.tail _ (.tail _ (.tail _ (.tail _ (.tail _ (.head _)))))))))
                (case q3 => with_reducible exact winA_0 _ _ _))
             | ((refine' ⟨_, Yl_load_blk rfl ?q1 ?q2 ?q3, ?_⟩)
                (case q1 =>
                   (first
                   | with_reducible exact one_1
                   | with_reducible exact one_2
                   | with_reducible exact one_3
                   | with_reducible exact one_4
                   | with_reducible exact one_5
                   | with_reducible exact one_6
                   | with_reducible exact one_9
                   | with_reducible exact one_10
                   | with_reducible exact one_11
                   | with_reducible exact one_12
                   | with_reducible exact one_15
                   | with_reducible exact one_16
                   | with_reducible exact one_17
                   | with_reducible exact one_20
                   | with_reducible exact one_21
                   | with_reducible exact one_22
                   | with_reducible exact one_23
                   | with_reducible exact one_24
                   | with_reducible exact one_25
                   | with_reducible exact one_26
                   | with_reducible exact one_27
                   | with_reducible exact one_30
                   | with_reducible exact one_31
                   | with_reducible exact one_32
                   | with_reducible exact one_33
                   | with_reducible exact one_35
                   | with_reducible exact one_36
                   | with_reducible exact one_39
                   | with_reducible exact one_40
                   | with_reducible exact one_41
                   | with_reducible exact one_42
                   | with_reducible exact one_43
                   | with_reducible exact one_46
                   | with_reducible exact one_47
                   | with_reducible exact one_48
                   | with_reducible exact one_54
                   | with_reducible exact one_55
                   | with_reducible exact one_56
                   | with_reducible exact one_57
                   | with_reducible exact one_58
                   | with_reducible exact one_59
                   | with_reducible exact one_60
                   | with_reducible exact one_63))
                (case q2 =>
                   (first
                   | exact .head _
                   | exact .tail _ (.head _)
                   | exact .tail _ (.tail _ (.head _))
                   | exact .tail _ (.tail _ (.tail _ (.head _)))
                   | exact .tail _ (.tail _ (.tail _ (.tail _ (.head _))))
                   | exact .tail _ (.tail _ (.tail _ (.tail _ (.tail _ (.head _)))))
                   | exact .tail _ (.tail _ (.tail _ (.tail _ (.tail _ (.tail _ (.head _))))))
                   | exact .tail _ (.tail _ (.tail _ (.tail _ (.tail _ (.tail _ (.tail _ (.head _)))))))))
                (case q3 => rfl))
             | ((refine' ⟨_, Yl_loadA_blk rfl ?q1 ?q2, ?_⟩)
                (case q1 =>
                   (first
                   | exact .head _
                   | exact .tail _ (.head _)
                   | exact .tail _ (.tail _ (.head _))
                   | exact .tail _ (.tail _ (.tail _ (.head _)))
                   | exact .tail _ (.tail _ (.tail _ (.tail _ (.head _))))
                   | exact .tail _ (.tail _ (.tail _ (.tail _ (.tail _ (.head _)))))
                   | exact .tail _ (.tail _ (.tail _ (.tail _ (.tail _ (.tail _ (.head _))))))
                   | exact .tail _ (.tail _ (.tail _ (.tail _ (.tail _ (.tail _ (.tail _ (.head _)))))))))
                (case q2 =>
                   (first
                   | with_reducible exact agg_7
                   | with_reducible exact agg_8
                   | with_reducible exact agg_13
                   | with_reducible exact agg_14
                   | with_reducible exact agg_18
                   | with_reducible exact agg_19
                   | with_reducible exact agg_28
                   | with_reducible exact agg_29
                   | with_reducible exact agg_34
                   | with_reducible exact agg_37
                   | with_reducible exact agg_38
                   | with_reducible exact agg_44
                   | with_reducible exact agg_45
                   | with_reducible exact agg_49
                   | with_reducible exact agg_50
                   | with_reducible exact agg_51
                   | with_reducible exact agg_52
                   | with_reducible exact agg_53
                   | with_reducible exact agg_61
                   | with_reducible exact agg_62)))))
          | ((with_reducible refine is_idx ?_); (first | fail))
          | ((with_reducible refine is_ext ?_); refine ⟨_, Yl_extract rfl rfl, ?_⟩)
          | ((with_reducible refine is_un ?_); refine ⟨_, Yl_not rfl, ?_⟩)
          | ((with_reducible refine is_len ?_)
             (first
             | ((refine' ⟨_, Yl_len_slice rfl ?q1, ?_⟩)
                (case q1 =>
                   (first
                   | with_reducible exact Try.underlying4
                   | with_reducible exact Try.underlying7
                   | with_reducible exact Try.underlying8
                   | with_reducible exact Try.underlying9
                   | with_reducible exact Try.underlying10
                   | with_reducible exact Try.underlying11
                   | with_reducible exact Try.underlying13
                   | with_reducible exact Try.underlying14
                   | with_reducible exact Try.underlying15
                   | with_reducible exact Try.underlying16
                   | with_reducible exact Try.underlying17
                   | with_reducible exact Try.underlying18
                   | with_reducible exact Try.underlying19
                   | with_reducible exact Try.underlying22
                   | with_reducible exact Try.underlying24
                   | with_reducible exact Try.underlying28
                   | with_reducible exact Try.underlying29
                   | with_reducible exact Try.underlying31
                   | with_reducible exact Try.underlying34
                   | with_reducible exact Try.underlying37
                   | with_reducible exact Try.underlying38
                   | with_reducible exact Try.underlying39
                   | with_reducible exact Try.underlying42
                   | with_reducible exact Try.underlying44
                   | with_reducible exact Try.underlying45
                   | with_reducible exact Try.underlying49
                   | with_reducible exact Try.underlying50
                   | with_reducible exact Try.underlying51
                   | with_reducible exact Try.underlying52
                   | with_reducible exact Try.underlying53
                   | with_reducible exact Try.underlying58
                   | with_reducible exact Try.underlying61
                   | with_reducible exact Try.underlying62)))
             | ((refine' ⟨_, Yl_len_string rfl ?q1, ?_⟩)
                (case q1 =>
                   (first
                   | with_reducible exact Try.underlying4
                   | with_reducible exact Try.underlying7
                   | with_reducible exact Try.underlying8
                   | with_reducible exact Try.underlying9
                   | with_reducible exact Try.underlying10
                   | with_reducible exact Try.underlying11
                   | with_reducible exact Try.underlying13
                   | with_reducible exact Try.underlying14
                   | with_reducible exact Try.underlying15
                   | with_reducible exact Try.underlying16
                   | with_reducible exact Try.underlying17
                   | with_reducible exact Try.underlying18
                   | with_reducible exact Try.underlying19
                   | with_reducible exact Try.underlying22
                   | with_reducible exact Try.underlying24
                   | with_reducible exact Try.underlying28
                   | with_reducible exact Try.underlying29
                   | with_reducible exact Try.underlying31
                   | with_reducible exact Try.underlying34
                   | with_reducible exact Try.underlying37
                   | with_reducible exact Try.underlying38
                   | with_reducible exact Try.underlying39
                   | with_reducible exact Try.underlying42
                   | with_reducible exact Try.underlying44
                   | with_reducible exact Try.underlying45
                   | with_reducible exact Try.underlying49
                   | with_reducible exact Try.underlying50
                   | with_reducible exact Try.underlying51
                   | with_reducible exact Try.underlying52
                   | with_reducible exact Try.underlying53
                   | with_reducible exact Try.underlying58
                   | with_reducible exact Try.underlying61
                   | with_reducible exact Try.underlying62)))))
          | ((with_reducible refine is_b_lss ?_)
             (first
             | ((refine' ⟨_, Yl_lss_t rfl rfl ?q1, ?_⟩); (case q1 => omega))
             | ((refine' ⟨_, Yl_lss_f rfl rfl ?q1, ?_⟩); (case q1 => omega))
             | (refine sp_lss rfl rfl ?_ ?_ <;> intro hc)))
          | ((with_reducible refine is_b_leq ?_)
             (first
             | ((refine' ⟨_, Yl_leq_t rfl rfl ?q1, ?_⟩); (case q1 => omega))
             | ((refine' ⟨_, Yl_leq_f rfl rfl ?q1, ?_⟩); (case q1 => omega))
             | (refine sp_leq rfl rfl ?_ ?_ <;> intro hc)))
          | ((with_reducible refine is_b_gtr ?_)
             (first
             | ((refine' ⟨_, Yl_gtr_t rfl rfl ?q1, ?_⟩); (case q1 => omega))
             | ((refine' ⟨_, Yl_gtr_f rfl rfl ?q1, ?_⟩); (case q1 => omega))
             | (refine sp_gtr rfl rfl ?_ ?_ <;> intro hc)))
          | ((with_reducible refine is_b_geq ?_)
             (first
             | ((refine' ⟨_, Yl_geq_t rfl rfl ?q1, ?_⟩); (case q1 => omega))
             | ((refine' ⟨_, Yl_geq_f rfl rfl ?q1, ?_⟩); (case q1 => omega))
             | (refine sp_geq rfl rfl ?_ ?_ <;> intro hc)))
          | ((with_reducible refine is_b_eql ?_)
             (first
             | ((refine' ⟨_, Yl_eql_t rfl rfl ?q1, ?_⟩); (case q1 => omega))
             | ((refine' ⟨_, Yl_eql_f rfl rfl ?q1, ?_⟩); (case q1 => omega))
             | (refine sp_eql rfl rfl ?_ ?_ <;> intro hc)
             | ((refine' ⟨_, Yl_eql_ptr rfl rfl ?q1, ?_⟩)
                (case q1 =>
                   (first
                   | with_reducible exact ptr_15
                   | with_reducible exact ptr_16
                   | with_reducible exact ptr_17
                   | with_reducible exact ptr_24
                   | with_reducible exact ptr_42
                   | with_reducible exact ptr_58)))
             | ((refine' ⟨_, Yl_eqlA rfl rfl eqg_38 (eqSt _ _ ?q1 ?q2).run, ?_⟩)
                (case q1 => first | assumption | exact hi.len | exact (Win.after_inv _ _ _ hi hb2 hn2).len)
                (case q2 => first | assumption | exact hi.len | exact (Win.after_inv _ _ _ hi hb2 hn2).len))
             | ((refine' ⟨_, Yl_neqA rfl rfl eqg_38 (eqSt _ _ ?q1 ?q2).run, ?_⟩)
                (case q1 => first | assumption | exact hi.len | exact (Win.after_inv _ _ _ hi hb2 hn2).len)
                (case q2 => first | assumption | exact hi.len | exact (Win.after_inv _ _ _ hi hb2 hn2).len))))
          | ((with_reducible refine is_b_neq ?_)
             (first
             | ((refine' ⟨_, Yl_neq_t rfl rfl ?q1, ?_⟩); (case q1 => omega))
             | ((refine' ⟨_, Yl_neq_f rfl rfl ?q1, ?_⟩); (case q1 => omega))
             | (refine sp_neq rfl rfl ?_ ?_ <;> intro hc)
             | ((refine' ⟨_, Yl_eql_ptr rfl rfl ?q1, ?_⟩)
                (case q1 =>
                   (first
                   | with_reducible exact ptr_15
                   | with_reducible exact ptr_16
                   | with_reducible exact ptr_17
                   | with_reducible exact ptr_24
                   | with_reducible exact ptr_42
                   | with_reducible exact ptr_58)))
             | ((refine' ⟨_, Yl_eqlA rfl rfl eqg_38 (eqSt _ _ ?q1 ?q2).run, ?_⟩)
                (case q1 => first | assumption | exact hi.len | exact (Win.after_inv _ _ _ hi hb2 hn2).len)
                (case q2 => first | assumption | exact hi.len | exact (Win.after_inv _ _ _ hi hb2 hn2).len))
             | ((refine' ⟨_, Yl_neqA rfl rfl eqg_38 (eqSt _ _ ?q1 ?q2).run, ?_⟩)
                (case q1 => first | assumption | exact hi.len | exact (Win.after_inv _ _ _ hi hb2 hn2).len)
                (case q2 => first | assumption | exact hi.len | exact (Win.after_inv _ _ _ hi hb2 hn2).len))))
          | ((with_reducible refine is_b_add ?_)
             (first
             | ((refine' ⟨_, Yl_add rfl rfl ?q1 ?q2, ?_⟩); (case q1 => omega); (case q2 => omega))
             | ((refine' ⟨_, Yl_eql_ptr rfl rfl ?q1, ?_⟩)
                (case q1 =>
                   (first
                   | with_reducible exact ptr_15
                   | with_reducible exact ptr_16
                   | with_reducible exact ptr_17
                   | with_reducible exact ptr_24
                   | with_reducible exact ptr_42
                   | with_reducible exact ptr_58)))
             | ((refine' ⟨_, Yl_eqlA rfl rfl eqg_38 (eqSt _ _ ?q1 ?q2).run, ?_⟩)
                (case q1 => first | assumption | exact hi.len | exact (Win.after_inv _ _ _ hi hb2 hn2).len)
                (case q2 => first | assumption | exact hi.len | exact (Win.after_inv _ _ _ hi hb2 hn2).len))
             | ((refine' ⟨_, Yl_neqA rfl rfl eqg_38 (eqSt _ _ ?q1 ?q2).run, ?_⟩)
                (case q1 => first | assumption | exact hi.len | exact (Win.after_inv _ _ _ hi hb2 hn2).len)
                (case q2 => first | assumption | exact hi.len | exact (Win.after_inv _ _ _ hi hb2 hn2).len))))
          | ((with_reducible refine is_b_sub ?_)
             (first
             | ((refine' ⟨_, Yl_sub rfl rfl ?q1 ?q2, ?_⟩); (case q1 => omega); (case q2 => omega))
             | ((refine' ⟨_, Yl_eql_ptr rfl rfl ?q1, ?_⟩)
                (case q1 =>
                   (first
                   | with_reducible exact ptr_15
                   | with_reducible exact ptr_16
                   | with_reducible exact ptr_17
                   | with_reducible exact ptr_24
                   | with_reducible exact ptr_42
                   | with_reducible exact ptr_58)))
             | ((refine' ⟨_, Yl_eqlA rfl rfl eqg_38 (eqSt _ _ ?q1 ?q2).run, ?_⟩)
                (case q1 => first | assumption | exact hi.len | exact (Win.after_inv _ _ _ hi hb2 hn2).len)
                (case q2 => first | assumption | exact hi.len | exact (Win.after_inv _ _ _ hi hb2 hn2).len))
             | ((refine' ⟨_, Yl_neqA rfl rfl eqg_38 (eqSt _ _ ?q1 ?q2).run, ?_⟩)
                (case q1 => first | assumption | exact hi.len | exact (Win.after_inv _ _ _ hi hb2 hn2).len)
                (case q2 => first | assumption | exact hi.len | exact (Win.after_inv _ _ _ hi hb2 hn2).len))))
          | ((with_reducible refine is_build ?_)
             (first
             | ((refine' ⟨_, Yl_build rfl ?q1, ?_⟩); (case q1 => with_reducible exact winA_new _))))
          | (first
            | ((refine' ⟨_, Yl_eql_ptr rfl rfl ?q1, ?_⟩)
               (case q1 =>
                  (first
                  | with_reducible exact ptr_15
                  | with_reducible exact ptr_16
                  | with_reducible exact ptr_17
                  | with_reducible exact ptr_24
                  | with_reducible exact ptr_42
                  | with_reducible exact ptr_58)))
            | ((refine' ⟨_, Yl_eqlA rfl rfl eqg_38 (eqSt _ _ ?q1 ?q2).run, ?_⟩)
               (case q1 => first | assumption | exact hi.len | exact (Win.after_inv _ _ _ hi hb2 hn2).len)
               (case q2 => first | assumption | exact hi.len | exact (Win.after_inv _ _ _ hi hb2 hn2).len))
            | ((refine' ⟨_, Yl_neqA rfl rfl eqg_38 (eqSt _ _ ?q1 ?q2).run, ?_⟩)
               (case q1 => first | assumption | exact hi.len | exact (Win.after_inv _ _ _ hi hb2 hn2).len)
               (case q2 => first | assumption | exact hi.len | exact (Win.after_inv _ _ _ hi hb2 hn2).len)))
          | ((with_reducible refine ie_box ?_)
             (first
             | (refine Ef_boxA rfl rfl ?_
                (first
                | ((fail_if_success have := b1); intro b1)
                | ((fail_if_success have := b2); intro b2)
                | ((fail_if_success have := b3); intro b3)
                | ((fail_if_success have := b4); intro b4)
                | ((fail_if_success have := b5); intro b5)
                | ((fail_if_success have := b6); intro b6)
                | ((fail_if_success have := b7); intro b7)
                | ((fail_if_success have := b8); intro b8)
                | ((fail_if_success have := b9); intro b9)))
             | (refine Ef_box1 rfl rfl rfl ?_
                (first
                | ((fail_if_success have := b1); intro b1)
                | ((fail_if_success have := b2); intro b2)
                | ((fail_if_success have := b3); intro b3)
                | ((fail_if_success have := b4); intro b4)
                | ((fail_if_success have := b5); intro b5)
                | ((fail_if_success have := b6); intro b6)
                | ((fail_if_success have := b7); intro b7)
                | ((fail_if_success have := b8); intro b8)
                | ((fail_if_success have := b9); intro b9)))))
          | ((with_reducible refine ie_alloc ?_)
             (first
             | (refine Ef_alloc rfl Zw ?_
                (first
                | ((fail_if_success have := b1); intro b1)
                | ((fail_if_success have := b2); intro b2)
                | ((fail_if_success have := b3); intro b3)
                | ((fail_if_success have := b4); intro b4)
                | ((fail_if_success have := b5); intro b5)
                | ((fail_if_success have := b6); intro b6)
                | ((fail_if_success have := b7); intro b7)
                | ((fail_if_success have := b8); intro b8)
                | ((fail_if_success have := b9); intro b9)))
             | (((refine' Ef_alloc rfl ?q1 ?_)
                 (case q1 =>
                    (first
                    | with_reducible exact zer_1
                    | with_reducible exact zer_2
                    | with_reducible exact zer_3
                    | with_reducible exact zer_4
                    | with_reducible exact zer_5
                    | with_reducible exact zer_6
                    | with_reducible exact zer_9
                    | with_reducible exact zer_10
                    | with_reducible exact zer_11
                    | with_reducible exact zer_12
                    | with_reducible exact zer_15
                    | with_reducible exact zer_16
                    | with_reducible exact zer_17
                    | with_reducible exact zer_20
                    | with_reducible exact zer_21
                    | with_reducible exact zer_22
                    | with_reducible exact zer_23
                    | with_reducible exact zer_24
                    | with_reducible exact zer_25
                    | with_reducible exact zer_26
                    | with_reducible exact zer_27
                    | with_reducible exact zer_29
                    | with_reducible exact zer_30
                    | with_reducible exact zer_31
                    | with_reducible exact zer_32
                    | with_reducible exact zer_33
                    | with_reducible exact zer_34
                    | with_reducible exact zer_35
                    | with_reducible exact zer_36
                    | with_reducible exact zer_38
                    | with_reducible exact zer_39
                    | with_reducible exact zer_40
                    | with_reducible exact zer_41
                    | with_reducible exact zer_42
                    | with_reducible exact zer_43
                    | with_reducible exact zer_45
                    | with_reducible exact zer_46
                    | with_reducible exact zer_47
                    | with_reducible exact zer_48
                    | with_reducible exact zer_51
                    | with_reducible exact zer_54
                    | with_reducible exact zer_55
                    | with_reducible exact zer_56
                    | with_reducible exact zer_57
                    | with_reducible exact zer_58
                    | with_reducible exact zer_59
                    | with_reducible exact zer_60
                    | with_reducible exact zer_63)))
                (first
                | ((fail_if_success have := b1); intro b1)
                | ((fail_if_success have := b2); intro b2)
                | ((fail_if_success have := b3); intro b3)
                | ((fail_if_success have := b4); intro b4)
                | ((fail_if_success have := b5); intro b5)
                | ((fail_if_success have := b6); intro b6)
                | ((fail_if_success have := b7); intro b7)
                | ((fail_if_success have := b8); intro b8)
                | ((fail_if_success have := b9); intro b9)))))
          | ((with_reducible refine ie_store ?_)
             (first
             | ((refine' Ef_storeA (i := 0) rfl rfl ?q1 ?q2 rfl ?q3 ?_)
                (case q1 =>
                   with_reducible exact siz_38.trans (congrArg some (winA_size _ _ _ (Win.after_inv _ _ _ hi hb2 hn2).len).symm))
                (case q2 => with_reducible exact winA_all _ _ _)
                (case q3 =>
                   with_reducible exact zw_size.trans (winA_size _ _ _ (Win.after_inv _ _ _ hi hb2 hn2).len).symm))
             | ((refine' Ef_storeA (i := 1) rfl rfl ?q1 ?q2 rfl ?q3 ?_)
                (case q1 =>
                   with_reducible exact siz_38.trans (congrArg some (winA_size _ _ _ (Win.after_inv _ _ _ hi hb2 hn2).len).symm))
                (case q2 => with_reducible exact winA_all _ _ _)
                (case q3 =>
                   with_reducible exact (winA_size _ _ _ hi.len).trans (winA_size _ _ _ (Win.after_inv _ _ _ hi hb2 hn2).len).symm))))
          | ((with_reducible refine ie_callf ?_)
             (first
             | (((refine' Ef_callP rfl rfl ent_18 (fun w hp => none_made b _ _ true w ?q1 (winA_0 _ _ _)) ?_)
                 (case q1 =>
                    first
                    | ((refine' hp.own _ ?q1)
                       (case q1 =>
                          (first
                          | exact .head _
                          | exact .tail _ (.head _)
                          | exact .tail _ (.tail _ (.head _))
                          | exact .tail _ (.tail _ (.tail _ (.head _)))
                          | exact .tail _ (.tail _ (.tail _ (.tail _ (.head _))))
                          | exact .tail _ (.tail _ (.tail _ (.tail _ (.tail _ (.head _)))))
                          | exact .tail _ (.tail _ (.tail _ (.tail _ (.tail _ (.tail _ (.head _))))))
                          | exact .tail _ (.tail _ (.tail _ (.tail _ (.tail _ (.tail _ (.tail _ (.head _))))))))))
                    | ((refine' hp.blk_old hb ?q1)
                       (case q1 => first | exact List.not_mem_nil | with_reducible assumption)))))
             | (refine Ef_callP rfl rfl ent_19 (fun w _ => after_any s boot n w hi.len hi.topLo hi.topHi hn2) ?_)))
          | (first
            | (refine Ef_alloc rfl Zw ?_
               (first
               | ((fail_if_success have := b1); intro b1)
               | ((fail_if_success have := b2); intro b2)
               | ((fail_if_success have := b3); intro b3)
               | ((fail_if_success have := b4); intro b4)
               | ((fail_if_success have := b5); intro b5)
               | ((fail_if_success have := b6); intro b6)
               | ((fail_if_success have := b7); intro b7)
               | ((fail_if_success have := b8); intro b8)
               | ((fail_if_success have := b9); intro b9))))
          | refine Ef_y rfl rfl ?_)
  exact ret_n [_] (res1 rfl rfl) (List.Sublist.refl _) ⟨_, rfl, rfl⟩

end Go.Proofs.Ytbmegafjphcdnaa
