/- The law on the document's window: what a call of it comes to: for every slice of numbers of 64 bits. -/
import Derived.Test.YtbmegafjphcdnaaR1
import Derived.Test.YtbmegafjphcdnaaT5
namespace Go.Proofs.Ytbmegafjphcdnaa
open Go.RowKit
set_option maxRecDepth 20000

set_option maxHeartbeats 2000000 in
theorem plays_c (A : Option Addr) (len cap : Nat) (zs : List (Int × Int)) (w : World) (hr : Rd w A len 2 (zs.flatMap nE)) (hl : zs.length = len) (hz : ∀ x ∈ zs, x.1 ≤ 9223372036854775807 ∧ x.2 ≤ 9223372036854775807) :
    Sp Try.prog 8 [.slice A len cap] w [] fun v N => v = .bool true ∧ N = [] := by
  refine Sp.enter (n := 91) Try.func8 rfl rfl rfl (Hp.refl w) ?_
  repeat' (first
          | with_reducible refine T.seq ?_
          | with_reducible refine T.block ?_
          | with_reducible refine T.region ?_
          | with_reducible refine T.skip ?_
          | with_reducible refine T.ret ?_
          | with_reducible refine T.exit ?_
          | with_reducible refine seqQ_n ?_
          | with_reducible refine seqQ_x ?_
          | with_reducible refine seqQ_r ?_
          | with_reducible refine blockQ_n ?_
          | with_reducible refine blockQ_r ?_
          | with_reducible refine blockQ_x ?_
          | ((with_reducible refine g_blkx ?_); refine blockQ_y rfl ?_)
          | with_reducible refine loopQ_x ?_
          | with_reducible refine loopQ_r ?_
          | ((with_reducible refine g_cond ?_); (first | refine T.cond_t rfl ?_ | refine T.cond_f rfl ?_ | (refine T.cond_s rfl ?_ ?_ <;> intro hc)))
          | with_reducible refine TL_nil ?_
          | with_reducible refine TS_nil ?_
          | ((with_reducible refine g_draw ?_)
             (first
             | (((with_reducible refine' T.drawM (id := 7) [(0, true), (2, true), (3, true), (4, true), (5, true), (1, false), (6, true), (7, true), (8, true), (10, true), (9, false), (11, false), (12, true), (13, true)] mixd ?q1 ?_); (case q1 => kernel_rfl)))
             | (((with_reducible refine' T.drawM (id := 9) [(0, true), (1, true), (2, true), (3, true), (4, true), (5, true), (6, true), (7, true), (8, true), (9, true), (10, true), (11, false), (12, true)] mixd ?q1 ?_); (case q1 => kernel_rfl)))
             | (((with_reducible refine' T.draw0 (id := 10) [(0, true), (1, true), (2, true), (3, true), (4, true), (5, true), (6, true), (7, true), (8, true), (9, true), (10, true), (11, false), (12, true)] mixd ?q1 ?_); (case q1 => kernel_rfl)))
             | (((with_reducible refine' T.draw0 (id := 11) [(0, true), (1, true), (2, true), (3, true), (4, true), (5, true), (6, true), (7, true), (8, true), (9, true), (10, true), (11, true), (12, false), (13, true), (14, true), (15, true), (16, true), (17, true), (18, true), (19, true)] mixd ?q1 ?_)
                 (case q1 => kernel_rfl)))
             | (((with_reducible refine' T.drawM (id := 13) [(0, true), (2, true), (3, true), (4, true), (5, true), (1, false), (6, true), (7, true), (8, true), (10, true), (9, false), (11, false), (12, true), (13, true), (14, true)] mixd ?q1 ?_); (case q1 => kernel_rfl)))))
          | ((with_reducible refine TL_y' ?hy ?hd ?_); (case hy => rfl); (case hd => rfl))
          | with_reducible refine TL_e ?_
          | ((with_reducible refine g_TL ?_); (first | refine TL_gy' rfl rfl rfl rfl ?_ | refine TL_gn rfl rfl rfl ?_ | refine TL_gu rfl rfl rfl ?_ | refine TL_ge rfl rfl ?_ | refine TL_gn0 rfl rfl ?_))
          | ((with_reducible refine g_TS ?_)
             (first
             | refine TS_y rfl rfl ?_
             | refine TS_e rfl ?_
             | refine TS_gy rfl rfl rfl rfl ?_
             | refine TS_gn rfl rfl rfl rfl ?_
             | refine TS_gu rfl rfl rfl rfl ?_
             | refine TS_ge rfl rfl rfl ?_
             | refine TS_gne rfl rfl rfl rfl ?_
             | refine TS_gue rfl rfl rfl rfl ?_
             | refine TS_gne0 rfl rfl rfl ?_))
          | ((with_reducible refine TSand ?hd ?_); (case hd => (repeat (first | exact List.nil_sublist _ | refine List.Sublist.cons_cons _ ?_ | refine List.Sublist.cons _ ?_))))
          | ((with_reducible refine is_move ?_); refine ⟨_, Yl_move rfl, ?_⟩)
          | ((with_reducible refine is_assign ?_); refine ⟨_, Yl_assign rfl, ?_⟩)
          | ((with_reducible refine is_pick ?_); (first | refine ⟨_, Yl_pick_t rfl rfl, ?_⟩ | refine ⟨_, Yl_pick_f rfl rfl, ?_⟩))
          | ((with_reducible refine is_nil ?_); refine ⟨_, Yl_nilCheck rfl, ?_⟩)
          | ((with_reducible refine is_fld ?_)
             (first | ((refine' ⟨_, Yl_fld_blk0 rfl ?q1, ?_⟩); (case q1 => exact fld_of rfl rfl)) | ((refine' ⟨_, Yl_fld_blk rfl ?q1, ?_⟩); (case q1 => exact fld_of rfl rfl)) | ((refine' ⟨_, Yl_fld_ad rfl ?q1, ?_⟩); (case q1 => exact fld_of rfl rfl))))
          | ((with_reducible refine is_load ?_)
             (first
             | fail
             | ((refine' ⟨_, Yl_load_blk rfl ?q1 ?q2 ?q3, ?_⟩); (case q1 => exact one_of rfl); (case q2 => (repeat (first | exact .head _ | apply List.Mem.tail))); (case q3 => rfl))
             | ((refine' ⟨_, Yl_loadA_blk rfl ?q1 ?q2, ?_⟩); (case q1 => (repeat (first | exact .head _ | apply List.Mem.tail))); (case q2 => exact agg_of rfl))
             | ((refine' ⟨_, Yl_load_blk rfl ?q1 ?q2 ?q3, ?_⟩); (case q1 => exact one_of rfl); (case q2 => (repeat (first | exact .head _ | apply List.Mem.tail))); (case q3 => assumption))
             | ((refine' ⟨_, Yl_load_rd rfl ?q1 ?q2 List.not_mem_nil ?q3, ?_⟩); (case q1 => exact one_of rfl); (case q2 => assumption); (case q3 => assumption))
             | ((refine' ⟨_, Yl_load_row rfl ?q1 ?q2 ?q3, ?_⟩); (case q1 => exact one_of rfl); (case q2 => (repeat (first | exact .head _ | apply List.Mem.tail))); (case q3 => assumption))
             | ((refine' ⟨_, Yl_loadA_rd rfl ?qa ?qb List.not_mem_nil ?ql ?qc, ?_⟩); (case qa => exact agg_of rfl); (case qb => assumption); (case qc => assumption); (case ql => rfl))
             | ((refine' ⟨_, Yl_loadA_row rfl ?qa ?qb ?ql ?qc, ?_⟩); (case qa => exact agg_of rfl); (case qb => (repeat (first | exact .head _ | apply List.Mem.tail))); (case qc => assumption); (case ql => rfl))))
          | ((with_reducible refine is_idx ?_)
             (first
             | fail
             | ((refine' ⟨_, Yl_index rfl rfl ?q1 ?q2 ?q3 (Rd.some_ ?q4 ?q5), ?_⟩); (case q1 => exact und_of rfl); (case q2 => exact siz_of rfl); (case q3 => omega); (case q4 => assumption); (case q5 => omega))
             | ((refine' ⟨_, Yl_index_row rfl rfl ?q1 ?q2 ?q3 ?q4, ?_⟩); (case q1 => exact und_of rfl); (case q2 => exact siz_of rfl); (case q3 => omega); (case q4 => (repeat (first | exact .head _ | apply List.Mem.tail))))
             | ((refine' ⟨_, Yl_index rfl rfl ?q1 ?q2 ?q3 rfl, ?_⟩); (case q1 => exact und_of rfl); (case q2 => exact siz_of rfl); (case q3 => omega))))
          | ((with_reducible refine is_ext ?_); refine ⟨_, Yl_extract rfl rfl, ?_⟩)
          | ((with_reducible refine is_un ?_); refine ⟨_, Yl_not rfl, ?_⟩)
          | ((with_reducible refine is_len ?_); (first | ((refine' ⟨_, Yl_len_slice rfl ?q1, ?_⟩); (case q1 => exact und_of rfl)) | ((refine' ⟨_, Yl_len_string rfl ?q1, ?_⟩); (case q1 => exact und_of rfl))))
          | ((with_reducible refine is_b_lss ?_); (first | ((refine' ⟨_, Yl_lss_t rfl rfl ?q1, ?_⟩); (case q1 => omega)) | ((refine' ⟨_, Yl_lss_f rfl rfl ?q1, ?_⟩); (case q1 => omega)) | (refine sp_lss rfl rfl ?_ ?_ <;> intro hc)))
          | ((with_reducible refine is_b_leq ?_); (first | ((refine' ⟨_, Yl_leq_t rfl rfl ?q1, ?_⟩); (case q1 => omega)) | ((refine' ⟨_, Yl_leq_f rfl rfl ?q1, ?_⟩); (case q1 => omega)) | (refine sp_leq rfl rfl ?_ ?_ <;> intro hc)))
          | ((with_reducible refine is_b_gtr ?_); (first | ((refine' ⟨_, Yl_gtr_t rfl rfl ?q1, ?_⟩); (case q1 => omega)) | ((refine' ⟨_, Yl_gtr_f rfl rfl ?q1, ?_⟩); (case q1 => omega)) | (refine sp_gtr rfl rfl ?_ ?_ <;> intro hc)))
          | ((with_reducible refine is_b_geq ?_); (first | ((refine' ⟨_, Yl_geq_t rfl rfl ?q1, ?_⟩); (case q1 => omega)) | ((refine' ⟨_, Yl_geq_f rfl rfl ?q1, ?_⟩); (case q1 => omega)) | (refine sp_geq rfl rfl ?_ ?_ <;> intro hc)))
          | ((with_reducible refine is_b_eql ?_)
             (first | ((refine' ⟨_, Yl_eql_t rfl rfl ?q1, ?_⟩); (case q1 => omega)) | ((refine' ⟨_, Yl_eql_f rfl rfl ?q1, ?_⟩); (case q1 => omega)) | (refine sp_eql rfl rfl ?_ ?_ <;> intro hc) | ((refine' ⟨_, Yl_neq_bool rfl rfl ?q1, ?_⟩); (case q1 => exact und_of rfl))))
          | ((with_reducible refine is_b_neq ?_)
             (first | ((refine' ⟨_, Yl_neq_t rfl rfl ?q1, ?_⟩); (case q1 => omega)) | ((refine' ⟨_, Yl_neq_f rfl rfl ?q1, ?_⟩); (case q1 => omega)) | (refine sp_neq rfl rfl ?_ ?_ <;> intro hc) | ((refine' ⟨_, Yl_neq_bool rfl rfl ?q1, ?_⟩); (case q1 => exact und_of rfl))))
          | ((with_reducible refine is_b_add ?_); (first | ((refine' ⟨_, Yl_add rfl rfl ?q1 ?q2, ?_⟩); (case q1 => omega); (case q2 => omega)) | ((refine' ⟨_, Yl_neq_bool rfl rfl ?q1, ?_⟩); (case q1 => exact und_of rfl))))
          | ((with_reducible refine is_b_sub ?_); (first | ((refine' ⟨_, Yl_sub rfl rfl ?q1 ?q2, ?_⟩); (case q1 => omega); (case q2 => omega)) | ((refine' ⟨_, Yl_neq_bool rfl rfl ?q1, ?_⟩); (case q1 => exact und_of rfl))))
          | ((with_reducible refine is_build ?_); (first | fail))
          | (first | ((refine' ⟨_, Yl_neq_bool rfl rfl ?q1, ?_⟩); (case q1 => exact und_of rfl)))
          | ((with_reducible refine ie_box ?_)
             (first
             | (refine Ef_boxA rfl rfl ?_
                (first
                | ((fail_if_success have := b1); intro b1)
                | ((fail_if_success have := b2); intro b2)
                | ((fail_if_success have := b3); intro b3)
                | ((fail_if_success have := b4); intro b4)
                | ((fail_if_success have := b5); intro b5)
                | ((fail_if_success have := b6); intro b6)
                | ((fail_if_success have := b7); intro b7)
                | ((fail_if_success have := b8); intro b8)
                | ((fail_if_success have := b9); intro b9)))
             | (refine Ef_box1 rfl rfl rfl ?_
                (first
                | ((fail_if_success have := b1); intro b1)
                | ((fail_if_success have := b2); intro b2)
                | ((fail_if_success have := b3); intro b3)
                | ((fail_if_success have := b4); intro b4)
                | ((fail_if_success have := b5); intro b5)
                | ((fail_if_success have := b6); intro b6)
                | ((fail_if_success have := b7); intro b7)
                | ((fail_if_success have := b8); intro b8)
                | ((fail_if_success have := b9); intro b9)))))
          | ((with_reducible refine ie_alloc ?_)
             (first
             | fail
             | (((refine' Ef_alloc rfl ?q1 ?_); (case q1 => exact zer_of rfl))
                (first
                | ((fail_if_success have := b1); intro b1)
                | ((fail_if_success have := b2); intro b2)
                | ((fail_if_success have := b3); intro b3)
                | ((fail_if_success have := b4); intro b4)
                | ((fail_if_success have := b5); intro b5)
                | ((fail_if_success have := b6); intro b6)
                | ((fail_if_success have := b7); intro b7)
                | ((fail_if_success have := b8); intro b8)
                | ((fail_if_success have := b9); intro b9)))))
          | ((with_reducible refine ie_store ?_)
             (first
             | fail
             | ((refine' Ef_storeC rfl rfl ?q1 ?q2 ?q3 ?q4 ?q5 ?_)
                (case q1 => rfl)
                (case q2 => exact siz_of rfl)
                (case q3 => (first | exact at0 | exact at1 | exact at2 | exact at3 | exact at4 | exact at5 | exact at6))
                (case q4 => exact Nat.le_of_ble_eq_true rfl)
                (case q5 => rfl))))
          | ((with_reducible refine ie_callf ?_)
             (first
             | ((with_reducible refine g_call 10 ?_)
                (first
                | (refine Ef_callN rfl rfl ent_10 (fun w _ => new_c w) ?_
                   (first
                   | ((fail_if_success have := b1); intro b1)
                   | ((fail_if_success have := b2); intro b2)
                   | ((fail_if_success have := b3); intro b3)
                   | ((fail_if_success have := b4); intro b4)
                   | ((fail_if_success have := b5); intro b5)
                   | ((fail_if_success have := b6); intro b6)
                   | ((fail_if_success have := b7); intro b7)
                   | ((fail_if_success have := b8); intro b8)
                   | ((fail_if_success have := b9); intro b9)))))
             | ((with_reducible refine g_call 15 ?_)
                (first
                | (refine Ef_callN rfl rfl ent_15 (fun w _ => rnew_c w) ?_
                   (first
                   | ((fail_if_success have := b1); intro b1)
                   | ((fail_if_success have := b2); intro b2)
                   | ((fail_if_success have := b3); intro b3)
                   | ((fail_if_success have := b4); intro b4)
                   | ((fail_if_success have := b5); intro b5)
                   | ((fail_if_success have := b6); intro b6)
                   | ((fail_if_success have := b7); intro b7)
                   | ((fail_if_success have := b8); intro b8)
                   | ((fail_if_success have := b9); intro b9)))))
             | ((with_reducible refine g_call 13 ?_); (first | ((refine' Ef_callP rfl rfl ent_13 (fun w hp => boot_c b1 s w (hp.blkOf ?q1)) ?_); (case q1 => (repeat (first | exact .head _ | apply List.Mem.tail))))))
             | ((with_reducible refine g_call 12 ?_); (first | ((refine' Ef_callP rfl rfl ent_12 (fun w hp => top_c b1 s w (hp.blkOf ?q1)) ?_); (case q1 => (repeat (first | exact .head _ | apply List.Mem.tail))))))
             | ((with_reducible refine g_call 16 ?_)
                (first
                | ((refine' Ef_callP rfl rfl ent_16 (fun w hp => rtop_c b2 bd C z.1 z.2 w ?q1 (hp.blkOf ?q2) (hp.rowOf ?q3)) ?_)
                   (case q1 => omega)
                   (case q2 => (repeat (first | exact .head _ | apply List.Mem.tail)))
                   (case q3 => (repeat (first | exact .head _ | apply List.Mem.tail))))))
             | ((with_reducible refine g_call 14 ?_); (first | ((refine' Ef_callP rfl rfl ent_14 (fun w hp => hmay w (hp.blkOf ?q1)) ?_); (case q1 => (repeat (first | exact .head _ | apply List.Mem.tail))))))
             | ((with_reducible refine g_call 11 ?_); (first | ((refine' Ef_callT [false, false, true] rfl rfl ent_11 rfl rfl rfl (fun w hp => take_c b1 s x.1 x.2 w hk.inv ?q1 ?q2 hp) ?_); (case q1 => omega); (case q2 => omega))))
             | ((with_reducible refine g_call 17 ?_); (first | (((refine' Ef_callX [false, true, true] rfl rfl ent_17 rfl rfl rfl (fun w hp => rtake_c b2 bd C z x.1 x.2 w ?q1 ?q2 ?q3 hp) ?_); (case q1 => omega); (case q2 => omega); (case q3 => omega)); intro z2 _)))))
          | ((with_reducible refine ie_app ?_)
             (first
             | fail
             | (((refine' Ef_append_row rfl rfl rfl ?q1 ?q2 ?q3 ?q4 ?q5 ?q6 ?_)
                 (case q1 => exact app_of rfl)
                 (case q2 => (first | exact at0 | exact at1 | exact at2 | exact at3 | exact at4 | exact at5 | exact at6))
                 (case q3 => (repeat (first | exact .head _ | apply List.Mem.tail)))
                 (case q4 => (first | assumption | (intro u hu; rcases hu with _ | ⟨_, _ | ⟨_, _ | ⟨_, _ | ⟨_, hu⟩⟩⟩⟩ <;> first | rfl | (cases hu; done))))
                 (case q5 => omega)
                 (case q6 => omega))
                (first
                | ((fail_if_success have := A1); intro A1 c1)
                | ((fail_if_success have := A2); intro A2 c2)
                | ((fail_if_success have := A3); intro A3 c3)
                | ((fail_if_success have := A4); intro A4 c4)
                | ((fail_if_success have := A5); intro A5 c5)
                | ((fail_if_success have := A6); intro A6 c6)
                | ((fail_if_success have := A7); intro A7 c7)))
             | (((refine' Ef_append_rd rfl rfl rfl ?q1 ?q2 ?q3 List.not_mem_nil ?q4 ?q5 ?q6 ?q7 ?_)
                 (case q1 => exact app_of rfl)
                 (case q2 => (first | exact at0 | exact at1 | exact at2 | exact at3 | exact at4 | exact at5 | exact at6))
                 (case q3 => assumption)
                 (case q4 => omega)
                 (case q5 => (first | assumption | (intro u hu; rcases hu with _ | ⟨_, _ | ⟨_, _ | ⟨_, _ | ⟨_, hu⟩⟩⟩⟩ <;> first | rfl | (cases hu; done))))
                 (case q6 => omega)
                 (case q7 => omega))
                (first
                | ((fail_if_success have := A1); intro A1 c1)
                | ((fail_if_success have := A2); intro A2 c2)
                | ((fail_if_success have := A3); intro A3 c3)
                | ((fail_if_success have := A4); intro A4 c4)
                | ((fail_if_success have := A5); intro A5 c5)
                | ((fail_if_success have := A6); intro A6 c6)
                | ((fail_if_success have := A7); intro A7 c7)))))
          | ((with_reducible refine ie_bsl ?_)
             (first
             | fail
             | (((refine' Ef_bslA rfl rfl ?q1 ?q2 ?q3 ?_); (case q1 => exact app_of rfl); (case q2 => rfl); (case q3 => decide))
                (first
                | ((fail_if_success have := b1); intro b1)
                | ((fail_if_success have := b2); intro b2)
                | ((fail_if_success have := b3); intro b3)
                | ((fail_if_success have := b4); intro b4)
                | ((fail_if_success have := b5); intro b5)
                | ((fail_if_success have := b6); intro b6)
                | ((fail_if_success have := b7); intro b7)
                | ((fail_if_success have := b8); intro b8)
                | ((fail_if_success have := b9); intro b9)))
             | (((refine' Ef_bsl1 rfl rfl rfl ?q1 ?_); (case q1 => exact app_of rfl))
                (first
                | ((fail_if_success have := b1); intro b1)
                | ((fail_if_success have := b2); intro b2)
                | ((fail_if_success have := b3); intro b3)
                | ((fail_if_success have := b4); intro b4)
                | ((fail_if_success have := b5); intro b5)
                | ((fail_if_success have := b6); intro b6)
                | ((fail_if_success have := b7); intro b7)
                | ((fail_if_success have := b8); intro b8)
                | ((fail_if_success have := b9); intro b9)))))
          | (first | fail)
          | refine Ef_y rfl rfl ?_)
  · exact ret_n [] (res1 rfl rfl) (List.nil_sublist _) ⟨rfl, rfl⟩
  refine T.row0 3 1 ?_
  refine T.perm (M' := [.blk b2 (.cells #[.int .i64 (-1), .slice none 0 0] 45 (0, 0)), .row 3 1 (.slice none 0 0) 0 [], wB b1 Win.new]) (List.Perm.swap _ _ _) ?_
  refine T.loop (α := Win.St × Nat × Int × List Int × Option Addr × Nat) (fun x => [(0, .slice A len cap), (3, .pointer (some ⟨b1, 0, none⟩)), (4, .pointer (some ⟨b2, 0, none⟩)), (5, .int .i64 (x.2.1 : Int))])
    (fun x => [.blk b2 (.cells #[.int .i64 x.2.2.1, .slice x.2.2.2.2.1 x.2.2.2.1.length x.2.2.2.2.2] 45 (0, 0)), .row 3 1 (.slice x.2.2.2.2.1 x.2.2.2.1.length x.2.2.2.2.2) x.2.2.2.1.length (x.2.2.2.1.flatMap (eI .i64)), wB b1 x.1])
    (fun x => Win.PR x.1 x.2.2.1 x.2.2.2.1 ∧ x.2.2.2.1.length ≤ x.2.1 ∧ x.2.1 ≤ len) (fun x => len - x.2.1) (Win.new, 0, -1, [], none, 0) ?_ ?_ ?_ ?_
  · (repeat (first | exact Sub.nil | refine Sub.cons rfl ?_))
  · (repeat (first | exact List.nil_sublist _ | refine List.Sublist.cons_cons _ ?_ | refine List.Sublist.cons _ ?_))
  · exact ⟨Win.PR_new, Nat.le_refl _, Nat.zero_le _⟩
  · rintro ⟨s, i, bd, C, z⟩ ⟨hk, h1, h2⟩
    dsimp only at hk h1 h2 ⊢
    have hb0 := hk.2
    have ht0 := hk.top
    have ht1 := hk.inv.topLo
    have ht2 := hk.inv.topHi
    by_cases hlt : i < len
    · obtain ⟨x, hx⟩ := some_of_lt (l := zs) (i := i) (by omega)
      have e0 : (zs.flatMap nE)[i * 2 + 0]? = some (.int .i64 x.1) := enc_at nE_len hx (by omega)
      have e1 : (zs.flatMap nE)[i * 2 + 1]? = some (.int .i64 x.2) := enc_at nE_len hx (by omega)
      have hxb := hz x (mem_of_some hx)
      obtain ⟨f1, f2⟩ := Win.plays_step hk hxb.1 hxb.2
      have f3 := Win.may_iff s x.1 x.2
      have f4 : (Win.refTake bd C x.1 x.2).2.1.length ≤ C.length + 1 := Win.refTake_len bd C x.1 x.2
      cases hm : Win.may s x.1 x.2 with
      | true =>
        have hmay : ∀ w, w.heap[b1]? = some (.cells (winA s.boot s.top s.came) 38) → Sp Try.prog 14 [.pointer (some ⟨b1, 0, none⟩), .int .i64 x.1, .int .i64 x.2] w [] (fun v N => v = .bool true ∧ N = []) := fun w h => hm ▸ may_c b1 s x.1 x.2 w hk.inv hxb.1 hxb.2 h
        have f5 := f3.1 hm
        repeat' (first
                | with_reducible refine T.seq ?_
                | with_reducible refine T.block ?_
                | with_reducible refine T.region ?_
                | with_reducible refine T.skip ?_
                | with_reducible refine T.ret ?_
                | with_reducible refine T.exit ?_
                | with_reducible refine seqQ_n ?_
                | with_reducible refine seqQ_x ?_
                | with_reducible refine seqQ_r ?_
                | with_reducible refine blockQ_n ?_
                | with_reducible refine blockQ_r ?_
                | with_reducible refine blockQ_x ?_
                | ((with_reducible refine g_blkx ?_); refine blockQ_y rfl ?_)
                | with_reducible refine loopQ_x ?_
                | with_reducible refine loopQ_r ?_
                | ((with_reducible refine g_cond ?_); (first | refine T.cond_t rfl ?_ | refine T.cond_f rfl ?_ | (refine T.cond_s rfl ?_ ?_ <;> intro hc)))
                | with_reducible refine TL_nil ?_
                | with_reducible refine TS_nil ?_
                | ((with_reducible refine g_draw ?_)
                   (first
                   | (((with_reducible refine' T.drawM (id := 7) [(0, true), (2, true), (3, true), (4, true), (5, true), (1, false), (6, true), (7, true), (8, true), (10, true), (9, false), (11, false), (12, true), (13, true)] mixd ?q1 ?_); (case q1 => kernel_rfl)))
                   | (((with_reducible refine' T.drawM (id := 9) [(0, true), (1, true), (2, true), (3, true), (4, true), (5, true), (6, true), (7, true), (8, true), (9, true), (10, true), (11, false), (12, true)] mixd ?q1 ?_); (case q1 => kernel_rfl)))
                   | (((with_reducible refine' T.draw0 (id := 10) [(0, true), (1, true), (2, true), (3, true), (4, true), (5, true), (6, true), (7, true), (8, true), (9, true), (10, true), (11, false), (12, true)] mixd ?q1 ?_); (case q1 => kernel_rfl)))
                   | (((with_reducible refine' T.draw0 (id := 11) [(0, true), (1, true), (2, true), (3, true), (4, true), (5, true), (6, true), (7, true), (8, true), (9, true), (10, true), (11, true), (12, false), (13, true), (14, true), (15, true), (16, true), (17, true), (18, true), (19, true)] mixd ?q1 ?_)
                       (case q1 => kernel_rfl)))
                   | (((with_reducible refine' T.drawM (id := 13) [(0, true), (2, true), (3, true), (4, true), (5, true), (1, false), (6, true), (7, true), (8, true), (10, true), (9, false), (11, false), (12, true), (13, true), (14, true)] mixd ?q1 ?_); (case q1 => kernel_rfl)))))
                | ((with_reducible refine TL_y' ?hy ?hd ?_); (case hy => rfl); (case hd => rfl))
                | with_reducible refine TL_e ?_
                | ((with_reducible refine g_TL ?_); (first | refine TL_gy' rfl rfl rfl rfl ?_ | refine TL_gn rfl rfl rfl ?_ | refine TL_gu rfl rfl rfl ?_ | refine TL_ge rfl rfl ?_ | refine TL_gn0 rfl rfl ?_))
                | ((with_reducible refine g_TS ?_)
                   (first
                   | refine TS_y rfl rfl ?_
                   | refine TS_e rfl ?_
                   | refine TS_gy rfl rfl rfl rfl ?_
                   | refine TS_gn rfl rfl rfl rfl ?_
                   | refine TS_gu rfl rfl rfl rfl ?_
                   | refine TS_ge rfl rfl rfl ?_
                   | refine TS_gne rfl rfl rfl rfl ?_
                   | refine TS_gue rfl rfl rfl rfl ?_
                   | refine TS_gne0 rfl rfl rfl ?_))
                | ((with_reducible refine TSand ?hd ?_); (case hd => (repeat (first | exact List.nil_sublist _ | refine List.Sublist.cons_cons _ ?_ | refine List.Sublist.cons _ ?_))))
                | ((with_reducible refine is_move ?_); refine ⟨_, Yl_move rfl, ?_⟩)
                | ((with_reducible refine is_assign ?_); refine ⟨_, Yl_assign rfl, ?_⟩)
                | ((with_reducible refine is_pick ?_); (first | refine ⟨_, Yl_pick_t rfl rfl, ?_⟩ | refine ⟨_, Yl_pick_f rfl rfl, ?_⟩))
                | ((with_reducible refine is_nil ?_); refine ⟨_, Yl_nilCheck rfl, ?_⟩)
                | ((with_reducible refine is_fld ?_)
                   (first | ((refine' ⟨_, Yl_fld_blk0 rfl ?q1, ?_⟩); (case q1 => exact fld_of rfl rfl)) | ((refine' ⟨_, Yl_fld_blk rfl ?q1, ?_⟩); (case q1 => exact fld_of rfl rfl)) | ((refine' ⟨_, Yl_fld_ad rfl ?q1, ?_⟩); (case q1 => exact fld_of rfl rfl))))
                | ((with_reducible refine is_load ?_)
                   (first
                   | fail
                   | ((refine' ⟨_, Yl_load_blk rfl ?q1 ?q2 ?q3, ?_⟩); (case q1 => exact one_of rfl); (case q2 => (repeat (first | exact .head _ | apply List.Mem.tail))); (case q3 => rfl))
                   | ((refine' ⟨_, Yl_loadA_blk rfl ?q1 ?q2, ?_⟩); (case q1 => (repeat (first | exact .head _ | apply List.Mem.tail))); (case q2 => exact agg_of rfl))
                   | ((refine' ⟨_, Yl_load_blk rfl ?q1 ?q2 ?q3, ?_⟩); (case q1 => exact one_of rfl); (case q2 => (repeat (first | exact .head _ | apply List.Mem.tail))); (case q3 => assumption))
                   | ((refine' ⟨_, Yl_load_rd rfl ?q1 ?q2 List.not_mem_nil ?q3, ?_⟩); (case q1 => exact one_of rfl); (case q2 => assumption); (case q3 => assumption))
                   | ((refine' ⟨_, Yl_load_row rfl ?q1 ?q2 ?q3, ?_⟩); (case q1 => exact one_of rfl); (case q2 => (repeat (first | exact .head _ | apply List.Mem.tail))); (case q3 => assumption))
                   | ((refine' ⟨_, Yl_loadA_rd rfl ?qa ?qb List.not_mem_nil ?ql ?qc, ?_⟩); (case qa => exact agg_of rfl); (case qb => assumption); (case qc => assumption); (case ql => rfl))
                   | ((refine' ⟨_, Yl_loadA_row rfl ?qa ?qb ?ql ?qc, ?_⟩); (case qa => exact agg_of rfl); (case qb => (repeat (first | exact .head _ | apply List.Mem.tail))); (case qc => assumption); (case ql => rfl))))
                | ((with_reducible refine is_idx ?_)
                   (first
                   | fail
                   | ((refine' ⟨_, Yl_index rfl rfl ?q1 ?q2 ?q3 (Rd.some_ ?q4 ?q5), ?_⟩); (case q1 => exact und_of rfl); (case q2 => exact siz_of rfl); (case q3 => omega); (case q4 => assumption); (case q5 => omega))
                   | ((refine' ⟨_, Yl_index_row rfl rfl ?q1 ?q2 ?q3 ?q4, ?_⟩); (case q1 => exact und_of rfl); (case q2 => exact siz_of rfl); (case q3 => omega); (case q4 => (repeat (first | exact .head _ | apply List.Mem.tail))))
                   | ((refine' ⟨_, Yl_index rfl rfl ?q1 ?q2 ?q3 rfl, ?_⟩); (case q1 => exact und_of rfl); (case q2 => exact siz_of rfl); (case q3 => omega))))
                | ((with_reducible refine is_ext ?_); refine ⟨_, Yl_extract rfl rfl, ?_⟩)
                | ((with_reducible refine is_un ?_); refine ⟨_, Yl_not rfl, ?_⟩)
                | ((with_reducible refine is_len ?_); (first | ((refine' ⟨_, Yl_len_slice rfl ?q1, ?_⟩); (case q1 => exact und_of rfl)) | ((refine' ⟨_, Yl_len_string rfl ?q1, ?_⟩); (case q1 => exact und_of rfl))))
                | ((with_reducible refine is_b_lss ?_); (first | ((refine' ⟨_, Yl_lss_t rfl rfl ?q1, ?_⟩); (case q1 => omega)) | ((refine' ⟨_, Yl_lss_f rfl rfl ?q1, ?_⟩); (case q1 => omega)) | (refine sp_lss rfl rfl ?_ ?_ <;> intro hc)))
                | ((with_reducible refine is_b_leq ?_); (first | ((refine' ⟨_, Yl_leq_t rfl rfl ?q1, ?_⟩); (case q1 => omega)) | ((refine' ⟨_, Yl_leq_f rfl rfl ?q1, ?_⟩); (case q1 => omega)) | (refine sp_leq rfl rfl ?_ ?_ <;> intro hc)))
                | ((with_reducible refine is_b_gtr ?_); (first | ((refine' ⟨_, Yl_gtr_t rfl rfl ?q1, ?_⟩); (case q1 => omega)) | ((refine' ⟨_, Yl_gtr_f rfl rfl ?q1, ?_⟩); (case q1 => omega)) | (refine sp_gtr rfl rfl ?_ ?_ <;> intro hc)))
                | ((with_reducible refine is_b_geq ?_); (first | ((refine' ⟨_, Yl_geq_t rfl rfl ?q1, ?_⟩); (case q1 => omega)) | ((refine' ⟨_, Yl_geq_f rfl rfl ?q1, ?_⟩); (case q1 => omega)) | (refine sp_geq rfl rfl ?_ ?_ <;> intro hc)))
                | ((with_reducible refine is_b_eql ?_)
                   (first | ((refine' ⟨_, Yl_eql_t rfl rfl ?q1, ?_⟩); (case q1 => omega)) | ((refine' ⟨_, Yl_eql_f rfl rfl ?q1, ?_⟩); (case q1 => omega)) | (refine sp_eql rfl rfl ?_ ?_ <;> intro hc) | ((refine' ⟨_, Yl_neq_bool rfl rfl ?q1, ?_⟩); (case q1 => exact und_of rfl))))
                | ((with_reducible refine is_b_neq ?_)
                   (first | ((refine' ⟨_, Yl_neq_t rfl rfl ?q1, ?_⟩); (case q1 => omega)) | ((refine' ⟨_, Yl_neq_f rfl rfl ?q1, ?_⟩); (case q1 => omega)) | (refine sp_neq rfl rfl ?_ ?_ <;> intro hc) | ((refine' ⟨_, Yl_neq_bool rfl rfl ?q1, ?_⟩); (case q1 => exact und_of rfl))))
                | ((with_reducible refine is_b_add ?_); (first | ((refine' ⟨_, Yl_add rfl rfl ?q1 ?q2, ?_⟩); (case q1 => omega); (case q2 => omega)) | ((refine' ⟨_, Yl_neq_bool rfl rfl ?q1, ?_⟩); (case q1 => exact und_of rfl))))
                | ((with_reducible refine is_b_sub ?_); (first | ((refine' ⟨_, Yl_sub rfl rfl ?q1 ?q2, ?_⟩); (case q1 => omega); (case q2 => omega)) | ((refine' ⟨_, Yl_neq_bool rfl rfl ?q1, ?_⟩); (case q1 => exact und_of rfl))))
                | ((with_reducible refine is_build ?_); (first | fail))
                | (first | ((refine' ⟨_, Yl_neq_bool rfl rfl ?q1, ?_⟩); (case q1 => exact und_of rfl)))
                | ((with_reducible refine ie_box ?_)
                   (first
                   | (refine Ef_boxA rfl rfl ?_
                      (first
                      | ((fail_if_success have := b1); intro b1)
                      | ((fail_if_success have := b2); intro b2)
                      | ((fail_if_success have := b3); intro b3)
                      | ((fail_if_success have := b4); intro b4)
                      | ((fail_if_success have := b5); intro b5)
                      | ((fail_if_success have := b6); intro b6)
                      | ((fail_if_success have := b7); intro b7)
                      | ((fail_if_success have := b8); intro b8)
                      | ((fail_if_success have := b9); intro b9)))
                   | (refine Ef_box1 rfl rfl rfl ?_
                      (first
                      | ((fail_if_success have := b1); intro b1)
                      | ((fail_if_success have := b2); intro b2)
                      | ((fail_if_success have := b3); intro b3)
                      | ((fail_if_success have := b4); intro b4)
                      | ((fail_if_success have := b5); intro b5)
                      | ((fail_if_success have := b6); intro b6)
                      | ((fail_if_success have := b7); intro b7)
                      | ((fail_if_success have := b8); intro b8)
                      | ((fail_if_success have := b9); intro b9)))))
                | ((with_reducible refine ie_alloc ?_)
                   (first
                   | fail
                   | (((refine' Ef_alloc rfl ?q1 ?_); (case q1 => exact zer_of rfl))
                      (first
                      | ((fail_if_success have := b1); intro b1)
                      | ((fail_if_success have := b2); intro b2)
                      | ((fail_if_success have := b3); intro b3)
                      | ((fail_if_success have := b4); intro b4)
                      | ((fail_if_success have := b5); intro b5)
                      | ((fail_if_success have := b6); intro b6)
                      | ((fail_if_success have := b7); intro b7)
                      | ((fail_if_success have := b8); intro b8)
                      | ((fail_if_success have := b9); intro b9)))))
                | ((with_reducible refine ie_store ?_)
                   (first
                   | fail
                   | ((refine' Ef_storeC rfl rfl ?q1 ?q2 ?q3 ?q4 ?q5 ?_)
                      (case q1 => rfl)
                      (case q2 => exact siz_of rfl)
                      (case q3 => (first | exact at0 | exact at1 | exact at2 | exact at3 | exact at4 | exact at5 | exact at6))
                      (case q4 => exact Nat.le_of_ble_eq_true rfl)
                      (case q5 => rfl))))
                | ((with_reducible refine ie_callf ?_)
                   (first
                   | ((with_reducible refine g_call 10 ?_)
                      (first
                      | (refine Ef_callN rfl rfl ent_10 (fun w _ => new_c w) ?_
                         (first
                         | ((fail_if_success have := b1); intro b1)
                         | ((fail_if_success have := b2); intro b2)
                         | ((fail_if_success have := b3); intro b3)
                         | ((fail_if_success have := b4); intro b4)
                         | ((fail_if_success have := b5); intro b5)
                         | ((fail_if_success have := b6); intro b6)
                         | ((fail_if_success have := b7); intro b7)
                         | ((fail_if_success have := b8); intro b8)
                         | ((fail_if_success have := b9); intro b9)))))
                   | ((with_reducible refine g_call 15 ?_)
                      (first
                      | (refine Ef_callN rfl rfl ent_15 (fun w _ => rnew_c w) ?_
                         (first
                         | ((fail_if_success have := b1); intro b1)
                         | ((fail_if_success have := b2); intro b2)
                         | ((fail_if_success have := b3); intro b3)
                         | ((fail_if_success have := b4); intro b4)
                         | ((fail_if_success have := b5); intro b5)
                         | ((fail_if_success have := b6); intro b6)
                         | ((fail_if_success have := b7); intro b7)
                         | ((fail_if_success have := b8); intro b8)
                         | ((fail_if_success have := b9); intro b9)))))
                   | ((with_reducible refine g_call 13 ?_); (first | ((refine' Ef_callP rfl rfl ent_13 (fun w hp => boot_c b1 s w (hp.blkOf ?q1)) ?_); (case q1 => (repeat (first | exact .head _ | apply List.Mem.tail))))))
                   | ((with_reducible refine g_call 12 ?_); (first | ((refine' Ef_callP rfl rfl ent_12 (fun w hp => top_c b1 s w (hp.blkOf ?q1)) ?_); (case q1 => (repeat (first | exact .head _ | apply List.Mem.tail))))))
                   | ((with_reducible refine g_call 16 ?_)
                      (first
                      | ((refine' Ef_callP rfl rfl ent_16 (fun w hp => rtop_c b2 bd C z.1 z.2 w ?q1 (hp.blkOf ?q2) (hp.rowOf ?q3)) ?_)
                         (case q1 => omega)
                         (case q2 => (repeat (first | exact .head _ | apply List.Mem.tail)))
                         (case q3 => (repeat (first | exact .head _ | apply List.Mem.tail))))))
                   | ((with_reducible refine g_call 14 ?_); (first | ((refine' Ef_callP rfl rfl ent_14 (fun w hp => hmay w (hp.blkOf ?q1)) ?_); (case q1 => (repeat (first | exact .head _ | apply List.Mem.tail))))))
                   | ((with_reducible refine g_call 11 ?_); (first | ((refine' Ef_callT [false, false, true] rfl rfl ent_11 rfl rfl rfl (fun w hp => take_c b1 s x.1 x.2 w hk.inv ?q1 ?q2 hp) ?_); (case q1 => omega); (case q2 => omega))))
                   | ((with_reducible refine g_call 17 ?_); (first | (((refine' Ef_callX [false, true, true] rfl rfl ent_17 rfl rfl rfl (fun w hp => rtake_c b2 bd C z x.1 x.2 w ?q1 ?q2 ?q3 hp) ?_); (case q1 => omega); (case q2 => omega); (case q3 => omega)); intro z2 _)))))
                | ((with_reducible refine ie_app ?_)
                   (first
                   | fail
                   | (((refine' Ef_append_row rfl rfl rfl ?q1 ?q2 ?q3 ?q4 ?q5 ?q6 ?_)
                       (case q1 => exact app_of rfl)
                       (case q2 => (first | exact at0 | exact at1 | exact at2 | exact at3 | exact at4 | exact at5 | exact at6))
                       (case q3 => (repeat (first | exact .head _ | apply List.Mem.tail)))
                       (case q4 => (first | assumption | (intro u hu; rcases hu with _ | ⟨_, _ | ⟨_, _ | ⟨_, _ | ⟨_, hu⟩⟩⟩⟩ <;> first | rfl | (cases hu; done))))
                       (case q5 => omega)
                       (case q6 => omega))
                      (first
                      | ((fail_if_success have := A1); intro A1 c1)
                      | ((fail_if_success have := A2); intro A2 c2)
                      | ((fail_if_success have := A3); intro A3 c3)
                      | ((fail_if_success have := A4); intro A4 c4)
                      | ((fail_if_success have := A5); intro A5 c5)
                      | ((fail_if_success have := A6); intro A6 c6)
                      | ((fail_if_success have := A7); intro A7 c7)))
                   | (((refine' Ef_append_rd rfl rfl rfl ?q1 ?q2 ?q3 List.not_mem_nil ?q4 ?q5 ?q6 ?q7 ?_)
                       (case q1 => exact app_of rfl)
                       (case q2 => (first | exact at0 | exact at1 | exact at2 | exact at3 | exact at4 | exact at5 | exact at6))
                       (case q3 => assumption)
                       (case q4 => omega)
                       (case q5 => (first | assumption | (intro u hu; rcases hu with _ | ⟨_, _ | ⟨_, _ | ⟨_, _ | ⟨_, hu⟩⟩⟩⟩ <;> first | rfl | (cases hu; done))))
                       (case q6 => omega)
                       (case q7 => omega))
                      (first
                      | ((fail_if_success have := A1); intro A1 c1)
                      | ((fail_if_success have := A2); intro A2 c2)
                      | ((fail_if_success have := A3); intro A3 c3)
                      | ((fail_if_success have := A4); intro A4 c4)
                      | ((fail_if_success have := A5); intro A5 c5)
                      | ((fail_if_success have := A6); intro A6 c6)
                      | ((fail_if_success have := A7); intro A7 c7)))))
                | ((with_reducible refine ie_bsl ?_)
                   (first
                   | fail
                   | (((refine' Ef_bslA rfl rfl ?q1 ?q2 ?q3 ?_); (case q1 => exact app_of rfl); (case q2 => rfl); (case q3 => decide))
                      (first
                      | ((fail_if_success have := b1); intro b1)
                      | ((fail_if_success have := b2); intro b2)
                      | ((fail_if_success have := b3); intro b3)
                      | ((fail_if_success have := b4); intro b4)
                      | ((fail_if_success have := b5); intro b5)
                      | ((fail_if_success have := b6); intro b6)
                      | ((fail_if_success have := b7); intro b7)
                      | ((fail_if_success have := b8); intro b8)
                      | ((fail_if_success have := b9); intro b9)))
                   | (((refine' Ef_bsl1 rfl rfl rfl ?q1 ?_); (case q1 => exact app_of rfl))
                      (first
                      | ((fail_if_success have := b1); intro b1)
                      | ((fail_if_success have := b2); intro b2)
                      | ((fail_if_success have := b3); intro b3)
                      | ((fail_if_success have := b4); intro b4)
                      | ((fail_if_success have := b5); intro b5)
                      | ((fail_if_success have := b6); intro b6)
                      | ((fail_if_success have := b7); intro b7)
                      | ((fail_if_success have := b8); intro b8)
                      | ((fail_if_success have := b9); intro b9)))))
                | (first | fail)
                | refine Ef_y rfl rfl ?_)
        refine loopQ_n ((Win.take s x.1 x.2).1, i + 1, (Win.refTake bd C x.1 x.2).1, (Win.refTake bd C x.1 x.2).2.1, z2) ?_ ?_ ⟨f2, by (first | omega | (dsimp only; omega) | (simp; omega)), by (first | omega | (dsimp only; omega) | (simp; omega))⟩ (by (first | omega | (dsimp only; omega) | (simp; omega)))
        · (repeat (first | exact Sub.nil | refine Sub.cons rfl ?_))
        · (repeat (first | exact List.nil_sublist _ | refine List.Sublist.cons_cons _ ?_ | refine List.Sublist.cons _ ?_))
      | false =>
        have hmay : ∀ w, w.heap[b1]? = some (.cells (winA s.boot s.top s.came) 38) → Sp Try.prog 14 [.pointer (some ⟨b1, 0, none⟩), .int .i64 x.1, .int .i64 x.2] w [] (fun v N => v = .bool false ∧ N = []) := fun w h => hm ▸ may_c b1 s x.1 x.2 w hk.inv hxb.1 hxb.2 h
        have f5 : ¬ (Win.take s x.1 x.2).2 = 0 := fun h => by have := f3.2 h; rw [hm] at this; cases this
        repeat' (first
                | with_reducible refine T.seq ?_
                | with_reducible refine T.block ?_
                | with_reducible refine T.region ?_
                | with_reducible refine T.skip ?_
                | with_reducible refine T.ret ?_
                | with_reducible refine T.exit ?_
                | with_reducible refine seqQ_n ?_
                | with_reducible refine seqQ_x ?_
                | with_reducible refine seqQ_r ?_
                | with_reducible refine blockQ_n ?_
                | with_reducible refine blockQ_r ?_
                | with_reducible refine blockQ_x ?_
                | ((with_reducible refine g_blkx ?_); refine blockQ_y rfl ?_)
                | with_reducible refine loopQ_x ?_
                | with_reducible refine loopQ_r ?_
                | ((with_reducible refine g_cond ?_); (first | refine T.cond_t rfl ?_ | refine T.cond_f rfl ?_ | (refine T.cond_s rfl ?_ ?_ <;> intro hc)))
                | with_reducible refine TL_nil ?_
                | with_reducible refine TS_nil ?_
                | ((with_reducible refine g_draw ?_)
                   (first
                   | (((with_reducible refine' T.drawM (id := 7) [(0, true), (2, true), (3, true), (4, true), (5, true), (1, false), (6, true), (7, true), (8, true), (10, true), (9, false), (11, false), (12, true), (13, true)] mixd ?q1 ?_); (case q1 => kernel_rfl)))
                   | (((with_reducible refine' T.drawM (id := 9) [(0, true), (1, true), (2, true), (3, true), (4, true), (5, true), (6, true), (7, true), (8, true), (9, true), (10, true), (11, false), (12, true)] mixd ?q1 ?_); (case q1 => kernel_rfl)))
                   | (((with_reducible refine' T.draw0 (id := 10) [(0, true), (1, true), (2, true), (3, true), (4, true), (5, true), (6, true), (7, true), (8, true), (9, true), (10, true), (11, false), (12, true)] mixd ?q1 ?_); (case q1 => kernel_rfl)))
                   | (((with_reducible refine' T.draw0 (id := 11) [(0, true), (1, true), (2, true), (3, true), (4, true), (5, true), (6, true), (7, true), (8, true), (9, true), (10, true), (11, true), (12, false), (13, true), (14, true), (15, true), (16, true), (17, true), (18, true), (19, true)] mixd ?q1 ?_)
                       (case q1 => kernel_rfl)))
                   | (((with_reducible refine' T.drawM (id := 13) [(0, true), (2, true), (3, true), (4, true), (5, true), (1, false), (6, true), (7, true), (8, true), (10, true), (9, false), (11, false), (12, true), (13, true), (14, true)] mixd ?q1 ?_); (case q1 => kernel_rfl)))))
                | ((with_reducible refine TL_y' ?hy ?hd ?_); (case hy => rfl); (case hd => rfl))
                | with_reducible refine TL_e ?_
                | ((with_reducible refine g_TL ?_); (first | refine TL_gy' rfl rfl rfl rfl ?_ | refine TL_gn rfl rfl rfl ?_ | refine TL_gu rfl rfl rfl ?_ | refine TL_ge rfl rfl ?_ | refine TL_gn0 rfl rfl ?_))
                | ((with_reducible refine g_TS ?_)
                   (first
                   | refine TS_y rfl rfl ?_
                   | refine TS_e rfl ?_
                   | refine TS_gy rfl rfl rfl rfl ?_
                   | refine TS_gn rfl rfl rfl rfl ?_
                   | refine TS_gu rfl rfl rfl rfl ?_
                   | refine TS_ge rfl rfl rfl ?_
                   | refine TS_gne rfl rfl rfl rfl ?_
                   | refine TS_gue rfl rfl rfl rfl ?_
                   | refine TS_gne0 rfl rfl rfl ?_))
                | ((with_reducible refine TSand ?hd ?_); (case hd => (repeat (first | exact List.nil_sublist _ | refine List.Sublist.cons_cons _ ?_ | refine List.Sublist.cons _ ?_))))
                | ((with_reducible refine is_move ?_); refine ⟨_, Yl_move rfl, ?_⟩)
                | ((with_reducible refine is_assign ?_); refine ⟨_, Yl_assign rfl, ?_⟩)
                | ((with_reducible refine is_pick ?_); (first | refine ⟨_, Yl_pick_t rfl rfl, ?_⟩ | refine ⟨_, Yl_pick_f rfl rfl, ?_⟩))
                | ((with_reducible refine is_nil ?_); refine ⟨_, Yl_nilCheck rfl, ?_⟩)
                | ((with_reducible refine is_fld ?_)
                   (first | ((refine' ⟨_, Yl_fld_blk0 rfl ?q1, ?_⟩); (case q1 => exact fld_of rfl rfl)) | ((refine' ⟨_, Yl_fld_blk rfl ?q1, ?_⟩); (case q1 => exact fld_of rfl rfl)) | ((refine' ⟨_, Yl_fld_ad rfl ?q1, ?_⟩); (case q1 => exact fld_of rfl rfl))))
                | ((with_reducible refine is_load ?_)
                   (first
                   | fail
                   | ((refine' ⟨_, Yl_load_blk rfl ?q1 ?q2 ?q3, ?_⟩); (case q1 => exact one_of rfl); (case q2 => (repeat (first | exact .head _ | apply List.Mem.tail))); (case q3 => rfl))
                   | ((refine' ⟨_, Yl_loadA_blk rfl ?q1 ?q2, ?_⟩); (case q1 => (repeat (first | exact .head _ | apply List.Mem.tail))); (case q2 => exact agg_of rfl))
                   | ((refine' ⟨_, Yl_load_blk rfl ?q1 ?q2 ?q3, ?_⟩); (case q1 => exact one_of rfl); (case q2 => (repeat (first | exact .head _ | apply List.Mem.tail))); (case q3 => assumption))
                   | ((refine' ⟨_, Yl_load_rd rfl ?q1 ?q2 List.not_mem_nil ?q3, ?_⟩); (case q1 => exact one_of rfl); (case q2 => assumption); (case q3 => assumption))
                   | ((refine' ⟨_, Yl_load_row rfl ?q1 ?q2 ?q3, ?_⟩); (case q1 => exact one_of rfl); (case q2 => (repeat (first | exact .head _ | apply List.Mem.tail))); (case q3 => assumption))
                   | ((refine' ⟨_, Yl_loadA_rd rfl ?qa ?qb List.not_mem_nil ?ql ?qc, ?_⟩); (case qa => exact agg_of rfl); (case qb => assumption); (case qc => assumption); (case ql => rfl))
                   | ((refine' ⟨_, Yl_loadA_row rfl ?qa ?qb ?ql ?qc, ?_⟩); (case qa => exact agg_of rfl); (case qb => (repeat (first | exact .head _ | apply List.Mem.tail))); (case qc => assumption); (case ql => rfl))))
                | ((with_reducible refine is_idx ?_)
                   (first
                   | fail
                   | ((refine' ⟨_, Yl_index rfl rfl ?q1 ?q2 ?q3 (Rd.some_ ?q4 ?q5), ?_⟩); (case q1 => exact und_of rfl); (case q2 => exact siz_of rfl); (case q3 => omega); (case q4 => assumption); (case q5 => omega))
                   | ((refine' ⟨_, Yl_index_row rfl rfl ?q1 ?q2 ?q3 ?q4, ?_⟩); (case q1 => exact und_of rfl); (case q2 => exact siz_of rfl); (case q3 => omega); (case q4 => (repeat (first | exact .head _ | apply List.Mem.tail))))
                   | ((refine' ⟨_, Yl_index rfl rfl ?q1 ?q2 ?q3 rfl, ?_⟩); (case q1 => exact und_of rfl); (case q2 => exact siz_of rfl); (case q3 => omega))))
                | ((with_reducible refine is_ext ?_); refine ⟨_, Yl_extract rfl rfl, ?_⟩)
                | ((with_reducible refine is_un ?_); refine ⟨_, Yl_not rfl, ?_⟩)
                | ((with_reducible refine is_len ?_); (first | ((refine' ⟨_, Yl_len_slice rfl ?q1, ?_⟩); (case q1 => exact und_of rfl)) | ((refine' ⟨_, Yl_len_string rfl ?q1, ?_⟩); (case q1 => exact und_of rfl))))
                | ((with_reducible refine is_b_lss ?_); (first | ((refine' ⟨_, Yl_lss_t rfl rfl ?q1, ?_⟩); (case q1 => omega)) | ((refine' ⟨_, Yl_lss_f rfl rfl ?q1, ?_⟩); (case q1 => omega)) | (refine sp_lss rfl rfl ?_ ?_ <;> intro hc)))
                | ((with_reducible refine is_b_leq ?_); (first | ((refine' ⟨_, Yl_leq_t rfl rfl ?q1, ?_⟩); (case q1 => omega)) | ((refine' ⟨_, Yl_leq_f rfl rfl ?q1, ?_⟩); (case q1 => omega)) | (refine sp_leq rfl rfl ?_ ?_ <;> intro hc)))
                | ((with_reducible refine is_b_gtr ?_); (first | ((refine' ⟨_, Yl_gtr_t rfl rfl ?q1, ?_⟩); (case q1 => omega)) | ((refine' ⟨_, Yl_gtr_f rfl rfl ?q1, ?_⟩); (case q1 => omega)) | (refine sp_gtr rfl rfl ?_ ?_ <;> intro hc)))
                | ((with_reducible refine is_b_geq ?_); (first | ((refine' ⟨_, Yl_geq_t rfl rfl ?q1, ?_⟩); (case q1 => omega)) | ((refine' ⟨_, Yl_geq_f rfl rfl ?q1, ?_⟩); (case q1 => omega)) | (refine sp_geq rfl rfl ?_ ?_ <;> intro hc)))
                | ((with_reducible refine is_b_eql ?_)
                   (first | ((refine' ⟨_, Yl_eql_t rfl rfl ?q1, ?_⟩); (case q1 => omega)) | ((refine' ⟨_, Yl_eql_f rfl rfl ?q1, ?_⟩); (case q1 => omega)) | (refine sp_eql rfl rfl ?_ ?_ <;> intro hc) | ((refine' ⟨_, Yl_neq_bool rfl rfl ?q1, ?_⟩); (case q1 => exact und_of rfl))))
                | ((with_reducible refine is_b_neq ?_)
                   (first | ((refine' ⟨_, Yl_neq_t rfl rfl ?q1, ?_⟩); (case q1 => omega)) | ((refine' ⟨_, Yl_neq_f rfl rfl ?q1, ?_⟩); (case q1 => omega)) | (refine sp_neq rfl rfl ?_ ?_ <;> intro hc) | ((refine' ⟨_, Yl_neq_bool rfl rfl ?q1, ?_⟩); (case q1 => exact und_of rfl))))
                | ((with_reducible refine is_b_add ?_); (first | ((refine' ⟨_, Yl_add rfl rfl ?q1 ?q2, ?_⟩); (case q1 => omega); (case q2 => omega)) | ((refine' ⟨_, Yl_neq_bool rfl rfl ?q1, ?_⟩); (case q1 => exact und_of rfl))))
                | ((with_reducible refine is_b_sub ?_); (first | ((refine' ⟨_, Yl_sub rfl rfl ?q1 ?q2, ?_⟩); (case q1 => omega); (case q2 => omega)) | ((refine' ⟨_, Yl_neq_bool rfl rfl ?q1, ?_⟩); (case q1 => exact und_of rfl))))
                | ((with_reducible refine is_build ?_); (first | fail))
                | (first | ((refine' ⟨_, Yl_neq_bool rfl rfl ?q1, ?_⟩); (case q1 => exact und_of rfl)))
                | ((with_reducible refine ie_box ?_)
                   (first
                   | (refine Ef_boxA rfl rfl ?_
                      (first
                      | ((fail_if_success have := b1); intro b1)
                      | ((fail_if_success have := b2); intro b2)
                      | ((fail_if_success have := b3); intro b3)
                      | ((fail_if_success have := b4); intro b4)
                      | ((fail_if_success have := b5); intro b5)
                      | ((fail_if_success have := b6); intro b6)
                      | ((fail_if_success have := b7); intro b7)
                      | ((fail_if_success have := b8); intro b8)
                      | ((fail_if_success have := b9); intro b9)))
                   | (refine Ef_box1 rfl rfl rfl ?_
                      (first
                      | ((fail_if_success have := b1); intro b1)
                      | ((fail_if_success have := b2); intro b2)
                      | ((fail_if_success have := b3); intro b3)
                      | ((fail_if_success have := b4); intro b4)
                      | ((fail_if_success have := b5); intro b5)
                      | ((fail_if_success have := b6); intro b6)
                      | ((fail_if_success have := b7); intro b7)
                      | ((fail_if_success have := b8); intro b8)
                      | ((fail_if_success have := b9); intro b9)))))
                | ((with_reducible refine ie_alloc ?_)
                   (first
                   | fail
                   | (((refine' Ef_alloc rfl ?q1 ?_); (case q1 => exact zer_of rfl))
                      (first
                      | ((fail_if_success have := b1); intro b1)
                      | ((fail_if_success have := b2); intro b2)
                      | ((fail_if_success have := b3); intro b3)
                      | ((fail_if_success have := b4); intro b4)
                      | ((fail_if_success have := b5); intro b5)
                      | ((fail_if_success have := b6); intro b6)
                      | ((fail_if_success have := b7); intro b7)
                      | ((fail_if_success have := b8); intro b8)
                      | ((fail_if_success have := b9); intro b9)))))
                | ((with_reducible refine ie_store ?_)
                   (first
                   | fail
                   | ((refine' Ef_storeC rfl rfl ?q1 ?q2 ?q3 ?q4 ?q5 ?_)
                      (case q1 => rfl)
                      (case q2 => exact siz_of rfl)
                      (case q3 => (first | exact at0 | exact at1 | exact at2 | exact at3 | exact at4 | exact at5 | exact at6))
                      (case q4 => exact Nat.le_of_ble_eq_true rfl)
                      (case q5 => rfl))))
                | ((with_reducible refine ie_callf ?_)
                   (first
                   | ((with_reducible refine g_call 10 ?_)
                      (first
                      | (refine Ef_callN rfl rfl ent_10 (fun w _ => new_c w) ?_
                         (first
                         | ((fail_if_success have := b1); intro b1)
                         | ((fail_if_success have := b2); intro b2)
                         | ((fail_if_success have := b3); intro b3)
                         | ((fail_if_success have := b4); intro b4)
                         | ((fail_if_success have := b5); intro b5)
                         | ((fail_if_success have := b6); intro b6)
                         | ((fail_if_success have := b7); intro b7)
                         | ((fail_if_success have := b8); intro b8)
                         | ((fail_if_success have := b9); intro b9)))))
                   | ((with_reducible refine g_call 15 ?_)
                      (first
                      | (refine Ef_callN rfl rfl ent_15 (fun w _ => rnew_c w) ?_
                         (first
                         | ((fail_if_success have := b1); intro b1)
                         | ((fail_if_success have := b2); intro b2)
                         | ((fail_if_success have := b3); intro b3)
                         | ((fail_if_success have := b4); intro b4)
                         | ((fail_if_success have := b5); intro b5)
                         | ((fail_if_success have := b6); intro b6)
                         | ((fail_if_success have := b7); intro b7)
                         | ((fail_if_success have := b8); intro b8)
                         | ((fail_if_success have := b9); intro b9)))))
                   | ((with_reducible refine g_call 13 ?_); (first | ((refine' Ef_callP rfl rfl ent_13 (fun w hp => boot_c b1 s w (hp.blkOf ?q1)) ?_); (case q1 => (repeat (first | exact .head _ | apply List.Mem.tail))))))
                   | ((with_reducible refine g_call 12 ?_); (first | ((refine' Ef_callP rfl rfl ent_12 (fun w hp => top_c b1 s w (hp.blkOf ?q1)) ?_); (case q1 => (repeat (first | exact .head _ | apply List.Mem.tail))))))
                   | ((with_reducible refine g_call 16 ?_)
                      (first
                      | ((refine' Ef_callP rfl rfl ent_16 (fun w hp => rtop_c b2 bd C z.1 z.2 w ?q1 (hp.blkOf ?q2) (hp.rowOf ?q3)) ?_)
                         (case q1 => omega)
                         (case q2 => (repeat (first | exact .head _ | apply List.Mem.tail)))
                         (case q3 => (repeat (first | exact .head _ | apply List.Mem.tail))))))
                   | ((with_reducible refine g_call 14 ?_); (first | ((refine' Ef_callP rfl rfl ent_14 (fun w hp => hmay w (hp.blkOf ?q1)) ?_); (case q1 => (repeat (first | exact .head _ | apply List.Mem.tail))))))
                   | ((with_reducible refine g_call 11 ?_); (first | ((refine' Ef_callT [false, false, true] rfl rfl ent_11 rfl rfl rfl (fun w hp => take_c b1 s x.1 x.2 w hk.inv ?q1 ?q2 hp) ?_); (case q1 => omega); (case q2 => omega))))
                   | ((with_reducible refine g_call 17 ?_); (first | (((refine' Ef_callX [false, true, true] rfl rfl ent_17 rfl rfl rfl (fun w hp => rtake_c b2 bd C z x.1 x.2 w ?q1 ?q2 ?q3 hp) ?_); (case q1 => omega); (case q2 => omega); (case q3 => omega)); intro z2 _)))))
                | ((with_reducible refine ie_app ?_)
                   (first
                   | fail
                   | (((refine' Ef_append_row rfl rfl rfl ?q1 ?q2 ?q3 ?q4 ?q5 ?q6 ?_)
                       (case q1 => exact app_of rfl)
                       (case q2 => (first | exact at0 | exact at1 | exact at2 | exact at3 | exact at4 | exact at5 | exact at6))
                       (case q3 => (repeat (first | exact .head _ | apply List.Mem.tail)))
                       (case q4 => (first | assumption | (intro u hu; rcases hu with _ | ⟨_, _ | ⟨_, _ | ⟨_, _ | ⟨_, hu⟩⟩⟩⟩ <;> first | rfl | (cases hu; done))))
                       (case q5 => omega)
                       (case q6 => omega))
                      (first
                      | ((fail_if_success have := A1); intro A1 c1)
                      | ((fail_if_success have := A2); intro A2 c2)
                      | ((fail_if_success have := A3); intro A3 c3)
                      | ((fail_if_success have := A4); intro A4 c4)
                      | ((fail_if_success have := A5); intro A5 c5)
                      | ((fail_if_success have := A6); intro A6 c6)
                      | ((fail_if_success have := A7); intro A7 c7)))
                   | (((refine' Ef_append_rd rfl rfl rfl ?q1 ?q2 ?q3 List.not_mem_nil ?q4 ?q5 ?q6 ?q7 ?_)
                       (case q1 => exact app_of rfl)
                       (case q2 => (first | exact at0 | exact at1 | exact at2 | exact at3 | exact at4 | exact at5 | exact at6))
                       (case q3 => assumption)
                       (case q4 => omega)
                       (case q5 => (first | assumption | (intro u hu; rcases hu with _ | ⟨_, _ | ⟨_, _ | ⟨_, _ | ⟨_, hu⟩⟩⟩⟩ <;> first | rfl | (cases hu; done))))
                       (case q6 => omega)
                       (case q7 => omega))
                      (first
                      | ((fail_if_success have := A1); intro A1 c1)
                      | ((fail_if_success have := A2); intro A2 c2)
                      | ((fail_if_success have := A3); intro A3 c3)
                      | ((fail_if_success have := A4); intro A4 c4)
                      | ((fail_if_success have := A5); intro A5 c5)
                      | ((fail_if_success have := A6); intro A6 c6)
                      | ((fail_if_success have := A7); intro A7 c7)))))
                | ((with_reducible refine ie_bsl ?_)
                   (first
                   | fail
                   | (((refine' Ef_bslA rfl rfl ?q1 ?q2 ?q3 ?_); (case q1 => exact app_of rfl); (case q2 => rfl); (case q3 => decide))
                      (first
                      | ((fail_if_success have := b1); intro b1)
                      | ((fail_if_success have := b2); intro b2)
                      | ((fail_if_success have := b3); intro b3)
                      | ((fail_if_success have := b4); intro b4)
                      | ((fail_if_success have := b5); intro b5)
                      | ((fail_if_success have := b6); intro b6)
                      | ((fail_if_success have := b7); intro b7)
                      | ((fail_if_success have := b8); intro b8)
                      | ((fail_if_success have := b9); intro b9)))
                   | (((refine' Ef_bsl1 rfl rfl rfl ?q1 ?_); (case q1 => exact app_of rfl))
                      (first
                      | ((fail_if_success have := b1); intro b1)
                      | ((fail_if_success have := b2); intro b2)
                      | ((fail_if_success have := b3); intro b3)
                      | ((fail_if_success have := b4); intro b4)
                      | ((fail_if_success have := b5); intro b5)
                      | ((fail_if_success have := b6); intro b6)
                      | ((fail_if_success have := b7); intro b7)
                      | ((fail_if_success have := b8); intro b8)
                      | ((fail_if_success have := b9); intro b9)))))
                | (first | fail)
                | refine Ef_y rfl rfl ?_)
        refine loopQ_n ((Win.take s x.1 x.2).1, i + 1, (Win.refTake bd C x.1 x.2).1, (Win.refTake bd C x.1 x.2).2.1, z2) ?_ ?_ ⟨f2, by (first | omega | (dsimp only; omega) | (simp; omega)), by (first | omega | (dsimp only; omega) | (simp; omega))⟩ (by (first | omega | (dsimp only; omega) | (simp; omega)))
        · (repeat (first | exact Sub.nil | refine Sub.cons rfl ?_))
        · (repeat (first | exact List.nil_sublist _ | refine List.Sublist.cons_cons _ ?_ | refine List.Sublist.cons _ ?_))
    · repeat' (first
              | with_reducible refine T.seq ?_
              | with_reducible refine T.block ?_
              | with_reducible refine T.region ?_
              | with_reducible refine T.skip ?_
              | with_reducible refine T.ret ?_
              | with_reducible refine T.exit ?_
              | with_reducible refine seqQ_n ?_
              | with_reducible refine seqQ_x ?_
              | with_reducible refine seqQ_r ?_
              | with_reducible refine blockQ_n ?_
              | with_reducible refine blockQ_r ?_
              | with_reducible refine blockQ_x ?_
              | ((with_reducible refine g_blkx ?_); refine blockQ_y rfl ?_)
              | with_reducible refine loopQ_x ?_
              | with_reducible refine loopQ_r ?_
              | ((with_reducible refine g_cond ?_); (first | refine T.cond_t rfl ?_ | refine T.cond_f rfl ?_ | (refine T.cond_s rfl ?_ ?_ <;> intro hc)))
              | with_reducible refine TL_nil ?_
              | with_reducible refine TS_nil ?_
              | ((with_reducible refine g_draw ?_)
                 (first
                 | (((with_reducible refine' T.drawM (id := 7) [(0, true), (2, true), (3, true), (4, true), (5, true), (1, false), (6, true), (7, true), (8, true), (10, true), (9, false), (11, false), (12, true), (13, true)] mixd ?q1 ?_); (case q1 => kernel_rfl)))
                 | (((with_reducible refine' T.drawM (id := 9) [(0, true), (1, true), (2, true), (3, true), (4, true), (5, true), (6, true), (7, true), (8, true), (9, true), (10, true), (11, false), (12, true)] mixd ?q1 ?_); (case q1 => kernel_rfl)))
                 | (((with_reducible refine' T.draw0 (id := 10) [(0, true), (1, true), (2, true), (3, true), (4, true), (5, true), (6, true), (7, true), (8, true), (9, true), (10, true), (11, false), (12, true)] mixd ?q1 ?_); (case q1 => kernel_rfl)))
                 | (((with_reducible refine' T.draw0 (id := 11) [(0, true), (1, true), (2, true), (3, true), (4, true), (5, true), (6, true), (7, true), (8, true), (9, true), (10, true), (11, true), (12, false), (13, true), (14, true), (15, true), (16, true), (17, true), (18, true), (19, true)] mixd ?q1 ?_)
                     (case q1 => kernel_rfl)))
                 | (((with_reducible refine' T.drawM (id := 13) [(0, true), (2, true), (3, true), (4, true), (5, true), (1, false), (6, true), (7, true), (8, true), (10, true), (9, false), (11, false), (12, true), (13, true), (14, true)] mixd ?q1 ?_); (case q1 => kernel_rfl)))))
              | ((with_reducible refine TL_y' ?hy ?hd ?_); (case hy => rfl); (case hd => rfl))
              | with_reducible refine TL_e ?_
              | ((with_reducible refine g_TL ?_); (first | refine TL_gy' rfl rfl rfl rfl ?_ | refine TL_gn rfl rfl rfl ?_ | refine TL_gu rfl rfl rfl ?_ | refine TL_ge rfl rfl ?_ | refine TL_gn0 rfl rfl ?_))
              | ((with_reducible refine g_TS ?_)
                 (first
                 | refine TS_y rfl rfl ?_
                 | refine TS_e rfl ?_
                 | refine TS_gy rfl rfl rfl rfl ?_
                 | refine TS_gn rfl rfl rfl rfl ?_
                 | refine TS_gu rfl rfl rfl rfl ?_
                 | refine TS_ge rfl rfl rfl ?_
                 | refine TS_gne rfl rfl rfl rfl ?_
                 | refine TS_gue rfl rfl rfl rfl ?_
                 | refine TS_gne0 rfl rfl rfl ?_))
              | ((with_reducible refine TSand ?hd ?_); (case hd => (repeat (first | exact List.nil_sublist _ | refine List.Sublist.cons_cons _ ?_ | refine List.Sublist.cons _ ?_))))
              | ((with_reducible refine is_move ?_); refine ⟨_, Yl_move rfl, ?_⟩)
              | ((with_reducible refine is_assign ?_); refine ⟨_, Yl_assign rfl, ?_⟩)
              | ((with_reducible refine is_pick ?_); (first | refine ⟨_, Yl_pick_t rfl rfl, ?_⟩ | refine ⟨_, Yl_pick_f rfl rfl, ?_⟩))
              | ((with_reducible refine is_nil ?_); refine ⟨_, Yl_nilCheck rfl, ?_⟩)
              | ((with_reducible refine is_fld ?_)
                 (first | ((refine' ⟨_, Yl_fld_blk0 rfl ?q1, ?_⟩); (case q1 => exact fld_of rfl rfl)) | ((refine' ⟨_, Yl_fld_blk rfl ?q1, ?_⟩); (case q1 => exact fld_of rfl rfl)) | ((refine' ⟨_, Yl_fld_ad rfl ?q1, ?_⟩); (case q1 => exact fld_of rfl rfl))))
              | ((with_reducible refine is_load ?_)
                 (first
                 | fail
                 | ((refine' ⟨_, Yl_load_blk rfl ?q1 ?q2 ?q3, ?_⟩); (case q1 => exact one_of rfl); (case q2 => (repeat (first | exact .head _ | apply List.Mem.tail))); (case q3 => rfl))
                 | ((refine' ⟨_, Yl_loadA_blk rfl ?q1 ?q2, ?_⟩); (case q1 => (repeat (first | exact .head _ | apply List.Mem.tail))); (case q2 => exact agg_of rfl))
                 | ((refine' ⟨_, Yl_load_blk rfl ?q1 ?q2 ?q3, ?_⟩); (case q1 => exact one_of rfl); (case q2 => (repeat (first | exact .head _ | apply List.Mem.tail))); (case q3 => assumption))
                 | ((refine' ⟨_, Yl_load_rd rfl ?q1 ?q2 List.not_mem_nil ?q3, ?_⟩); (case q1 => exact one_of rfl); (case q2 => assumption); (case q3 => assumption))
                 | ((refine' ⟨_, Yl_load_row rfl ?q1 ?q2 ?q3, ?_⟩); (case q1 => exact one_of rfl); (case q2 => (repeat (first | exact .head _ | apply List.Mem.tail))); (case q3 => assumption))
                 | ((refine' ⟨_, Yl_loadA_rd rfl ?qa ?qb List.not_mem_nil ?ql ?qc, ?_⟩); (case qa => exact agg_of rfl); (case qb => assumption); (case qc => assumption); (case ql => rfl))
                 | ((refine' ⟨_, Yl_loadA_row rfl ?qa ?qb ?ql ?qc, ?_⟩); (case qa => exact agg_of rfl); (case qb => (repeat (first | exact .head _ | apply List.Mem.tail))); (case qc => assumption); (case ql => rfl))))
              | ((with_reducible refine is_idx ?_)
                 (first
                 | fail
                 | ((refine' ⟨_, Yl_index rfl rfl ?q1 ?q2 ?q3 (Rd.some_ ?q4 ?q5), ?_⟩); (case q1 => exact und_of rfl); (case q2 => exact siz_of rfl); (case q3 => omega); (case q4 => assumption); (case q5 => omega))
                 | ((refine' ⟨_, Yl_index_row rfl rfl ?q1 ?q2 ?q3 ?q4, ?_⟩); (case q1 => exact und_of rfl); (case q2 => exact siz_of rfl); (case q3 => omega); (case q4 => (repeat (first | exact .head _ | apply List.Mem.tail))))
                 | ((refine' ⟨_, Yl_index rfl rfl ?q1 ?q2 ?q3 rfl, ?_⟩); (case q1 => exact und_of rfl); (case q2 => exact siz_of rfl); (case q3 => omega))))
              | ((with_reducible refine is_ext ?_); refine ⟨_, Yl_extract rfl rfl, ?_⟩)
              | ((with_reducible refine is_un ?_); refine ⟨_, Yl_not rfl, ?_⟩)
              | ((with_reducible refine is_len ?_); (first | ((refine' ⟨_, Yl_len_slice rfl ?q1, ?_⟩); (case q1 => exact und_of rfl)) | ((refine' ⟨_, Yl_len_string rfl ?q1, ?_⟩); (case q1 => exact und_of rfl))))
              | ((with_reducible refine is_b_lss ?_); (first | ((refine' ⟨_, Yl_lss_t rfl rfl ?q1, ?_⟩); (case q1 => omega)) | ((refine' ⟨_, Yl_lss_f rfl rfl ?q1, ?_⟩); (case q1 => omega)) | (refine sp_lss rfl rfl ?_ ?_ <;> intro hc)))
              | ((with_reducible refine is_b_leq ?_); (first | ((refine' ⟨_, Yl_leq_t rfl rfl ?q1, ?_⟩); (case q1 => omega)) | ((refine' ⟨_, Yl_leq_f rfl rfl ?q1, ?_⟩); (case q1 => omega)) | (refine sp_leq rfl rfl ?_ ?_ <;> intro hc)))
              | ((with_reducible refine is_b_gtr ?_); (first | ((refine' ⟨_, Yl_gtr_t rfl rfl ?q1, ?_⟩); (case q1 => omega)) | ((refine' ⟨_, Yl_gtr_f rfl rfl ?q1, ?_⟩); (case q1 => omega)) | (refine sp_gtr rfl rfl ?_ ?_ <;> intro hc)))
              | ((with_reducible refine is_b_geq ?_); (first | ((refine' ⟨_, Yl_geq_t rfl rfl ?q1, ?_⟩); (case q1 => omega)) | ((refine' ⟨_, Yl_geq_f rfl rfl ?q1, ?_⟩); (case q1 => omega)) | (refine sp_geq rfl rfl ?_ ?_ <;> intro hc)))
              | ((with_reducible refine is_b_eql ?_)
                 (first | ((refine' ⟨_, Yl_eql_t rfl rfl ?q1, ?_⟩); (case q1 => omega)) | ((refine' ⟨_, Yl_eql_f rfl rfl ?q1, ?_⟩); (case q1 => omega)) | (refine sp_eql rfl rfl ?_ ?_ <;> intro hc) | ((refine' ⟨_, Yl_neq_bool rfl rfl ?q1, ?_⟩); (case q1 => exact und_of rfl))))
              | ((with_reducible refine is_b_neq ?_)
                 (first | ((refine' ⟨_, Yl_neq_t rfl rfl ?q1, ?_⟩); (case q1 => omega)) | ((refine' ⟨_, Yl_neq_f rfl rfl ?q1, ?_⟩); (case q1 => omega)) | (refine sp_neq rfl rfl ?_ ?_ <;> intro hc) | ((refine' ⟨_, Yl_neq_bool rfl rfl ?q1, ?_⟩); (case q1 => exact und_of rfl))))
              | ((with_reducible refine is_b_add ?_); (first | ((refine' ⟨_, Yl_add rfl rfl ?q1 ?q2, ?_⟩); (case q1 => omega); (case q2 => omega)) | ((refine' ⟨_, Yl_neq_bool rfl rfl ?q1, ?_⟩); (case q1 => exact und_of rfl))))
              | ((with_reducible refine is_b_sub ?_); (first | ((refine' ⟨_, Yl_sub rfl rfl ?q1 ?q2, ?_⟩); (case q1 => omega); (case q2 => omega)) | ((refine' ⟨_, Yl_neq_bool rfl rfl ?q1, ?_⟩); (case q1 => exact und_of rfl))))
              | ((with_reducible refine is_build ?_); (first | fail))
              | (first | ((refine' ⟨_, Yl_neq_bool rfl rfl ?q1, ?_⟩); (case q1 => exact und_of rfl)))
              | ((with_reducible refine ie_box ?_)
                 (first
                 | (refine Ef_boxA rfl rfl ?_
                    (first
                    | ((fail_if_success have := b1); intro b1)
                    | ((fail_if_success have := b2); intro b2)
                    | ((fail_if_success have := b3); intro b3)
                    | ((fail_if_success have := b4); intro b4)
                    | ((fail_if_success have := b5); intro b5)
                    | ((fail_if_success have := b6); intro b6)
                    | ((fail_if_success have := b7); intro b7)
                    | ((fail_if_success have := b8); intro b8)
                    | ((fail_if_success have := b9); intro b9)))
                 | (refine Ef_box1 rfl rfl rfl ?_
                    (first
                    | ((fail_if_success have := b1); intro b1)
                    | ((fail_if_success have := b2); intro b2)
                    | ((fail_if_success have := b3); intro b3)
                    | ((fail_if_success have := b4); intro b4)
                    | ((fail_if_success have := b5); intro b5)
                    | ((fail_if_success have := b6); intro b6)
                    | ((fail_if_success have := b7); intro b7)
                    | ((fail_if_success have := b8); intro b8)
                    | ((fail_if_success have := b9); intro b9)))))
              | ((with_reducible refine ie_alloc ?_)
                 (first
                 | fail
                 | (((refine' Ef_alloc rfl ?q1 ?_); (case q1 => exact zer_of rfl))
                    (first
                    | ((fail_if_success have := b1); intro b1)
                    | ((fail_if_success have := b2); intro b2)
                    | ((fail_if_success have := b3); intro b3)
                    | ((fail_if_success have := b4); intro b4)
                    | ((fail_if_success have := b5); intro b5)
                    | ((fail_if_success have := b6); intro b6)
                    | ((fail_if_success have := b7); intro b7)
                    | ((fail_if_success have := b8); intro b8)
                    | ((fail_if_success have := b9); intro b9)))))
              | ((with_reducible refine ie_store ?_)
                 (first
                 | fail
                 | ((refine' Ef_storeC rfl rfl ?q1 ?q2 ?q3 ?q4 ?q5 ?_)
                    (case q1 => rfl)
                    (case q2 => exact siz_of rfl)
                    (case q3 => (first | exact at0 | exact at1 | exact at2 | exact at3 | exact at4 | exact at5 | exact at6))
                    (case q4 => exact Nat.le_of_ble_eq_true rfl)
                    (case q5 => rfl))))
              | ((with_reducible refine ie_callf ?_)
                 (first
                 | ((with_reducible refine g_call 10 ?_)
                    (first
                    | (refine Ef_callN rfl rfl ent_10 (fun w _ => new_c w) ?_
                       (first
                       | ((fail_if_success have := b1); intro b1)
                       | ((fail_if_success have := b2); intro b2)
                       | ((fail_if_success have := b3); intro b3)
                       | ((fail_if_success have := b4); intro b4)
                       | ((fail_if_success have := b5); intro b5)
                       | ((fail_if_success have := b6); intro b6)
                       | ((fail_if_success have := b7); intro b7)
                       | ((fail_if_success have := b8); intro b8)
                       | ((fail_if_success have := b9); intro b9)))))
                 | ((with_reducible refine g_call 15 ?_)
                    (first
                    | (refine Ef_callN rfl rfl ent_15 (fun w _ => rnew_c w) ?_
                       (first
                       | ((fail_if_success have := b1); intro b1)
                       | ((fail_if_success have := b2); intro b2)
                       | ((fail_if_success have := b3); intro b3)
                       | ((fail_if_success have := b4); intro b4)
                       | ((fail_if_success have := b5); intro b5)
                       | ((fail_if_success have := b6); intro b6)
                       | ((fail_if_success have := b7); intro b7)
                       | ((fail_if_success have := b8); intro b8)
                       | ((fail_if_success have := b9); intro b9)))))
                 | ((with_reducible refine g_call 13 ?_); (first | ((refine' Ef_callP rfl rfl ent_13 (fun w hp => boot_c b1 s w (hp.blkOf ?q1)) ?_); (case q1 => (repeat (first | exact .head _ | apply List.Mem.tail))))))
                 | ((with_reducible refine g_call 12 ?_); (first | ((refine' Ef_callP rfl rfl ent_12 (fun w hp => top_c b1 s w (hp.blkOf ?q1)) ?_); (case q1 => (repeat (first | exact .head _ | apply List.Mem.tail))))))
                 | ((with_reducible refine g_call 16 ?_)
                    (first
                    | ((refine' Ef_callP rfl rfl ent_16 (fun w hp => rtop_c b2 bd C z.1 z.2 w ?q1 (hp.blkOf ?q2) (hp.rowOf ?q3)) ?_)
                       (case q1 => omega)
                       (case q2 => (repeat (first | exact .head _ | apply List.Mem.tail)))
                       (case q3 => (repeat (first | exact .head _ | apply List.Mem.tail))))))
                 | ((with_reducible refine g_call 14 ?_); (first | ((refine' Ef_callP rfl rfl ent_14 (fun w hp => hmay w (hp.blkOf ?q1)) ?_); (case q1 => (repeat (first | exact .head _ | apply List.Mem.tail))))))
                 | ((with_reducible refine g_call 11 ?_); (first | ((refine' Ef_callT [false, false, true] rfl rfl ent_11 rfl rfl rfl (fun w hp => take_c b1 s x.1 x.2 w hk.inv ?q1 ?q2 hp) ?_); (case q1 => omega); (case q2 => omega))))
                 | ((with_reducible refine g_call 17 ?_); (first | (((refine' Ef_callX [false, true, true] rfl rfl ent_17 rfl rfl rfl (fun w hp => rtake_c b2 bd C z x.1 x.2 w ?q1 ?q2 ?q3 hp) ?_); (case q1 => omega); (case q2 => omega); (case q3 => omega)); intro z2 _)))))
              | ((with_reducible refine ie_app ?_)
                 (first
                 | fail
                 | (((refine' Ef_append_row rfl rfl rfl ?q1 ?q2 ?q3 ?q4 ?q5 ?q6 ?_)
                     (case q1 => exact app_of rfl)
                     (case q2 => (first | exact at0 | exact at1 | exact at2 | exact at3 | exact at4 | exact at5 | exact at6))
                     (case q3 => (repeat (first | exact .head _ | apply List.Mem.tail)))
                     (case q4 => (first | assumption | (intro u hu; rcases hu with _ | ⟨_, _ | ⟨_, _ | ⟨_, _ | ⟨_, hu⟩⟩⟩⟩ <;> first | rfl | (cases hu; done))))
                     (case q5 => omega)
                     (case q6 => omega))
                    (first
                    | ((fail_if_success have := A1); intro A1 c1)
                    | ((fail_if_success have := A2); intro A2 c2)
                    | ((fail_if_success have := A3); intro A3 c3)
                    | ((fail_if_success have := A4); intro A4 c4)
                    | ((fail_if_success have := A5); intro A5 c5)
                    | ((fail_if_success have := A6); intro A6 c6)
                    | ((fail_if_success have := A7); intro A7 c7)))
                 | (((refine' Ef_append_rd rfl rfl rfl ?q1 ?q2 ?q3 List.not_mem_nil ?q4 ?q5 ?q6 ?q7 ?_)
                     (case q1 => exact app_of rfl)
                     (case q2 => (first | exact at0 | exact at1 | exact at2 | exact at3 | exact at4 | exact at5 | exact at6))
                     (case q3 => assumption)
                     (case q4 => omega)
                     (case q5 => (first | assumption | (intro u hu; rcases hu with _ | ⟨_, _ | ⟨_, _ | ⟨_, _ | ⟨_, hu⟩⟩⟩⟩ <;> first | rfl | (cases hu; done))))
                     (case q6 => omega)
                     (case q7 => omega))
                    (first
                    | ((fail_if_success have := A1); intro A1 c1)
                    | ((fail_if_success have := A2); intro A2 c2)
                    | ((fail_if_success have := A3); intro A3 c3)
                    | ((fail_if_success have := A4); intro A4 c4)
                    | ((fail_if_success have := A5); intro A5 c5)
                    | ((fail_if_success have := A6); intro A6 c6)
                    | ((fail_if_success have := A7); intro A7 c7)))))
              | ((with_reducible refine ie_bsl ?_)
                 (first
                 | fail
                 | (((refine' Ef_bslA rfl rfl ?q1 ?q2 ?q3 ?_); (case q1 => exact app_of rfl); (case q2 => rfl); (case q3 => decide))
                    (first
                    | ((fail_if_success have := b1); intro b1)
                    | ((fail_if_success have := b2); intro b2)
                    | ((fail_if_success have := b3); intro b3)
                    | ((fail_if_success have := b4); intro b4)
                    | ((fail_if_success have := b5); intro b5)
                    | ((fail_if_success have := b6); intro b6)
                    | ((fail_if_success have := b7); intro b7)
                    | ((fail_if_success have := b8); intro b8)
                    | ((fail_if_success have := b9); intro b9)))
                 | (((refine' Ef_bsl1 rfl rfl rfl ?q1 ?_); (case q1 => exact app_of rfl))
                    (first
                    | ((fail_if_success have := b1); intro b1)
                    | ((fail_if_success have := b2); intro b2)
                    | ((fail_if_success have := b3); intro b3)
                    | ((fail_if_success have := b4); intro b4)
                    | ((fail_if_success have := b5); intro b5)
                    | ((fail_if_success have := b6); intro b6)
                    | ((fail_if_success have := b7); intro b7)
                    | ((fail_if_success have := b8); intro b8)
                    | ((fail_if_success have := b9); intro b9)))))
              | (first | fail)
              | refine Ef_y rfl rfl ?_)
      exact ret_n [] (res1 rfl rfl) (List.nil_sublist _) ⟨rfl, rfl⟩
end Go.Proofs.Ytbmegafjphcdnaa
