/- The law on boots: what a call of it comes to: for every boot, every slice of numbers and every other boot and number of 64 bits. -/
import Derived.Test.YtbmegafjphcdnaaT5
import Derived.Test.YtbmegafjphcdnaaT6
namespace Go.Proofs.Ytbmegafjphcdnaa
open Go.RowKit

set_option maxHeartbeats 1000000 in
theorem boots_c (boot : Int) (A : Option Addr) (len cap : Nat) (zs : List Int) (other n : Int) (w : World) (hr : Rd w A len 1 (zs.map (Value.int .i64))) (hz : ∀ i, -9223372036854775808 ≤ zs.getD i 0 ∧ zs.getD i 0 ≤ 9223372036854775807)
    (hb : boot ≤ 9223372036854775807) (hb2 : other ≤ 9223372036854775807) (hb3 : n ≤ 9223372036854775807) :
    Sp Try.prog 6 [.int .i64 boot, .slice A len cap, .int .i64 other, .int .i64 n] w [] fun v N => v = .bool true ∧ N = [] := by
  have hl : zs.length = len := by simpa using hr.len
  refine Sp.enter (n := 94) Try.func6 rfl rfl rfl (Hp.refl w) ?_
  repeat' (first
          | with_reducible refine T.seq ?_
          | with_reducible refine T.block ?_
          | with_reducible refine T.region ?_
          | with_reducible refine T.skip ?_
          | with_reducible refine T.ret ?_
          | with_reducible refine T.exit ?_
          | with_reducible refine seqQ_n ?_
          | with_reducible refine seqQ_x ?_
          | with_reducible refine seqQ_r ?_
          | with_reducible refine blockQ_n ?_
          | with_reducible refine blockQ_r ?_
          | with_reducible refine blockQ_x ?_
          | ((with_reducible refine g_blkx ?_); refine blockQ_y rfl ?_)
          | with_reducible refine loopQ_x ?_
          | with_reducible refine loopQ_r ?_
          | ((with_reducible refine g_cond ?_)
             (first
             | refine T.cond_t rfl ?_
             | refine T.cond_f rfl ?_
             | (refine T.cond_s rfl ?_ ?_ <;> intro hc)))
          | with_reducible refine TL_nil ?_
          | with_reducible refine TS_nil ?_
          | ((with_reducible refine g_draw ?_); (first | fail))
          | ((with_reducible refine TL_y' ?hy ?hd ?_); (case hy => rfl); (case hd => rfl))
          | with_reducible refine TL_e ?_
          | ((with_reducible refine g_TL ?_)
             (first
             | refine TL_gy' rfl rfl rfl rfl ?_
             | refine TL_gn rfl rfl rfl ?_
             | refine TL_gu rfl rfl rfl ?_
             | refine TL_ge rfl rfl ?_
             | refine TL_gn0 rfl rfl ?_))
          | ((with_reducible refine g_TS ?_)
             (first
             | refine TS_y rfl rfl ?_
             | refine TS_e rfl ?_
             | refine TS_gy rfl rfl rfl rfl ?_
             | refine TS_gn rfl rfl rfl rfl ?_
             | refine TS_gu rfl rfl rfl rfl ?_
             | refine TS_ge rfl rfl rfl ?_
             | refine TS_gne rfl rfl rfl rfl ?_
             | refine TS_gue rfl rfl rfl rfl ?_
             | refine TS_gne0 rfl rfl rfl ?_))
          | ((with_reducible refine TSand ?hd ?_)
             (case hd =>
                (repeat (first | exact List.nil_sublist _ | refine List.Sublist.cons_cons _ ?_ | refine List.Sublist.cons _ ?_))))
          | ((with_reducible refine is_move ?_); refine ⟨_, Yl_move rfl, ?_⟩)
          | ((with_reducible refine is_assign ?_); refine ⟨_, Yl_assign rfl, ?_⟩)
          | ((with_reducible refine is_pick ?_)
             (first | refine ⟨_, Yl_pick_t rfl rfl, ?_⟩ | refine ⟨_, Yl_pick_f rfl rfl, ?_⟩))
          | ((with_reducible refine is_nil ?_); refine ⟨_, Yl_nilCheck rfl, ?_⟩)
          | ((with_reducible refine is_fld ?_)
             (first
             | ((refine' ⟨_, Yl_fld_blk0 rfl ?q1, ?_⟩); (case q1 => exact fld_of rfl rfl))
             | ((refine' ⟨_, Yl_fld_blk rfl ?q1, ?_⟩); (case q1 => exact fld_of rfl rfl))
             | ((refine' ⟨_, Yl_fld_ad rfl ?q1, ?_⟩); (case q1 => exact fld_of rfl rfl))))
          | ((with_reducible refine is_load ?_)
             (first
             | ((refine' ⟨_, Yl_load_rd rfl ?q1 hr List.not_mem_nil (ints_get zs _ i ?q2), ?_⟩)
                (case q1 => exact one_of rfl)
                (case q2 => omega))
             | ((refine' ⟨_, Yl_load_blk rfl ?q1 ?q2 ?q3, ?_⟩)
                (case q1 => exact one_of rfl)
                (case q2 => (repeat (first | exact .head _ | apply List.Mem.tail)))
                (case q3 => rfl))
             | ((refine' ⟨_, Yl_loadA_blk rfl ?q1 ?q2, ?_⟩)
                (case q1 => (repeat (first | exact .head _ | apply List.Mem.tail)))
                (case q2 => exact agg_of rfl))))
          | ((with_reducible refine is_idx ?_)
             (first
             | ((refine' ⟨_, Yl_index rfl rfl ?q1 ?q2 ?q3 (hr.some_ ?q4), ?_⟩)
                (case q1 => exact und_of rfl)
                (case q2 => exact siz_of rfl)
                (case q3 => omega)
                (case q4 => omega))))
          | ((with_reducible refine is_ext ?_); refine ⟨_, Yl_extract rfl rfl, ?_⟩)
          | ((with_reducible refine is_un ?_); refine ⟨_, Yl_not rfl, ?_⟩)
          | ((with_reducible refine is_len ?_)
             (first
             | ((refine' ⟨_, Yl_len_slice rfl ?q1, ?_⟩); (case q1 => exact und_of rfl))
             | ((refine' ⟨_, Yl_len_string rfl ?q1, ?_⟩); (case q1 => exact und_of rfl))))
          | ((with_reducible refine is_b_lss ?_)
             (first
             | ((refine' ⟨_, Yl_lss_t rfl rfl ?q1, ?_⟩); (case q1 => omega))
             | ((refine' ⟨_, Yl_lss_f rfl rfl ?q1, ?_⟩); (case q1 => omega))
             | (refine sp_lss rfl rfl ?_ ?_ <;> intro hc)))
          | ((with_reducible refine is_b_leq ?_)
             (first
             | ((refine' ⟨_, Yl_leq_t rfl rfl ?q1, ?_⟩); (case q1 => omega))
             | ((refine' ⟨_, Yl_leq_f rfl rfl ?q1, ?_⟩); (case q1 => omega))
             | (refine sp_leq rfl rfl ?_ ?_ <;> intro hc)))
          | ((with_reducible refine is_b_gtr ?_)
             (first
             | ((refine' ⟨_, Yl_gtr_t rfl rfl ?q1, ?_⟩); (case q1 => omega))
             | ((refine' ⟨_, Yl_gtr_f rfl rfl ?q1, ?_⟩); (case q1 => omega))
             | (refine sp_gtr rfl rfl ?_ ?_ <;> intro hc)))
          | ((with_reducible refine is_b_geq ?_)
             (first
             | ((refine' ⟨_, Yl_geq_t rfl rfl ?q1, ?_⟩); (case q1 => omega))
             | ((refine' ⟨_, Yl_geq_f rfl rfl ?q1, ?_⟩); (case q1 => omega))
             | (refine sp_geq rfl rfl ?_ ?_ <;> intro hc)))
          | ((with_reducible refine is_b_eql ?_)
             (first
             | ((refine' ⟨_, Yl_eql_t rfl rfl ?q1, ?_⟩); (case q1 => omega))
             | ((refine' ⟨_, Yl_eql_f rfl rfl ?q1, ?_⟩); (case q1 => omega))
             | (refine sp_eql rfl rfl ?_ ?_ <;> intro hc)
             | fail))
          | ((with_reducible refine is_b_neq ?_)
             (first
             | ((refine' ⟨_, Yl_neq_t rfl rfl ?q1, ?_⟩); (case q1 => omega))
             | ((refine' ⟨_, Yl_neq_f rfl rfl ?q1, ?_⟩); (case q1 => omega))
             | (refine sp_neq rfl rfl ?_ ?_ <;> intro hc)
             | fail))
          | ((with_reducible refine is_b_add ?_)
             (first
             | ((refine' ⟨_, Yl_add rfl rfl ?q1 ?q2, ?_⟩); (case q1 => omega); (case q2 => omega))
             | fail))
          | ((with_reducible refine is_b_sub ?_)
             (first
             | ((refine' ⟨_, Yl_sub rfl rfl ?q1 ?q2, ?_⟩); (case q1 => omega); (case q2 => omega))
             | fail))
          | ((with_reducible refine is_build ?_); (first | fail))
          | (first | fail)
          | ((with_reducible refine ie_box ?_)
             (first
             | (refine Ef_boxA rfl rfl ?_
                (first
                | ((fail_if_success have := b1); intro b1)
                | ((fail_if_success have := b2); intro b2)
                | ((fail_if_success have := b3); intro b3)
                | ((fail_if_success have := b4); intro b4)
                | ((fail_if_success have := b5); intro b5)
                | ((fail_if_success have := b6); intro b6)
                | ((fail_if_success have := b7); intro b7)
                | ((fail_if_success have := b8); intro b8)
                | ((fail_if_success have := b9); intro b9)))
             | (refine Ef_box1 rfl rfl rfl ?_
                (first
                | ((fail_if_success have := b1); intro b1)
                | ((fail_if_success have := b2); intro b2)
                | ((fail_if_success have := b3); intro b3)
                | ((fail_if_success have := b4); intro b4)
                | ((fail_if_success have := b5); intro b5)
                | ((fail_if_success have := b6); intro b6)
                | ((fail_if_success have := b7); intro b7)
                | ((fail_if_success have := b8); intro b8)
                | ((fail_if_success have := b9); intro b9)))))
          | ((with_reducible refine ie_alloc ?_)
             (first
             | fail
             | (((refine' Ef_alloc rfl ?q1 ?_); (case q1 => exact zer_of rfl))
                (first
                | ((fail_if_success have := b1); intro b1)
                | ((fail_if_success have := b2); intro b2)
                | ((fail_if_success have := b3); intro b3)
                | ((fail_if_success have := b4); intro b4)
                | ((fail_if_success have := b5); intro b5)
                | ((fail_if_success have := b6); intro b6)
                | ((fail_if_success have := b7); intro b7)
                | ((fail_if_success have := b8); intro b8)
                | ((fail_if_success have := b9); intro b9)))))
          | ((with_reducible refine ie_store ?_); (first | fail))
          | ((with_reducible refine ie_callf ?_)
             (first
             | ((with_reducible refine g_call 9 ?_)
                (first | refine Ef_callP rfl rfl ent_9 (fun w _ => awake_c w) ?_))
             | ((with_reducible refine g_call 10 ?_)
                (first
                | (refine Ef_callN rfl rfl ent_10 (fun w _ => new_c w) ?_
                   (first
                   | ((fail_if_success have := b1); intro b1)
                   | ((fail_if_success have := b2); intro b2)
                   | ((fail_if_success have := b3); intro b3)
                   | ((fail_if_success have := b4); intro b4)
                   | ((fail_if_success have := b5); intro b5)
                   | ((fail_if_success have := b6); intro b6)
                   | ((fail_if_success have := b7); intro b7)
                   | ((fail_if_success have := b8); intro b8)
                   | ((fail_if_success have := b9); intro b9)))))
             | ((with_reducible refine g_call 11 ?_)
                (first
                | ((refine' Ef_callT [true] rfl rfl ent_11 rfl rfl rfl (fun w hp => take_c b1 s boot (zs.getD i 0) w hi hb ?q1 hp) ?_)
                   (case q1 => omega))
                | refine Ef_callT [true] rfl rfl ent_11 rfl rfl rfl (fun w hp => take_c b1 s other n w hi hb2 hb3 hp) ?_))
             | ((with_reducible refine g_call 12 ?_)
                (first
                | ((refine' Ef_callP rfl rfl ent_12 (fun w hp => top_c b1 s w (hp.blkOf ?q1)) ?_)
                   (case q1 => (repeat (first | exact .head _ | apply List.Mem.tail))))
                | ((refine' Ef_callP rfl rfl ent_12 (fun w hp => top_c b1 (Win.take s other n).1 w (hp.blkOf ?q1)) ?_)
                   (case q1 => (repeat (first | exact .head _ | apply List.Mem.tail))))))
             | ((with_reducible refine g_call 13 ?_)
                (first
                | ((refine' Ef_callP rfl rfl ent_13 (fun w hp => boot_c b1 s w (hp.blkOf ?q1)) ?_)
                   (case q1 => (repeat (first | exact .head _ | apply List.Mem.tail))))
                | ((refine' Ef_callP rfl rfl ent_13 (fun w hp => boot_c b1 (Win.take s other n).1 w (hp.blkOf ?q1)) ?_)
                   (case q1 => (repeat (first | exact .head _ | apply List.Mem.tail))))))))
          | (first | fail)
          | refine Ef_y rfl rfl ?_)
  iterate 4 first | exact ret_n [] (res1 rfl rfl) (List.nil_sublist _) ⟨rfl, rfl⟩ | skip
  refine T.loop (α := Win.St × Nat) (fun x => [(0, .int .i64 boot), (1, .slice A len cap), (2, .int .i64 other), (3, .int .i64 n), (9, .pointer (some ⟨b1, 0, none⟩)), (10, .int .i64 (x.2 : Int))]) (fun x => [wB b1 x.1])
    (fun x => Win.Inv x.1 ∧ (x.1.boot = -1 ∨ x.1.boot = boot) ∧ x.2 ≤ len) (fun x => len - x.2) (Win.new, 0) ?_ ?_ ?_ ?_
  · (repeat (first | exact Sub.nil | refine Sub.cons rfl ?_))
  · (repeat (first | exact List.nil_sublist _ | refine List.Sublist.cons_cons _ ?_ | refine List.Sublist.cons _ ?_))
  · exact ⟨Win.new_inv, .inl rfl, Nat.zero_le _⟩
  · rintro ⟨s, i⟩ ⟨hi, h1, h2⟩
    dsimp only at hi h1 h2 ⊢
    have hzi := hz i
    have F1 : s.boot < other → (Win.take s other n).2 = 0 ∧ (Win.take s other n).1.boot = other ∧ (Win.take s other n).1.top = n := fun h => Win.boots_gt s other n hi (by omega) (by omega) h
    have F2 : other < s.boot → (Win.take s other n).2 = 180 ∧ (Win.take s other n).1.boot = s.boot ∧ (Win.take s other n).1.top = s.top := fun h => by
      rw [Win.boots_lt s other n (by omega) (by omega) h]; exact ⟨rfl, rfl, rfl⟩
    repeat' (first
            | with_reducible refine T.seq ?_
            | with_reducible refine T.block ?_
            | with_reducible refine T.region ?_
            | with_reducible refine T.skip ?_
            | with_reducible refine T.ret ?_
            | with_reducible refine T.exit ?_
            | with_reducible refine seqQ_n ?_
            | with_reducible refine seqQ_x ?_
            | with_reducible refine seqQ_r ?_
            | with_reducible refine blockQ_n ?_
            | with_reducible refine blockQ_r ?_
            | with_reducible refine blockQ_x ?_
            | ((with_reducible refine g_blkx ?_); refine blockQ_y rfl ?_)
            | with_reducible refine loopQ_x ?_
            | with_reducible refine loopQ_r ?_
            | ((with_reducible refine g_cond ?_)
               (first
               | refine T.cond_t rfl ?_
               | refine T.cond_f rfl ?_
               | (refine T.cond_s rfl ?_ ?_ <;> intro hc)))
            | with_reducible refine TL_nil ?_
            | with_reducible refine TS_nil ?_
            | ((with_reducible refine g_draw ?_); (first | fail))
            | ((with_reducible refine TL_y' ?hy ?hd ?_); (case hy => rfl); (case hd => rfl))
            | with_reducible refine TL_e ?_
            | ((with_reducible refine g_TL ?_)
               (first
               | refine TL_gy' rfl rfl rfl rfl ?_
               | refine TL_gn rfl rfl rfl ?_
               | refine TL_gu rfl rfl rfl ?_
               | refine TL_ge rfl rfl ?_
               | refine TL_gn0 rfl rfl ?_))
            | ((with_reducible refine g_TS ?_)
               (first
               | refine TS_y rfl rfl ?_
               | refine TS_e rfl ?_
               | refine TS_gy rfl rfl rfl rfl ?_
               | refine TS_gn rfl rfl rfl rfl ?_
               | refine TS_gu rfl rfl rfl rfl ?_
               | refine TS_ge rfl rfl rfl ?_
               | refine TS_gne rfl rfl rfl rfl ?_
               | refine TS_gue rfl rfl rfl rfl ?_
               | refine TS_gne0 rfl rfl rfl ?_))
            | ((with_reducible refine TSand ?hd ?_)
               (case hd =>
                  (repeat (first | exact List.nil_sublist _ | refine List.Sublist.cons_cons _ ?_ | refine List.Sublist.cons _ ?_))))
            | ((with_reducible refine is_move ?_); refine ⟨_, Yl_move rfl, ?_⟩)
            | ((with_reducible refine is_assign ?_); refine ⟨_, Yl_assign rfl, ?_⟩)
            | ((with_reducible refine is_pick ?_)
               (first | refine ⟨_, Yl_pick_t rfl rfl, ?_⟩ | refine ⟨_, Yl_pick_f rfl rfl, ?_⟩))
            | ((with_reducible refine is_nil ?_); refine ⟨_, Yl_nilCheck rfl, ?_⟩)
            | ((with_reducible refine is_fld ?_)
               (first
               | ((refine' ⟨_, Yl_fld_blk0 rfl ?q1, ?_⟩); (case q1 => exact fld_of rfl rfl))
               | ((refine' ⟨_, Yl_fld_blk rfl ?q1, ?_⟩); (case q1 => exact fld_of rfl rfl))
               | ((refine' ⟨_, Yl_fld_ad rfl ?q1, ?_⟩); (case q1 => exact fld_of rfl rfl))))
            | ((with_reducible refine is_load ?_)
               (first
               | ((refine' ⟨_, Yl_load_rd rfl ?q1 hr List.not_mem_nil (ints_get zs _ i ?q2), ?_⟩)
                  (case q1 => exact one_of rfl)
                  (case q2 => omega))
               | ((refine' ⟨_, Yl_load_blk rfl ?q1 ?q2 ?q3, ?_⟩)
                  (case q1 => exact one_of rfl)
                  (case q2 => (repeat (first | exact .head _ | apply List.Mem.tail)))
                  (case q3 => rfl))
               | ((refine' ⟨_, Yl_loadA_blk rfl ?q1 ?q2, ?_⟩)
                  (case q1 => (repeat (first | exact .head _ | apply List.Mem.tail)))
                  (case q2 => exact agg_of rfl))))
            | ((with_reducible refine is_idx ?_)
               (first
               | ((refine' ⟨_, Yl_index rfl rfl ?q1 ?q2 ?q3 (hr.some_ ?q4), ?_⟩)
                  (case q1 => exact und_of rfl)
                  (case q2 => exact siz_of rfl)
                  (case q3 => omega)
                  (case q4 => omega))))
            | ((with_reducible refine is_ext ?_); refine ⟨_, Yl_extract rfl rfl, ?_⟩)
            | ((with_reducible refine is_un ?_); refine ⟨_, Yl_not rfl, ?_⟩)
            | ((with_reducible refine is_len ?_)
               (first
               | ((refine' ⟨_, Yl_len_slice rfl ?q1, ?_⟩); (case q1 => exact und_of rfl))
               | ((refine' ⟨_, Yl_len_string rfl ?q1, ?_⟩); (case q1 => exact und_of rfl))))
            | ((with_reducible refine is_b_lss ?_)
               (first
               | ((refine' ⟨_, Yl_lss_t rfl rfl ?q1, ?_⟩); (case q1 => omega))
               | ((refine' ⟨_, Yl_lss_f rfl rfl ?q1, ?_⟩); (case q1 => omega))
               | (refine sp_lss rfl rfl ?_ ?_ <;> intro hc)))
            | ((with_reducible refine is_b_leq ?_)
               (first
               | ((refine' ⟨_, Yl_leq_t rfl rfl ?q1, ?_⟩); (case q1 => omega))
               | ((refine' ⟨_, Yl_leq_f rfl rfl ?q1, ?_⟩); (case q1 => omega))
               | (refine sp_leq rfl rfl ?_ ?_ <;> intro hc)))
            | ((with_reducible refine is_b_gtr ?_)
               (first
               | ((refine' ⟨_, Yl_gtr_t rfl rfl ?q1, ?_⟩); (case q1 => omega))
               | ((refine' ⟨_, Yl_gtr_f rfl rfl ?q1, ?_⟩); (case q1 => omega))
               | (refine sp_gtr rfl rfl ?_ ?_ <;> intro hc)))
            | ((with_reducible refine is_b_geq ?_)
               (first
               | ((refine' ⟨_, Yl_geq_t rfl rfl ?q1, ?_⟩); (case q1 => omega))
               | ((refine' ⟨_, Yl_geq_f rfl rfl ?q1, ?_⟩); (case q1 => omega))
               | (refine sp_geq rfl rfl ?_ ?_ <;> intro hc)))
            | ((with_reducible refine is_b_eql ?_)
               (first
               | ((refine' ⟨_, Yl_eql_t rfl rfl ?q1, ?_⟩); (case q1 => omega))
               | ((refine' ⟨_, Yl_eql_f rfl rfl ?q1, ?_⟩); (case q1 => omega))
               | (refine sp_eql rfl rfl ?_ ?_ <;> intro hc)
               | fail))
            | ((with_reducible refine is_b_neq ?_)
               (first
               | ((refine' ⟨_, Yl_neq_t rfl rfl ?q1, ?_⟩); (case q1 => omega))
               | ((refine' ⟨_, Yl_neq_f rfl rfl ?q1, ?_⟩); (case q1 => omega))
               | (refine sp_neq rfl rfl ?_ ?_ <;> intro hc)
               | fail))
            | ((with_reducible refine is_b_add ?_)
               (first
               | ((refine' ⟨_, Yl_add rfl rfl ?q1 ?q2, ?_⟩); (case q1 => omega); (case q2 => omega))
               | fail))
            | ((with_reducible refine is_b_sub ?_)
               (first
               | ((refine' ⟨_, Yl_sub rfl rfl ?q1 ?q2, ?_⟩); (case q1 => omega); (case q2 => omega))
               | fail))
            | ((with_reducible refine is_build ?_); (first | fail))
            | (first | fail)
            | ((with_reducible refine ie_box ?_)
               (first
               | (refine Ef_boxA rfl rfl ?_
                  (first
                  | ((fail_if_success have := b1); intro b1)
                  | ((fail_if_success have := b2); intro b2)
                  | ((fail_if_success have := b3); intro b3)
                  | ((fail_if_success have := b4); intro b4)
                  | ((fail_if_success have := b5); intro b5)
                  | ((fail_if_success have := b6); intro b6)
                  | ((fail_if_success have := b7); intro b7)
                  | ((fail_if_success have := b8); intro b8)
                  | ((fail_if_success have := b9); intro b9)))
               | (refine Ef_box1 rfl rfl rfl ?_
                  (first
                  | ((fail_if_success have := b1); intro b1)
                  | ((fail_if_success have := b2); intro b2)
                  | ((fail_if_success have := b3); intro b3)
                  | ((fail_if_success have := b4); intro b4)
                  | ((fail_if_success have := b5); intro b5)
                  | ((fail_if_success have := b6); intro b6)
                  | ((fail_if_success have := b7); intro b7)
                  | ((fail_if_success have := b8); intro b8)
                  | ((fail_if_success have := b9); intro b9)))))
            | ((with_reducible refine ie_alloc ?_)
               (first
               | fail
               | (((refine' Ef_alloc rfl ?q1 ?_); (case q1 => exact zer_of rfl))
                  (first
                  | ((fail_if_success have := b1); intro b1)
                  | ((fail_if_success have := b2); intro b2)
                  | ((fail_if_success have := b3); intro b3)
                  | ((fail_if_success have := b4); intro b4)
                  | ((fail_if_success have := b5); intro b5)
                  | ((fail_if_success have := b6); intro b6)
                  | ((fail_if_success have := b7); intro b7)
                  | ((fail_if_success have := b8); intro b8)
                  | ((fail_if_success have := b9); intro b9)))))
            | ((with_reducible refine ie_store ?_); (first | fail))
            | ((with_reducible refine ie_callf ?_)
               (first
               | ((with_reducible refine g_call 9 ?_)
                  (first | refine Ef_callP rfl rfl ent_9 (fun w _ => awake_c w) ?_))
               | ((with_reducible refine g_call 10 ?_)
                  (first
                  | (refine Ef_callN rfl rfl ent_10 (fun w _ => new_c w) ?_
                     (first
                     | ((fail_if_success have := b1); intro b1)
                     | ((fail_if_success have := b2); intro b2)
                     | ((fail_if_success have := b3); intro b3)
                     | ((fail_if_success have := b4); intro b4)
                     | ((fail_if_success have := b5); intro b5)
                     | ((fail_if_success have := b6); intro b6)
                     | ((fail_if_success have := b7); intro b7)
                     | ((fail_if_success have := b8); intro b8)
                     | ((fail_if_success have := b9); intro b9)))))
               | ((with_reducible refine g_call 11 ?_)
                  (first
                  | ((refine' Ef_callT [true] rfl rfl ent_11 rfl rfl rfl (fun w hp => take_c b1 s boot (zs.getD i 0) w hi hb ?q1 hp) ?_)
                     (case q1 => omega))
                  | refine Ef_callT [true] rfl rfl ent_11 rfl rfl rfl (fun w hp => take_c b1 s other n w hi hb2 hb3 hp) ?_))
               | ((with_reducible refine g_call 12 ?_)
                  (first
                  | ((refine' Ef_callP rfl rfl ent_12 (fun w hp => top_c b1 s w (hp.blkOf ?q1)) ?_)
                     (case q1 => (repeat (first | exact .head _ | apply List.Mem.tail))))
                  | ((refine' Ef_callP rfl rfl ent_12 (fun w hp => top_c b1 (Win.take s other n).1 w (hp.blkOf ?q1)) ?_)
                     (case q1 => (repeat (first | exact .head _ | apply List.Mem.tail))))))
               | ((with_reducible refine g_call 13 ?_)
                  (first
                  | ((refine' Ef_callP rfl rfl ent_13 (fun w hp => boot_c b1 s w (hp.blkOf ?q1)) ?_)
                     (case q1 => (repeat (first | exact .head _ | apply List.Mem.tail))))
                  | ((refine' Ef_callP rfl rfl ent_13 (fun w hp => boot_c b1 (Win.take s other n).1 w (hp.blkOf ?q1)) ?_)
                     (case q1 => (repeat (first | exact .head _ | apply List.Mem.tail))))))))
            | (first | fail)
            | refine Ef_y rfl rfl ?_)
    all_goals first
      | exact ret_n [] (res1 rfl rfl) (List.nil_sublist _) ⟨rfl, rfl⟩
      | (refine loopQ_n ((Win.take s boot (zs.getD i 0)).1, i + 1) ?_ ?_ ⟨Win.take_inv _ _ _ hi hb (by omega), Win.take_boot _ _ _ hi h1, by dsimp only; omega⟩ (by dsimp only; omega)
         · (repeat (first | exact Sub.nil | refine Sub.cons rfl ?_))
         · (repeat (first | exact List.nil_sublist _ | refine List.Sublist.cons_cons _ ?_ | refine List.Sublist.cons _ ?_)))
end Go.Proofs.Ytbmegafjphcdnaa
