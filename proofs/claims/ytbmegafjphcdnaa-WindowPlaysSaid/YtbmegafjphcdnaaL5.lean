/- The law on numbers that are less than 64 apart: what a call of it comes to: for every slice of numbers of 64 bits, every least one and one ahead. -/
import Derived.Test.YtbmegafjphcdnaaT5
import Derived.Test.YtbmegafjphcdnaaT6
import Derived.Test.YtbmegafjphcdnaaRead
namespace Go.Proofs.Ytbmegafjphcdnaa
open Go.RowKit
set_option maxRecDepth 20000

def bB (c : List Bool) : Array Value := (c.map Value.bool).toArray
theorem Zb : zerT Try.prog 34 = some (bB Win.zeros) := by kernel_rfl
theorem bB_get (c : List Bool) (j : Nat) (hj : j < c.length) : (bB c)[0 + j * 1]? = some (.bool (c.getD j false)) := by
  simp [bB, hj]
theorem bB_size (c : List Bool) : (bB c).size = c.length := by simp [bB]
theorem bB_set (c : List Bool) (j : Nat) : (bB c).setIfInBounds (0 + j * 1) (.bool true) = bB (c.set j true) := by
  apply Array.ext'; simp [bB, List.map_set]

set_option maxHeartbeats 1000000 in
theorem any_c (least : Int) (A : Option Addr) (len cap : Nat) (zs : List Int) (ahead : Int) (w : World) (hr : Rd w A len 1 (zs.flatMap (eI .i64))) (hl : zs.length = len) (hb2 : ahead ≤ 9223372036854775807) :
    Sp Try.prog 5 [.int .i64 least, .slice A len cap, .int .i64 ahead] w [] fun v N => v = .bool true ∧ N = [] := by
  refine Sp.enter (n := 77) Try.func5 rfl rfl rfl (Hp.refl w) ?_
  repeat' (first
          | with_reducible refine T.seq ?_
          | with_reducible refine T.block ?_
          | with_reducible refine T.region ?_
          | with_reducible refine T.skip ?_
          | with_reducible refine T.ret ?_
          | with_reducible refine T.exit ?_
          | with_reducible refine seqQ_n ?_
          | with_reducible refine seqQ_x ?_
          | with_reducible refine seqQ_r ?_
          | with_reducible refine blockQ_n ?_
          | with_reducible refine blockQ_r ?_
          | with_reducible refine blockQ_x ?_
          | ((with_reducible refine g_blkx ?_); refine blockQ_y rfl ?_)
          | with_reducible refine loopQ_x ?_
          | with_reducible refine loopQ_r ?_
          | ((with_reducible refine g_cond ?_); (first | refine T.cond_t rfl ?_ | refine T.cond_f rfl ?_ | (refine T.cond_s rfl ?_ ?_ <;> intro hc)))
          | with_reducible refine TL_nil ?_
          | with_reducible refine TS_nil ?_
          | ((with_reducible refine g_draw ?_); (first | fail))
          | ((with_reducible refine TL_y' ?hy ?hd ?_); (case hy => rfl); (case hd => rfl))
          | with_reducible refine TL_e ?_
          | ((with_reducible refine g_TL ?_); (first | refine TL_gy' rfl rfl rfl rfl ?_ | refine TL_gn rfl rfl rfl ?_ | refine TL_gu rfl rfl rfl ?_ | refine TL_ge rfl rfl ?_ | refine TL_gn0 rfl rfl ?_))
          | ((with_reducible refine g_TS ?_)
             (first
             | refine TS_y rfl rfl ?_
             | refine TS_e rfl ?_
             | refine TS_gy rfl rfl rfl rfl ?_
             | refine TS_gn rfl rfl rfl rfl ?_
             | refine TS_gu rfl rfl rfl rfl ?_
             | refine TS_ge rfl rfl rfl ?_
             | refine TS_gne rfl rfl rfl rfl ?_
             | refine TS_gue rfl rfl rfl rfl ?_
             | refine TS_gne0 rfl rfl rfl ?_))
          | ((with_reducible refine TSand ?hd ?_); (case hd => (repeat (first | exact List.nil_sublist _ | refine List.Sublist.cons_cons _ ?_ | refine List.Sublist.cons _ ?_))))
          | ((with_reducible refine is_move ?_); refine ⟨_, Yl_move rfl, ?_⟩)
          | ((with_reducible refine is_assign ?_); refine ⟨_, Yl_assign rfl, ?_⟩)
          | ((with_reducible refine is_pick ?_); (first | refine ⟨_, Yl_pick_t rfl rfl, ?_⟩ | refine ⟨_, Yl_pick_f rfl rfl, ?_⟩))
          | ((with_reducible refine is_nil ?_); refine ⟨_, Yl_nilCheck rfl, ?_⟩)
          | ((with_reducible refine is_fld ?_)
             (first | ((refine' ⟨_, Yl_fld_blk0 rfl ?q1, ?_⟩); (case q1 => exact fld_of rfl rfl)) | ((refine' ⟨_, Yl_fld_blk rfl ?q1, ?_⟩); (case q1 => exact fld_of rfl rfl)) | ((refine' ⟨_, Yl_fld_ad rfl ?q1, ?_⟩); (case q1 => exact fld_of rfl rfl))))
          | ((with_reducible refine is_load ?_)
             (first
             | fail
             | ((refine' ⟨_, Yl_load_blk rfl ?q1 ?q2 ?q3, ?_⟩); (case q1 => exact one_of rfl); (case q2 => (repeat (first | exact .head _ | apply List.Mem.tail))); (case q3 => rfl))
             | ((refine' ⟨_, Yl_loadA_blk rfl ?q1 ?q2, ?_⟩); (case q1 => (repeat (first | exact .head _ | apply List.Mem.tail))); (case q2 => exact agg_of rfl))
             | ((refine' ⟨_, Yl_load_blk rfl ?q1 ?q2 ?q3, ?_⟩); (case q1 => exact one_of rfl); (case q2 => (repeat (first | exact .head _ | apply List.Mem.tail))); (case q3 => assumption))
             | ((refine' ⟨_, Yl_load_rd rfl ?q1 ?q2 List.not_mem_nil ?q3, ?_⟩); (case q1 => exact one_of rfl); (case q2 => assumption); (case q3 => assumption))
             | ((refine' ⟨_, Yl_load_row rfl ?q1 ?q2 ?q3, ?_⟩); (case q1 => exact one_of rfl); (case q2 => (repeat (first | exact .head _ | apply List.Mem.tail))); (case q3 => assumption))
             | ((refine' ⟨_, Yl_loadA_rd rfl ?qa ?qb List.not_mem_nil ?ql ?qc, ?_⟩); (case qa => exact agg_of rfl); (case qb => assumption); (case qc => assumption); (case ql => rfl))
             | ((refine' ⟨_, Yl_loadA_row rfl ?qa ?qb ?ql ?qc, ?_⟩); (case qa => exact agg_of rfl); (case qb => (repeat (first | exact .head _ | apply List.Mem.tail))); (case qc => assumption); (case ql => rfl))))
          | ((with_reducible refine is_idx ?_)
             (first
             | ((refine' ⟨_, Yl_index_arr rfl rfl ?q1 ?q2 ?q3, ?_⟩); (case q1 => exact und_of rfl); (case q2 => exact siz_of rfl); (case q3 => omega))
             | ((refine' ⟨_, Yl_index rfl rfl ?q1 ?q2 ?q3 (Rd.some_ ?q4 ?q5), ?_⟩); (case q1 => exact und_of rfl); (case q2 => exact siz_of rfl); (case q3 => omega); (case q4 => assumption); (case q5 => omega))
             | ((refine' ⟨_, Yl_index_row rfl rfl ?q1 ?q2 ?q3 ?q4, ?_⟩); (case q1 => exact und_of rfl); (case q2 => exact siz_of rfl); (case q3 => omega); (case q4 => (repeat (first | exact .head _ | apply List.Mem.tail))))
             | ((refine' ⟨_, Yl_index rfl rfl ?q1 ?q2 ?q3 rfl, ?_⟩); (case q1 => exact und_of rfl); (case q2 => exact siz_of rfl); (case q3 => omega))))
          | ((with_reducible refine is_ext ?_); refine ⟨_, Yl_extract rfl rfl, ?_⟩)
          | ((with_reducible refine is_un ?_); refine ⟨_, Yl_not rfl, ?_⟩)
          | ((with_reducible refine is_len ?_); (first | ((refine' ⟨_, Yl_len_slice rfl ?q1, ?_⟩); (case q1 => exact und_of rfl)) | ((refine' ⟨_, Yl_len_string rfl ?q1, ?_⟩); (case q1 => exact und_of rfl))))
          | ((with_reducible refine is_b_lss ?_); (first | ((refine' ⟨_, Yl_lss_t rfl rfl ?q1, ?_⟩); (case q1 => omega)) | ((refine' ⟨_, Yl_lss_f rfl rfl ?q1, ?_⟩); (case q1 => omega)) | (refine sp_lss rfl rfl ?_ ?_ <;> intro hc)))
          | ((with_reducible refine is_b_leq ?_); (first | ((refine' ⟨_, Yl_leq_t rfl rfl ?q1, ?_⟩); (case q1 => omega)) | ((refine' ⟨_, Yl_leq_f rfl rfl ?q1, ?_⟩); (case q1 => omega)) | (refine sp_leq rfl rfl ?_ ?_ <;> intro hc)))
          | ((with_reducible refine is_b_gtr ?_); (first | ((refine' ⟨_, Yl_gtr_t rfl rfl ?q1, ?_⟩); (case q1 => omega)) | ((refine' ⟨_, Yl_gtr_f rfl rfl ?q1, ?_⟩); (case q1 => omega)) | (refine sp_gtr rfl rfl ?_ ?_ <;> intro hc)))
          | ((with_reducible refine is_b_geq ?_); (first | ((refine' ⟨_, Yl_geq_t rfl rfl ?q1, ?_⟩); (case q1 => omega)) | ((refine' ⟨_, Yl_geq_f rfl rfl ?q1, ?_⟩); (case q1 => omega)) | (refine sp_geq rfl rfl ?_ ?_ <;> intro hc)))
          | ((with_reducible refine is_b_eql ?_)
             (first | ((refine' ⟨_, Yl_eql_t rfl rfl ?q1, ?_⟩); (case q1 => omega)) | ((refine' ⟨_, Yl_eql_f rfl rfl ?q1, ?_⟩); (case q1 => omega)) | (refine sp_eql rfl rfl ?_ ?_ <;> intro hc) | ((refine' ⟨_, Yl_eql_bool rfl rfl ?q1, ?_⟩); (case q1 => exact und_of rfl))))
          | ((with_reducible refine is_b_neq ?_)
             (first | ((refine' ⟨_, Yl_neq_t rfl rfl ?q1, ?_⟩); (case q1 => omega)) | ((refine' ⟨_, Yl_neq_f rfl rfl ?q1, ?_⟩); (case q1 => omega)) | (refine sp_neq rfl rfl ?_ ?_ <;> intro hc) | ((refine' ⟨_, Yl_eql_bool rfl rfl ?q1, ?_⟩); (case q1 => exact und_of rfl))))
          | ((with_reducible refine is_b_add ?_); (first | ((refine' ⟨_, Yl_add rfl rfl ?q1 ?q2, ?_⟩); (case q1 => omega); (case q2 => omega)) | ((refine' ⟨_, Yl_eql_bool rfl rfl ?q1, ?_⟩); (case q1 => exact und_of rfl))))
          | ((with_reducible refine is_b_sub ?_); (first | ((refine' ⟨_, Yl_sub rfl rfl ?q1 ?q2, ?_⟩); (case q1 => omega); (case q2 => omega)) | ((refine' ⟨_, Yl_eql_bool rfl rfl ?q1, ?_⟩); (case q1 => exact und_of rfl))))
          | ((with_reducible refine is_build ?_); (first | fail))
          | (first | ((refine' ⟨_, Yl_eql_bool rfl rfl ?q1, ?_⟩); (case q1 => exact und_of rfl)))
          | ((with_reducible refine ie_box ?_)
             (first
             | (refine Ef_boxA rfl rfl ?_
                (first
                | ((fail_if_success have := b1); intro b1)
                | ((fail_if_success have := b2); intro b2)
                | ((fail_if_success have := b3); intro b3)
                | ((fail_if_success have := b4); intro b4)
                | ((fail_if_success have := b5); intro b5)
                | ((fail_if_success have := b6); intro b6)
                | ((fail_if_success have := b7); intro b7)
                | ((fail_if_success have := b8); intro b8)
                | ((fail_if_success have := b9); intro b9)))
             | (refine Ef_box1 rfl rfl rfl ?_
                (first
                | ((fail_if_success have := b1); intro b1)
                | ((fail_if_success have := b2); intro b2)
                | ((fail_if_success have := b3); intro b3)
                | ((fail_if_success have := b4); intro b4)
                | ((fail_if_success have := b5); intro b5)
                | ((fail_if_success have := b6); intro b6)
                | ((fail_if_success have := b7); intro b7)
                | ((fail_if_success have := b8); intro b8)
                | ((fail_if_success have := b9); intro b9)))))
          | ((with_reducible refine ie_alloc ?_)
             (first
             | (refine Ef_alloc rfl Zb ?_
                (first
                | ((fail_if_success have := b1); intro b1)
                | ((fail_if_success have := b2); intro b2)
                | ((fail_if_success have := b3); intro b3)
                | ((fail_if_success have := b4); intro b4)
                | ((fail_if_success have := b5); intro b5)
                | ((fail_if_success have := b6); intro b6)
                | ((fail_if_success have := b7); intro b7)
                | ((fail_if_success have := b8); intro b8)
                | ((fail_if_success have := b9); intro b9)))
             | (((refine' Ef_alloc rfl ?q1 ?_); (case q1 => exact zer_of rfl))
                (first
                | ((fail_if_success have := b1); intro b1)
                | ((fail_if_success have := b2); intro b2)
                | ((fail_if_success have := b3); intro b3)
                | ((fail_if_success have := b4); intro b4)
                | ((fail_if_success have := b5); intro b5)
                | ((fail_if_success have := b6); intro b6)
                | ((fail_if_success have := b7); intro b7)
                | ((fail_if_success have := b8); intro b8)
                | ((fail_if_success have := b9); intro b9)))))
          | ((with_reducible refine ie_store ?_)
             (first
             | ((refine' Ef_storeB (i := 1) rfl rfl ?q1 rfl ?q2 ?q3 ?_); (case q1 => exact siz_of rfl); (case q2 => assumption); (case q3 => assumption))
             | ((refine' Ef_storeC rfl rfl ?q1 ?q2 ?q3 ?q4 ?q5 ?_)
                (case q1 => rfl)
                (case q2 => exact siz_of rfl)
                (case q3 => (first | exact at0 | exact at1 | exact at2 | exact at3 | exact at4 | exact at5 | exact at6))
                (case q4 => exact Nat.le_of_ble_eq_true rfl)
                (case q5 => rfl))))
          | ((with_reducible refine ie_callf ?_)
             (first
             | ((with_reducible refine g_call 9 ?_); (first | refine Ef_callP rfl rfl ent_9 (fun w _ => awake_c w) ?_))
             | ((with_reducible refine g_call 10 ?_)
                (first
                | (refine Ef_callN rfl rfl ent_10 (fun w _ => new_c w) ?_
                   (first
                   | ((fail_if_success have := b1); intro b1)
                   | ((fail_if_success have := b2); intro b2)
                   | ((fail_if_success have := b3); intro b3)
                   | ((fail_if_success have := b4); intro b4)
                   | ((fail_if_success have := b5); intro b5)
                   | ((fail_if_success have := b6); intro b6)
                   | ((fail_if_success have := b7); intro b7)
                   | ((fail_if_success have := b8); intro b8)
                   | ((fail_if_success have := b9); intro b9)))))
             | ((with_reducible refine g_call 11 ?_)
                (first
                | ((refine' Ef_callT [true] rfl rfl ent_11 rfl rfl rfl (fun w hp => take_c b1 Win.new 3 ahead w Win.new_inv ?q1 hb2 hp) ?_); (case q1 => decide))
                | ((refine' Ef_callT [true] rfl rfl ent_11 rfl rfl rfl (fun w hp => take_c b1 s 3 (least + (j : Int)) w hk.inv ?q1 ?q2 hp) ?_); (case q1 => decide); (case q2 => omega))))))
          | ((with_reducible refine ie_app ?_)
             (first
             | (refine Ef_alloc rfl Zb ?_
                (first
                | ((fail_if_success have := b1); intro b1)
                | ((fail_if_success have := b2); intro b2)
                | ((fail_if_success have := b3); intro b3)
                | ((fail_if_success have := b4); intro b4)
                | ((fail_if_success have := b5); intro b5)
                | ((fail_if_success have := b6); intro b6)
                | ((fail_if_success have := b7); intro b7)
                | ((fail_if_success have := b8); intro b8)
                | ((fail_if_success have := b9); intro b9)))
             | (((refine' Ef_append_row rfl rfl rfl ?q1 ?q2 ?q3 ?q4 ?q5 ?q6 ?_)
                 (case q1 => exact app_of rfl)
                 (case q2 => (first | exact at0 | exact at1 | exact at2 | exact at3 | exact at4 | exact at5 | exact at6))
                 (case q3 => (repeat (first | exact .head _ | apply List.Mem.tail)))
                 (case q4 => (first | assumption | (intro u hu; rcases hu with _ | ⟨_, _ | ⟨_, _ | ⟨_, _ | ⟨_, hu⟩⟩⟩⟩ <;> first | rfl | (cases hu; done))))
                 (case q5 => omega)
                 (case q6 => omega))
                (first
                | ((fail_if_success have := A1); intro A1 c1)
                | ((fail_if_success have := A2); intro A2 c2)
                | ((fail_if_success have := A3); intro A3 c3)
                | ((fail_if_success have := A4); intro A4 c4)
                | ((fail_if_success have := A5); intro A5 c5)
                | ((fail_if_success have := A6); intro A6 c6)
                | ((fail_if_success have := A7); intro A7 c7)))
             | (((refine' Ef_append_rd rfl rfl rfl ?q1 ?q2 ?q3 List.not_mem_nil ?q4 ?q5 ?q6 ?q7 ?_)
                 (case q1 => exact app_of rfl)
                 (case q2 => (first | exact at0 | exact at1 | exact at2 | exact at3 | exact at4 | exact at5 | exact at6))
                 (case q3 => assumption)
                 (case q4 => omega)
                 (case q5 => (first | assumption | (intro u hu; rcases hu with _ | ⟨_, _ | ⟨_, _ | ⟨_, _ | ⟨_, hu⟩⟩⟩⟩ <;> first | rfl | (cases hu; done))))
                 (case q6 => omega)
                 (case q7 => omega))
                (first
                | ((fail_if_success have := A1); intro A1 c1)
                | ((fail_if_success have := A2); intro A2 c2)
                | ((fail_if_success have := A3); intro A3 c3)
                | ((fail_if_success have := A4); intro A4 c4)
                | ((fail_if_success have := A5); intro A5 c5)
                | ((fail_if_success have := A6); intro A6 c6)
                | ((fail_if_success have := A7); intro A7 c7)))))
          | ((with_reducible refine ie_bsl ?_)
             (first
             | (refine Ef_alloc rfl Zb ?_
                (first
                | ((fail_if_success have := b1); intro b1)
                | ((fail_if_success have := b2); intro b2)
                | ((fail_if_success have := b3); intro b3)
                | ((fail_if_success have := b4); intro b4)
                | ((fail_if_success have := b5); intro b5)
                | ((fail_if_success have := b6); intro b6)
                | ((fail_if_success have := b7); intro b7)
                | ((fail_if_success have := b8); intro b8)
                | ((fail_if_success have := b9); intro b9)))
             | (((refine' Ef_bslA rfl rfl ?q1 ?q2 ?q3 ?_); (case q1 => exact app_of rfl); (case q2 => rfl); (case q3 => decide))
                (first
                | ((fail_if_success have := b1); intro b1)
                | ((fail_if_success have := b2); intro b2)
                | ((fail_if_success have := b3); intro b3)
                | ((fail_if_success have := b4); intro b4)
                | ((fail_if_success have := b5); intro b5)
                | ((fail_if_success have := b6); intro b6)
                | ((fail_if_success have := b7); intro b7)
                | ((fail_if_success have := b8); intro b8)
                | ((fail_if_success have := b9); intro b9)))
             | (((refine' Ef_bsl1 rfl rfl rfl ?q1 ?_); (case q1 => exact app_of rfl))
                (first
                | ((fail_if_success have := b1); intro b1)
                | ((fail_if_success have := b2); intro b2)
                | ((fail_if_success have := b3); intro b3)
                | ((fail_if_success have := b4); intro b4)
                | ((fail_if_success have := b5); intro b5)
                | ((fail_if_success have := b6); intro b6)
                | ((fail_if_success have := b7); intro b7)
                | ((fail_if_success have := b8); intro b8)
                | ((fail_if_success have := b9); intro b9)))))
          | (first
            | (refine Ef_alloc rfl Zb ?_
               (first
               | ((fail_if_success have := b1); intro b1)
               | ((fail_if_success have := b2); intro b2)
               | ((fail_if_success have := b3); intro b3)
               | ((fail_if_success have := b4); intro b4)
               | ((fail_if_success have := b5); intro b5)
               | ((fail_if_success have := b6); intro b6)
               | ((fail_if_success have := b7); intro b7)
               | ((fail_if_success have := b8); intro b8)
               | ((fail_if_success have := b9); intro b9))))
          | refine Ef_y rfl rfl ?_)
  iterate 5 first | exact ret_n [] (res1 rfl rfl) (List.nil_sublist _) ⟨rfl, rfl⟩ | skip
  refine T.swap ?_
  refine T.loop (α := Win.St × Nat × List Bool) (fun x => [(0, .int .i64 least), (1, .slice A len cap), (7, .pointer (some ⟨b1, 0, none⟩)), (8, .pointer (some ⟨b2, 0, none⟩)), (9, .int .i64 (x.2.1 : Int))])
    (fun x => [wB b1 x.1, .blk b2 (.cells (bB x.2.2) 34)]) (fun x => Win.AnyI least x.1 x.2.2 ∧ x.2.1 ≤ len) (fun x => len - x.2.1) ((Win.take Win.new 3 ahead).1, 0, Win.zeros) ?_ ?_ ?_ ?_
  · (repeat (first | exact Sub.nil | refine Sub.cons rfl ?_))
  · (repeat (first | exact List.nil_sublist _ | refine List.Sublist.cons_cons _ ?_ | refine List.Sublist.cons _ ?_))
  · exact ⟨Win.any_start least ahead (by omega) (by omega) (by omega), Nat.zero_le _⟩
  · rintro ⟨s, i, c⟩ ⟨hk, h2⟩
    dsimp only at hk h2 ⊢
    by_cases hlt : i < len
    · obtain ⟨x, hx⟩ := some_of_lt (l := zs) (i := i) (by omega)
      have e0 : (zs.flatMap (eI .i64))[i * 1 + 0]? = some (.int .i64 x) := enc_at (eI_len .i64) hx (by omega)
      by_cases hx0 : x < 0 ∨ 63 < x
      · rcases hx0 with hx0 | hx0
        · repeat' (first
                  | with_reducible refine T.seq ?_
                  | with_reducible refine T.block ?_
                  | with_reducible refine T.region ?_
                  | with_reducible refine T.skip ?_
                  | with_reducible refine T.ret ?_
                  | with_reducible refine T.exit ?_
                  | with_reducible refine seqQ_n ?_
                  | with_reducible refine seqQ_x ?_
                  | with_reducible refine seqQ_r ?_
                  | with_reducible refine blockQ_n ?_
                  | with_reducible refine blockQ_r ?_
                  | with_reducible refine blockQ_x ?_
                  | ((with_reducible refine g_blkx ?_); refine blockQ_y rfl ?_)
                  | with_reducible refine loopQ_x ?_
                  | with_reducible refine loopQ_r ?_
                  | ((with_reducible refine g_cond ?_); (first | refine T.cond_t rfl ?_ | refine T.cond_f rfl ?_ | (refine T.cond_s rfl ?_ ?_ <;> intro hc)))
                  | with_reducible refine TL_nil ?_
                  | with_reducible refine TS_nil ?_
                  | ((with_reducible refine g_draw ?_); (first | fail))
                  | ((with_reducible refine TL_y' ?hy ?hd ?_); (case hy => rfl); (case hd => rfl))
                  | with_reducible refine TL_e ?_
                  | ((with_reducible refine g_TL ?_); (first | refine TL_gy' rfl rfl rfl rfl ?_ | refine TL_gn rfl rfl rfl ?_ | refine TL_gu rfl rfl rfl ?_ | refine TL_ge rfl rfl ?_ | refine TL_gn0 rfl rfl ?_))
                  | ((with_reducible refine g_TS ?_)
                     (first
                     | refine TS_y rfl rfl ?_
                     | refine TS_e rfl ?_
                     | refine TS_gy rfl rfl rfl rfl ?_
                     | refine TS_gn rfl rfl rfl rfl ?_
                     | refine TS_gu rfl rfl rfl rfl ?_
                     | refine TS_ge rfl rfl rfl ?_
                     | refine TS_gne rfl rfl rfl rfl ?_
                     | refine TS_gue rfl rfl rfl rfl ?_
                     | refine TS_gne0 rfl rfl rfl ?_))
                  | ((with_reducible refine TSand ?hd ?_); (case hd => (repeat (first | exact List.nil_sublist _ | refine List.Sublist.cons_cons _ ?_ | refine List.Sublist.cons _ ?_))))
                  | ((with_reducible refine is_move ?_); refine ⟨_, Yl_move rfl, ?_⟩)
                  | ((with_reducible refine is_assign ?_); refine ⟨_, Yl_assign rfl, ?_⟩)
                  | ((with_reducible refine is_pick ?_); (first | refine ⟨_, Yl_pick_t rfl rfl, ?_⟩ | refine ⟨_, Yl_pick_f rfl rfl, ?_⟩))
                  | ((with_reducible refine is_nil ?_); refine ⟨_, Yl_nilCheck rfl, ?_⟩)
                  | ((with_reducible refine is_fld ?_)
                     (first | ((refine' ⟨_, Yl_fld_blk0 rfl ?q1, ?_⟩); (case q1 => exact fld_of rfl rfl)) | ((refine' ⟨_, Yl_fld_blk rfl ?q1, ?_⟩); (case q1 => exact fld_of rfl rfl)) | ((refine' ⟨_, Yl_fld_ad rfl ?q1, ?_⟩); (case q1 => exact fld_of rfl rfl))))
                  | ((with_reducible refine is_load ?_)
                     (first
                     | fail
                     | ((refine' ⟨_, Yl_load_blk rfl ?q1 ?q2 ?q3, ?_⟩); (case q1 => exact one_of rfl); (case q2 => (repeat (first | exact .head _ | apply List.Mem.tail))); (case q3 => rfl))
                     | ((refine' ⟨_, Yl_loadA_blk rfl ?q1 ?q2, ?_⟩); (case q1 => (repeat (first | exact .head _ | apply List.Mem.tail))); (case q2 => exact agg_of rfl))
                     | ((refine' ⟨_, Yl_load_blk rfl ?q1 ?q2 ?q3, ?_⟩); (case q1 => exact one_of rfl); (case q2 => (repeat (first | exact .head _ | apply List.Mem.tail))); (case q3 => assumption))
                     | ((refine' ⟨_, Yl_load_rd rfl ?q1 ?q2 List.not_mem_nil ?q3, ?_⟩); (case q1 => exact one_of rfl); (case q2 => assumption); (case q3 => assumption))
                     | ((refine' ⟨_, Yl_load_row rfl ?q1 ?q2 ?q3, ?_⟩); (case q1 => exact one_of rfl); (case q2 => (repeat (first | exact .head _ | apply List.Mem.tail))); (case q3 => assumption))
                     | ((refine' ⟨_, Yl_loadA_rd rfl ?qa ?qb List.not_mem_nil ?ql ?qc, ?_⟩); (case qa => exact agg_of rfl); (case qb => assumption); (case qc => assumption); (case ql => rfl))
                     | ((refine' ⟨_, Yl_loadA_row rfl ?qa ?qb ?ql ?qc, ?_⟩); (case qa => exact agg_of rfl); (case qb => (repeat (first | exact .head _ | apply List.Mem.tail))); (case qc => assumption); (case ql => rfl))))
                  | ((with_reducible refine is_idx ?_)
                     (first
                     | ((refine' ⟨_, Yl_index_arr rfl rfl ?q1 ?q2 ?q3, ?_⟩); (case q1 => exact und_of rfl); (case q2 => exact siz_of rfl); (case q3 => omega))
                     | ((refine' ⟨_, Yl_index rfl rfl ?q1 ?q2 ?q3 (Rd.some_ ?q4 ?q5), ?_⟩); (case q1 => exact und_of rfl); (case q2 => exact siz_of rfl); (case q3 => omega); (case q4 => assumption); (case q5 => omega))
                     | ((refine' ⟨_, Yl_index_row rfl rfl ?q1 ?q2 ?q3 ?q4, ?_⟩); (case q1 => exact und_of rfl); (case q2 => exact siz_of rfl); (case q3 => omega); (case q4 => (repeat (first | exact .head _ | apply List.Mem.tail))))
                     | ((refine' ⟨_, Yl_index rfl rfl ?q1 ?q2 ?q3 rfl, ?_⟩); (case q1 => exact und_of rfl); (case q2 => exact siz_of rfl); (case q3 => omega))))
                  | ((with_reducible refine is_ext ?_); refine ⟨_, Yl_extract rfl rfl, ?_⟩)
                  | ((with_reducible refine is_un ?_); refine ⟨_, Yl_not rfl, ?_⟩)
                  | ((with_reducible refine is_len ?_); (first | ((refine' ⟨_, Yl_len_slice rfl ?q1, ?_⟩); (case q1 => exact und_of rfl)) | ((refine' ⟨_, Yl_len_string rfl ?q1, ?_⟩); (case q1 => exact und_of rfl))))
                  | ((with_reducible refine is_b_lss ?_); (first | ((refine' ⟨_, Yl_lss_t rfl rfl ?q1, ?_⟩); (case q1 => omega)) | ((refine' ⟨_, Yl_lss_f rfl rfl ?q1, ?_⟩); (case q1 => omega)) | (refine sp_lss rfl rfl ?_ ?_ <;> intro hc)))
                  | ((with_reducible refine is_b_leq ?_); (first | ((refine' ⟨_, Yl_leq_t rfl rfl ?q1, ?_⟩); (case q1 => omega)) | ((refine' ⟨_, Yl_leq_f rfl rfl ?q1, ?_⟩); (case q1 => omega)) | (refine sp_leq rfl rfl ?_ ?_ <;> intro hc)))
                  | ((with_reducible refine is_b_gtr ?_); (first | ((refine' ⟨_, Yl_gtr_t rfl rfl ?q1, ?_⟩); (case q1 => omega)) | ((refine' ⟨_, Yl_gtr_f rfl rfl ?q1, ?_⟩); (case q1 => omega)) | (refine sp_gtr rfl rfl ?_ ?_ <;> intro hc)))
                  | ((with_reducible refine is_b_geq ?_); (first | ((refine' ⟨_, Yl_geq_t rfl rfl ?q1, ?_⟩); (case q1 => omega)) | ((refine' ⟨_, Yl_geq_f rfl rfl ?q1, ?_⟩); (case q1 => omega)) | (refine sp_geq rfl rfl ?_ ?_ <;> intro hc)))
                  | ((with_reducible refine is_b_eql ?_)
                     (first | ((refine' ⟨_, Yl_eql_t rfl rfl ?q1, ?_⟩); (case q1 => omega)) | ((refine' ⟨_, Yl_eql_f rfl rfl ?q1, ?_⟩); (case q1 => omega)) | (refine sp_eql rfl rfl ?_ ?_ <;> intro hc) | ((refine' ⟨_, Yl_eql_bool rfl rfl ?q1, ?_⟩); (case q1 => exact und_of rfl))))
                  | ((with_reducible refine is_b_neq ?_)
                     (first | ((refine' ⟨_, Yl_neq_t rfl rfl ?q1, ?_⟩); (case q1 => omega)) | ((refine' ⟨_, Yl_neq_f rfl rfl ?q1, ?_⟩); (case q1 => omega)) | (refine sp_neq rfl rfl ?_ ?_ <;> intro hc) | ((refine' ⟨_, Yl_eql_bool rfl rfl ?q1, ?_⟩); (case q1 => exact und_of rfl))))
                  | ((with_reducible refine is_b_add ?_); (first | ((refine' ⟨_, Yl_add rfl rfl ?q1 ?q2, ?_⟩); (case q1 => omega); (case q2 => omega)) | ((refine' ⟨_, Yl_eql_bool rfl rfl ?q1, ?_⟩); (case q1 => exact und_of rfl))))
                  | ((with_reducible refine is_b_sub ?_); (first | ((refine' ⟨_, Yl_sub rfl rfl ?q1 ?q2, ?_⟩); (case q1 => omega); (case q2 => omega)) | ((refine' ⟨_, Yl_eql_bool rfl rfl ?q1, ?_⟩); (case q1 => exact und_of rfl))))
                  | ((with_reducible refine is_build ?_); (first | fail))
                  | (first | ((refine' ⟨_, Yl_eql_bool rfl rfl ?q1, ?_⟩); (case q1 => exact und_of rfl)))
                  | ((with_reducible refine ie_box ?_)
                     (first
                     | (refine Ef_boxA rfl rfl ?_
                        (first
                        | ((fail_if_success have := b1); intro b1)
                        | ((fail_if_success have := b2); intro b2)
                        | ((fail_if_success have := b3); intro b3)
                        | ((fail_if_success have := b4); intro b4)
                        | ((fail_if_success have := b5); intro b5)
                        | ((fail_if_success have := b6); intro b6)
                        | ((fail_if_success have := b7); intro b7)
                        | ((fail_if_success have := b8); intro b8)
                        | ((fail_if_success have := b9); intro b9)))
                     | (refine Ef_box1 rfl rfl rfl ?_
                        (first
                        | ((fail_if_success have := b1); intro b1)
                        | ((fail_if_success have := b2); intro b2)
                        | ((fail_if_success have := b3); intro b3)
                        | ((fail_if_success have := b4); intro b4)
                        | ((fail_if_success have := b5); intro b5)
                        | ((fail_if_success have := b6); intro b6)
                        | ((fail_if_success have := b7); intro b7)
                        | ((fail_if_success have := b8); intro b8)
                        | ((fail_if_success have := b9); intro b9)))))
                  | ((with_reducible refine ie_alloc ?_)
                     (first
                     | (refine Ef_alloc rfl Zb ?_
                        (first
                        | ((fail_if_success have := b1); intro b1)
                        | ((fail_if_success have := b2); intro b2)
                        | ((fail_if_success have := b3); intro b3)
                        | ((fail_if_success have := b4); intro b4)
                        | ((fail_if_success have := b5); intro b5)
                        | ((fail_if_success have := b6); intro b6)
                        | ((fail_if_success have := b7); intro b7)
                        | ((fail_if_success have := b8); intro b8)
                        | ((fail_if_success have := b9); intro b9)))
                     | (((refine' Ef_alloc rfl ?q1 ?_); (case q1 => exact zer_of rfl))
                        (first
                        | ((fail_if_success have := b1); intro b1)
                        | ((fail_if_success have := b2); intro b2)
                        | ((fail_if_success have := b3); intro b3)
                        | ((fail_if_success have := b4); intro b4)
                        | ((fail_if_success have := b5); intro b5)
                        | ((fail_if_success have := b6); intro b6)
                        | ((fail_if_success have := b7); intro b7)
                        | ((fail_if_success have := b8); intro b8)
                        | ((fail_if_success have := b9); intro b9)))))
                  | ((with_reducible refine ie_store ?_)
                     (first
                     | ((refine' Ef_storeB (i := 1) rfl rfl ?q1 rfl ?q2 ?q3 ?_); (case q1 => exact siz_of rfl); (case q2 => assumption); (case q3 => assumption))
                     | ((refine' Ef_storeC rfl rfl ?q1 ?q2 ?q3 ?q4 ?q5 ?_)
                        (case q1 => rfl)
                        (case q2 => exact siz_of rfl)
                        (case q3 => (first | exact at0 | exact at1 | exact at2 | exact at3 | exact at4 | exact at5 | exact at6))
                        (case q4 => exact Nat.le_of_ble_eq_true rfl)
                        (case q5 => rfl))))
                  | ((with_reducible refine ie_callf ?_)
                     (first
                     | ((with_reducible refine g_call 9 ?_); (first | refine Ef_callP rfl rfl ent_9 (fun w _ => awake_c w) ?_))
                     | ((with_reducible refine g_call 10 ?_)
                        (first
                        | (refine Ef_callN rfl rfl ent_10 (fun w _ => new_c w) ?_
                           (first
                           | ((fail_if_success have := b1); intro b1)
                           | ((fail_if_success have := b2); intro b2)
                           | ((fail_if_success have := b3); intro b3)
                           | ((fail_if_success have := b4); intro b4)
                           | ((fail_if_success have := b5); intro b5)
                           | ((fail_if_success have := b6); intro b6)
                           | ((fail_if_success have := b7); intro b7)
                           | ((fail_if_success have := b8); intro b8)
                           | ((fail_if_success have := b9); intro b9)))))
                     | ((with_reducible refine g_call 11 ?_)
                        (first
                        | ((refine' Ef_callT [true] rfl rfl ent_11 rfl rfl rfl (fun w hp => take_c b1 Win.new 3 ahead w Win.new_inv ?q1 hb2 hp) ?_); (case q1 => decide))
                        | ((refine' Ef_callT [true] rfl rfl ent_11 rfl rfl rfl (fun w hp => take_c b1 s 3 (least + (j : Int)) w hk.inv ?q1 ?q2 hp) ?_); (case q1 => decide); (case q2 => omega))))))
                  | ((with_reducible refine ie_app ?_)
                     (first
                     | (refine Ef_alloc rfl Zb ?_
                        (first
                        | ((fail_if_success have := b1); intro b1)
                        | ((fail_if_success have := b2); intro b2)
                        | ((fail_if_success have := b3); intro b3)
                        | ((fail_if_success have := b4); intro b4)
                        | ((fail_if_success have := b5); intro b5)
                        | ((fail_if_success have := b6); intro b6)
                        | ((fail_if_success have := b7); intro b7)
                        | ((fail_if_success have := b8); intro b8)
                        | ((fail_if_success have := b9); intro b9)))
                     | (((refine' Ef_append_row rfl rfl rfl ?q1 ?q2 ?q3 ?q4 ?q5 ?q6 ?_)
                         (case q1 => exact app_of rfl)
                         (case q2 => (first | exact at0 | exact at1 | exact at2 | exact at3 | exact at4 | exact at5 | exact at6))
                         (case q3 => (repeat (first | exact .head _ | apply List.Mem.tail)))
                         (case q4 => (first | assumption | (intro u hu; rcases hu with _ | ⟨_, _ | ⟨_, _ | ⟨_, _ | ⟨_, hu⟩⟩⟩⟩ <;> first | rfl | (cases hu; done))))
                         (case q5 => omega)
                         (case q6 => omega))
                        (first
                        | ((fail_if_success have := A1); intro A1 c1)
                        | ((fail_if_success have := A2); intro A2 c2)
                        | ((fail_if_success have := A3); intro A3 c3)
                        | ((fail_if_success have := A4); intro A4 c4)
                        | ((fail_if_success have := A5); intro A5 c5)
                        | ((fail_if_success have := A6); intro A6 c6)
                        | ((fail_if_success have := A7); intro A7 c7)))
                     | (((refine' Ef_append_rd rfl rfl rfl ?q1 ?q2 ?q3 List.not_mem_nil ?q4 ?q5 ?q6 ?q7 ?_)
                         (case q1 => exact app_of rfl)
                         (case q2 => (first | exact at0 | exact at1 | exact at2 | exact at3 | exact at4 | exact at5 | exact at6))
                         (case q3 => assumption)
                         (case q4 => omega)
                         (case q5 => (first | assumption | (intro u hu; rcases hu with _ | ⟨_, _ | ⟨_, _ | ⟨_, _ | ⟨_, hu⟩⟩⟩⟩ <;> first | rfl | (cases hu; done))))
                         (case q6 => omega)
                         (case q7 => omega))
                        (first
                        | ((fail_if_success have := A1); intro A1 c1)
                        | ((fail_if_success have := A2); intro A2 c2)
                        | ((fail_if_success have := A3); intro A3 c3)
                        | ((fail_if_success have := A4); intro A4 c4)
                        | ((fail_if_success have := A5); intro A5 c5)
                        | ((fail_if_success have := A6); intro A6 c6)
                        | ((fail_if_success have := A7); intro A7 c7)))))
                  | ((with_reducible refine ie_bsl ?_)
                     (first
                     | (refine Ef_alloc rfl Zb ?_
                        (first
                        | ((fail_if_success have := b1); intro b1)
                        | ((fail_if_success have := b2); intro b2)
                        | ((fail_if_success have := b3); intro b3)
                        | ((fail_if_success have := b4); intro b4)
                        | ((fail_if_success have := b5); intro b5)
                        | ((fail_if_success have := b6); intro b6)
                        | ((fail_if_success have := b7); intro b7)
                        | ((fail_if_success have := b8); intro b8)
                        | ((fail_if_success have := b9); intro b9)))
                     | (((refine' Ef_bslA rfl rfl ?q1 ?q2 ?q3 ?_); (case q1 => exact app_of rfl); (case q2 => rfl); (case q3 => decide))
                        (first
                        | ((fail_if_success have := b1); intro b1)
                        | ((fail_if_success have := b2); intro b2)
                        | ((fail_if_success have := b3); intro b3)
                        | ((fail_if_success have := b4); intro b4)
                        | ((fail_if_success have := b5); intro b5)
                        | ((fail_if_success have := b6); intro b6)
                        | ((fail_if_success have := b7); intro b7)
                        | ((fail_if_success have := b8); intro b8)
                        | ((fail_if_success have := b9); intro b9)))
                     | (((refine' Ef_bsl1 rfl rfl rfl ?q1 ?_); (case q1 => exact app_of rfl))
                        (first
                        | ((fail_if_success have := b1); intro b1)
                        | ((fail_if_success have := b2); intro b2)
                        | ((fail_if_success have := b3); intro b3)
                        | ((fail_if_success have := b4); intro b4)
                        | ((fail_if_success have := b5); intro b5)
                        | ((fail_if_success have := b6); intro b6)
                        | ((fail_if_success have := b7); intro b7)
                        | ((fail_if_success have := b8); intro b8)
                        | ((fail_if_success have := b9); intro b9)))))
                  | (first
                    | (refine Ef_alloc rfl Zb ?_
                       (first
                       | ((fail_if_success have := b1); intro b1)
                       | ((fail_if_success have := b2); intro b2)
                       | ((fail_if_success have := b3); intro b3)
                       | ((fail_if_success have := b4); intro b4)
                       | ((fail_if_success have := b5); intro b5)
                       | ((fail_if_success have := b6); intro b6)
                       | ((fail_if_success have := b7); intro b7)
                       | ((fail_if_success have := b8); intro b8)
                       | ((fail_if_success have := b9); intro b9))))
                  | refine Ef_y rfl rfl ?_)
          exact ret_n [] (res1 rfl rfl) (List.nil_sublist _) ⟨rfl, rfl⟩
        · repeat' (first
                  | with_reducible refine T.seq ?_
                  | with_reducible refine T.block ?_
                  | with_reducible refine T.region ?_
                  | with_reducible refine T.skip ?_
                  | with_reducible refine T.ret ?_
                  | with_reducible refine T.exit ?_
                  | with_reducible refine seqQ_n ?_
                  | with_reducible refine seqQ_x ?_
                  | with_reducible refine seqQ_r ?_
                  | with_reducible refine blockQ_n ?_
                  | with_reducible refine blockQ_r ?_
                  | with_reducible refine blockQ_x ?_
                  | ((with_reducible refine g_blkx ?_); refine blockQ_y rfl ?_)
                  | with_reducible refine loopQ_x ?_
                  | with_reducible refine loopQ_r ?_
                  | ((with_reducible refine g_cond ?_); (first | refine T.cond_t rfl ?_ | refine T.cond_f rfl ?_ | (refine T.cond_s rfl ?_ ?_ <;> intro hc)))
                  | with_reducible refine TL_nil ?_
                  | with_reducible refine TS_nil ?_
                  | ((with_reducible refine g_draw ?_); (first | fail))
                  | ((with_reducible refine TL_y' ?hy ?hd ?_); (case hy => rfl); (case hd => rfl))
                  | with_reducible refine TL_e ?_
                  | ((with_reducible refine g_TL ?_); (first | refine TL_gy' rfl rfl rfl rfl ?_ | refine TL_gn rfl rfl rfl ?_ | refine TL_gu rfl rfl rfl ?_ | refine TL_ge rfl rfl ?_ | refine TL_gn0 rfl rfl ?_))
                  | ((with_reducible refine g_TS ?_)
                     (first
                     | refine TS_y rfl rfl ?_
                     | refine TS_e rfl ?_
                     | refine TS_gy rfl rfl rfl rfl ?_
                     | refine TS_gn rfl rfl rfl rfl ?_
                     | refine TS_gu rfl rfl rfl rfl ?_
                     | refine TS_ge rfl rfl rfl ?_
                     | refine TS_gne rfl rfl rfl rfl ?_
                     | refine TS_gue rfl rfl rfl rfl ?_
                     | refine TS_gne0 rfl rfl rfl ?_))
                  | ((with_reducible refine TSand ?hd ?_); (case hd => (repeat (first | exact List.nil_sublist _ | refine List.Sublist.cons_cons _ ?_ | refine List.Sublist.cons _ ?_))))
                  | ((with_reducible refine is_move ?_); refine ⟨_, Yl_move rfl, ?_⟩)
                  | ((with_reducible refine is_assign ?_); refine ⟨_, Yl_assign rfl, ?_⟩)
                  | ((with_reducible refine is_pick ?_); (first | refine ⟨_, Yl_pick_t rfl rfl, ?_⟩ | refine ⟨_, Yl_pick_f rfl rfl, ?_⟩))
                  | ((with_reducible refine is_nil ?_); refine ⟨_, Yl_nilCheck rfl, ?_⟩)
                  | ((with_reducible refine is_fld ?_)
                     (first | ((refine' ⟨_, Yl_fld_blk0 rfl ?q1, ?_⟩); (case q1 => exact fld_of rfl rfl)) | ((refine' ⟨_, Yl_fld_blk rfl ?q1, ?_⟩); (case q1 => exact fld_of rfl rfl)) | ((refine' ⟨_, Yl_fld_ad rfl ?q1, ?_⟩); (case q1 => exact fld_of rfl rfl))))
                  | ((with_reducible refine is_load ?_)
                     (first
                     | fail
                     | ((refine' ⟨_, Yl_load_blk rfl ?q1 ?q2 ?q3, ?_⟩); (case q1 => exact one_of rfl); (case q2 => (repeat (first | exact .head _ | apply List.Mem.tail))); (case q3 => rfl))
                     | ((refine' ⟨_, Yl_loadA_blk rfl ?q1 ?q2, ?_⟩); (case q1 => (repeat (first | exact .head _ | apply List.Mem.tail))); (case q2 => exact agg_of rfl))
                     | ((refine' ⟨_, Yl_load_blk rfl ?q1 ?q2 ?q3, ?_⟩); (case q1 => exact one_of rfl); (case q2 => (repeat (first | exact .head _ | apply List.Mem.tail))); (case q3 => assumption))
                     | ((refine' ⟨_, Yl_load_rd rfl ?q1 ?q2 List.not_mem_nil ?q3, ?_⟩); (case q1 => exact one_of rfl); (case q2 => assumption); (case q3 => assumption))
                     | ((refine' ⟨_, Yl_load_row rfl ?q1 ?q2 ?q3, ?_⟩); (case q1 => exact one_of rfl); (case q2 => (repeat (first | exact .head _ | apply List.Mem.tail))); (case q3 => assumption))
                     | ((refine' ⟨_, Yl_loadA_rd rfl ?qa ?qb List.not_mem_nil ?ql ?qc, ?_⟩); (case qa => exact agg_of rfl); (case qb => assumption); (case qc => assumption); (case ql => rfl))
                     | ((refine' ⟨_, Yl_loadA_row rfl ?qa ?qb ?ql ?qc, ?_⟩); (case qa => exact agg_of rfl); (case qb => (repeat (first | exact .head _ | apply List.Mem.tail))); (case qc => assumption); (case ql => rfl))))
                  | ((with_reducible refine is_idx ?_)
                     (first
                     | ((refine' ⟨_, Yl_index_arr rfl rfl ?q1 ?q2 ?q3, ?_⟩); (case q1 => exact und_of rfl); (case q2 => exact siz_of rfl); (case q3 => omega))
                     | ((refine' ⟨_, Yl_index rfl rfl ?q1 ?q2 ?q3 (Rd.some_ ?q4 ?q5), ?_⟩); (case q1 => exact und_of rfl); (case q2 => exact siz_of rfl); (case q3 => omega); (case q4 => assumption); (case q5 => omega))
                     | ((refine' ⟨_, Yl_index_row rfl rfl ?q1 ?q2 ?q3 ?q4, ?_⟩); (case q1 => exact und_of rfl); (case q2 => exact siz_of rfl); (case q3 => omega); (case q4 => (repeat (first | exact .head _ | apply List.Mem.tail))))
                     | ((refine' ⟨_, Yl_index rfl rfl ?q1 ?q2 ?q3 rfl, ?_⟩); (case q1 => exact und_of rfl); (case q2 => exact siz_of rfl); (case q3 => omega))))
                  | ((with_reducible refine is_ext ?_); refine ⟨_, Yl_extract rfl rfl, ?_⟩)
                  | ((with_reducible refine is_un ?_); refine ⟨_, Yl_not rfl, ?_⟩)
                  | ((with_reducible refine is_len ?_); (first | ((refine' ⟨_, Yl_len_slice rfl ?q1, ?_⟩); (case q1 => exact und_of rfl)) | ((refine' ⟨_, Yl_len_string rfl ?q1, ?_⟩); (case q1 => exact und_of rfl))))
                  | ((with_reducible refine is_b_lss ?_); (first | ((refine' ⟨_, Yl_lss_t rfl rfl ?q1, ?_⟩); (case q1 => omega)) | ((refine' ⟨_, Yl_lss_f rfl rfl ?q1, ?_⟩); (case q1 => omega)) | (refine sp_lss rfl rfl ?_ ?_ <;> intro hc)))
                  | ((with_reducible refine is_b_leq ?_); (first | ((refine' ⟨_, Yl_leq_t rfl rfl ?q1, ?_⟩); (case q1 => omega)) | ((refine' ⟨_, Yl_leq_f rfl rfl ?q1, ?_⟩); (case q1 => omega)) | (refine sp_leq rfl rfl ?_ ?_ <;> intro hc)))
                  | ((with_reducible refine is_b_gtr ?_); (first | ((refine' ⟨_, Yl_gtr_t rfl rfl ?q1, ?_⟩); (case q1 => omega)) | ((refine' ⟨_, Yl_gtr_f rfl rfl ?q1, ?_⟩); (case q1 => omega)) | (refine sp_gtr rfl rfl ?_ ?_ <;> intro hc)))
                  | ((with_reducible refine is_b_geq ?_); (first | ((refine' ⟨_, Yl_geq_t rfl rfl ?q1, ?_⟩); (case q1 => omega)) | ((refine' ⟨_, Yl_geq_f rfl rfl ?q1, ?_⟩); (case q1 => omega)) | (refine sp_geq rfl rfl ?_ ?_ <;> intro hc)))
                  | ((with_reducible refine is_b_eql ?_)
                     (first | ((refine' ⟨_, Yl_eql_t rfl rfl ?q1, ?_⟩); (case q1 => omega)) | ((refine' ⟨_, Yl_eql_f rfl rfl ?q1, ?_⟩); (case q1 => omega)) | (refine sp_eql rfl rfl ?_ ?_ <;> intro hc) | ((refine' ⟨_, Yl_eql_bool rfl rfl ?q1, ?_⟩); (case q1 => exact und_of rfl))))
                  | ((with_reducible refine is_b_neq ?_)
                     (first | ((refine' ⟨_, Yl_neq_t rfl rfl ?q1, ?_⟩); (case q1 => omega)) | ((refine' ⟨_, Yl_neq_f rfl rfl ?q1, ?_⟩); (case q1 => omega)) | (refine sp_neq rfl rfl ?_ ?_ <;> intro hc) | ((refine' ⟨_, Yl_eql_bool rfl rfl ?q1, ?_⟩); (case q1 => exact und_of rfl))))
                  | ((with_reducible refine is_b_add ?_); (first | ((refine' ⟨_, Yl_add rfl rfl ?q1 ?q2, ?_⟩); (case q1 => omega); (case q2 => omega)) | ((refine' ⟨_, Yl_eql_bool rfl rfl ?q1, ?_⟩); (case q1 => exact und_of rfl))))
                  | ((with_reducible refine is_b_sub ?_); (first | ((refine' ⟨_, Yl_sub rfl rfl ?q1 ?q2, ?_⟩); (case q1 => omega); (case q2 => omega)) | ((refine' ⟨_, Yl_eql_bool rfl rfl ?q1, ?_⟩); (case q1 => exact und_of rfl))))
                  | ((with_reducible refine is_build ?_); (first | fail))
                  | (first | ((refine' ⟨_, Yl_eql_bool rfl rfl ?q1, ?_⟩); (case q1 => exact und_of rfl)))
                  | ((with_reducible refine ie_box ?_)
                     (first
                     | (refine Ef_boxA rfl rfl ?_
                        (first
                        | ((fail_if_success have := b1); intro b1)
                        | ((fail_if_success have := b2); intro b2)
                        | ((fail_if_success have := b3); intro b3)
                        | ((fail_if_success have := b4); intro b4)
                        | ((fail_if_success have := b5); intro b5)
                        | ((fail_if_success have := b6); intro b6)
                        | ((fail_if_success have := b7); intro b7)
                        | ((fail_if_success have := b8); intro b8)
                        | ((fail_if_success have := b9); intro b9)))
                     | (refine Ef_box1 rfl rfl rfl ?_
                        (first
                        | ((fail_if_success have := b1); intro b1)
                        | ((fail_if_success have := b2); intro b2)
                        | ((fail_if_success have := b3); intro b3)
                        | ((fail_if_success have := b4); intro b4)
                        | ((fail_if_success have := b5); intro b5)
                        | ((fail_if_success have := b6); intro b6)
                        | ((fail_if_success have := b7); intro b7)
                        | ((fail_if_success have := b8); intro b8)
                        | ((fail_if_success have := b9); intro b9)))))
                  | ((with_reducible refine ie_alloc ?_)
                     (first
                     | (refine Ef_alloc rfl Zb ?_
                        (first
                        | ((fail_if_success have := b1); intro b1)
                        | ((fail_if_success have := b2); intro b2)
                        | ((fail_if_success have := b3); intro b3)
                        | ((fail_if_success have := b4); intro b4)
                        | ((fail_if_success have := b5); intro b5)
                        | ((fail_if_success have := b6); intro b6)
                        | ((fail_if_success have := b7); intro b7)
                        | ((fail_if_success have := b8); intro b8)
                        | ((fail_if_success have := b9); intro b9)))
                     | (((refine' Ef_alloc rfl ?q1 ?_); (case q1 => exact zer_of rfl))
                        (first
                        | ((fail_if_success have := b1); intro b1)
                        | ((fail_if_success have := b2); intro b2)
                        | ((fail_if_success have := b3); intro b3)
                        | ((fail_if_success have := b4); intro b4)
                        | ((fail_if_success have := b5); intro b5)
                        | ((fail_if_success have := b6); intro b6)
                        | ((fail_if_success have := b7); intro b7)
                        | ((fail_if_success have := b8); intro b8)
                        | ((fail_if_success have := b9); intro b9)))))
                  | ((with_reducible refine ie_store ?_)
                     (first
                     | ((refine' Ef_storeB (i := 1) rfl rfl ?q1 rfl ?q2 ?q3 ?_); (case q1 => exact siz_of rfl); (case q2 => assumption); (case q3 => assumption))
                     | ((refine' Ef_storeC rfl rfl ?q1 ?q2 ?q3 ?q4 ?q5 ?_)
                        (case q1 => rfl)
                        (case q2 => exact siz_of rfl)
                        (case q3 => (first | exact at0 | exact at1 | exact at2 | exact at3 | exact at4 | exact at5 | exact at6))
                        (case q4 => exact Nat.le_of_ble_eq_true rfl)
                        (case q5 => rfl))))
                  | ((with_reducible refine ie_callf ?_)
                     (first
                     | ((with_reducible refine g_call 9 ?_); (first | refine Ef_callP rfl rfl ent_9 (fun w _ => awake_c w) ?_))
                     | ((with_reducible refine g_call 10 ?_)
                        (first
                        | (refine Ef_callN rfl rfl ent_10 (fun w _ => new_c w) ?_
                           (first
                           | ((fail_if_success have := b1); intro b1)
                           | ((fail_if_success have := b2); intro b2)
                           | ((fail_if_success have := b3); intro b3)
                           | ((fail_if_success have := b4); intro b4)
                           | ((fail_if_success have := b5); intro b5)
                           | ((fail_if_success have := b6); intro b6)
                           | ((fail_if_success have := b7); intro b7)
                           | ((fail_if_success have := b8); intro b8)
                           | ((fail_if_success have := b9); intro b9)))))
                     | ((with_reducible refine g_call 11 ?_)
                        (first
                        | ((refine' Ef_callT [true] rfl rfl ent_11 rfl rfl rfl (fun w hp => take_c b1 Win.new 3 ahead w Win.new_inv ?q1 hb2 hp) ?_); (case q1 => decide))
                        | ((refine' Ef_callT [true] rfl rfl ent_11 rfl rfl rfl (fun w hp => take_c b1 s 3 (least + (j : Int)) w hk.inv ?q1 ?q2 hp) ?_); (case q1 => decide); (case q2 => omega))))))
                  | ((with_reducible refine ie_app ?_)
                     (first
                     | (refine Ef_alloc rfl Zb ?_
                        (first
                        | ((fail_if_success have := b1); intro b1)
                        | ((fail_if_success have := b2); intro b2)
                        | ((fail_if_success have := b3); intro b3)
                        | ((fail_if_success have := b4); intro b4)
                        | ((fail_if_success have := b5); intro b5)
                        | ((fail_if_success have := b6); intro b6)
                        | ((fail_if_success have := b7); intro b7)
                        | ((fail_if_success have := b8); intro b8)
                        | ((fail_if_success have := b9); intro b9)))
                     | (((refine' Ef_append_row rfl rfl rfl ?q1 ?q2 ?q3 ?q4 ?q5 ?q6 ?_)
                         (case q1 => exact app_of rfl)
                         (case q2 => (first | exact at0 | exact at1 | exact at2 | exact at3 | exact at4 | exact at5 | exact at6))
                         (case q3 => (repeat (first | exact .head _ | apply List.Mem.tail)))
                         (case q4 => (first | assumption | (intro u hu; rcases hu with _ | ⟨_, _ | ⟨_, _ | ⟨_, _ | ⟨_, hu⟩⟩⟩⟩ <;> first | rfl | (cases hu; done))))
                         (case q5 => omega)
                         (case q6 => omega))
                        (first
                        | ((fail_if_success have := A1); intro A1 c1)
                        | ((fail_if_success have := A2); intro A2 c2)
                        | ((fail_if_success have := A3); intro A3 c3)
                        | ((fail_if_success have := A4); intro A4 c4)
                        | ((fail_if_success have := A5); intro A5 c5)
                        | ((fail_if_success have := A6); intro A6 c6)
                        | ((fail_if_success have := A7); intro A7 c7)))
                     | (((refine' Ef_append_rd rfl rfl rfl ?q1 ?q2 ?q3 List.not_mem_nil ?q4 ?q5 ?q6 ?q7 ?_)
                         (case q1 => exact app_of rfl)
                         (case q2 => (first | exact at0 | exact at1 | exact at2 | exact at3 | exact at4 | exact at5 | exact at6))
                         (case q3 => assumption)
                         (case q4 => omega)
                         (case q5 => (first | assumption | (intro u hu; rcases hu with _ | ⟨_, _ | ⟨_, _ | ⟨_, _ | ⟨_, hu⟩⟩⟩⟩ <;> first | rfl | (cases hu; done))))
                         (case q6 => omega)
                         (case q7 => omega))
                        (first
                        | ((fail_if_success have := A1); intro A1 c1)
                        | ((fail_if_success have := A2); intro A2 c2)
                        | ((fail_if_success have := A3); intro A3 c3)
                        | ((fail_if_success have := A4); intro A4 c4)
                        | ((fail_if_success have := A5); intro A5 c5)
                        | ((fail_if_success have := A6); intro A6 c6)
                        | ((fail_if_success have := A7); intro A7 c7)))))
                  | ((with_reducible refine ie_bsl ?_)
                     (first
                     | (refine Ef_alloc rfl Zb ?_
                        (first
                        | ((fail_if_success have := b1); intro b1)
                        | ((fail_if_success have := b2); intro b2)
                        | ((fail_if_success have := b3); intro b3)
                        | ((fail_if_success have := b4); intro b4)
                        | ((fail_if_success have := b5); intro b5)
                        | ((fail_if_success have := b6); intro b6)
                        | ((fail_if_success have := b7); intro b7)
                        | ((fail_if_success have := b8); intro b8)
                        | ((fail_if_success have := b9); intro b9)))
                     | (((refine' Ef_bslA rfl rfl ?q1 ?q2 ?q3 ?_); (case q1 => exact app_of rfl); (case q2 => rfl); (case q3 => decide))
                        (first
                        | ((fail_if_success have := b1); intro b1)
                        | ((fail_if_success have := b2); intro b2)
                        | ((fail_if_success have := b3); intro b3)
                        | ((fail_if_success have := b4); intro b4)
                        | ((fail_if_success have := b5); intro b5)
                        | ((fail_if_success have := b6); intro b6)
                        | ((fail_if_success have := b7); intro b7)
                        | ((fail_if_success have := b8); intro b8)
                        | ((fail_if_success have := b9); intro b9)))
                     | (((refine' Ef_bsl1 rfl rfl rfl ?q1 ?_); (case q1 => exact app_of rfl))
                        (first
                        | ((fail_if_success have := b1); intro b1)
                        | ((fail_if_success have := b2); intro b2)
                        | ((fail_if_success have := b3); intro b3)
                        | ((fail_if_success have := b4); intro b4)
                        | ((fail_if_success have := b5); intro b5)
                        | ((fail_if_success have := b6); intro b6)
                        | ((fail_if_success have := b7); intro b7)
                        | ((fail_if_success have := b8); intro b8)
                        | ((fail_if_success have := b9); intro b9)))))
                  | (first
                    | (refine Ef_alloc rfl Zb ?_
                       (first
                       | ((fail_if_success have := b1); intro b1)
                       | ((fail_if_success have := b2); intro b2)
                       | ((fail_if_success have := b3); intro b3)
                       | ((fail_if_success have := b4); intro b4)
                       | ((fail_if_success have := b5); intro b5)
                       | ((fail_if_success have := b6); intro b6)
                       | ((fail_if_success have := b7); intro b7)
                       | ((fail_if_success have := b8); intro b8)
                       | ((fail_if_success have := b9); intro b9))))
                  | refine Ef_y rfl rfl ?_)
          exact ret_n [] (res1 rfl rfl) (List.nil_sublist _) ⟨rfl, rfl⟩
      · obtain ⟨j, rfl⟩ := Int.eq_ofNat_of_zero_le (show 0 ≤ x by omega)
        have hj : j < 64 := by omega
        obtain ⟨f1, f2⟩ := Win.any_step hk j hj (by omega) (by omega)
        have g1 := bB_get c j (by rw [hk.len]; exact hj)
        have g2 : 0 + j * 1 < (bB c).size := by rw [bB_size, hk.len]; omega
        have g3 := bB_set c j
        cases hcj : c.getD j false with
        | false =>
          rw [hcj] at g1 f1
          have f3 := f1.2 rfl
          repeat' (first
                  | with_reducible refine T.seq ?_
                  | with_reducible refine T.block ?_
                  | with_reducible refine T.region ?_
                  | with_reducible refine T.skip ?_
                  | with_reducible refine T.ret ?_
                  | with_reducible refine T.exit ?_
                  | with_reducible refine seqQ_n ?_
                  | with_reducible refine seqQ_x ?_
                  | with_reducible refine seqQ_r ?_
                  | with_reducible refine blockQ_n ?_
                  | with_reducible refine blockQ_r ?_
                  | with_reducible refine blockQ_x ?_
                  | ((with_reducible refine g_blkx ?_); refine blockQ_y rfl ?_)
                  | with_reducible refine loopQ_x ?_
                  | with_reducible refine loopQ_r ?_
                  | ((with_reducible refine g_cond ?_); (first | refine T.cond_t rfl ?_ | refine T.cond_f rfl ?_ | (refine T.cond_s rfl ?_ ?_ <;> intro hc)))
                  | with_reducible refine TL_nil ?_
                  | with_reducible refine TS_nil ?_
                  | ((with_reducible refine g_draw ?_); (first | fail))
                  | ((with_reducible refine TL_y' ?hy ?hd ?_); (case hy => rfl); (case hd => rfl))
                  | with_reducible refine TL_e ?_
                  | ((with_reducible refine g_TL ?_); (first | refine TL_gy' rfl rfl rfl rfl ?_ | refine TL_gn rfl rfl rfl ?_ | refine TL_gu rfl rfl rfl ?_ | refine TL_ge rfl rfl ?_ | refine TL_gn0 rfl rfl ?_))
                  | ((with_reducible refine g_TS ?_)
                     (first
                     | refine TS_y rfl rfl ?_
                     | refine TS_e rfl ?_
                     | refine TS_gy rfl rfl rfl rfl ?_
                     | refine TS_gn rfl rfl rfl rfl ?_
                     | refine TS_gu rfl rfl rfl rfl ?_
                     | refine TS_ge rfl rfl rfl ?_
                     | refine TS_gne rfl rfl rfl rfl ?_
                     | refine TS_gue rfl rfl rfl rfl ?_
                     | refine TS_gne0 rfl rfl rfl ?_))
                  | ((with_reducible refine TSand ?hd ?_); (case hd => (repeat (first | exact List.nil_sublist _ | refine List.Sublist.cons_cons _ ?_ | refine List.Sublist.cons _ ?_))))
                  | ((with_reducible refine is_move ?_); refine ⟨_, Yl_move rfl, ?_⟩)
                  | ((with_reducible refine is_assign ?_); refine ⟨_, Yl_assign rfl, ?_⟩)
                  | ((with_reducible refine is_pick ?_); (first | refine ⟨_, Yl_pick_t rfl rfl, ?_⟩ | refine ⟨_, Yl_pick_f rfl rfl, ?_⟩))
                  | ((with_reducible refine is_nil ?_); refine ⟨_, Yl_nilCheck rfl, ?_⟩)
                  | ((with_reducible refine is_fld ?_)
                     (first | ((refine' ⟨_, Yl_fld_blk0 rfl ?q1, ?_⟩); (case q1 => exact fld_of rfl rfl)) | ((refine' ⟨_, Yl_fld_blk rfl ?q1, ?_⟩); (case q1 => exact fld_of rfl rfl)) | ((refine' ⟨_, Yl_fld_ad rfl ?q1, ?_⟩); (case q1 => exact fld_of rfl rfl))))
                  | ((with_reducible refine is_load ?_)
                     (first
                     | fail
                     | ((refine' ⟨_, Yl_load_blk rfl ?q1 ?q2 ?q3, ?_⟩); (case q1 => exact one_of rfl); (case q2 => (repeat (first | exact .head _ | apply List.Mem.tail))); (case q3 => rfl))
                     | ((refine' ⟨_, Yl_loadA_blk rfl ?q1 ?q2, ?_⟩); (case q1 => (repeat (first | exact .head _ | apply List.Mem.tail))); (case q2 => exact agg_of rfl))
                     | ((refine' ⟨_, Yl_load_blk rfl ?q1 ?q2 ?q3, ?_⟩); (case q1 => exact one_of rfl); (case q2 => (repeat (first | exact .head _ | apply List.Mem.tail))); (case q3 => assumption))
                     | ((refine' ⟨_, Yl_load_rd rfl ?q1 ?q2 List.not_mem_nil ?q3, ?_⟩); (case q1 => exact one_of rfl); (case q2 => assumption); (case q3 => assumption))
                     | ((refine' ⟨_, Yl_load_row rfl ?q1 ?q2 ?q3, ?_⟩); (case q1 => exact one_of rfl); (case q2 => (repeat (first | exact .head _ | apply List.Mem.tail))); (case q3 => assumption))
                     | ((refine' ⟨_, Yl_loadA_rd rfl ?qa ?qb List.not_mem_nil ?ql ?qc, ?_⟩); (case qa => exact agg_of rfl); (case qb => assumption); (case qc => assumption); (case ql => rfl))
                     | ((refine' ⟨_, Yl_loadA_row rfl ?qa ?qb ?ql ?qc, ?_⟩); (case qa => exact agg_of rfl); (case qb => (repeat (first | exact .head _ | apply List.Mem.tail))); (case qc => assumption); (case ql => rfl))))
                  | ((with_reducible refine is_idx ?_)
                     (first
                     | ((refine' ⟨_, Yl_index_arr rfl rfl ?q1 ?q2 ?q3, ?_⟩); (case q1 => exact und_of rfl); (case q2 => exact siz_of rfl); (case q3 => omega))
                     | ((refine' ⟨_, Yl_index rfl rfl ?q1 ?q2 ?q3 (Rd.some_ ?q4 ?q5), ?_⟩); (case q1 => exact und_of rfl); (case q2 => exact siz_of rfl); (case q3 => omega); (case q4 => assumption); (case q5 => omega))
                     | ((refine' ⟨_, Yl_index_row rfl rfl ?q1 ?q2 ?q3 ?q4, ?_⟩); (case q1 => exact und_of rfl); (case q2 => exact siz_of rfl); (case q3 => omega); (case q4 => (repeat (first | exact .head _ | apply List.Mem.tail))))
                     | ((refine' ⟨_, Yl_index rfl rfl ?q1 ?q2 ?q3 rfl, ?_⟩); (case q1 => exact und_of rfl); (case q2 => exact siz_of rfl); (case q3 => omega))))
                  | ((with_reducible refine is_ext ?_); refine ⟨_, Yl_extract rfl rfl, ?_⟩)
                  | ((with_reducible refine is_un ?_); refine ⟨_, Yl_not rfl, ?_⟩)
                  | ((with_reducible refine is_len ?_); (first | ((refine' ⟨_, Yl_len_slice rfl ?q1, ?_⟩); (case q1 => exact und_of rfl)) | ((refine' ⟨_, Yl_len_string rfl ?q1, ?_⟩); (case q1 => exact und_of rfl))))
                  | ((with_reducible refine is_b_lss ?_); (first | ((refine' ⟨_, Yl_lss_t rfl rfl ?q1, ?_⟩); (case q1 => omega)) | ((refine' ⟨_, Yl_lss_f rfl rfl ?q1, ?_⟩); (case q1 => omega)) | (refine sp_lss rfl rfl ?_ ?_ <;> intro hc)))
                  | ((with_reducible refine is_b_leq ?_); (first | ((refine' ⟨_, Yl_leq_t rfl rfl ?q1, ?_⟩); (case q1 => omega)) | ((refine' ⟨_, Yl_leq_f rfl rfl ?q1, ?_⟩); (case q1 => omega)) | (refine sp_leq rfl rfl ?_ ?_ <;> intro hc)))
                  | ((with_reducible refine is_b_gtr ?_); (first | ((refine' ⟨_, Yl_gtr_t rfl rfl ?q1, ?_⟩); (case q1 => omega)) | ((refine' ⟨_, Yl_gtr_f rfl rfl ?q1, ?_⟩); (case q1 => omega)) | (refine sp_gtr rfl rfl ?_ ?_ <;> intro hc)))
                  | ((with_reducible refine is_b_geq ?_); (first | ((refine' ⟨_, Yl_geq_t rfl rfl ?q1, ?_⟩); (case q1 => omega)) | ((refine' ⟨_, Yl_geq_f rfl rfl ?q1, ?_⟩); (case q1 => omega)) | (refine sp_geq rfl rfl ?_ ?_ <;> intro hc)))
                  | ((with_reducible refine is_b_eql ?_)
                     (first | ((refine' ⟨_, Yl_eql_t rfl rfl ?q1, ?_⟩); (case q1 => omega)) | ((refine' ⟨_, Yl_eql_f rfl rfl ?q1, ?_⟩); (case q1 => omega)) | (refine sp_eql rfl rfl ?_ ?_ <;> intro hc) | ((refine' ⟨_, Yl_eql_bool rfl rfl ?q1, ?_⟩); (case q1 => exact und_of rfl))))
                  | ((with_reducible refine is_b_neq ?_)
                     (first | ((refine' ⟨_, Yl_neq_t rfl rfl ?q1, ?_⟩); (case q1 => omega)) | ((refine' ⟨_, Yl_neq_f rfl rfl ?q1, ?_⟩); (case q1 => omega)) | (refine sp_neq rfl rfl ?_ ?_ <;> intro hc) | ((refine' ⟨_, Yl_eql_bool rfl rfl ?q1, ?_⟩); (case q1 => exact und_of rfl))))
                  | ((with_reducible refine is_b_add ?_); (first | ((refine' ⟨_, Yl_add rfl rfl ?q1 ?q2, ?_⟩); (case q1 => omega); (case q2 => omega)) | ((refine' ⟨_, Yl_eql_bool rfl rfl ?q1, ?_⟩); (case q1 => exact und_of rfl))))
                  | ((with_reducible refine is_b_sub ?_); (first | ((refine' ⟨_, Yl_sub rfl rfl ?q1 ?q2, ?_⟩); (case q1 => omega); (case q2 => omega)) | ((refine' ⟨_, Yl_eql_bool rfl rfl ?q1, ?_⟩); (case q1 => exact und_of rfl))))
                  | ((with_reducible refine is_build ?_); (first | fail))
                  | (first | ((refine' ⟨_, Yl_eql_bool rfl rfl ?q1, ?_⟩); (case q1 => exact und_of rfl)))
                  | ((with_reducible refine ie_box ?_)
                     (first
                     | (refine Ef_boxA rfl rfl ?_
                        (first
                        | ((fail_if_success have := b1); intro b1)
                        | ((fail_if_success have := b2); intro b2)
                        | ((fail_if_success have := b3); intro b3)
                        | ((fail_if_success have := b4); intro b4)
                        | ((fail_if_success have := b5); intro b5)
                        | ((fail_if_success have := b6); intro b6)
                        | ((fail_if_success have := b7); intro b7)
                        | ((fail_if_success have := b8); intro b8)
                        | ((fail_if_success have := b9); intro b9)))
                     | (refine Ef_box1 rfl rfl rfl ?_
                        (first
                        | ((fail_if_success have := b1); intro b1)
                        | ((fail_if_success have := b2); intro b2)
                        | ((fail_if_success have := b3); intro b3)
                        | ((fail_if_success have := b4); intro b4)
                        | ((fail_if_success have := b5); intro b5)
                        | ((fail_if_success have := b6); intro b6)
                        | ((fail_if_success have := b7); intro b7)
                        | ((fail_if_success have := b8); intro b8)
                        | ((fail_if_success have := b9); intro b9)))))
                  | ((with_reducible refine ie_alloc ?_)
                     (first
                     | (refine Ef_alloc rfl Zb ?_
                        (first
                        | ((fail_if_success have := b1); intro b1)
                        | ((fail_if_success have := b2); intro b2)
                        | ((fail_if_success have := b3); intro b3)
                        | ((fail_if_success have := b4); intro b4)
                        | ((fail_if_success have := b5); intro b5)
                        | ((fail_if_success have := b6); intro b6)
                        | ((fail_if_success have := b7); intro b7)
                        | ((fail_if_success have := b8); intro b8)
                        | ((fail_if_success have := b9); intro b9)))
                     | (((refine' Ef_alloc rfl ?q1 ?_); (case q1 => exact zer_of rfl))
                        (first
                        | ((fail_if_success have := b1); intro b1)
                        | ((fail_if_success have := b2); intro b2)
                        | ((fail_if_success have := b3); intro b3)
                        | ((fail_if_success have := b4); intro b4)
                        | ((fail_if_success have := b5); intro b5)
                        | ((fail_if_success have := b6); intro b6)
                        | ((fail_if_success have := b7); intro b7)
                        | ((fail_if_success have := b8); intro b8)
                        | ((fail_if_success have := b9); intro b9)))))
                  | ((with_reducible refine ie_store ?_)
                     (first
                     | ((refine' Ef_storeB (i := 1) rfl rfl ?q1 rfl ?q2 ?q3 ?_); (case q1 => exact siz_of rfl); (case q2 => assumption); (case q3 => assumption))
                     | ((refine' Ef_storeC rfl rfl ?q1 ?q2 ?q3 ?q4 ?q5 ?_)
                        (case q1 => rfl)
                        (case q2 => exact siz_of rfl)
                        (case q3 => (first | exact at0 | exact at1 | exact at2 | exact at3 | exact at4 | exact at5 | exact at6))
                        (case q4 => exact Nat.le_of_ble_eq_true rfl)
                        (case q5 => rfl))))
                  | ((with_reducible refine ie_callf ?_)
                     (first
                     | ((with_reducible refine g_call 9 ?_); (first | refine Ef_callP rfl rfl ent_9 (fun w _ => awake_c w) ?_))
                     | ((with_reducible refine g_call 10 ?_)
                        (first
                        | (refine Ef_callN rfl rfl ent_10 (fun w _ => new_c w) ?_
                           (first
                           | ((fail_if_success have := b1); intro b1)
                           | ((fail_if_success have := b2); intro b2)
                           | ((fail_if_success have := b3); intro b3)
                           | ((fail_if_success have := b4); intro b4)
                           | ((fail_if_success have := b5); intro b5)
                           | ((fail_if_success have := b6); intro b6)
                           | ((fail_if_success have := b7); intro b7)
                           | ((fail_if_success have := b8); intro b8)
                           | ((fail_if_success have := b9); intro b9)))))
                     | ((with_reducible refine g_call 11 ?_)
                        (first
                        | ((refine' Ef_callT [true] rfl rfl ent_11 rfl rfl rfl (fun w hp => take_c b1 Win.new 3 ahead w Win.new_inv ?q1 hb2 hp) ?_); (case q1 => decide))
                        | ((refine' Ef_callT [true] rfl rfl ent_11 rfl rfl rfl (fun w hp => take_c b1 s 3 (least + (j : Int)) w hk.inv ?q1 ?q2 hp) ?_); (case q1 => decide); (case q2 => omega))))))
                  | ((with_reducible refine ie_app ?_)
                     (first
                     | (refine Ef_alloc rfl Zb ?_
                        (first
                        | ((fail_if_success have := b1); intro b1)
                        | ((fail_if_success have := b2); intro b2)
                        | ((fail_if_success have := b3); intro b3)
                        | ((fail_if_success have := b4); intro b4)
                        | ((fail_if_success have := b5); intro b5)
                        | ((fail_if_success have := b6); intro b6)
                        | ((fail_if_success have := b7); intro b7)
                        | ((fail_if_success have := b8); intro b8)
                        | ((fail_if_success have := b9); intro b9)))
                     | (((refine' Ef_append_row rfl rfl rfl ?q1 ?q2 ?q3 ?q4 ?q5 ?q6 ?_)
                         (case q1 => exact app_of rfl)
                         (case q2 => (first | exact at0 | exact at1 | exact at2 | exact at3 | exact at4 | exact at5 | exact at6))
                         (case q3 => (repeat (first | exact .head _ | apply List.Mem.tail)))
                         (case q4 => (first | assumption | (intro u hu; rcases hu with _ | ⟨_, _ | ⟨_, _ | ⟨_, _ | ⟨_, hu⟩⟩⟩⟩ <;> first | rfl | (cases hu; done))))
                         (case q5 => omega)
                         (case q6 => omega))
                        (first
                        | ((fail_if_success have := A1); intro A1 c1)
                        | ((fail_if_success have := A2); intro A2 c2)
                        | ((fail_if_success have := A3); intro A3 c3)
                        | ((fail_if_success have := A4); intro A4 c4)
                        | ((fail_if_success have := A5); intro A5 c5)
                        | ((fail_if_success have := A6); intro A6 c6)
                        | ((fail_if_success have := A7); intro A7 c7)))
                     | (((refine' Ef_append_rd rfl rfl rfl ?q1 ?q2 ?q3 List.not_mem_nil ?q4 ?q5 ?q6 ?q7 ?_)
                         (case q1 => exact app_of rfl)
                         (case q2 => (first | exact at0 | exact at1 | exact at2 | exact at3 | exact at4 | exact at5 | exact at6))
                         (case q3 => assumption)
                         (case q4 => omega)
                         (case q5 => (first | assumption | (intro u hu; rcases hu with _ | ⟨_, _ | ⟨_, _ | ⟨_, _ | ⟨_, hu⟩⟩⟩⟩ <;> first | rfl | (cases hu; done))))
                         (case q6 => omega)
                         (case q7 => omega))
                        (first
                        | ((fail_if_success have := A1); intro A1 c1)
                        | ((fail_if_success have := A2); intro A2 c2)
                        | ((fail_if_success have := A3); intro A3 c3)
                        | ((fail_if_success have := A4); intro A4 c4)
                        | ((fail_if_success have := A5); intro A5 c5)
                        | ((fail_if_success have := A6); intro A6 c6)
                        | ((fail_if_success have := A7); intro A7 c7)))))
                  | ((with_reducible refine ie_bsl ?_)
                     (first
                     | (refine Ef_alloc rfl Zb ?_
                        (first
                        | ((fail_if_success have := b1); intro b1)
                        | ((fail_if_success have := b2); intro b2)
                        | ((fail_if_success have := b3); intro b3)
                        | ((fail_if_success have := b4); intro b4)
                        | ((fail_if_success have := b5); intro b5)
                        | ((fail_if_success have := b6); intro b6)
                        | ((fail_if_success have := b7); intro b7)
                        | ((fail_if_success have := b8); intro b8)
                        | ((fail_if_success have := b9); intro b9)))
                     | (((refine' Ef_bslA rfl rfl ?q1 ?q2 ?q3 ?_); (case q1 => exact app_of rfl); (case q2 => rfl); (case q3 => decide))
                        (first
                        | ((fail_if_success have := b1); intro b1)
                        | ((fail_if_success have := b2); intro b2)
                        | ((fail_if_success have := b3); intro b3)
                        | ((fail_if_success have := b4); intro b4)
                        | ((fail_if_success have := b5); intro b5)
                        | ((fail_if_success have := b6); intro b6)
                        | ((fail_if_success have := b7); intro b7)
                        | ((fail_if_success have := b8); intro b8)
                        | ((fail_if_success have := b9); intro b9)))
                     | (((refine' Ef_bsl1 rfl rfl rfl ?q1 ?_); (case q1 => exact app_of rfl))
                        (first
                        | ((fail_if_success have := b1); intro b1)
                        | ((fail_if_success have := b2); intro b2)
                        | ((fail_if_success have := b3); intro b3)
                        | ((fail_if_success have := b4); intro b4)
                        | ((fail_if_success have := b5); intro b5)
                        | ((fail_if_success have := b6); intro b6)
                        | ((fail_if_success have := b7); intro b7)
                        | ((fail_if_success have := b8); intro b8)
                        | ((fail_if_success have := b9); intro b9)))))
                  | (first
                    | (refine Ef_alloc rfl Zb ?_
                       (first
                       | ((fail_if_success have := b1); intro b1)
                       | ((fail_if_success have := b2); intro b2)
                       | ((fail_if_success have := b3); intro b3)
                       | ((fail_if_success have := b4); intro b4)
                       | ((fail_if_success have := b5); intro b5)
                       | ((fail_if_success have := b6); intro b6)
                       | ((fail_if_success have := b7); intro b7)
                       | ((fail_if_success have := b8); intro b8)
                       | ((fail_if_success have := b9); intro b9))))
                  | refine Ef_y rfl rfl ?_)
          refine loopQ_n ((Win.take s 3 (least + (j : Int))).1, i + 1, c.set j true) ?_ ?_ ⟨f2, by (first | omega | (dsimp only; omega) | (simp; omega))⟩ (by (first | omega | (dsimp only; omega) | (simp; omega)))
          · (repeat (first | exact Sub.nil | refine Sub.cons rfl ?_))
          · (repeat (first | exact List.nil_sublist _ | refine List.Sublist.cons_cons _ ?_ | refine List.Sublist.cons _ ?_))
        | true =>
          rw [hcj] at g1 f1
          have f3 : ¬ (Win.take s 3 (least + (j : Int))).2 = 0 := fun h => by have := f1.1 h; cases this
          repeat' (first
                  | with_reducible refine T.seq ?_
                  | with_reducible refine T.block ?_
                  | with_reducible refine T.region ?_
                  | with_reducible refine T.skip ?_
                  | with_reducible refine T.ret ?_
                  | with_reducible refine T.exit ?_
                  | with_reducible refine seqQ_n ?_
                  | with_reducible refine seqQ_x ?_
                  | with_reducible refine seqQ_r ?_
                  | with_reducible refine blockQ_n ?_
                  | with_reducible refine blockQ_r ?_
                  | with_reducible refine blockQ_x ?_
                  | ((with_reducible refine g_blkx ?_); refine blockQ_y rfl ?_)
                  | with_reducible refine loopQ_x ?_
                  | with_reducible refine loopQ_r ?_
                  | ((with_reducible refine g_cond ?_); (first | refine T.cond_t rfl ?_ | refine T.cond_f rfl ?_ | (refine T.cond_s rfl ?_ ?_ <;> intro hc)))
                  | with_reducible refine TL_nil ?_
                  | with_reducible refine TS_nil ?_
                  | ((with_reducible refine g_draw ?_); (first | fail))
                  | ((with_reducible refine TL_y' ?hy ?hd ?_); (case hy => rfl); (case hd => rfl))
                  | with_reducible refine TL_e ?_
                  | ((with_reducible refine g_TL ?_); (first | refine TL_gy' rfl rfl rfl rfl ?_ | refine TL_gn rfl rfl rfl ?_ | refine TL_gu rfl rfl rfl ?_ | refine TL_ge rfl rfl ?_ | refine TL_gn0 rfl rfl ?_))
                  | ((with_reducible refine g_TS ?_)
                     (first
                     | refine TS_y rfl rfl ?_
                     | refine TS_e rfl ?_
                     | refine TS_gy rfl rfl rfl rfl ?_
                     | refine TS_gn rfl rfl rfl rfl ?_
                     | refine TS_gu rfl rfl rfl rfl ?_
                     | refine TS_ge rfl rfl rfl ?_
                     | refine TS_gne rfl rfl rfl rfl ?_
                     | refine TS_gue rfl rfl rfl rfl ?_
                     | refine TS_gne0 rfl rfl rfl ?_))
                  | ((with_reducible refine TSand ?hd ?_); (case hd => (repeat (first | exact List.nil_sublist _ | refine List.Sublist.cons_cons _ ?_ | refine List.Sublist.cons _ ?_))))
                  | ((with_reducible refine is_move ?_); refine ⟨_, Yl_move rfl, ?_⟩)
                  | ((with_reducible refine is_assign ?_); refine ⟨_, Yl_assign rfl, ?_⟩)
                  | ((with_reducible refine is_pick ?_); (first | refine ⟨_, Yl_pick_t rfl rfl, ?_⟩ | refine ⟨_, Yl_pick_f rfl rfl, ?_⟩))
                  | ((with_reducible refine is_nil ?_); refine ⟨_, Yl_nilCheck rfl, ?_⟩)
                  | ((with_reducible refine is_fld ?_)
                     (first | ((refine' ⟨_, Yl_fld_blk0 rfl ?q1, ?_⟩); (case q1 => exact fld_of rfl rfl)) | ((refine' ⟨_, Yl_fld_blk rfl ?q1, ?_⟩); (case q1 => exact fld_of rfl rfl)) | ((refine' ⟨_, Yl_fld_ad rfl ?q1, ?_⟩); (case q1 => exact fld_of rfl rfl))))
                  | ((with_reducible refine is_load ?_)
                     (first
                     | fail
                     | ((refine' ⟨_, Yl_load_blk rfl ?q1 ?q2 ?q3, ?_⟩); (case q1 => exact one_of rfl); (case q2 => (repeat (first | exact .head _ | apply List.Mem.tail))); (case q3 => rfl))
                     | ((refine' ⟨_, Yl_loadA_blk rfl ?q1 ?q2, ?_⟩); (case q1 => (repeat (first | exact .head _ | apply List.Mem.tail))); (case q2 => exact agg_of rfl))
                     | ((refine' ⟨_, Yl_load_blk rfl ?q1 ?q2 ?q3, ?_⟩); (case q1 => exact one_of rfl); (case q2 => (repeat (first | exact .head _ | apply List.Mem.tail))); (case q3 => assumption))
                     | ((refine' ⟨_, Yl_load_rd rfl ?q1 ?q2 List.not_mem_nil ?q3, ?_⟩); (case q1 => exact one_of rfl); (case q2 => assumption); (case q3 => assumption))
                     | ((refine' ⟨_, Yl_load_row rfl ?q1 ?q2 ?q3, ?_⟩); (case q1 => exact one_of rfl); (case q2 => (repeat (first | exact .head _ | apply List.Mem.tail))); (case q3 => assumption))
                     | ((refine' ⟨_, Yl_loadA_rd rfl ?qa ?qb List.not_mem_nil ?ql ?qc, ?_⟩); (case qa => exact agg_of rfl); (case qb => assumption); (case qc => assumption); (case ql => rfl))
                     | ((refine' ⟨_, Yl_loadA_row rfl ?qa ?qb ?ql ?qc, ?_⟩); (case qa => exact agg_of rfl); (case qb => (repeat (first | exact .head _ | apply List.Mem.tail))); (case qc => assumption); (case ql => rfl))))
                  | ((with_reducible refine is_idx ?_)
                     (first
                     | ((refine' ⟨_, Yl_index_arr rfl rfl ?q1 ?q2 ?q3, ?_⟩); (case q1 => exact und_of rfl); (case q2 => exact siz_of rfl); (case q3 => omega))
                     | ((refine' ⟨_, Yl_index rfl rfl ?q1 ?q2 ?q3 (Rd.some_ ?q4 ?q5), ?_⟩); (case q1 => exact und_of rfl); (case q2 => exact siz_of rfl); (case q3 => omega); (case q4 => assumption); (case q5 => omega))
                     | ((refine' ⟨_, Yl_index_row rfl rfl ?q1 ?q2 ?q3 ?q4, ?_⟩); (case q1 => exact und_of rfl); (case q2 => exact siz_of rfl); (case q3 => omega); (case q4 => (repeat (first | exact .head _ | apply List.Mem.tail))))
                     | ((refine' ⟨_, Yl_index rfl rfl ?q1 ?q2 ?q3 rfl, ?_⟩); (case q1 => exact und_of rfl); (case q2 => exact siz_of rfl); (case q3 => omega))))
                  | ((with_reducible refine is_ext ?_); refine ⟨_, Yl_extract rfl rfl, ?_⟩)
                  | ((with_reducible refine is_un ?_); refine ⟨_, Yl_not rfl, ?_⟩)
                  | ((with_reducible refine is_len ?_); (first | ((refine' ⟨_, Yl_len_slice rfl ?q1, ?_⟩); (case q1 => exact und_of rfl)) | ((refine' ⟨_, Yl_len_string rfl ?q1, ?_⟩); (case q1 => exact und_of rfl))))
                  | ((with_reducible refine is_b_lss ?_); (first | ((refine' ⟨_, Yl_lss_t rfl rfl ?q1, ?_⟩); (case q1 => omega)) | ((refine' ⟨_, Yl_lss_f rfl rfl ?q1, ?_⟩); (case q1 => omega)) | (refine sp_lss rfl rfl ?_ ?_ <;> intro hc)))
                  | ((with_reducible refine is_b_leq ?_); (first | ((refine' ⟨_, Yl_leq_t rfl rfl ?q1, ?_⟩); (case q1 => omega)) | ((refine' ⟨_, Yl_leq_f rfl rfl ?q1, ?_⟩); (case q1 => omega)) | (refine sp_leq rfl rfl ?_ ?_ <;> intro hc)))
                  | ((with_reducible refine is_b_gtr ?_); (first | ((refine' ⟨_, Yl_gtr_t rfl rfl ?q1, ?_⟩); (case q1 => omega)) | ((refine' ⟨_, Yl_gtr_f rfl rfl ?q1, ?_⟩); (case q1 => omega)) | (refine sp_gtr rfl rfl ?_ ?_ <;> intro hc)))
                  | ((with_reducible refine is_b_geq ?_); (first | ((refine' ⟨_, Yl_geq_t rfl rfl ?q1, ?_⟩); (case q1 => omega)) | ((refine' ⟨_, Yl_geq_f rfl rfl ?q1, ?_⟩); (case q1 => omega)) | (refine sp_geq rfl rfl ?_ ?_ <;> intro hc)))
                  | ((with_reducible refine is_b_eql ?_)
                     (first | ((refine' ⟨_, Yl_eql_t rfl rfl ?q1, ?_⟩); (case q1 => omega)) | ((refine' ⟨_, Yl_eql_f rfl rfl ?q1, ?_⟩); (case q1 => omega)) | (refine sp_eql rfl rfl ?_ ?_ <;> intro hc) | ((refine' ⟨_, Yl_eql_bool rfl rfl ?q1, ?_⟩); (case q1 => exact und_of rfl))))
                  | ((with_reducible refine is_b_neq ?_)
                     (first | ((refine' ⟨_, Yl_neq_t rfl rfl ?q1, ?_⟩); (case q1 => omega)) | ((refine' ⟨_, Yl_neq_f rfl rfl ?q1, ?_⟩); (case q1 => omega)) | (refine sp_neq rfl rfl ?_ ?_ <;> intro hc) | ((refine' ⟨_, Yl_eql_bool rfl rfl ?q1, ?_⟩); (case q1 => exact und_of rfl))))
                  | ((with_reducible refine is_b_add ?_); (first | ((refine' ⟨_, Yl_add rfl rfl ?q1 ?q2, ?_⟩); (case q1 => omega); (case q2 => omega)) | ((refine' ⟨_, Yl_eql_bool rfl rfl ?q1, ?_⟩); (case q1 => exact und_of rfl))))
                  | ((with_reducible refine is_b_sub ?_); (first | ((refine' ⟨_, Yl_sub rfl rfl ?q1 ?q2, ?_⟩); (case q1 => omega); (case q2 => omega)) | ((refine' ⟨_, Yl_eql_bool rfl rfl ?q1, ?_⟩); (case q1 => exact und_of rfl))))
                  | ((with_reducible refine is_build ?_); (first | fail))
                  | (first | ((refine' ⟨_, Yl_eql_bool rfl rfl ?q1, ?_⟩); (case q1 => exact und_of rfl)))
                  | ((with_reducible refine ie_box ?_)
                     (first
                     | (refine Ef_boxA rfl rfl ?_
                        (first
                        | ((fail_if_success have := b1); intro b1)
                        | ((fail_if_success have := b2); intro b2)
                        | ((fail_if_success have := b3); intro b3)
                        | ((fail_if_success have := b4); intro b4)
                        | ((fail_if_success have := b5); intro b5)
                        | ((fail_if_success have := b6); intro b6)
                        | ((fail_if_success have := b7); intro b7)
                        | ((fail_if_success have := b8); intro b8)
                        | ((fail_if_success have := b9); intro b9)))
                     | (refine Ef_box1 rfl rfl rfl ?_
                        (first
                        | ((fail_if_success have := b1); intro b1)
                        | ((fail_if_success have := b2); intro b2)
                        | ((fail_if_success have := b3); intro b3)
                        | ((fail_if_success have := b4); intro b4)
                        | ((fail_if_success have := b5); intro b5)
                        | ((fail_if_success have := b6); intro b6)
                        | ((fail_if_success have := b7); intro b7)
                        | ((fail_if_success have := b8); intro b8)
                        | ((fail_if_success have := b9); intro b9)))))
                  | ((with_reducible refine ie_alloc ?_)
                     (first
                     | (refine Ef_alloc rfl Zb ?_
                        (first
                        | ((fail_if_success have := b1); intro b1)
                        | ((fail_if_success have := b2); intro b2)
                        | ((fail_if_success have := b3); intro b3)
                        | ((fail_if_success have := b4); intro b4)
                        | ((fail_if_success have := b5); intro b5)
                        | ((fail_if_success have := b6); intro b6)
                        | ((fail_if_success have := b7); intro b7)
                        | ((fail_if_success have := b8); intro b8)
                        | ((fail_if_success have := b9); intro b9)))
                     | (((refine' Ef_alloc rfl ?q1 ?_); (case q1 => exact zer_of rfl))
                        (first
                        | ((fail_if_success have := b1); intro b1)
                        | ((fail_if_success have := b2); intro b2)
                        | ((fail_if_success have := b3); intro b3)
                        | ((fail_if_success have := b4); intro b4)
                        | ((fail_if_success have := b5); intro b5)
                        | ((fail_if_success have := b6); intro b6)
                        | ((fail_if_success have := b7); intro b7)
                        | ((fail_if_success have := b8); intro b8)
                        | ((fail_if_success have := b9); intro b9)))))
                  | ((with_reducible refine ie_store ?_)
                     (first
                     | ((refine' Ef_storeB (i := 1) rfl rfl ?q1 rfl ?q2 ?q3 ?_); (case q1 => exact siz_of rfl); (case q2 => assumption); (case q3 => assumption))
                     | ((refine' Ef_storeC rfl rfl ?q1 ?q2 ?q3 ?q4 ?q5 ?_)
                        (case q1 => rfl)
                        (case q2 => exact siz_of rfl)
                        (case q3 => (first | exact at0 | exact at1 | exact at2 | exact at3 | exact at4 | exact at5 | exact at6))
                        (case q4 => exact Nat.le_of_ble_eq_true rfl)
                        (case q5 => rfl))))
                  | ((with_reducible refine ie_callf ?_)
                     (first
                     | ((with_reducible refine g_call 9 ?_); (first | refine Ef_callP rfl rfl ent_9 (fun w _ => awake_c w) ?_))
                     | ((with_reducible refine g_call 10 ?_)
                        (first
                        | (refine Ef_callN rfl rfl ent_10 (fun w _ => new_c w) ?_
                           (first
                           | ((fail_if_success have := b1); intro b1)
                           | ((fail_if_success have := b2); intro b2)
                           | ((fail_if_success have := b3); intro b3)
                           | ((fail_if_success have := b4); intro b4)
                           | ((fail_if_success have := b5); intro b5)
                           | ((fail_if_success have := b6); intro b6)
                           | ((fail_if_success have := b7); intro b7)
                           | ((fail_if_success have := b8); intro b8)
                           | ((fail_if_success have := b9); intro b9)))))
                     | ((with_reducible refine g_call 11 ?_)
                        (first
                        | ((refine' Ef_callT [true] rfl rfl ent_11 rfl rfl rfl (fun w hp => take_c b1 Win.new 3 ahead w Win.new_inv ?q1 hb2 hp) ?_); (case q1 => decide))
                        | ((refine' Ef_callT [true] rfl rfl ent_11 rfl rfl rfl (fun w hp => take_c b1 s 3 (least + (j : Int)) w hk.inv ?q1 ?q2 hp) ?_); (case q1 => decide); (case q2 => omega))))))
                  | ((with_reducible refine ie_app ?_)
                     (first
                     | (refine Ef_alloc rfl Zb ?_
                        (first
                        | ((fail_if_success have := b1); intro b1)
                        | ((fail_if_success have := b2); intro b2)
                        | ((fail_if_success have := b3); intro b3)
                        | ((fail_if_success have := b4); intro b4)
                        | ((fail_if_success have := b5); intro b5)
                        | ((fail_if_success have := b6); intro b6)
                        | ((fail_if_success have := b7); intro b7)
                        | ((fail_if_success have := b8); intro b8)
                        | ((fail_if_success have := b9); intro b9)))
                     | (((refine' Ef_append_row rfl rfl rfl ?q1 ?q2 ?q3 ?q4 ?q5 ?q6 ?_)
                         (case q1 => exact app_of rfl)
                         (case q2 => (first | exact at0 | exact at1 | exact at2 | exact at3 | exact at4 | exact at5 | exact at6))
                         (case q3 => (repeat (first | exact .head _ | apply List.Mem.tail)))
                         (case q4 => (first | assumption | (intro u hu; rcases hu with _ | ⟨_, _ | ⟨_, _ | ⟨_, _ | ⟨_, hu⟩⟩⟩⟩ <;> first | rfl | (cases hu; done))))
                         (case q5 => omega)
                         (case q6 => omega))
                        (first
                        | ((fail_if_success have := A1); intro A1 c1)
                        | ((fail_if_success have := A2); intro A2 c2)
                        | ((fail_if_success have := A3); intro A3 c3)
                        | ((fail_if_success have := A4); intro A4 c4)
                        | ((fail_if_success have := A5); intro A5 c5)
                        | ((fail_if_success have := A6); intro A6 c6)
                        | ((fail_if_success have := A7); intro A7 c7)))
                     | (((refine' Ef_append_rd rfl rfl rfl ?q1 ?q2 ?q3 List.not_mem_nil ?q4 ?q5 ?q6 ?q7 ?_)
                         (case q1 => exact app_of rfl)
                         (case q2 => (first | exact at0 | exact at1 | exact at2 | exact at3 | exact at4 | exact at5 | exact at6))
                         (case q3 => assumption)
                         (case q4 => omega)
                         (case q5 => (first | assumption | (intro u hu; rcases hu with _ | ⟨_, _ | ⟨_, _ | ⟨_, _ | ⟨_, hu⟩⟩⟩⟩ <;> first | rfl | (cases hu; done))))
                         (case q6 => omega)
                         (case q7 => omega))
                        (first
                        | ((fail_if_success have := A1); intro A1 c1)
                        | ((fail_if_success have := A2); intro A2 c2)
                        | ((fail_if_success have := A3); intro A3 c3)
                        | ((fail_if_success have := A4); intro A4 c4)
                        | ((fail_if_success have := A5); intro A5 c5)
                        | ((fail_if_success have := A6); intro A6 c6)
                        | ((fail_if_success have := A7); intro A7 c7)))))
                  | ((with_reducible refine ie_bsl ?_)
                     (first
                     | (refine Ef_alloc rfl Zb ?_
                        (first
                        | ((fail_if_success have := b1); intro b1)
                        | ((fail_if_success have := b2); intro b2)
                        | ((fail_if_success have := b3); intro b3)
                        | ((fail_if_success have := b4); intro b4)
                        | ((fail_if_success have := b5); intro b5)
                        | ((fail_if_success have := b6); intro b6)
                        | ((fail_if_success have := b7); intro b7)
                        | ((fail_if_success have := b8); intro b8)
                        | ((fail_if_success have := b9); intro b9)))
                     | (((refine' Ef_bslA rfl rfl ?q1 ?q2 ?q3 ?_); (case q1 => exact app_of rfl); (case q2 => rfl); (case q3 => decide))
                        (first
                        | ((fail_if_success have := b1); intro b1)
                        | ((fail_if_success have := b2); intro b2)
                        | ((fail_if_success have := b3); intro b3)
                        | ((fail_if_success have := b4); intro b4)
                        | ((fail_if_success have := b5); intro b5)
                        | ((fail_if_success have := b6); intro b6)
                        | ((fail_if_success have := b7); intro b7)
                        | ((fail_if_success have := b8); intro b8)
                        | ((fail_if_success have := b9); intro b9)))
                     | (((refine' Ef_bsl1 rfl rfl rfl ?q1 ?_); (case q1 => exact app_of rfl))
                        (first
                        | ((fail_if_success have := b1); intro b1)
                        | ((fail_if_success have := b2); intro b2)
                        | ((fail_if_success have := b3); intro b3)
                        | ((fail_if_success have := b4); intro b4)
                        | ((fail_if_success have := b5); intro b5)
                        | ((fail_if_success have := b6); intro b6)
                        | ((fail_if_success have := b7); intro b7)
                        | ((fail_if_success have := b8); intro b8)
                        | ((fail_if_success have := b9); intro b9)))))
                  | (first
                    | (refine Ef_alloc rfl Zb ?_
                       (first
                       | ((fail_if_success have := b1); intro b1)
                       | ((fail_if_success have := b2); intro b2)
                       | ((fail_if_success have := b3); intro b3)
                       | ((fail_if_success have := b4); intro b4)
                       | ((fail_if_success have := b5); intro b5)
                       | ((fail_if_success have := b6); intro b6)
                       | ((fail_if_success have := b7); intro b7)
                       | ((fail_if_success have := b8); intro b8)
                       | ((fail_if_success have := b9); intro b9))))
                  | refine Ef_y rfl rfl ?_)
          refine loopQ_n ((Win.take s 3 (least + (j : Int))).1, i + 1, c.set j true) ?_ ?_ ⟨f2, by (first | omega | (dsimp only; omega) | (simp; omega))⟩ (by (first | omega | (dsimp only; omega) | (simp; omega)))
          · (repeat (first | exact Sub.nil | refine Sub.cons rfl ?_))
          · (repeat (first | exact List.nil_sublist _ | refine List.Sublist.cons_cons _ ?_ | refine List.Sublist.cons _ ?_))
    · repeat' (first
              | with_reducible refine T.seq ?_
              | with_reducible refine T.block ?_
              | with_reducible refine T.region ?_
              | with_reducible refine T.skip ?_
              | with_reducible refine T.ret ?_
              | with_reducible refine T.exit ?_
              | with_reducible refine seqQ_n ?_
              | with_reducible refine seqQ_x ?_
              | with_reducible refine seqQ_r ?_
              | with_reducible refine blockQ_n ?_
              | with_reducible refine blockQ_r ?_
              | with_reducible refine blockQ_x ?_
              | ((with_reducible refine g_blkx ?_); refine blockQ_y rfl ?_)
              | with_reducible refine loopQ_x ?_
              | with_reducible refine loopQ_r ?_
              | ((with_reducible refine g_cond ?_); (first | refine T.cond_t rfl ?_ | refine T.cond_f rfl ?_ | (refine T.cond_s rfl ?_ ?_ <;> intro hc)))
              | with_reducible refine TL_nil ?_
              | with_reducible refine TS_nil ?_
              | ((with_reducible refine g_draw ?_); (first | fail))
              | ((with_reducible refine TL_y' ?hy ?hd ?_); (case hy => rfl); (case hd => rfl))
              | with_reducible refine TL_e ?_
              | ((with_reducible refine g_TL ?_); (first | refine TL_gy' rfl rfl rfl rfl ?_ | refine TL_gn rfl rfl rfl ?_ | refine TL_gu rfl rfl rfl ?_ | refine TL_ge rfl rfl ?_ | refine TL_gn0 rfl rfl ?_))
              | ((with_reducible refine g_TS ?_)
                 (first
                 | refine TS_y rfl rfl ?_
                 | refine TS_e rfl ?_
                 | refine TS_gy rfl rfl rfl rfl ?_
                 | refine TS_gn rfl rfl rfl rfl ?_
                 | refine TS_gu rfl rfl rfl rfl ?_
                 | refine TS_ge rfl rfl rfl ?_
                 | refine TS_gne rfl rfl rfl rfl ?_
                 | refine TS_gue rfl rfl rfl rfl ?_
                 | refine TS_gne0 rfl rfl rfl ?_))
              | ((with_reducible refine TSand ?hd ?_); (case hd => (repeat (first | exact List.nil_sublist _ | refine List.Sublist.cons_cons _ ?_ | refine List.Sublist.cons _ ?_))))
              | ((with_reducible refine is_move ?_); refine ⟨_, Yl_move rfl, ?_⟩)
              | ((with_reducible refine is_assign ?_); refine ⟨_, Yl_assign rfl, ?_⟩)
              | ((with_reducible refine is_pick ?_); (first | refine ⟨_, Yl_pick_t rfl rfl, ?_⟩ | refine ⟨_, Yl_pick_f rfl rfl, ?_⟩))
              | ((with_reducible refine is_nil ?_); refine ⟨_, Yl_nilCheck rfl, ?_⟩)
              | ((with_reducible refine is_fld ?_)
                 (first | ((refine' ⟨_, Yl_fld_blk0 rfl ?q1, ?_⟩); (case q1 => exact fld_of rfl rfl)) | ((refine' ⟨_, Yl_fld_blk rfl ?q1, ?_⟩); (case q1 => exact fld_of rfl rfl)) | ((refine' ⟨_, Yl_fld_ad rfl ?q1, ?_⟩); (case q1 => exact fld_of rfl rfl))))
              | ((with_reducible refine is_load ?_)
                 (first
                 | fail
                 | ((refine' ⟨_, Yl_load_blk rfl ?q1 ?q2 ?q3, ?_⟩); (case q1 => exact one_of rfl); (case q2 => (repeat (first | exact .head _ | apply List.Mem.tail))); (case q3 => rfl))
                 | ((refine' ⟨_, Yl_loadA_blk rfl ?q1 ?q2, ?_⟩); (case q1 => (repeat (first | exact .head _ | apply List.Mem.tail))); (case q2 => exact agg_of rfl))
                 | ((refine' ⟨_, Yl_load_blk rfl ?q1 ?q2 ?q3, ?_⟩); (case q1 => exact one_of rfl); (case q2 => (repeat (first | exact .head _ | apply List.Mem.tail))); (case q3 => assumption))
                 | ((refine' ⟨_, Yl_load_rd rfl ?q1 ?q2 List.not_mem_nil ?q3, ?_⟩); (case q1 => exact one_of rfl); (case q2 => assumption); (case q3 => assumption))
                 | ((refine' ⟨_, Yl_load_row rfl ?q1 ?q2 ?q3, ?_⟩); (case q1 => exact one_of rfl); (case q2 => (repeat (first | exact .head _ | apply List.Mem.tail))); (case q3 => assumption))
                 | ((refine' ⟨_, Yl_loadA_rd rfl ?qa ?qb List.not_mem_nil ?ql ?qc, ?_⟩); (case qa => exact agg_of rfl); (case qb => assumption); (case qc => assumption); (case ql => rfl))
                 | ((refine' ⟨_, Yl_loadA_row rfl ?qa ?qb ?ql ?qc, ?_⟩); (case qa => exact agg_of rfl); (case qb => (repeat (first | exact .head _ | apply List.Mem.tail))); (case qc => assumption); (case ql => rfl))))
              | ((with_reducible refine is_idx ?_)
                 (first
                 | ((refine' ⟨_, Yl_index_arr rfl rfl ?q1 ?q2 ?q3, ?_⟩); (case q1 => exact und_of rfl); (case q2 => exact siz_of rfl); (case q3 => omega))
                 | ((refine' ⟨_, Yl_index rfl rfl ?q1 ?q2 ?q3 (Rd.some_ ?q4 ?q5), ?_⟩); (case q1 => exact und_of rfl); (case q2 => exact siz_of rfl); (case q3 => omega); (case q4 => assumption); (case q5 => omega))
                 | ((refine' ⟨_, Yl_index_row rfl rfl ?q1 ?q2 ?q3 ?q4, ?_⟩); (case q1 => exact und_of rfl); (case q2 => exact siz_of rfl); (case q3 => omega); (case q4 => (repeat (first | exact .head _ | apply List.Mem.tail))))
                 | ((refine' ⟨_, Yl_index rfl rfl ?q1 ?q2 ?q3 rfl, ?_⟩); (case q1 => exact und_of rfl); (case q2 => exact siz_of rfl); (case q3 => omega))))
              | ((with_reducible refine is_ext ?_); refine ⟨_, Yl_extract rfl rfl, ?_⟩)
              | ((with_reducible refine is_un ?_); refine ⟨_, Yl_not rfl, ?_⟩)
              | ((with_reducible refine is_len ?_); (first | ((refine' ⟨_, Yl_len_slice rfl ?q1, ?_⟩); (case q1 => exact und_of rfl)) | ((refine' ⟨_, Yl_len_string rfl ?q1, ?_⟩); (case q1 => exact und_of rfl))))
              | ((with_reducible refine is_b_lss ?_); (first | ((refine' ⟨_, Yl_lss_t rfl rfl ?q1, ?_⟩); (case q1 => omega)) | ((refine' ⟨_, Yl_lss_f rfl rfl ?q1, ?_⟩); (case q1 => omega)) | (refine sp_lss rfl rfl ?_ ?_ <;> intro hc)))
              | ((with_reducible refine is_b_leq ?_); (first | ((refine' ⟨_, Yl_leq_t rfl rfl ?q1, ?_⟩); (case q1 => omega)) | ((refine' ⟨_, Yl_leq_f rfl rfl ?q1, ?_⟩); (case q1 => omega)) | (refine sp_leq rfl rfl ?_ ?_ <;> intro hc)))
              | ((with_reducible refine is_b_gtr ?_); (first | ((refine' ⟨_, Yl_gtr_t rfl rfl ?q1, ?_⟩); (case q1 => omega)) | ((refine' ⟨_, Yl_gtr_f rfl rfl ?q1, ?_⟩); (case q1 => omega)) | (refine sp_gtr rfl rfl ?_ ?_ <;> intro hc)))
              | ((with_reducible refine is_b_geq ?_); (first | ((refine' ⟨_, Yl_geq_t rfl rfl ?q1, ?_⟩); (case q1 => omega)) | ((refine' ⟨_, Yl_geq_f rfl rfl ?q1, ?_⟩); (case q1 => omega)) | (refine sp_geq rfl rfl ?_ ?_ <;> intro hc)))
              | ((with_reducible refine is_b_eql ?_)
                 (first | ((refine' ⟨_, Yl_eql_t rfl rfl ?q1, ?_⟩); (case q1 => omega)) | ((refine' ⟨_, Yl_eql_f rfl rfl ?q1, ?_⟩); (case q1 => omega)) | (refine sp_eql rfl rfl ?_ ?_ <;> intro hc) | ((refine' ⟨_, Yl_eql_bool rfl rfl ?q1, ?_⟩); (case q1 => exact und_of rfl))))
              | ((with_reducible refine is_b_neq ?_)
                 (first | ((refine' ⟨_, Yl_neq_t rfl rfl ?q1, ?_⟩); (case q1 => omega)) | ((refine' ⟨_, Yl_neq_f rfl rfl ?q1, ?_⟩); (case q1 => omega)) | (refine sp_neq rfl rfl ?_ ?_ <;> intro hc) | ((refine' ⟨_, Yl_eql_bool rfl rfl ?q1, ?_⟩); (case q1 => exact und_of rfl))))
              | ((with_reducible refine is_b_add ?_); (first | ((refine' ⟨_, Yl_add rfl rfl ?q1 ?q2, ?_⟩); (case q1 => omega); (case q2 => omega)) | ((refine' ⟨_, Yl_eql_bool rfl rfl ?q1, ?_⟩); (case q1 => exact und_of rfl))))
              | ((with_reducible refine is_b_sub ?_); (first | ((refine' ⟨_, Yl_sub rfl rfl ?q1 ?q2, ?_⟩); (case q1 => omega); (case q2 => omega)) | ((refine' ⟨_, Yl_eql_bool rfl rfl ?q1, ?_⟩); (case q1 => exact und_of rfl))))
              | ((with_reducible refine is_build ?_); (first | fail))
              | (first | ((refine' ⟨_, Yl_eql_bool rfl rfl ?q1, ?_⟩); (case q1 => exact und_of rfl)))
              | ((with_reducible refine ie_box ?_)
                 (first
                 | (refine Ef_boxA rfl rfl ?_
                    (first
                    | ((fail_if_success have := b1); intro b1)
                    | ((fail_if_success have := b2); intro b2)
                    | ((fail_if_success have := b3); intro b3)
                    | ((fail_if_success have := b4); intro b4)
                    | ((fail_if_success have := b5); intro b5)
                    | ((fail_if_success have := b6); intro b6)
                    | ((fail_if_success have := b7); intro b7)
                    | ((fail_if_success have := b8); intro b8)
                    | ((fail_if_success have := b9); intro b9)))
                 | (refine Ef_box1 rfl rfl rfl ?_
                    (first
                    | ((fail_if_success have := b1); intro b1)
                    | ((fail_if_success have := b2); intro b2)
                    | ((fail_if_success have := b3); intro b3)
                    | ((fail_if_success have := b4); intro b4)
                    | ((fail_if_success have := b5); intro b5)
                    | ((fail_if_success have := b6); intro b6)
                    | ((fail_if_success have := b7); intro b7)
                    | ((fail_if_success have := b8); intro b8)
                    | ((fail_if_success have := b9); intro b9)))))
              | ((with_reducible refine ie_alloc ?_)
                 (first
                 | (refine Ef_alloc rfl Zb ?_
                    (first
                    | ((fail_if_success have := b1); intro b1)
                    | ((fail_if_success have := b2); intro b2)
                    | ((fail_if_success have := b3); intro b3)
                    | ((fail_if_success have := b4); intro b4)
                    | ((fail_if_success have := b5); intro b5)
                    | ((fail_if_success have := b6); intro b6)
                    | ((fail_if_success have := b7); intro b7)
                    | ((fail_if_success have := b8); intro b8)
                    | ((fail_if_success have := b9); intro b9)))
                 | (((refine' Ef_alloc rfl ?q1 ?_); (case q1 => exact zer_of rfl))
                    (first
                    | ((fail_if_success have := b1); intro b1)
                    | ((fail_if_success have := b2); intro b2)
                    | ((fail_if_success have := b3); intro b3)
                    | ((fail_if_success have := b4); intro b4)
                    | ((fail_if_success have := b5); intro b5)
                    | ((fail_if_success have := b6); intro b6)
                    | ((fail_if_success have := b7); intro b7)
                    | ((fail_if_success have := b8); intro b8)
                    | ((fail_if_success have := b9); intro b9)))))
              | ((with_reducible refine ie_store ?_)
                 (first
                 | ((refine' Ef_storeB (i := 1) rfl rfl ?q1 rfl ?q2 ?q3 ?_); (case q1 => exact siz_of rfl); (case q2 => assumption); (case q3 => assumption))
                 | ((refine' Ef_storeC rfl rfl ?q1 ?q2 ?q3 ?q4 ?q5 ?_)
                    (case q1 => rfl)
                    (case q2 => exact siz_of rfl)
                    (case q3 => (first | exact at0 | exact at1 | exact at2 | exact at3 | exact at4 | exact at5 | exact at6))
                    (case q4 => exact Nat.le_of_ble_eq_true rfl)
                    (case q5 => rfl))))
              | ((with_reducible refine ie_callf ?_)
                 (first
                 | ((with_reducible refine g_call 9 ?_); (first | refine Ef_callP rfl rfl ent_9 (fun w _ => awake_c w) ?_))
                 | ((with_reducible refine g_call 10 ?_)
                    (first
                    | (refine Ef_callN rfl rfl ent_10 (fun w _ => new_c w) ?_
                       (first
                       | ((fail_if_success have := b1); intro b1)
                       | ((fail_if_success have := b2); intro b2)
                       | ((fail_if_success have := b3); intro b3)
                       | ((fail_if_success have := b4); intro b4)
                       | ((fail_if_success have := b5); intro b5)
                       | ((fail_if_success have := b6); intro b6)
                       | ((fail_if_success have := b7); intro b7)
                       | ((fail_if_success have := b8); intro b8)
                       | ((fail_if_success have := b9); intro b9)))))
                 | ((with_reducible refine g_call 11 ?_)
                    (first
                    | ((refine' Ef_callT [true] rfl rfl ent_11 rfl rfl rfl (fun w hp => take_c b1 Win.new 3 ahead w Win.new_inv ?q1 hb2 hp) ?_); (case q1 => decide))
                    | ((refine' Ef_callT [true] rfl rfl ent_11 rfl rfl rfl (fun w hp => take_c b1 s 3 (least + (j : Int)) w hk.inv ?q1 ?q2 hp) ?_); (case q1 => decide); (case q2 => omega))))))
              | ((with_reducible refine ie_app ?_)
                 (first
                 | (refine Ef_alloc rfl Zb ?_
                    (first
                    | ((fail_if_success have := b1); intro b1)
                    | ((fail_if_success have := b2); intro b2)
                    | ((fail_if_success have := b3); intro b3)
                    | ((fail_if_success have := b4); intro b4)
                    | ((fail_if_success have := b5); intro b5)
                    | ((fail_if_success have := b6); intro b6)
                    | ((fail_if_success have := b7); intro b7)
                    | ((fail_if_success have := b8); intro b8)
                    | ((fail_if_success have := b9); intro b9)))
                 | (((refine' Ef_append_row rfl rfl rfl ?q1 ?q2 ?q3 ?q4 ?q5 ?q6 ?_)
                     (case q1 => exact app_of rfl)
                     (case q2 => (first | exact at0 | exact at1 | exact at2 | exact at3 | exact at4 | exact at5 | exact at6))
                     (case q3 => (repeat (first | exact .head _ | apply List.Mem.tail)))
                     (case q4 => (first | assumption | (intro u hu; rcases hu with _ | ⟨_, _ | ⟨_, _ | ⟨_, _ | ⟨_, hu⟩⟩⟩⟩ <;> first | rfl | (cases hu; done))))
                     (case q5 => omega)
                     (case q6 => omega))
                    (first
                    | ((fail_if_success have := A1); intro A1 c1)
                    | ((fail_if_success have := A2); intro A2 c2)
                    | ((fail_if_success have := A3); intro A3 c3)
                    | ((fail_if_success have := A4); intro A4 c4)
                    | ((fail_if_success have := A5); intro A5 c5)
                    | ((fail_if_success have := A6); intro A6 c6)
                    | ((fail_if_success have := A7); intro A7 c7)))
                 | (((refine' Ef_append_rd rfl rfl rfl ?q1 ?q2 ?q3 List.not_mem_nil ?q4 ?q5 ?q6 ?q7 ?_)
                     (case q1 => exact app_of rfl)
                     (case q2 => (first | exact at0 | exact at1 | exact at2 | exact at3 | exact at4 | exact at5 | exact at6))
                     (case q3 => assumption)
                     (case q4 => omega)
                     (case q5 => (first | assumption | (intro u hu; rcases hu with _ | ⟨_, _ | ⟨_, _ | ⟨_, _ | ⟨_, hu⟩⟩⟩⟩ <;> first | rfl | (cases hu; done))))
                     (case q6 => omega)
                     (case q7 => omega))
                    (first
                    | ((fail_if_success have := A1); intro A1 c1)
                    | ((fail_if_success have := A2); intro A2 c2)
                    | ((fail_if_success have := A3); intro A3 c3)
                    | ((fail_if_success have := A4); intro A4 c4)
                    | ((fail_if_success have := A5); intro A5 c5)
                    | ((fail_if_success have := A6); intro A6 c6)
                    | ((fail_if_success have := A7); intro A7 c7)))))
              | ((with_reducible refine ie_bsl ?_)
                 (first
                 | (refine Ef_alloc rfl Zb ?_
                    (first
                    | ((fail_if_success have := b1); intro b1)
                    | ((fail_if_success have := b2); intro b2)
                    | ((fail_if_success have := b3); intro b3)
                    | ((fail_if_success have := b4); intro b4)
                    | ((fail_if_success have := b5); intro b5)
                    | ((fail_if_success have := b6); intro b6)
                    | ((fail_if_success have := b7); intro b7)
                    | ((fail_if_success have := b8); intro b8)
                    | ((fail_if_success have := b9); intro b9)))
                 | (((refine' Ef_bslA rfl rfl ?q1 ?q2 ?q3 ?_); (case q1 => exact app_of rfl); (case q2 => rfl); (case q3 => decide))
                    (first
                    | ((fail_if_success have := b1); intro b1)
                    | ((fail_if_success have := b2); intro b2)
                    | ((fail_if_success have := b3); intro b3)
                    | ((fail_if_success have := b4); intro b4)
                    | ((fail_if_success have := b5); intro b5)
                    | ((fail_if_success have := b6); intro b6)
                    | ((fail_if_success have := b7); intro b7)
                    | ((fail_if_success have := b8); intro b8)
                    | ((fail_if_success have := b9); intro b9)))
                 | (((refine' Ef_bsl1 rfl rfl rfl ?q1 ?_); (case q1 => exact app_of rfl))
                    (first
                    | ((fail_if_success have := b1); intro b1)
                    | ((fail_if_success have := b2); intro b2)
                    | ((fail_if_success have := b3); intro b3)
                    | ((fail_if_success have := b4); intro b4)
                    | ((fail_if_success have := b5); intro b5)
                    | ((fail_if_success have := b6); intro b6)
                    | ((fail_if_success have := b7); intro b7)
                    | ((fail_if_success have := b8); intro b8)
                    | ((fail_if_success have := b9); intro b9)))))
              | (first
                | (refine Ef_alloc rfl Zb ?_
                   (first
                   | ((fail_if_success have := b1); intro b1)
                   | ((fail_if_success have := b2); intro b2)
                   | ((fail_if_success have := b3); intro b3)
                   | ((fail_if_success have := b4); intro b4)
                   | ((fail_if_success have := b5); intro b5)
                   | ((fail_if_success have := b6); intro b6)
                   | ((fail_if_success have := b7); intro b7)
                   | ((fail_if_success have := b8); intro b8)
                   | ((fail_if_success have := b9); intro b9))))
              | refine Ef_y rfl rfl ?_)
      exact ret_n [] (res1 rfl rfl) (List.nil_sublist _) ⟨rfl, rfl⟩
theorem ints_of {w : World} {A : Option Addr} {len : Nat} {xs : List Value} (hr : Rd w A len 1 xs) (hi : ∀ i, i < len → Is w (.int .i64) ((xs.drop (i * 1)).take 1)) :
    ∃ zs : List Int, zs.length = len ∧ xs = zs.flatMap (eI .i64) ∧ ∀ x ∈ zs, -9223372036854775808 ≤ x ∧ x ≤ 9223372036854775807 :=
  rows_enc (eI_len .i64) len xs hr.len fun i hil => by
    obtain ⟨a, h1, wa⟩ := hi i hil
    exact ⟨a, h1, int_wf wa⟩
end Go.Proofs.Ytbmegafjphcdnaa
